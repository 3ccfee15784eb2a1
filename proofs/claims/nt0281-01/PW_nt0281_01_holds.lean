import PyProof.Rows.All
import Wide.All
import OpenK.AllK
import Wide.FinOn
import KE.KPar
import KE.KRevSl
import KE.KBytesWalk
import KE.LcTurns
import KE.BitLaws
import KE.IntBitsLaws
import PySem.Challenge.RW_nt0281_01
set_option Elab.async false
set_option maxRecDepth 100000
set_option linter.all false
set_option linter.unusedVariables false
set_option tactic.hygienic false
set_option compiler.extract_closed false
namespace PackLaw
open PySem PySem.W PySem.Calls PyProof.Rows
local macro_rules | `(tactic| omega)=>`(tactic| lia)
noncomputable abbrev pw:Program:=PySem.Challenge.pw_nt0281_01
noncomputable def PG:List Stmt→Nat→Stmt
  | [],_=>.Pass ⟨0,0,0,0⟩
  | s::_,0=>s
  | _::r,n+1=>PG r n
noncomputable def aK (i:Nat):Stmt:=PG pw.main.body i
noncomputable def cQ:Stmt→List Stmt
  | .FunctionDef _ _ b _ _ _ _ _ _ _=>b
  | .ClassDef _ _ _ b _ _ _ _ _ _ _=>b
  | _=>[]
noncomputable def NO:Stmt→Arguments
  | .FunctionDef _ a _ _ _ _ _ _ _ _=>a
  | _=>⟨[],[],none,[],[],none,[]⟩
noncomputable def aC:Stmt→Scope
  | .FunctionDef _ _ _ _ _ _ s _ _ _=>s
  | _=>default
noncomputable def aW (i j:Nat):Stmt:=PG (cQ (aK i)) j
noncomputable def kh (P:Params) (x:Str) (t:Tok) (v:Value):DictEntry:=⟨PyData.keyHash P x,.str x t,v⟩
noncomputable def bh (P:Params) (b:List UInt8) (t:Tok) (v:Value):DictEntry:=⟨hashW P (.bytes b),.bytes b.toArray t,v⟩
noncomputable def aP:Env:={ scope:=pw.main.scope,locals:=mainNs,globals:=mainNs,cells:=[],code:=.ref 13,frame:=some 14 }
noncomputable def cZ:Option Value:=(some (.ref 6))
noncomputable def dV:List Stmt:=behindTheImports pw
noncomputable def pq:Pos:=⟨0,0,0,0⟩
noncomputable def fO (n q:Str) (x:Stmt) (g:Addr) (d c m k:Value):Data:=.func { name:=n,qualname:=q,params:=NO x,body:=.stmts (cQ x),scope:=aC x,globals:=g,closure:=[],defaults:=d,kwdefaults:=.none,doc:=c,pyModule:=m,annotations:=none,code:=k,closureTuple:=.none,builtins:=0 }
noncomputable def lf (o:Obj):BT:=.node o .nil .nil
noncomputable def jW (P:Params):Obj:=⟨.type "dict",none,.dict #[kh P "__name__" 1 (.str "builtins" 160),kh P "__doc__" 2 (.builtin "builtins.__doc__:str#opaque"),kh P "__package__" 3 (.builtin "builtins.__package__:str#opaque"),kh P "__loader__" 4 (.builtin "builtins.__loader__:shared#opaque"),kh P "__spec__" 5 (.builtin "builtins.__spec__#opaque"),kh P "__build_class__" 6 (.builtin "__build_class__"),kh P "__import__" 7 (.builtin "__import__"),kh P "abs" 8 (.builtin "abs"),kh P "all" 9 (.builtin "all"),kh P "any" 10 (.builtin "any"),kh P "ascii" 11 (.builtin "ascii"),kh P "bin" 12 (.builtin "bin"),kh P "breakpoint" 13 (.builtin "breakpoint"),kh P "callable" 14 (.builtin "callable"),kh P "chr" 15 (.builtin "chr"),kh P "compile" 16 (.builtin "compile"),kh P "delattr" 17 (.builtin "delattr"),kh P "dir" 18 (.builtin "dir"),kh P "divmod" 19 (.builtin "divmod"),kh P "eval" 20 (.builtin "eval"),kh P "exec" 21 (.builtin "exec"),kh P "format" 22 (.builtin "format"),kh P "getattr" 23 (.builtin "getattr"),kh P "globals" 24 (.builtin "globals"),kh P "hasattr" 25 (.builtin "hasattr"),kh P "hash" 26 (.builtin "hash"),kh P "hex" 27 (.builtin "hex"),kh P "id" 28 (.builtin "id"),kh P "input" 29 (.builtin "input"),kh P "isinstance" 30 (.builtin "isinstance"),kh P "issubclass" 31 (.builtin "issubclass"),kh P "iter" 32 (.builtin "iter"),kh P "aiter" 33 (.builtin "aiter"),kh P "len" 34 (.builtin "len"),kh P "locals" 35 (.builtin "locals"),kh P "max" 36 (.builtin "max"),kh P "min" 37 (.builtin "min"),kh P "next" 38 (.builtin "next"),kh P "anext" 39 (.builtin "anext"),kh P "oct" 40 (.builtin "oct"),kh P "ord" 41 (.builtin "ord"),kh P "pow" 42 (.builtin "pow"),kh P "print" 43 (.builtin "print"),kh P "repr" 44 (.builtin "repr"),kh P "round" 45 (.builtin "round"),kh P "setattr" 46 (.builtin "setattr"),kh P "sorted" 47 (.builtin "sorted"),kh P "sum" 48 (.builtin "sum"),kh P "vars" 49 (.builtin "vars"),kh P "None" 50 .none,kh P "Ellipsis" 51 .ellipsis,kh P "NotImplemented" 52 .notImplemented,kh P "False" 53 (.bool false),kh P "True" 54 (.bool true),kh P "bool" 55 (.type "bool"),kh P "memoryview" 56 (.type "memoryview"),kh P "bytearray" 57 (.type "bytearray"),kh P "bytes" 58 (.type "bytes"),kh P "classmethod" 59 (.type "classmethod"),kh P "complex" 60 (.type "complex"),kh P "dict" 61 (.type "dict"),kh P "enumerate" 62 (.type "enumerate"),kh P "filter" 63 (.type "filter"),kh P "float" 64 (.type "float"),kh P "frozenset" 65 (.type "frozenset"),kh P "property" 66 (.type "property"),kh P "int" 67 (.type "int"),kh P "list" 68 (.type "list"),kh P "map" 69 (.type "map"),kh P "object" 70 (.type "object"),kh P "range" 71 (.type "range"),kh P "reversed" 72 (.type "reversed"),kh P "set" 73 (.type "set"),kh P "slice" 74 (.type "slice"),kh P "staticmethod" 75 (.type "staticmethod"),kh P "str" 76 (.type "str"),kh P "super" 77 (.type "super"),kh P "tuple" 78 (.type "tuple"),kh P "type" 79 (.type "type"),kh P "zip" 80 (.type "zip"),kh P "__debug__" 81 (.bool true),kh P "BaseException" 82 (.type "BaseException"),kh P "BaseExceptionGroup" 83 (.type "BaseExceptionGroup"),kh P "Exception" 84 (.type "Exception"),kh P "GeneratorExit" 85 (.type "GeneratorExit"),kh P "KeyboardInterrupt" 86 (.type "KeyboardInterrupt"),kh P "SystemExit" 87 (.type "SystemExit"),kh P "ArithmeticError" 88 (.type "ArithmeticError"),kh P "AssertionError" 89 (.type "AssertionError"),kh P "AttributeError" 90 (.type "AttributeError"),kh P "BufferError" 91 (.type "BufferError"),kh P "EOFError" 92 (.type "EOFError"),kh P "ImportError" 93 (.type "ImportError"),kh P "LookupError" 94 (.type "LookupError"),kh P "MemoryError" 95 (.type "MemoryError"),kh P "NameError" 96 (.type "NameError"),kh P "OSError" 97 (.type "OSError"),kh P "ReferenceError" 98 (.type "ReferenceError"),kh P "RuntimeError" 99 (.type "RuntimeError"),kh P "StopAsyncIteration" 100 (.type "StopAsyncIteration"),kh P "StopIteration" 101 (.type "StopIteration"),kh P "SyntaxError" 102 (.type "SyntaxError"),kh P "SystemError" 103 (.type "SystemError"),kh P "TypeError" 104 (.type "TypeError"),kh P "ValueError" 105 (.type "ValueError"),kh P "Warning" 106 (.type "Warning"),kh P "FloatingPointError" 107 (.type "FloatingPointError"),kh P "OverflowError" 108 (.type "OverflowError"),kh P "ZeroDivisionError" 109 (.type "ZeroDivisionError"),kh P "BytesWarning" 110 (.type "BytesWarning"),kh P "DeprecationWarning" 111 (.type "DeprecationWarning"),kh P "EncodingWarning" 112 (.type "EncodingWarning"),kh P "FutureWarning" 113 (.type "FutureWarning"),kh P "ImportWarning" 114 (.type "ImportWarning"),kh P "PendingDeprecationWarning" 115 (.type "PendingDeprecationWarning"),kh P "ResourceWarning" 116 (.type "ResourceWarning"),kh P "RuntimeWarning" 117 (.type "RuntimeWarning"),kh P "SyntaxWarning" 118 (.type "SyntaxWarning"),kh P "UnicodeWarning" 119 (.type "UnicodeWarning"),kh P "UserWarning" 120 (.type "UserWarning"),kh P "BlockingIOError" 121 (.type "BlockingIOError"),kh P "ChildProcessError" 122 (.type "ChildProcessError"),kh P "ConnectionError" 123 (.type "ConnectionError"),kh P "FileExistsError" 124 (.type "FileExistsError"),kh P "FileNotFoundError" 125 (.type "FileNotFoundError"),kh P "InterruptedError" 126 (.type "InterruptedError"),kh P "IsADirectoryError" 127 (.type "IsADirectoryError"),kh P "NotADirectoryError" 128 (.type "NotADirectoryError"),kh P "PermissionError" 129 (.type "PermissionError"),kh P "ProcessLookupError" 130 (.type "ProcessLookupError"),kh P "TimeoutError" 131 (.type "TimeoutError"),kh P "IndentationError" 132 (.type "IndentationError"),kh P "_IncompleteInputError" 133 (.type "_IncompleteInputError"),kh P "IndexError" 134 (.type "IndexError"),kh P "KeyError" 135 (.type "KeyError"),kh P "ModuleNotFoundError" 136 (.type "ModuleNotFoundError"),kh P "NotImplementedError" 137 (.type "NotImplementedError"),kh P "PythonFinalizationError" 138 (.type "PythonFinalizationError"),kh P "RecursionError" 139 (.type "RecursionError"),kh P "UnboundLocalError" 140 (.type "UnboundLocalError"),kh P "UnicodeError" 141 (.type "UnicodeError"),kh P "BrokenPipeError" 142 (.type "BrokenPipeError"),kh P "ConnectionAbortedError" 143 (.type "ConnectionAbortedError"),kh P "ConnectionRefusedError" 144 (.type "ConnectionRefusedError"),kh P "ConnectionResetError" 145 (.type "ConnectionResetError"),kh P "TabError" 146 (.type "TabError"),kh P "UnicodeDecodeError" 147 (.type "UnicodeDecodeError"),kh P "UnicodeEncodeError" 148 (.type "UnicodeEncodeError"),kh P "UnicodeTranslateError" 149 (.type "UnicodeTranslateError"),kh P "ExceptionGroup" 150 (.type "ExceptionGroup"),kh P "EnvironmentError" 151 (.type "OSError"),kh P "IOError" 152 (.type "OSError"),kh P "open" 153 (.builtin "open"),kh P "quit" 154 (.builtin "builtins.quit#opaque"),kh P "exit" 155 (.builtin "builtins.exit#opaque"),kh P "copyright" 156 (.builtin "builtins.copyright#opaque"),kh P "credits" 157 (.builtin "builtins.credits#opaque"),kh P "license" 158 (.builtin "builtins.license#opaque"),kh P "help" 159 (.builtin "builtins.help#opaque")] 159,#[]⟩
noncomputable def kW (P:Params):Obj:=⟨.type "dict",none,.dict #[kh P "builtins" 162 (.ref 4),kh P "__main__" 163 (.ref 5)] 2,#[]⟩
noncomputable def o2v0 (P:Params):Obj:=⟨.none,none,.dict #[] 0,#[]⟩
noncomputable def o3v0 (P:Params):Obj:=⟨.type "dict",none,.dict #[kh P "__name__" 165 (.str "__main__" 164),kh P "__doc__" 166 .none,kh P "__package__" 167 .none,kh P "__loader__" 168 (.builtin "__main__.__loader__#opaque"),kh P "__spec__" 169 .none,kh P "__annotations__" 170 (.ref 6),kh P "__builtins__" 171 (.ref 4),kh P "__file__" 173 (.str "/claim/cut.py" 172),kh P "__cached__" 174 .none] 9,#[]⟩
noncomputable def lS (P:Params):Obj:=⟨.type "module",(some 0),.plain,#[]⟩
noncomputable def lT (P:Params):Obj:=⟨.type "module",(some 3),.plain,#[]⟩
noncomputable def mC (P:Params):Obj:=⟨.type "dict",none,.dict #[] 0,#[]⟩
noncomputable def mF (P:Params):Obj:=⟨.type "tuple",none,.seq #[] 0,#[]⟩
noncomputable def mK (P:Params):Obj:=⟨.none,none,.fields #[],#[]⟩
noncomputable def mN (P:Params):Obj:=⟨.type "code",none,.fields #[.str "<module>" 176,.str "<module>" 177,.str "/claim/cut.py" 178,.int 1 0,.int 0 0,.int 0 0,.int 0 0,.int 0 0,.ref 7,.bool false,.int 175 0,.ref 8,.none,.none,.none,.none,.int 179 0,.int 1 0,.str "/claim/cut.py" 180],#[]⟩
noncomputable def d0 (P:Params):Obj:=⟨.type "frame",none,.plain,#[some (.ref 9),some (.ref 3),some (.ref 3),none,some (.str "__main__" 164),none,some (.ref 0)]⟩
noncomputable def d1 (P:Params):Obj:=⟨.type "tuple",none,.seq #[] 0,#[]⟩
noncomputable def OF (P:Params):Obj:=⟨.none,none,.fields #[],#[]⟩
noncomputable def d2 (P:Params):Obj:=⟨.type "code",none,.fields #[.str "<module>" 182,.str "<module>" 183,.str "/claim/cut.py" 184,.int 1 0,.int 0 0,.int 0 0,.int 0 0,.int 0 0,.ref 11,.bool false,.int 181 0,.ref 12,.none,.none,.none,.none,.int 185 0,.int 1 0,.str "/claim/cut.py" 186],#[]⟩
noncomputable def d3 (P:Params):Obj:=⟨.type "frame",none,.plain,#[some (.ref 13),some (.ref 3),some (.ref 3),none,some (.str "__main__" 164),none,some (.ref 0)]⟩
noncomputable def hpA (P:Params):Heap:=⟨⟨[jW P,kW P,o2v0 P,o3v0 P,lS P,lT P,mC P,mF P,mK P,mN P,d0 P,d1 P,OF P,d2 P,d3 P]⟩,{}⟩
noncomputable def pA:Pos:=⟨0,0,0,0⟩
noncomputable def pB:Pos:=⟨0,0,0,0⟩
theorem RC (w:World) (os:OsState):topGo treeTable pw w 11 cZ 12 ⟨boot_heap w.params,Array.mk [],boot_drawn,boot_toks,os⟩ (topStub pw)=some (⟨hpA w.params,#[],{},187,os⟩,⟨denote treeTable (.body dV aP),.body dV aP,pA,[topFrame pq]⟩):=by
  rw [PySem.W.Fast.te15667345088766844465,PySem.W.Fast.te14364793385576792824,PySem.W.Fast.te11892475500146522536]
  kernel_rfl
noncomputable def tr0 (P:Params):BT:=(.node (jW P) (.node (kW P) (.node (o3v0 P) (lf (mF P)) (lf (d1 P))) (.node (lT P) (lf (mN P)) (lf (d2 P)))) (.node (o2v0 P) (.node (lS P) (lf (mK P)) (lf (OF P))) (.node (mC P) (lf (d0 P)) (lf (d3 P)))))
theorem O4 (w:World) (os:OsState):segRun treeTable pw w 11 cZ 1 1 ⟨hpA w.params,#[],{},187,os⟩ (blockOf dV aP (.body dV aP) pA [topFrame pq])=some (.next,(SharedT.abs ⟨tr0 w.params,15,{},#[],{},187,os⟩),.body dV aP,pB):=by
  rw [PySem.W.Fast.te14374325043358763698,PySem.W.Fast.te14364793385576792824]
  kernel_rfl
noncomputable def nV (P:Params):Obj:=⟨.none,none,.dict #[kh P "type.__subclasses__.Exception.0" 215 (.int 32 0),kh P "type.__subclasses__.Exception.n" 216 (.int 1 0)] 2,#[]⟩
noncomputable def o3v1 (P:Params):Obj:=⟨.type "dict",none,.dict #[kh P "__name__" 165 (.str "gitcore.base" 187),kh P "__doc__" 166 .none,kh P "__package__" 167 .none,kh P "__loader__" 168 (.builtin "__main__.__loader__#opaque"),kh P "__spec__" 169 .none,kh P "__annotations__" 170 (.ref 6),kh P "__builtins__" 171 (.ref 4),kh P "__file__" 173 (.str "/claim/cut.py" 172),kh P "__cached__" 174 .none,kh P "GitError" 218 (.ref 32)] 10,#[]⟩
noncomputable def o12v1 (P:Params):Obj:=⟨.none,none,.fields #[.int 2 0,.int 0 0,.ref 20],#[]⟩
noncomputable def fH (P:Params):Obj:=⟨.type "tuple",none,.seq #[.type "Exception"] 0,#[]⟩
noncomputable def fJ (P:Params):Obj:=⟨.type "builtin_function_or_method",none,.fields #[.builtin "type.__prepare__",.type "type"],#[]⟩
noncomputable def fK (P:Params):Obj:=⟨.type "dict",none,.dict #[kh P "__module__" 196 (.str "gitcore.base" 187),kh P "__qualname__" 198 (.str "GitError" 197),kh P "__firstlineno__" 200 (.int 2 199),kh P "__init__" 209 (.ref 29),kh P "__static_attributes__" 211 (.ref 30)] 5,#[]⟩
noncomputable def fM (P:Params):Obj:=⟨.type "tuple",none,.seq #[] 0,#[]⟩
noncomputable def fN (P:Params):Obj:=⟨.none,none,.fields #[.int 4 0,.int 4 0,.ref 28],#[]⟩
noncomputable def fP (P:Params):Obj:=⟨.type "code",none,.fields #[.str "GitError" 191,.str "GitError" 192,.str "/claim/cut.py" 193,.int 2 0,.int 0 0,.int 0 0,.int 0 0,.int 0 0,.ref 18,.bool false,.int 181 0,.ref 19,.none,.none,.none,.none,.int 194 0,.int 2 0,.str "/claim/cut.py" 195],#[]⟩
noncomputable def fQ (P:Params):Obj:=⟨.type "frame",none,.plain,#[some (.ref 20),some (.ref 3),some (.ref 17),none,some (.str "gitcore.base" 187),none,some (.ref 0)]⟩
noncomputable def eL (P:Params):Obj:=⟨.type "tuple",none,.seq #[.str "" 201] 0,#[]⟩
noncomputable def fR (P:Params):Obj:=⟨.type "tuple",none,.seq #[] 0,#[]⟩
noncomputable def fS (P:Params):Obj:=⟨.none,none,.fields #[],#[]⟩
noncomputable def fU (P:Params):Obj:=⟨.type "tuple",none,.seq #[.str "self" 205,.str "told" 206] 0,#[]⟩
noncomputable def fV (P:Params):Obj:=⟨.type "tuple",none,.seq #[] 0,#[]⟩
noncomputable def fW (P:Params):Obj:=⟨.none,none,fO "__init__" "GitError.__init__" (aW 1 0) 0 .none .none .none .none,#[]⟩
noncomputable def eM (P:Params):Obj:=⟨.type "code",none,.fields #[.str "__init__" 202,.str "GitError.__init__" 203,.str "/claim/cut.py" 204,.int 4 0,.int 2 0,.int 0 0,.int 0 0,.int 3 0,.ref 23,.bool true,.int 181 0,.ref 24,.none,.ref 25,.ref 26,.ref 27,.int 207 0,.int 4 0,.str "/claim/cut.py" 208],#[]⟩
noncomputable def eN (P:Params):Obj:=⟨.type "function",none,fO "__init__" "GitError.__init__" (aW 1 0) 3 (.ref 22) .none (.str "gitcore.base" 187) (.ref 28),#[]⟩
noncomputable def fX (P:Params):Obj:=⟨.type "tuple",none,.seq #[.str "told" 210] 0,#[]⟩
noncomputable def eO (P:Params):Obj:=⟨.type "dict",none,.dict #[kh P "__module__" 196 (.str "gitcore.base" 187),kh P "__firstlineno__" 200 (.int 2 199),kh P "__init__" 209 (.ref 29),kh P "__static_attributes__" 211 (.ref 30),kh P "__weakref__" 213 (.ref 33),kh P "__doc__" 214 .none] 3,#[]⟩
noncomputable def o32v0 (P:Params):Obj:=⟨.type "type",none,.cls { name:="GitError",bases:=[.type "Exception"],mro:=[.ref 32,.type "Exception",.type "BaseException",.type "object"],ns:=31,qualname:="GitError",hasDict:=true,slotNames:=[],subclasses:=[],abstract:=false,collection:=none,hasDel:=false },#[some (.ref 15),none,some (.str "GitError" 189),some (.str "GitError" 197),some (.builtin "Exception.__new__"),some (.bool true)]⟩
noncomputable def fY (P:Params):Obj:=⟨.type "getset_descriptor",none,.fields #[.str "__weakref__" 212,.ref 32,.builtin "ExceptionGroup.__weakref__",.none],#[]⟩
noncomputable def fZ (P:Params):Obj:=⟨.type "super",none,.fields #[.ref 32,.ref 32,.ref 32],#[]⟩
noncomputable def f5 (P:Params):Obj:=⟨.type "builtin_function_or_method",none,.fields #[.builtin "object.__init_subclass__",.ref 32],#[]⟩
noncomputable def tr1 (P:Params):BT:=(.node (jW P) (.node (kW P) (.node (o3v1 P) (.node (mF P) (.node (fH P) (lf (eO P)) .nil) (lf (fR P))) (.node (d1 P) (.node (fN P) (lf (f5 P)) .nil) (lf (fW P)))) (.node (lT P) (.node (mN P) (.node (fK P) (lf (fY P)) .nil) (lf (fU P))) (.node (d2 P) (lf (fQ P)) (lf (eN P))))) (.node (nV P) (.node (lS P) (.node (mK P) (.node (fJ P) (lf (o32v0 P)) .nil) (lf (fS P))) (.node (o12v1 P) (lf (fP P)) (lf (eM P)))) (.node (mC P) (.node (d0 P) (.node (fM P) (lf (fZ P)) .nil) (lf (fV P))) (.node (d3 P) (lf (eL P)) (lf (fX P))))))
noncomputable def gr0:List Stmt:=[aK 0,aK 1]
noncomputable def ps0:Pos:=⟨2,0,5,24⟩
theorem pc0 (w:World) (os:OsState):segRunT treeTable pw w 11 cZ 1 240 ⟨tr0 w.params,15,{},#[],{},187,os⟩ (piecesOf gr0 aP (.body dV aP) pB [topFrame pq])=some (.next,⟨tr1 w.params,36,{},#[],{},219,os⟩,.body dV aP,ps0):=by
  unfold piecesOf gr0
  rw [PySem.W.Fast.te10110043849684766642,PySem.W.Fast.te14364793385576792824,PySem.W.Fast.te12563942051412417395]
  kernel_rfl
noncomputable def o3v2 (P:Params):Obj:=⟨.type "dict",none,.dict #[kh P "__name__" 165 (.str "gitcore.base" 187),kh P "__doc__" 166 .none,kh P "__package__" 167 .none,kh P "__loader__" 168 (.builtin "__main__.__loader__#opaque"),kh P "__spec__" 169 .none,kh P "__annotations__" 170 (.ref 6),kh P "__builtins__" 171 (.ref 4),kh P "__file__" 173 (.str "/claim/cut.py" 172),kh P "__cached__" 174 .none,kh P "GitError" 218 (.ref 32),kh P "BadObject" 234 (.ref 45)] 11,#[]⟩
noncomputable def o12v2 (P:Params):Obj:=⟨.none,none,.fields #[.int 2 0,.int 0 0,.ref 20,.int 6 0,.int 0 0,.ref 41],#[]⟩
noncomputable def o32v1 (P:Params):Obj:=⟨.type "type",none,.cls { name:="GitError",bases:=[.type "Exception"],mro:=[.ref 32,.type "Exception",.type "BaseException",.type "object"],ns:=31,qualname:="GitError",hasDict:=true,slotNames:=[],subclasses:=[.ref 45],abstract:=false,collection:=none,hasDel:=false },#[some (.ref 15),none,some (.str "GitError" 189),some (.str "GitError" 197),some (.builtin "Exception.__new__"),some (.bool true)]⟩
noncomputable def iE (P:Params):Obj:=⟨.type "tuple",none,.seq #[.ref 32] 0,#[]⟩
noncomputable def iF (P:Params):Obj:=⟨.type "builtin_function_or_method",none,.fields #[.builtin "type.__prepare__",.type "type"],#[]⟩
noncomputable def iG (P:Params):Obj:=⟨.type "dict",none,.dict #[kh P "__module__" 226 (.str "gitcore.base" 187),kh P "__qualname__" 228 (.str "BadObject" 227),kh P "__firstlineno__" 230 (.int 6 229),kh P "__static_attributes__" 231 (.ref 43)] 4,#[]⟩
noncomputable def iH (P:Params):Obj:=⟨.type "tuple",none,.seq #[] 0,#[]⟩
noncomputable def iI (P:Params):Obj:=⟨.none,none,.fields #[],#[]⟩
noncomputable def iJ (P:Params):Obj:=⟨.type "code",none,.fields #[.str "BadObject" 221,.str "BadObject" 222,.str "/claim/cut.py" 223,.int 6 0,.int 0 0,.int 0 0,.int 0 0,.int 0 0,.ref 39,.bool false,.int 181 0,.ref 40,.none,.none,.none,.none,.int 224 0,.int 6 0,.str "/claim/cut.py" 225],#[]⟩
noncomputable def iK (P:Params):Obj:=⟨.type "frame",none,.plain,#[some (.ref 41),some (.ref 3),some (.ref 38),none,some (.str "gitcore.base" 187),none,some (.ref 0)]⟩
noncomputable def iL (P:Params):Obj:=⟨.type "tuple",none,.seq #[] 0,#[]⟩
noncomputable def f6 (P:Params):Obj:=⟨.type "dict",none,.dict #[kh P "__module__" 226 (.str "gitcore.base" 187),kh P "__firstlineno__" 230 (.int 6 229),kh P "__static_attributes__" 231 (.ref 43),kh P "__doc__" 232 .none] 2,#[]⟩
noncomputable def f7 (P:Params):Obj:=⟨.type "type",none,.cls { name:="BadObject",bases:=[.ref 32],mro:=[.ref 45,.ref 32,.type "Exception",.type "BaseException",.type "object"],ns:=44,qualname:="BadObject",hasDict:=true,slotNames:=[],subclasses:=[],abstract:=false,collection:=none,hasDel:=false },#[some (.ref 36),none,some (.str "BadObject" 219),some (.str "BadObject" 227),some (.builtin "Exception.__new__"),some (.bool true)]⟩
noncomputable def iM (P:Params):Obj:=⟨.type "super",none,.fields #[.ref 45,.ref 45,.ref 45],#[]⟩
noncomputable def iN (P:Params):Obj:=⟨.type "builtin_function_or_method",none,.fields #[.builtin "object.__init_subclass__",.ref 45],#[]⟩
noncomputable def tr2 (P:Params):BT:=(.node (jW P) (.node (kW P) (.node (o3v2 P) (.node (mF P) (.node (fH P) (lf (eO P)) (lf (iN P))) (.node (fR P) (lf (iH P)) .nil)) (.node (d1 P) (.node (fN P) (lf (f5 P)) .nil) (.node (fW P) (lf (iL P)) .nil))) (.node (lT P) (.node (mN P) (.node (fK P) (lf (fY P)) .nil) (.node (fU P) (lf (iJ P)) .nil)) (.node (d2 P) (.node (fQ P) (lf (iF P)) .nil) (.node (eN P) (lf (f7 P)) .nil)))) (.node (nV P) (.node (lS P) (.node (mK P) (.node (fJ P) (lf (o32v1 P)) .nil) (.node (fS P) (lf (iI P)) .nil)) (.node (o12v2 P) (.node (fP P) (lf (iE P)) .nil) (.node (eM P) (lf (f6 P)) .nil))) (.node (mC P) (.node (d0 P) (.node (fM P) (lf (fZ P)) .nil) (.node (fV P) (lf (iK P)) .nil)) (.node (d3 P) (.node (eL P) (lf (iG P)) .nil) (.node (fX P) (lf (iM P)) .nil)))))
noncomputable def gr1:List Stmt:=[aK 2]
noncomputable def ps1:Pos:=⟨6,0,7,8⟩
theorem pc1 (w:World) (os:OsState):segRunT treeTable pw w 11 cZ 1 214 ⟨tr1 w.params,36,{},#[],{},219,os⟩ (piecesOf gr1 aP (.body dV aP) ps0 [topFrame pq])=some (.next,⟨tr2 w.params,48,{},#[],{},235,os⟩,.body dV aP,ps1):=by
  unfold piecesOf gr1
  rw [PySem.W.Fast.te10110043849684766642,PySem.W.Fast.te14364793385576792824,PySem.W.Fast.te12563942051412417395]
  kernel_rfl
noncomputable def o3v3 (P:Params):Obj:=⟨.type "dict",none,.dict #[kh P "__name__" 165 (.str "gitcore.base" 187),kh P "__doc__" 166 .none,kh P "__package__" 167 .none,kh P "__loader__" 168 (.builtin "__main__.__loader__#opaque"),kh P "__spec__" 169 .none,kh P "__annotations__" 170 (.ref 6),kh P "__builtins__" 171 (.ref 4),kh P "__file__" 173 (.str "/claim/cut.py" 172),kh P "__cached__" 174 .none,kh P "GitError" 218 (.ref 32),kh P "BadObject" 234 (.ref 45),kh P "BadBits" 250 (.ref 57)] 12,#[]⟩
noncomputable def o12v3 (P:Params):Obj:=⟨.none,none,.fields #[.int 2 0,.int 0 0,.ref 20,.int 6 0,.int 0 0,.ref 41,.int 8 0,.int 0 0,.ref 53],#[]⟩
noncomputable def o32v2 (P:Params):Obj:=⟨.type "type",none,.cls { name:="GitError",bases:=[.type "Exception"],mro:=[.ref 32,.type "Exception",.type "BaseException",.type "object"],ns:=31,qualname:="GitError",hasDict:=true,slotNames:=[],subclasses:=[.ref 45,.ref 57],abstract:=false,collection:=none,hasDel:=false },#[some (.ref 15),none,some (.str "GitError" 189),some (.str "GitError" 197),some (.builtin "Exception.__new__"),some (.bool true)]⟩
noncomputable def jH (P:Params):Obj:=⟨.type "tuple",none,.seq #[.ref 32] 0,#[]⟩
noncomputable def jI (P:Params):Obj:=⟨.type "builtin_function_or_method",none,.fields #[.builtin "type.__prepare__",.type "type"],#[]⟩
noncomputable def jJ (P:Params):Obj:=⟨.type "dict",none,.dict #[kh P "__module__" 242 (.str "gitcore.base" 187),kh P "__qualname__" 244 (.str "BadBits" 243),kh P "__firstlineno__" 246 (.int 8 245),kh P "__static_attributes__" 247 (.ref 55)] 4,#[]⟩
noncomputable def jK (P:Params):Obj:=⟨.type "tuple",none,.seq #[] 0,#[]⟩
noncomputable def jL (P:Params):Obj:=⟨.none,none,.fields #[],#[]⟩
noncomputable def jM (P:Params):Obj:=⟨.type "code",none,.fields #[.str "BadBits" 237,.str "BadBits" 238,.str "/claim/cut.py" 239,.int 8 0,.int 0 0,.int 0 0,.int 0 0,.int 0 0,.ref 51,.bool false,.int 181 0,.ref 52,.none,.none,.none,.none,.int 240 0,.int 8 0,.str "/claim/cut.py" 241],#[]⟩
noncomputable def jN (P:Params):Obj:=⟨.type "frame",none,.plain,#[some (.ref 53),some (.ref 3),some (.ref 50),none,some (.str "gitcore.base" 187),none,some (.ref 0)]⟩
noncomputable def jO (P:Params):Obj:=⟨.type "tuple",none,.seq #[] 0,#[]⟩
noncomputable def iO (P:Params):Obj:=⟨.type "dict",none,.dict #[kh P "__module__" 242 (.str "gitcore.base" 187),kh P "__firstlineno__" 246 (.int 8 245),kh P "__static_attributes__" 247 (.ref 55),kh P "__doc__" 248 .none] 2,#[]⟩
noncomputable def iP (P:Params):Obj:=⟨.type "type",none,.cls { name:="BadBits",bases:=[.ref 32],mro:=[.ref 57,.ref 32,.type "Exception",.type "BaseException",.type "object"],ns:=56,qualname:="BadBits",hasDict:=true,slotNames:=[],subclasses:=[],abstract:=false,collection:=none,hasDel:=false },#[some (.ref 48),none,some (.str "BadBits" 235),some (.str "BadBits" 243),some (.builtin "Exception.__new__"),some (.bool true)]⟩
noncomputable def jP (P:Params):Obj:=⟨.type "super",none,.fields #[.ref 57,.ref 57,.ref 57],#[]⟩
noncomputable def jQ (P:Params):Obj:=⟨.type "builtin_function_or_method",none,.fields #[.builtin "object.__init_subclass__",.ref 57],#[]⟩
noncomputable def tr3 (P:Params):BT:=(.node (jW P) (.node (kW P) (.node (o3v3 P) (.node (mF P) (.node (fH P) (lf (eO P)) (lf (iN P))) (.node (fR P) (lf (iH P)) (lf (jO P)))) (.node (d1 P) (.node (fN P) (lf (f5 P)) (lf (jK P))) (.node (fW P) (lf (iL P)) (lf (jQ P))))) (.node (lT P) (.node (mN P) (.node (fK P) (lf (fY P)) (lf (jI P))) (.node (fU P) (lf (iJ P)) (lf (iP P)))) (.node (d2 P) (.node (fQ P) (lf (iF P)) (lf (jM P))) (.node (eN P) (lf (f7 P)) .nil)))) (.node (nV P) (.node (lS P) (.node (mK P) (.node (fJ P) (lf (o32v2 P)) (lf (jH P))) (.node (fS P) (lf (iI P)) (lf (iO P)))) (.node (o12v3 P) (.node (fP P) (lf (iE P)) (lf (jL P))) (.node (eM P) (lf (f6 P)) .nil))) (.node (mC P) (.node (d0 P) (.node (fM P) (lf (fZ P)) (lf (jJ P))) (.node (fV P) (lf (iK P)) (lf (jP P)))) (.node (d3 P) (.node (eL P) (lf (iG P)) (lf (jN P))) (.node (fX P) (lf (iM P)) .nil)))))
noncomputable def gr2:List Stmt:=[aK 3]
noncomputable def ps2:Pos:=⟨8,0,9,8⟩
theorem pc2 (w:World) (os:OsState):segRunT treeTable pw w 11 cZ 1 214 ⟨tr2 w.params,48,{},#[],{},235,os⟩ (piecesOf gr2 aP (.body dV aP) ps1 [topFrame pq])=some (.next,⟨tr3 w.params,60,{},#[],{},251,os⟩,.body dV aP,ps2):=by
  unfold piecesOf gr2
  rw [PySem.W.Fast.te10110043849684766642,PySem.W.Fast.te14364793385576792824,PySem.W.Fast.te12563942051412417395]
  kernel_rfl
noncomputable def o3v4 (P:Params):Obj:=⟨.type "dict",none,.dict #[kh P "__name__" 165 (.str "gitcore.base" 187),kh P "__doc__" 166 .none,kh P "__package__" 167 .none,kh P "__loader__" 168 (.builtin "__main__.__loader__#opaque"),kh P "__spec__" 169 .none,kh P "__annotations__" 170 (.ref 6),kh P "__builtins__" 171 (.ref 4),kh P "__file__" 173 (.str "/claim/cut.py" 172),kh P "__cached__" 174 .none,kh P "GitError" 218 (.ref 32),kh P "BadObject" 234 (.ref 45),kh P "BadBits" 250 (.ref 57),kh P "BadDelta" 266 (.ref 69)] 13,#[]⟩
noncomputable def o12v4 (P:Params):Obj:=⟨.none,none,.fields #[.int 2 0,.int 0 0,.ref 20,.int 6 0,.int 0 0,.ref 41,.int 8 0,.int 0 0,.ref 53,.int 10 0,.int 0 0,.ref 65],#[]⟩
noncomputable def o32v3 (P:Params):Obj:=⟨.type "type",none,.cls { name:="GitError",bases:=[.type "Exception"],mro:=[.ref 32,.type "Exception",.type "BaseException",.type "object"],ns:=31,qualname:="GitError",hasDict:=true,slotNames:=[],subclasses:=[.ref 45,.ref 57,.ref 69],abstract:=false,collection:=none,hasDel:=false },#[some (.ref 15),none,some (.str "GitError" 189),some (.str "GitError" 197),some (.builtin "Exception.__new__"),some (.bool true)]⟩
noncomputable def lU (P:Params):Obj:=⟨.type "tuple",none,.seq #[.ref 32] 0,#[]⟩
noncomputable def lV (P:Params):Obj:=⟨.type "builtin_function_or_method",none,.fields #[.builtin "type.__prepare__",.type "type"],#[]⟩
noncomputable def lW (P:Params):Obj:=⟨.type "dict",none,.dict #[kh P "__module__" 258 (.str "gitcore.base" 187),kh P "__qualname__" 260 (.str "BadDelta" 259),kh P "__firstlineno__" 262 (.int 10 261),kh P "__static_attributes__" 263 (.ref 67)] 4,#[]⟩
noncomputable def lX (P:Params):Obj:=⟨.type "tuple",none,.seq #[] 0,#[]⟩
noncomputable def lY (P:Params):Obj:=⟨.none,none,.fields #[],#[]⟩
noncomputable def lZ (P:Params):Obj:=⟨.type "code",none,.fields #[.str "BadDelta" 253,.str "BadDelta" 254,.str "/claim/cut.py" 255,.int 10 0,.int 0 0,.int 0 0,.int 0 0,.int 0 0,.ref 63,.bool false,.int 181 0,.ref 64,.none,.none,.none,.none,.int 256 0,.int 10 0,.str "/claim/cut.py" 257],#[]⟩
noncomputable def mA (P:Params):Obj:=⟨.type "frame",none,.plain,#[some (.ref 65),some (.ref 3),some (.ref 62),none,some (.str "gitcore.base" 187),none,some (.ref 0)]⟩
noncomputable def mB (P:Params):Obj:=⟨.type "tuple",none,.seq #[] 0,#[]⟩
noncomputable def jR (P:Params):Obj:=⟨.type "dict",none,.dict #[kh P "__module__" 258 (.str "gitcore.base" 187),kh P "__firstlineno__" 262 (.int 10 261),kh P "__static_attributes__" 263 (.ref 67),kh P "__doc__" 264 .none] 2,#[]⟩
noncomputable def jS (P:Params):Obj:=⟨.type "type",none,.cls { name:="BadDelta",bases:=[.ref 32],mro:=[.ref 69,.ref 32,.type "Exception",.type "BaseException",.type "object"],ns:=68,qualname:="BadDelta",hasDict:=true,slotNames:=[],subclasses:=[],abstract:=false,collection:=none,hasDel:=false },#[some (.ref 60),none,some (.str "BadDelta" 251),some (.str "BadDelta" 259),some (.builtin "Exception.__new__"),some (.bool true)]⟩
noncomputable def mD (P:Params):Obj:=⟨.type "super",none,.fields #[.ref 69,.ref 69,.ref 69],#[]⟩
noncomputable def mE (P:Params):Obj:=⟨.type "builtin_function_or_method",none,.fields #[.builtin "object.__init_subclass__",.ref 69],#[]⟩
noncomputable def tr4 (P:Params):BT:=(.node (jW P) (.node (kW P) (.node (o3v4 P) (.node (mF P) (.node (fH P) (.node (eO P) (lf (lX P)) .nil) (lf (iN P))) (.node (fR P) (.node (iH P) (lf (mE P)) .nil) (lf (jO P)))) (.node (d1 P) (.node (fN P) (.node (f5 P) (lf (mB P)) .nil) (lf (jK P))) (.node (fW P) (lf (iL P)) (lf (jQ P))))) (.node (lT P) (.node (mN P) (.node (fK P) (.node (fY P) (lf (lZ P)) .nil) (lf (jI P))) (.node (fU P) (lf (iJ P)) (lf (iP P)))) (.node (d2 P) (.node (fQ P) (.node (iF P) (lf (jS P)) .nil) (lf (jM P))) (.node (eN P) (lf (f7 P)) (lf (lV P)))))) (.node (nV P) (.node (lS P) (.node (mK P) (.node (fJ P) (.node (o32v3 P) (lf (lY P)) .nil) (lf (jH P))) (.node (fS P) (lf (iI P)) (lf (iO P)))) (.node (o12v4 P) (.node (fP P) (.node (iE P) (lf (jR P)) .nil) (lf (jL P))) (.node (eM P) (lf (f6 P)) (lf (lU P))))) (.node (mC P) (.node (d0 P) (.node (fM P) (.node (fZ P) (lf (mA P)) .nil) (lf (jJ P))) (.node (fV P) (lf (iK P)) (lf (jP P)))) (.node (d3 P) (.node (eL P) (.node (iG P) (lf (mD P)) .nil) (lf (jN P))) (.node (fX P) (lf (iM P)) (lf (lW P)))))))
noncomputable def gr3:List Stmt:=[aK 4]
noncomputable def ps3:Pos:=⟨10,0,11,8⟩
theorem pc3 (w:World) (os:OsState):segRunT treeTable pw w 11 cZ 1 214 ⟨tr3 w.params,60,{},#[],{},251,os⟩ (piecesOf gr3 aP (.body dV aP) ps2 [topFrame pq])=some (.next,⟨tr4 w.params,72,{},#[],{},267,os⟩,.body dV aP,ps3):=by
  unfold piecesOf gr3
  rw [PySem.W.Fast.te10110043849684766642,PySem.W.Fast.te14364793385576792824,PySem.W.Fast.te12563942051412417395]
  kernel_rfl
noncomputable def o3v5 (P:Params):Obj:=⟨.type "dict",none,.dict #[kh P "__name__" 165 (.str "gitcore.base" 187),kh P "__doc__" 166 .none,kh P "__package__" 167 .none,kh P "__loader__" 168 (.builtin "__main__.__loader__#opaque"),kh P "__spec__" 169 .none,kh P "__annotations__" 170 (.ref 6),kh P "__builtins__" 171 (.ref 4),kh P "__file__" 173 (.str "/claim/cut.py" 172),kh P "__cached__" 174 .none,kh P "GitError" 218 (.ref 32),kh P "BadObject" 234 (.ref 45),kh P "BadBits" 250 (.ref 57),kh P "BadDelta" 266 (.ref 69),kh P "BadPack" 282 (.ref 81),kh P "big_endian" 288 (.ref 88),kh P "be32" 295 (.ref 95),kh P "at_big_endian" 306 (.ref 102),kh P "at_be32" 314 (.ref 109),kh P "put_size" 322 (.ref 116),kh P "at_size" 333 (.ref 123)] 20,#[]⟩
noncomputable def o12v5 (P:Params):Obj:=⟨.none,none,.fields #[.int 2 0,.int 0 0,.ref 20,.int 6 0,.int 0 0,.ref 41,.int 8 0,.int 0 0,.ref 53,.int 10 0,.int 0 0,.ref 65,.int 12 0,.int 0 0,.ref 77,.int 14 0,.int 0 0,.ref 87,.int 16 0,.int 0 0,.ref 94,.int 18 0,.int 0 0,.ref 101,.int 25 0,.int 0 0,.ref 108,.int 27 0,.int 0 0,.ref 115,.int 34 0,.int 0 0,.ref 122],#[]⟩
noncomputable def lR (P:Params):Obj:=⟨.type "type",none,.cls { name:="GitError",bases:=[.type "Exception"],mro:=[.ref 32,.type "Exception",.type "BaseException",.type "object"],ns:=31,qualname:="GitError",hasDict:=true,slotNames:=[],subclasses:=[.ref 45,.ref 57,.ref 69,.ref 81],abstract:=false,collection:=none,hasDel:=false },#[some (.ref 15),none,some (.str "GitError" 189),some (.str "GitError" 197),some (.builtin "Exception.__new__"),some (.bool true)]⟩
noncomputable def oF (P:Params):Obj:=⟨.type "tuple",none,.seq #[.ref 32] 0,#[]⟩
noncomputable def oG (P:Params):Obj:=⟨.type "builtin_function_or_method",none,.fields #[.builtin "type.__prepare__",.type "type"],#[]⟩
noncomputable def oH (P:Params):Obj:=⟨.type "dict",none,.dict #[kh P "__module__" 274 (.str "gitcore.base" 187),kh P "__qualname__" 276 (.str "BadPack" 275),kh P "__firstlineno__" 278 (.int 12 277),kh P "__static_attributes__" 279 (.ref 79)] 4,#[]⟩
noncomputable def oJ (P:Params):Obj:=⟨.type "tuple",none,.seq #[] 0,#[]⟩
noncomputable def oK (P:Params):Obj:=⟨.none,none,.fields #[],#[]⟩
noncomputable def oL (P:Params):Obj:=⟨.type "code",none,.fields #[.str "BadPack" 269,.str "BadPack" 270,.str "/claim/cut.py" 271,.int 12 0,.int 0 0,.int 0 0,.int 0 0,.int 0 0,.ref 75,.bool false,.int 181 0,.ref 76,.none,.none,.none,.none,.int 272 0,.int 12 0,.str "/claim/cut.py" 273],#[]⟩
noncomputable def oM (P:Params):Obj:=⟨.type "frame",none,.plain,#[some (.ref 77),some (.ref 3),some (.ref 74),none,some (.str "gitcore.base" 187),none,some (.ref 0)]⟩
noncomputable def oO (P:Params):Obj:=⟨.type "tuple",none,.seq #[] 0,#[]⟩
noncomputable def mG (P:Params):Obj:=⟨.type "dict",none,.dict #[kh P "__module__" 274 (.str "gitcore.base" 187),kh P "__firstlineno__" 278 (.int 12 277),kh P "__static_attributes__" 279 (.ref 79),kh P "__doc__" 280 .none] 2,#[]⟩
noncomputable def mH (P:Params):Obj:=⟨.type "type",none,.cls { name:="BadPack",bases:=[.ref 32],mro:=[.ref 81,.ref 32,.type "Exception",.type "BaseException",.type "object"],ns:=80,qualname:="BadPack",hasDict:=true,slotNames:=[],subclasses:=[],abstract:=false,collection:=none,hasDel:=false },#[some (.ref 72),none,some (.str "BadPack" 267),some (.str "BadPack" 275),some (.builtin "Exception.__new__"),some (.bool true)]⟩
noncomputable def oP (P:Params):Obj:=⟨.type "super",none,.fields #[.ref 81,.ref 81,.ref 81],#[]⟩
noncomputable def oQ (P:Params):Obj:=⟨.type "builtin_function_or_method",none,.fields #[.builtin "object.__init_subclass__",.ref 81],#[]⟩
noncomputable def oR (P:Params):Obj:=⟨.type "tuple",none,.seq #[] 0,#[]⟩
noncomputable def oS (P:Params):Obj:=⟨.none,none,.fields #[],#[]⟩
noncomputable def oU (P:Params):Obj:=⟨.none,none,fO "big_endian" "big_endian" (aK 6) 0 .none .none .none .none,#[]⟩
noncomputable def mI (P:Params):Obj:=⟨.type "code",none,.fields #[.str "big_endian" 283,.str "big_endian" 284,.str "/claim/cut.py" 285,.int 14 0,.int 2 0,.int 0 0,.int 0 0,.int 3 0,.ref 84,.bool true,.int 181 0,.ref 85,.none,.none,.none,.ref 86,.int 286 0,.int 14 0,.str "/claim/cut.py" 287],#[]⟩
noncomputable def mJ (P:Params):Obj:=⟨.type "function",none,fO "big_endian" "big_endian" (aK 6) 3 .none .none (.str "gitcore.base" 187) (.ref 87),#[]⟩
noncomputable def oV (P:Params):Obj:=⟨.type "tuple",none,.seq #[] 0,#[]⟩
noncomputable def oW (P:Params):Obj:=⟨.none,none,.fields #[],#[]⟩
noncomputable def oX (P:Params):Obj:=⟨.type "tuple",none,.seq #[.str "number" 292] 0,#[]⟩
noncomputable def oY (P:Params):Obj:=⟨.type "tuple",none,.seq #[] 0,#[]⟩
noncomputable def oZ (P:Params):Obj:=⟨.none,none,fO "be32" "be32" (aK 7) 0 .none .none .none .none,#[]⟩
noncomputable def mL (P:Params):Obj:=⟨.type "code",none,.fields #[.str "be32" 289,.str "be32" 290,.str "/claim/cut.py" 291,.int 16 0,.int 1 0,.int 0 0,.int 0 0,.int 3 0,.ref 89,.bool true,.int 181 0,.ref 90,.none,.ref 91,.ref 92,.ref 93,.int 293 0,.int 16 0,.str "/claim/cut.py" 294],#[]⟩
noncomputable def mM (P:Params):Obj:=⟨.type "function",none,fO "be32" "be32" (aK 7) 3 .none .none (.str "gitcore.base" 187) (.ref 94),#[]⟩
noncomputable def o5 (P:Params):Obj:=⟨.type "tuple",none,.seq #[] 0,#[]⟩
noncomputable def o7 (P:Params):Obj:=⟨.none,none,.fields #[],#[]⟩
noncomputable def o8 (P:Params):Obj:=⟨.type "tuple",none,.seq #[.str "octets" 299,.str "at" 300,.str "many" 301,.str "number" 302,.str "octet" 303] 0,#[]⟩
noncomputable def o9 (P:Params):Obj:=⟨.type "tuple",none,.seq #[] 0,#[]⟩
noncomputable def gI (P:Params):Obj:=⟨.none,none,fO "at_big_endian" "at_big_endian" (aK 8) 0 .none .none .none .none,#[]⟩
noncomputable def eX (P:Params):Obj:=⟨.type "code",none,.fields #[.str "at_big_endian" 296,.str "at_big_endian" 297,.str "/claim/cut.py" 298,.int 18 0,.int 3 0,.int 0 0,.int 0 0,.int 3 0,.ref 96,.bool true,.int 181 0,.ref 97,.none,.ref 98,.ref 99,.ref 100,.int 304 0,.int 18 0,.str "/claim/cut.py" 305],#[]⟩
noncomputable def eY (P:Params):Obj:=⟨.type "function",none,fO "at_big_endian" "at_big_endian" (aK 8) 3 .none .none (.str "gitcore.base" 187) (.ref 101),#[]⟩
noncomputable def gJ (P:Params):Obj:=⟨.type "tuple",none,.seq #[] 0,#[]⟩
noncomputable def gK (P:Params):Obj:=⟨.none,none,.fields #[],#[]⟩
noncomputable def gL (P:Params):Obj:=⟨.type "tuple",none,.seq #[.str "octets" 310,.str "at" 311] 0,#[]⟩
noncomputable def gM (P:Params):Obj:=⟨.type "tuple",none,.seq #[] 0,#[]⟩
noncomputable def gN (P:Params):Obj:=⟨.none,none,fO "at_be32" "at_be32" (aK 9) 0 .none .none .none .none,#[]⟩
noncomputable def eZ (P:Params):Obj:=⟨.type "code",none,.fields #[.str "at_be32" 307,.str "at_be32" 308,.str "/claim/cut.py" 309,.int 25 0,.int 2 0,.int 0 0,.int 0 0,.int 3 0,.ref 103,.bool true,.int 181 0,.ref 104,.none,.ref 105,.ref 106,.ref 107,.int 312 0,.int 25 0,.str "/claim/cut.py" 313],#[]⟩
noncomputable def e5 (P:Params):Obj:=⟨.type "function",none,fO "at_be32" "at_be32" (aK 9) 3 .none .none (.str "gitcore.base" 187) (.ref 108),#[]⟩
noncomputable def gO (P:Params):Obj:=⟨.type "tuple",none,.seq #[] 0,#[]⟩
noncomputable def gP (P:Params):Obj:=⟨.none,none,.fields #[],#[]⟩
noncomputable def gQ (P:Params):Obj:=⟨.type "tuple",none,.seq #[.str "number" 318,.str "found" 319] 0,#[]⟩
noncomputable def gR (P:Params):Obj:=⟨.type "tuple",none,.seq #[] 0,#[]⟩
noncomputable def gS (P:Params):Obj:=⟨.none,none,fO "put_size" "put_size" (aK 10) 0 .none .none .none .none,#[]⟩
noncomputable def e7 (P:Params):Obj:=⟨.type "code",none,.fields #[.str "put_size" 315,.str "put_size" 316,.str "/claim/cut.py" 317,.int 27 0,.int 1 0,.int 0 0,.int 0 0,.int 3 0,.ref 110,.bool true,.int 181 0,.ref 111,.none,.ref 112,.ref 113,.ref 114,.int 320 0,.int 27 0,.str "/claim/cut.py" 321],#[]⟩
noncomputable def e8 (P:Params):Obj:=⟨.type "function",none,fO "put_size" "put_size" (aK 10) 3 .none .none (.str "gitcore.base" 187) (.ref 115),#[]⟩
noncomputable def gU (P:Params):Obj:=⟨.type "tuple",none,.seq #[] 0,#[]⟩
noncomputable def gV (P:Params):Obj:=⟨.none,none,.fields #[],#[]⟩
noncomputable def gW (P:Params):Obj:=⟨.type "tuple",none,.seq #[.str "octets" 326,.str "at" 327,.str "number" 328,.str "shift" 329,.str "octet" 330] 0,#[]⟩
noncomputable def gX (P:Params):Obj:=⟨.type "tuple",none,.seq #[] 0,#[]⟩
noncomputable def gY (P:Params):Obj:=⟨.none,none,fO "at_size" "at_size" (aK 11) 0 .none .none .none .none,#[]⟩
noncomputable def e9 (P:Params):Obj:=⟨.type "code",none,.fields #[.str "at_size" 323,.str "at_size" 324,.str "/claim/cut.py" 325,.int 34 0,.int 2 0,.int 0 0,.int 0 0,.int 3 0,.ref 117,.bool true,.int 181 0,.ref 118,.none,.ref 119,.ref 120,.ref 121,.int 331 0,.int 34 0,.str "/claim/cut.py" 332],#[]⟩
noncomputable def fA (P:Params):Obj:=⟨.type "function",none,fO "at_size" "at_size" (aK 11) 3 .none .none (.str "gitcore.base" 187) (.ref 122),#[]⟩
noncomputable def tr5 (P:Params):BT:=(.node (jW P) (.node (kW P) (.node (o3v5 P) (.node (mF P) (.node (fH P) (.node (eO P) (lf (lX P)) (lf (mM P))) (.node (iN P) (lf (oO P)) (lf (gP P)))) (.node (fR P) (.node (iH P) (lf (mE P)) (lf (gJ P))) (.node (jO P) (lf (mI P)) (lf (gW P))))) (.node (d1 P) (.node (fN P) (.node (f5 P) (lf (mB P)) (lf (o9 P))) (.node (jK P) (lf (oQ P)) (lf (e7 P)))) (.node (fW P) (.node (iL P) (lf (oJ P)) (lf (gN P))) (.node (jQ P) (lf (oX P)) (lf (fA P)))))) (.node (lT P) (.node (mN P) (.node (fK P) (.node (fY P) (lf (lZ P)) (lf (o7 P))) (.node (jI P) (lf (mH P)) (lf (gR P)))) (.node (fU P) (.node (iJ P) (lf (oG P)) (lf (gL P))) (.node (iP P) (lf (oV P)) (lf (gY P))))) (.node (d2 P) (.node (fQ P) (.node (iF P) (lf (jS P)) (lf (eX P))) (.node (jM P) (lf (oS P)) (lf (gU P)))) (.node (eN P) (.node (f7 P) (lf (oL P)) (lf (e5 P))) (.node (lV P) (lf (oZ P)) .nil))))) (.node (nV P) (.node (lS P) (.node (mK P) (.node (fJ P) (.node (lR P) (lf (lY P)) (lf (o5 P))) (.node (jH P) (lf (mG P)) (lf (gQ P)))) (.node (fS P) (.node (iI P) (lf (oF P)) (lf (gK P))) (.node (iO P) (lf (mJ P)) (lf (gX P))))) (.node (o12v5 P) (.node (fP P) (.node (iE P) (lf (jR P)) (lf (gI P))) (.node (jL P) (lf (oR P)) (lf (e8 P)))) (.node (eM P) (.node (f6 P) (lf (oK P)) (lf (eZ P))) (.node (lU P) (lf (oY P)) .nil)))) (.node (mC P) (.node (d0 P) (.node (fM P) (.node (fZ P) (lf (mA P)) (lf (o8 P))) (.node (jJ P) (lf (oP P)) (lf (gS P)))) (.node (fV P) (.node (iK P) (lf (oH P)) (lf (gM P))) (.node (jP P) (lf (oW P)) (lf (e9 P))))) (.node (d3 P) (.node (eL P) (.node (iG P) (lf (mD P)) (lf (eY P))) (.node (jN P) (lf (oU P)) (lf (gV P)))) (.node (fX P) (.node (iM P) (lf (oM P)) (lf (gO P))) (.node (lW P) (lf (mL P)) .nil))))))
noncomputable def gr4:List Stmt:=[aK 5,aK 6,aK 7,aK 8,aK 9,aK 10,aK 11]
noncomputable def ps4:Pos:=⟨34,0,45,31⟩
theorem pc4 (w:World) (os:OsState):segRunT treeTable pw w 11 cZ 1 395 ⟨tr4 w.params,72,{},#[],{},267,os⟩ (piecesOf gr4 aP (.body dV aP) ps3 [topFrame pq])=some (.next,⟨tr5 w.params,124,{},#[],{},334,os⟩,.body dV aP,ps4):=by
  unfold piecesOf gr4
  rw [PySem.W.Fast.te10110043849684766642,PySem.W.Fast.te14364793385576792824,PySem.W.Fast.te12563942051412417395]
  kernel_rfl
noncomputable def o3v6 (P:Params):Obj:=⟨.type "dict",none,.dict #[kh P "__name__" 165 (.str "gitcore.packs" 392),kh P "__doc__" 166 .none,kh P "__package__" 167 .none,kh P "__loader__" 168 (.builtin "__main__.__loader__#opaque"),kh P "__spec__" 169 .none,kh P "__annotations__" 170 (.ref 6),kh P "__builtins__" 171 (.ref 4),kh P "__file__" 173 (.str "/claim/cut.py" 172),kh P "__cached__" 174 .none,kh P "GitError" 218 (.ref 32),kh P "BadObject" 234 (.ref 45),kh P "BadBits" 250 (.ref 57),kh P "BadDelta" 266 (.ref 69),kh P "BadPack" 282 (.ref 81),kh P "big_endian" 288 (.ref 88),kh P "be32" 295 (.ref 95),kh P "at_big_endian" 306 (.ref 102),kh P "at_be32" 314 (.ref 109),kh P "put_size" 322 (.ref 116),kh P "at_size" 333 (.ref 123),kh P "put_offset" 341 (.ref 130),kh P "at_offset" 351 (.ref 137),kh P "CountingHasher" 391 (.ref 162),kh P "PACK_SIGN" 395 (.bytes #[80,65,67,75] 394),kh P "PACK_VERSION" 397 (.int 2 396),kh P "PACK_VERSIONS_READ" 400 (.ref 167),kh P "PACK_HEAD_SIZE" 402 (.int 12 401),kh P "OFFSET_DELTA" 404 (.int 6 403),kh P "ID_DELTA" 406 (.int 7 405)] 29,#[]⟩
noncomputable def OG (P:Params):Obj:=⟨.none,none,.fields #[.int 2 0,.int 0 0,.ref 20,.int 6 0,.int 0 0,.ref 41,.int 8 0,.int 0 0,.ref 53,.int 10 0,.int 0 0,.ref 65,.int 12 0,.int 0 0,.ref 77,.int 14 0,.int 0 0,.ref 87,.int 16 0,.int 0 0,.ref 94,.int 18 0,.int 0 0,.ref 101,.int 25 0,.int 0 0,.ref 108,.int 27 0,.int 0 0,.ref 115,.int 34 0,.int 0 0,.ref 122,.int 46 0,.int 0 0,.ref 129,.int 54 0,.int 0 0,.ref 136,.int 64 0,.int 0 0,.ref 143],#[]⟩
noncomputable def jX (P:Params):Obj:=⟨.type "tuple",none,.seq #[] 0,#[]⟩
noncomputable def jY (P:Params):Obj:=⟨.none,none,.fields #[],#[]⟩
noncomputable def jZ (P:Params):Obj:=⟨.type "tuple",none,.seq #[.str "number" 337,.str "found" 338] 0,#[]⟩
noncomputable def j0 (P:Params):Obj:=⟨.type "tuple",none,.seq #[] 0,#[]⟩
noncomputable def j1 (P:Params):Obj:=⟨.none,none,fO "put_offset" "put_offset" (aK 12) 0 .none .none .none .none,#[]⟩
noncomputable def gZ (P:Params):Obj:=⟨.type "code",none,.fields #[.str "put_offset" 334,.str "put_offset" 335,.str "/claim/cut.py" 336,.int 46 0,.int 1 0,.int 0 0,.int 0 0,.int 3 0,.ref 124,.bool true,.int 181 0,.ref 125,.none,.ref 126,.ref 127,.ref 128,.int 339 0,.int 46 0,.str "/claim/cut.py" 340],#[]⟩
noncomputable def g6 (P:Params):Obj:=⟨.type "function",none,fO "put_offset" "put_offset" (aK 12) 3 .none .none (.str "gitcore.base" 187) (.ref 129),#[]⟩
noncomputable def j2 (P:Params):Obj:=⟨.type "tuple",none,.seq #[] 0,#[]⟩
noncomputable def j3 (P:Params):Obj:=⟨.none,none,.fields #[],#[]⟩
noncomputable def j4 (P:Params):Obj:=⟨.type "tuple",none,.seq #[.str "octets" 345,.str "at" 346,.str "number" 347,.str "octet" 348] 0,#[]⟩
noncomputable def j5 (P:Params):Obj:=⟨.type "tuple",none,.seq #[] 0,#[]⟩
noncomputable def j6 (P:Params):Obj:=⟨.none,none,fO "at_offset" "at_offset" (aK 13) 0 .none .none .none .none,#[]⟩
noncomputable def g7 (P:Params):Obj:=⟨.type "code",none,.fields #[.str "at_offset" 342,.str "at_offset" 343,.str "/claim/cut.py" 344,.int 54 0,.int 2 0,.int 0 0,.int 0 0,.int 3 0,.ref 131,.bool true,.int 181 0,.ref 132,.none,.ref 133,.ref 134,.ref 135,.int 349 0,.int 54 0,.str "/claim/cut.py" 350],#[]⟩
noncomputable def g8 (P:Params):Obj:=⟨.type "function",none,fO "at_offset" "at_offset" (aK 13) 3 .none .none (.str "gitcore.base" 187) (.ref 136),#[]⟩
noncomputable def j7 (P:Params):Obj:=⟨.type "tuple",none,.seq #[] 0,#[]⟩
noncomputable def j8 (P:Params):Obj:=⟨.type "builtin_function_or_method",none,.fields #[.builtin "type.__prepare__",.type "type"],#[]⟩
noncomputable def j9 (P:Params):Obj:=⟨.type "dict",none,.dict #[kh P "__module__" 359 (.str "gitcore.base" 187),kh P "__qualname__" 361 (.str "CountingHasher" 360),kh P "__firstlineno__" 363 (.int 64 362),kh P "__init__" 372 (.ref 152),kh P "digest" 381 (.ref 159),kh P "__static_attributes__" 384 (.ref 160)] 6,#[]⟩
noncomputable def kA (P:Params):Obj:=⟨.type "tuple",none,.seq #[] 0,#[]⟩
noncomputable def kB (P:Params):Obj:=⟨.none,none,.fields #[.int 66 0,.int 4 0,.ref 151,.int 70 0,.int 4 0,.ref 158],#[]⟩
noncomputable def kC (P:Params):Obj:=⟨.type "code",none,.fields #[.str "CountingHasher" 354,.str "CountingHasher" 355,.str "/claim/cut.py" 356,.int 64 0,.int 0 0,.int 0 0,.int 0 0,.int 0 0,.ref 141,.bool false,.int 181 0,.ref 142,.none,.none,.none,.none,.int 357 0,.int 64 0,.str "/claim/cut.py" 358],#[]⟩
noncomputable def kD (P:Params):Obj:=⟨.type "frame",none,.plain,#[some (.ref 143),some (.ref 3),some (.ref 140),none,some (.str "gitcore.base" 187),none,some (.ref 0)]⟩
noncomputable def g9 (P:Params):Obj:=⟨.type "tuple",none,.seq #[.int 4 364] 0,#[]⟩
noncomputable def kE (P:Params):Obj:=⟨.type "tuple",none,.seq #[] 0,#[]⟩
noncomputable def kF (P:Params):Obj:=⟨.none,none,.fields #[],#[]⟩
noncomputable def kG (P:Params):Obj:=⟨.type "tuple",none,.seq #[.str "self" 368,.str "size" 369] 0,#[]⟩
noncomputable def kH (P:Params):Obj:=⟨.type "tuple",none,.seq #[] 0,#[]⟩
noncomputable def kI (P:Params):Obj:=⟨.none,none,fO "__init__" "CountingHasher.__init__" (aW 14 0) 0 .none .none .none .none,#[]⟩
noncomputable def hJ (P:Params):Obj:=⟨.type "code",none,.fields #[.str "__init__" 365,.str "CountingHasher.__init__" 366,.str "/claim/cut.py" 367,.int 66 0,.int 2 0,.int 0 0,.int 0 0,.int 3 0,.ref 146,.bool true,.int 181 0,.ref 147,.none,.ref 148,.ref 149,.ref 150,.int 370 0,.int 66 0,.str "/claim/cut.py" 371],#[]⟩
noncomputable def hU (P:Params):Obj:=⟨.type "function",none,fO "__init__" "CountingHasher.__init__" (aW 14 0) 3 (.ref 145) .none (.str "gitcore.base" 187) (.ref 151),#[]⟩
noncomputable def kJ (P:Params):Obj:=⟨.type "tuple",none,.seq #[] 0,#[]⟩
noncomputable def kK (P:Params):Obj:=⟨.none,none,.fields #[],#[]⟩
noncomputable def kM (P:Params):Obj:=⟨.type "tuple",none,.seq #[.str "self" 376,.str "octets" 377,.str "content" 378] 0,#[]⟩
noncomputable def kN (P:Params):Obj:=⟨.type "tuple",none,.seq #[] 0,#[]⟩
noncomputable def kP (P:Params):Obj:=⟨.none,none,fO "digest" "CountingHasher.digest" (aW 14 1) 0 .none .none .none .none,#[]⟩
noncomputable def hV (P:Params):Obj:=⟨.type "code",none,.fields #[.str "digest" 373,.str "CountingHasher.digest" 374,.str "/claim/cut.py" 375,.int 70 0,.int 2 0,.int 0 0,.int 0 0,.int 3 0,.ref 153,.bool true,.int 181 0,.ref 154,.none,.ref 155,.ref 156,.ref 157,.int 379 0,.int 70 0,.str "/claim/cut.py" 380],#[]⟩
noncomputable def hZ (P:Params):Obj:=⟨.type "function",none,fO "digest" "CountingHasher.digest" (aW 14 1) 3 .none .none (.str "gitcore.base" 187) (.ref 158),#[]⟩
noncomputable def kQ (P:Params):Obj:=⟨.type "tuple",none,.seq #[.str "known" 382,.str "size" 383] 0,#[]⟩
noncomputable def iA (P:Params):Obj:=⟨.type "dict",none,.dict #[kh P "__module__" 359 (.str "gitcore.base" 187),kh P "__firstlineno__" 363 (.int 64 362),kh P "__init__" 372 (.ref 152),kh P "digest" 381 (.ref 159),kh P "__static_attributes__" 384 (.ref 160),kh P "__dict__" 386 (.ref 163),kh P "__weakref__" 388 (.ref 164),kh P "__doc__" 389 .none] 4,#[]⟩
noncomputable def iB (P:Params):Obj:=⟨.type "type",none,.cls { name:="CountingHasher",bases:=[.type "object"],mro:=[.ref 162,.type "object"],ns:=161,qualname:="CountingHasher",hasDict:=true,slotNames:=[],subclasses:=[],abstract:=false,collection:=none,hasDel:=false },#[none,none,some (.str "CountingHasher" 352),some (.str "CountingHasher" 360),some (.builtin "object.__new__"),some (.bool true)]⟩
noncomputable def kR (P:Params):Obj:=⟨.type "getset_descriptor",none,.fields #[.str "__dict__" 385,.ref 162,.builtin "function.__dict__",.builtin "function.__dict__#set"],#[]⟩
noncomputable def kS (P:Params):Obj:=⟨.type "getset_descriptor",none,.fields #[.str "__weakref__" 387,.ref 162,.builtin "ExceptionGroup.__weakref__",.none],#[]⟩
noncomputable def kT (P:Params):Obj:=⟨.type "super",none,.fields #[.ref 162,.ref 162,.ref 162],#[]⟩
noncomputable def kU (P:Params):Obj:=⟨.type "builtin_function_or_method",none,.fields #[.builtin "object.__init_subclass__",.ref 162],#[]⟩
noncomputable def iC (P:Params):Obj:=⟨.type "tuple",none,.seq #[.int 2 398,.int 3 399] 0,#[]⟩
noncomputable def tr6 (P:Params):BT:=(.node (jW P) (.node (kW P) (.node (o3v6 P) (.node (mF P) (.node (fH P) (.node (eO P) (.node (lX P) (lf (j0 P)) .nil) (.node (mM P) (lf (hZ P)) .nil)) (.node (iN P) (.node (oO P) (lf (kC P)) .nil) (lf (gP P)))) (.node (fR P) (.node (iH P) (.node (mE P) (lf (j6 P)) .nil) (.node (gJ P) (lf (iC P)) .nil)) (.node (jO P) (.node (mI P) (lf (hJ P)) .nil) (lf (gW P))))) (.node (d1 P) (.node (fN P) (.node (f5 P) (.node (mB P) (lf (j2 P)) .nil) (.node (o9 P) (lf (kR P)) .nil)) (.node (jK P) (.node (oQ P) (lf (kF P)) .nil) (lf (e7 P)))) (.node (fW P) (.node (iL P) (.node (oJ P) (lf (j8 P)) .nil) (lf (gN P))) (.node (jQ P) (.node (oX P) (lf (kM P)) .nil) (lf (fA P)))))) (.node (lT P) (.node (mN P) (.node (fK P) (.node (fY P) (.node (lZ P) (lf (gZ P)) .nil) (.node (o7 P) (lf (iA P)) .nil)) (.node (jI P) (.node (mH P) (lf (g9 P)) .nil) (lf (gR P)))) (.node (fU P) (.node (iJ P) (.node (oG P) (lf (g8 P)) .nil) (lf (gL P))) (.node (iP P) (.node (oV P) (lf (kJ P)) .nil) (lf (gY P))))) (.node (d2 P) (.node (fQ P) (.node (iF P) (.node (jS P) (lf (j4 P)) .nil) (.node (eX P) (lf (kT P)) .nil)) (.node (jM P) (.node (oS P) (lf (kH P)) .nil) (lf (gU P)))) (.node (eN P) (.node (f7 P) (.node (oL P) (lf (kA P)) .nil) (lf (e5 P))) (.node (lV P) (.node (oZ P) (lf (kP P)) .nil) (lf (jY P))))))) (.node (nV P) (.node (lS P) (.node (mK P) (.node (fJ P) (.node (lR P) (.node (lY P) (lf (j1 P)) .nil) (.node (o5 P) (lf (kQ P)) .nil)) (.node (jH P) (.node (mG P) (lf (kD P)) .nil) (lf (gQ P)))) (.node (fS P) (.node (iI P) (.node (oF P) (lf (g7 P)) .nil) (lf (gK P))) (.node (iO P) (.node (mJ P) (lf (hU P)) .nil) (lf (gX P))))) (.node (OG P) (.node (fP P) (.node (iE P) (.node (jR P) (lf (j3 P)) .nil) (.node (gI P) (lf (kS P)) .nil)) (.node (jL P) (.node (oR P) (lf (kG P)) .nil) (lf (e8 P)))) (.node (eM P) (.node (f6 P) (.node (oK P) (lf (j9 P)) .nil) (lf (eZ P))) (.node (lU P) (.node (oY P) (lf (kN P)) .nil) (lf (jX P)))))) (.node (mC P) (.node (d0 P) (.node (fM P) (.node (fZ P) (.node (mA P) (lf (g6 P)) .nil) (.node (o8 P) (lf (iB P)) .nil)) (.node (jJ P) (.node (oP P) (lf (kE P)) .nil) (lf (gS P)))) (.node (fV P) (.node (iK P) (.node (oH P) (lf (j7 P)) .nil) (lf (gM P))) (.node (jP P) (.node (oW P) (lf (kK P)) .nil) (lf (e9 P))))) (.node (d3 P) (.node (eL P) (.node (iG P) (.node (mD P) (lf (j5 P)) .nil) (.node (eY P) (lf (kU P)) .nil)) (.node (jN P) (.node (oU P) (lf (kI P)) .nil) (lf (gV P)))) (.node (fX P) (.node (iM P) (.node (oM P) (lf (kB P)) .nil) (lf (gO P))) (.node (lW P) (.node (mL P) (lf (hV P)) .nil) (lf (jZ P))))))))
noncomputable def gr5:List Stmt:=[aK 12,aK 13,aK 14,aK 15,aK 16,aK 17,aK 18,aK 19,aK 20,aK 21]
noncomputable def RD:Pos:=⟨81,0,81,8⟩
theorem pc5 (w:World) (os:OsState):segRunT treeTable pw w 11 cZ 1 387 ⟨tr5 w.params,124,{},#[],{},334,os⟩ (piecesOf gr5 aP (.body dV aP) ps4 [topFrame pq])=some (.next,⟨tr6 w.params,168,{},#[],{},407,os⟩,.body dV aP,RD):=by
  unfold piecesOf gr5
  rw [PySem.W.Fast.te10110043849684766642,PySem.W.Fast.te14364793385576792824,PySem.W.Fast.te12563942051412417395]
  kernel_rfl
noncomputable def o3v7 (P:Params):Obj:=⟨.type "dict",none,.dict #[kh P "__name__" 165 (.str "gitcore.packs" 392),kh P "__doc__" 166 .none,kh P "__package__" 167 .none,kh P "__loader__" 168 (.builtin "__main__.__loader__#opaque"),kh P "__spec__" 169 .none,kh P "__annotations__" 170 (.ref 6),kh P "__builtins__" 171 (.ref 4),kh P "__file__" 173 (.str "/claim/cut.py" 172),kh P "__cached__" 174 .none,kh P "GitError" 218 (.ref 32),kh P "BadObject" 234 (.ref 45),kh P "BadBits" 250 (.ref 57),kh P "BadDelta" 266 (.ref 69),kh P "BadPack" 282 (.ref 81),kh P "big_endian" 288 (.ref 88),kh P "be32" 295 (.ref 95),kh P "at_big_endian" 306 (.ref 102),kh P "at_be32" 314 (.ref 109),kh P "put_size" 322 (.ref 116),kh P "at_size" 333 (.ref 123),kh P "put_offset" 341 (.ref 130),kh P "at_offset" 351 (.ref 137),kh P "CountingHasher" 391 (.ref 162),kh P "PACK_SIGN" 395 (.bytes #[80,65,67,75] 394),kh P "PACK_VERSION" 397 (.int 2 396),kh P "PACK_VERSIONS_READ" 400 (.ref 167),kh P "PACK_HEAD_SIZE" 402 (.int 12 401),kh P "OFFSET_DELTA" 404 (.int 6 403),kh P "ID_DELTA" 406 (.int 7 405),kh P "KIND_NUMBERS" 419 (.ref 168)] 30,#[]⟩
noncomputable def iD (P:Params):Obj:=⟨.type "dict",none,.dict #[bh P [99,111,109,109,105,116] 407 (.int 1 408),bh P [116,114,101,101] 409 (.int 2 410),bh P [98,108,111,98] 411 (.int 3 412),bh P [116,97,103] 413 (.int 4 414)] 4,#[]⟩
noncomputable def OM (P:Params):BT:=(.node (jW P) (.node (kW P) (.node (o3v7 P) (.node (mF P) (.node (fH P) (.node (eO P) (.node (lX P) (lf (j0 P)) .nil) (.node (mM P) (lf (hZ P)) .nil)) (.node (iN P) (.node (oO P) (lf (kC P)) .nil) (lf (gP P)))) (.node (fR P) (.node (iH P) (.node (mE P) (lf (j6 P)) .nil) (.node (gJ P) (lf (iC P)) .nil)) (.node (jO P) (.node (mI P) (lf (hJ P)) .nil) (lf (gW P))))) (.node (d1 P) (.node (fN P) (.node (f5 P) (.node (mB P) (lf (j2 P)) .nil) (.node (o9 P) (lf (kR P)) .nil)) (.node (jK P) (.node (oQ P) (lf (kF P)) .nil) (lf (e7 P)))) (.node (fW P) (.node (iL P) (.node (oJ P) (lf (j8 P)) .nil) (lf (gN P))) (.node (jQ P) (.node (oX P) (lf (kM P)) .nil) (lf (fA P)))))) (.node (lT P) (.node (mN P) (.node (fK P) (.node (fY P) (.node (lZ P) (lf (gZ P)) .nil) (.node (o7 P) (lf (iA P)) .nil)) (.node (jI P) (.node (mH P) (lf (g9 P)) .nil) (lf (gR P)))) (.node (fU P) (.node (iJ P) (.node (oG P) (lf (g8 P)) .nil) (lf (gL P))) (.node (iP P) (.node (oV P) (lf (kJ P)) .nil) (lf (gY P))))) (.node (d2 P) (.node (fQ P) (.node (iF P) (.node (jS P) (lf (j4 P)) .nil) (.node (eX P) (lf (kT P)) .nil)) (.node (jM P) (.node (oS P) (lf (kH P)) .nil) (lf (gU P)))) (.node (eN P) (.node (f7 P) (.node (oL P) (lf (kA P)) .nil) (lf (e5 P))) (.node (lV P) (.node (oZ P) (lf (kP P)) .nil) (lf (jY P))))))) (.node (nV P) (.node (lS P) (.node (mK P) (.node (fJ P) (.node (lR P) (.node (lY P) (lf (j1 P)) .nil) (.node (o5 P) (lf (kQ P)) .nil)) (.node (jH P) (.node (mG P) (lf (kD P)) .nil) (lf (gQ P)))) (.node (fS P) (.node (iI P) (.node (oF P) (lf (g7 P)) .nil) (.node (gK P) (lf (iD P)) .nil)) (.node (iO P) (.node (mJ P) (lf (hU P)) .nil) (lf (gX P))))) (.node (OG P) (.node (fP P) (.node (iE P) (.node (jR P) (lf (j3 P)) .nil) (.node (gI P) (lf (kS P)) .nil)) (.node (jL P) (.node (oR P) (lf (kG P)) .nil) (lf (e8 P)))) (.node (eM P) (.node (f6 P) (.node (oK P) (lf (j9 P)) .nil) (lf (eZ P))) (.node (lU P) (.node (oY P) (lf (kN P)) .nil) (lf (jX P)))))) (.node (mC P) (.node (d0 P) (.node (fM P) (.node (fZ P) (.node (mA P) (lf (g6 P)) .nil) (.node (o8 P) (lf (iB P)) .nil)) (.node (jJ P) (.node (oP P) (lf (kE P)) .nil) (lf (gS P)))) (.node (fV P) (.node (iK P) (.node (oH P) (lf (j7 P)) .nil) (lf (gM P))) (.node (jP P) (.node (oW P) (lf (kK P)) .nil) (lf (e9 P))))) (.node (d3 P) (.node (eL P) (.node (iG P) (.node (mD P) (lf (j5 P)) .nil) (.node (eY P) (lf (kU P)) .nil)) (.node (jN P) (.node (oU P) (lf (kI P)) .nil) (lf (gV P)))) (.node (fX P) (.node (iM P) (.node (oM P) (lf (kB P)) .nil) (lf (gO P))) (.node (lW P) (.node (mL P) (lf (hV P)) .nil) (lf (jZ P))))))))
noncomputable def gr6:List Stmt:=[aK 22]
noncomputable def IG:Pos:=⟨82,0,82,12⟩
noncomputable def o3v8 (P:Params):Obj:=⟨.type "dict",none,.dict #[kh P "__name__" 165 (.str "gitcore.packs" 392),kh P "__doc__" 166 .none,kh P "__package__" 167 .none,kh P "__loader__" 168 (.builtin "__main__.__loader__#opaque"),kh P "__spec__" 169 .none,kh P "__annotations__" 170 (.ref 6),kh P "__builtins__" 171 (.ref 4),kh P "__file__" 173 (.str "/claim/cut.py" 172),kh P "__cached__" 174 .none,kh P "GitError" 218 (.ref 32),kh P "BadObject" 234 (.ref 45),kh P "BadBits" 250 (.ref 57),kh P "BadDelta" 266 (.ref 69),kh P "BadPack" 282 (.ref 81),kh P "big_endian" 288 (.ref 88),kh P "be32" 295 (.ref 95),kh P "at_big_endian" 306 (.ref 102),kh P "at_be32" 314 (.ref 109),kh P "put_size" 322 (.ref 116),kh P "at_size" 333 (.ref 123),kh P "put_offset" 341 (.ref 130),kh P "at_offset" 351 (.ref 137),kh P "CountingHasher" 391 (.ref 162),kh P "PACK_SIGN" 395 (.bytes #[80,65,67,75] 394),kh P "PACK_VERSION" 397 (.int 2 396),kh P "PACK_VERSIONS_READ" 400 (.ref 167),kh P "PACK_HEAD_SIZE" 402 (.int 12 401),kh P "OFFSET_DELTA" 404 (.int 6 403),kh P "ID_DELTA" 406 (.int 7 405),kh P "KIND_NUMBERS" 419 (.ref 168),kh P "NUMBER_KINDS" 432 (.ref 169),kh P "entry_head" 442 (.ref 176),kh P "at_entry_head" 454 (.ref 183),kh P "PackEntry" 498 (.ref 208)] 34,#[]⟩
noncomputable def o12v7 (P:Params):Obj:=⟨.none,none,.fields #[.int 2 0,.int 0 0,.ref 20,.int 6 0,.int 0 0,.ref 41,.int 8 0,.int 0 0,.ref 53,.int 10 0,.int 0 0,.ref 65,.int 12 0,.int 0 0,.ref 77,.int 14 0,.int 0 0,.ref 87,.int 16 0,.int 0 0,.ref 94,.int 18 0,.int 0 0,.ref 101,.int 25 0,.int 0 0,.ref 108,.int 27 0,.int 0 0,.ref 115,.int 34 0,.int 0 0,.ref 122,.int 46 0,.int 0 0,.ref 129,.int 54 0,.int 0 0,.ref 136,.int 64 0,.int 0 0,.ref 143,.int 84 0,.int 0 0,.ref 175,.int 94 0,.int 0 0,.ref 182,.int 112 0,.int 0 0,.ref 189],#[]⟩
noncomputable def kV (P:Params):Obj:=⟨.type "dict",none,.dict #[⟨1,.int 1 420,.bytes #[99,111,109,109,105,116] 421⟩,⟨2,.int 2 422,.bytes #[116,114,101,101] 423⟩,⟨3,.int 3 424,.bytes #[98,108,111,98] 425⟩,⟨4,.int 4 426,.bytes #[116,97,103] 427⟩] 4,#[]⟩
noncomputable def qH (P:Params):Obj:=⟨.type "tuple",none,.seq #[] 0,#[]⟩
noncomputable def qI (P:Params):Obj:=⟨.none,none,.fields #[],#[]⟩
noncomputable def qJ (P:Params):Obj:=⟨.type "tuple",none,.seq #[.str "number" 436,.str "size" 437,.str "piece" 438,.str "out" 439] 0,#[]⟩
noncomputable def qK (P:Params):Obj:=⟨.type "tuple",none,.seq #[] 0,#[]⟩
noncomputable def qL (P:Params):Obj:=⟨.none,none,fO "entry_head" "entry_head" (aK 24) 0 .none .none .none .none,#[]⟩
noncomputable def nI (P:Params):Obj:=⟨.type "code",none,.fields #[.str "entry_head" 433,.str "entry_head" 434,.str "/claim/cut.py" 435,.int 84 0,.int 2 0,.int 0 0,.int 0 0,.int 3 0,.ref 170,.bool true,.int 181 0,.ref 171,.none,.ref 172,.ref 173,.ref 174,.int 440 0,.int 84 0,.str "/claim/cut.py" 441],#[]⟩
noncomputable def nJ (P:Params):Obj:=⟨.type "function",none,fO "entry_head" "entry_head" (aK 24) 3 .none .none (.str "gitcore.packs" 392) (.ref 175),#[]⟩
noncomputable def qM (P:Params):Obj:=⟨.type "tuple",none,.seq #[] 0,#[]⟩
noncomputable def qN (P:Params):Obj:=⟨.none,none,.fields #[],#[]⟩
noncomputable def qO (P:Params):Obj:=⟨.type "tuple",none,.seq #[.str "octets" 446,.str "at" 447,.str "piece" 448,.str "number" 449,.str "size" 450,.str "shift" 451] 0,#[]⟩
noncomputable def qP (P:Params):Obj:=⟨.type "tuple",none,.seq #[] 0,#[]⟩
noncomputable def qQ (P:Params):Obj:=⟨.none,none,fO "at_entry_head" "at_entry_head" (aK 25) 0 .none .none .none .none,#[]⟩
noncomputable def nK (P:Params):Obj:=⟨.type "code",none,.fields #[.str "at_entry_head" 443,.str "at_entry_head" 444,.str "/claim/cut.py" 445,.int 94 0,.int 2 0,.int 0 0,.int 0 0,.int 3 0,.ref 177,.bool true,.int 181 0,.ref 178,.none,.ref 179,.ref 180,.ref 181,.int 452 0,.int 94 0,.str "/claim/cut.py" 453],#[]⟩
noncomputable def nM (P:Params):Obj:=⟨.type "function",none,fO "at_entry_head" "at_entry_head" (aK 25) 3 .none .none (.str "gitcore.packs" 392) (.ref 182),#[]⟩
noncomputable def qR (P:Params):Obj:=⟨.type "tuple",none,.seq #[] 0,#[]⟩
noncomputable def qS (P:Params):Obj:=⟨.type "builtin_function_or_method",none,.fields #[.builtin "type.__prepare__",.type "type"],#[]⟩
noncomputable def qT (P:Params):Obj:=⟨.type "dict",none,.dict #[kh P "__module__" 462 (.str "gitcore.packs" 392),kh P "__qualname__" 464 (.str "PackEntry" 463),kh P "__firstlineno__" 466 (.int 112 465),kh P "__init__" 478 (.ref 198),kh P "is_delta" 485 (.ref 205),kh P "__static_attributes__" 491 (.ref 206)] 6,#[]⟩
noncomputable def qU (P:Params):Obj:=⟨.type "tuple",none,.seq #[] 0,#[]⟩
noncomputable def qV (P:Params):Obj:=⟨.none,none,.fields #[.int 114 0,.int 4 0,.ref 197,.int 121 0,.int 4 0,.ref 204],#[]⟩
noncomputable def qW (P:Params):Obj:=⟨.type "code",none,.fields #[.str "PackEntry" 457,.str "PackEntry" 458,.str "/claim/cut.py" 459,.int 112 0,.int 0 0,.int 0 0,.int 0 0,.int 0 0,.ref 187,.bool false,.int 181 0,.ref 188,.none,.none,.none,.none,.int 460 0,.int 112 0,.str "/claim/cut.py" 461],#[]⟩
noncomputable def qX (P:Params):Obj:=⟨.type "frame",none,.plain,#[some (.ref 189),some (.ref 3),some (.ref 186),none,some (.str "gitcore.packs" 392),none,some (.ref 0)]⟩
noncomputable def nN (P:Params):Obj:=⟨.type "tuple",none,.seq #[.none,.none,.none] 0,#[]⟩
noncomputable def qY (P:Params):Obj:=⟨.type "tuple",none,.seq #[] 0,#[]⟩
noncomputable def qZ (P:Params):Obj:=⟨.none,none,.fields #[],#[]⟩
noncomputable def rA (P:Params):Obj:=⟨.type "tuple",none,.seq #[.str "self" 470,.str "oid" 471,.str "kind" 472,.str "content" 473,.str "base" 474,.str "delta" 475] 0,#[]⟩
noncomputable def rB (P:Params):Obj:=⟨.type "tuple",none,.seq #[] 0,#[]⟩
noncomputable def rC (P:Params):Obj:=⟨.none,none,fO "__init__" "PackEntry.__init__" (aW 26 0) 0 .none .none .none .none,#[]⟩
noncomputable def nO (P:Params):Obj:=⟨.type "code",none,.fields #[.str "__init__" 467,.str "PackEntry.__init__" 468,.str "/claim/cut.py" 469,.int 114 0,.int 6 0,.int 0 0,.int 0 0,.int 3 0,.ref 192,.bool true,.int 181 0,.ref 193,.none,.ref 194,.ref 195,.ref 196,.int 476 0,.int 114 0,.str "/claim/cut.py" 477],#[]⟩
noncomputable def nP (P:Params):Obj:=⟨.type "function",none,fO "__init__" "PackEntry.__init__" (aW 26 0) 3 (.ref 191) .none (.str "gitcore.packs" 392) (.ref 197),#[]⟩
noncomputable def rD (P:Params):Obj:=⟨.type "tuple",none,.seq #[] 0,#[]⟩
noncomputable def rE (P:Params):Obj:=⟨.none,none,.fields #[],#[]⟩
noncomputable def rF (P:Params):Obj:=⟨.type "tuple",none,.seq #[.str "self" 482] 0,#[]⟩
noncomputable def rG (P:Params):Obj:=⟨.type "tuple",none,.seq #[] 0,#[]⟩
noncomputable def rH (P:Params):Obj:=⟨.none,none,fO "is_delta" "PackEntry.is_delta" (aW 26 1) 0 .none .none .none .none,#[]⟩
noncomputable def nQ (P:Params):Obj:=⟨.type "code",none,.fields #[.str "is_delta" 479,.str "PackEntry.is_delta" 480,.str "/claim/cut.py" 481,.int 121 0,.int 1 0,.int 0 0,.int 0 0,.int 3 0,.ref 199,.bool true,.int 181 0,.ref 200,.none,.ref 201,.ref 202,.ref 203,.int 483 0,.int 121 0,.str "/claim/cut.py" 484],#[]⟩
noncomputable def nR (P:Params):Obj:=⟨.type "function",none,fO "is_delta" "PackEntry.is_delta" (aW 26 1) 3 .none .none (.str "gitcore.packs" 392) (.ref 204),#[]⟩
noncomputable def rI (P:Params):Obj:=⟨.type "tuple",none,.seq #[.str "base" 486,.str "content" 487,.str "delta" 488,.str "kind" 489,.str "oid" 490] 0,#[]⟩
noncomputable def nS (P:Params):Obj:=⟨.type "dict",none,.dict #[kh P "__module__" 462 (.str "gitcore.packs" 392),kh P "__firstlineno__" 466 (.int 112 465),kh P "__init__" 478 (.ref 198),kh P "is_delta" 485 (.ref 205),kh P "__static_attributes__" 491 (.ref 206),kh P "__dict__" 493 (.ref 209),kh P "__weakref__" 495 (.ref 210),kh P "__doc__" 496 .none] 4,#[]⟩
noncomputable def nU (P:Params):Obj:=⟨.type "type",none,.cls { name:="PackEntry",bases:=[.type "object"],mro:=[.ref 208,.type "object"],ns:=207,qualname:="PackEntry",hasDict:=true,slotNames:=[],subclasses:=[],abstract:=false,collection:=none,hasDel:=false },#[none,none,some (.str "PackEntry" 455),some (.str "PackEntry" 463),some (.builtin "object.__new__"),some (.bool true)]⟩
noncomputable def rJ (P:Params):Obj:=⟨.type "getset_descriptor",none,.fields #[.str "__dict__" 492,.ref 208,.builtin "function.__dict__",.builtin "function.__dict__#set"],#[]⟩
noncomputable def rK (P:Params):Obj:=⟨.type "getset_descriptor",none,.fields #[.str "__weakref__" 494,.ref 208,.builtin "ExceptionGroup.__weakref__",.none],#[]⟩
noncomputable def rL (P:Params):Obj:=⟨.type "super",none,.fields #[.ref 208,.ref 208,.ref 208],#[]⟩
noncomputable def rM (P:Params):Obj:=⟨.type "builtin_function_or_method",none,.fields #[.builtin "object.__init_subclass__",.ref 208],#[]⟩
noncomputable def tr8 (P:Params):BT:=(.node (jW P) (.node (kW P) (.node (o3v8 P) (.node (mF P) (.node (fH P) (.node (eO P) (.node (lX P) (lf (j0 P)) (lf (nN P))) (.node (mM P) (lf (hZ P)) .nil)) (.node (iN P) (.node (oO P) (lf (kC P)) (lf (nS P))) (.node (gP P) (lf (nI P)) .nil))) (.node (fR P) (.node (iH P) (.node (mE P) (lf (j6 P)) (lf (rD P))) (.node (gJ P) (lf (iC P)) .nil)) (.node (jO P) (.node (mI P) (lf (hJ P)) .nil) (.node (gW P) (lf (nM P)) .nil)))) (.node (d1 P) (.node (fN P) (.node (f5 P) (.node (mB P) (lf (j2 P)) (lf (rB P))) (.node (o9 P) (lf (kR P)) .nil)) (.node (jK P) (.node (oQ P) (lf (kF P)) (lf (rL P))) (.node (e7 P) (lf (qO P)) .nil))) (.node (fW P) (.node (iL P) (.node (oJ P) (lf (j8 P)) (lf (rH P))) (.node (gN P) (lf (qI P)) .nil)) (.node (jQ P) (.node (oX P) (lf (kM P)) .nil) (.node (fA P) (lf (qU P)) .nil))))) (.node (lT P) (.node (mN P) (.node (fK P) (.node (fY P) (.node (lZ P) (lf (gZ P)) (lf (qZ P))) (.node (o7 P) (lf (iA P)) .nil)) (.node (jI P) (.node (mH P) (lf (g9 P)) (lf (rJ P))) (.node (gR P) (lf (qM P)) .nil))) (.node (fU P) (.node (iJ P) (.node (oG P) (lf (g8 P)) (lf (rF P))) (.node (gL P) (lf (kV P)) .nil)) (.node (iP P) (.node (oV P) (lf (kJ P)) .nil) (.node (gY P) (lf (qS P)) .nil)))) (.node (d2 P) (.node (fQ P) (.node (iF P) (.node (jS P) (lf (j4 P)) (lf (nO P))) (.node (eX P) (lf (kT P)) .nil)) (.node (jM P) (.node (oS P) (lf (kH P)) .nil) (.node (gU P) (lf (qQ P)) .nil))) (.node (eN P) (.node (f7 P) (.node (oL P) (lf (kA P)) (lf (nR P))) (.node (e5 P) (lf (qK P)) .nil)) (.node (lV P) (.node (oZ P) (lf (kP P)) .nil) (.node (jY P) (lf (qW P)) .nil)))))) (.node (nV P) (.node (lS P) (.node (mK P) (.node (fJ P) (.node (lR P) (.node (lY P) (lf (j1 P)) (lf (qY P))) (.node (o5 P) (lf (kQ P)) .nil)) (.node (jH P) (.node (mG P) (lf (kD P)) (lf (nU P))) (.node (gQ P) (lf (nJ P)) .nil))) (.node (fS P) (.node (iI P) (.node (oF P) (lf (g7 P)) (lf (rE P))) (.node (gK P) (lf (iD P)) .nil)) (.node (iO P) (.node (mJ P) (lf (hU P)) .nil) (.node (gX P) (lf (qR P)) .nil)))) (.node (o12v7 P) (.node (fP P) (.node (iE P) (.node (jR P) (lf (j3 P)) (lf (rC P))) (.node (gI P) (lf (kS P)) .nil)) (.node (jL P) (.node (oR P) (lf (kG P)) (lf (rM P))) (.node (e8 P) (lf (qP P)) .nil))) (.node (eM P) (.node (f6 P) (.node (oK P) (lf (j9 P)) (lf (nQ P))) (.node (eZ P) (lf (qJ P)) .nil)) (.node (lU P) (.node (oY P) (lf (kN P)) .nil) (.node (jX P) (lf (qV P)) .nil))))) (.node (mC P) (.node (d0 P) (.node (fM P) (.node (fZ P) (.node (mA P) (lf (g6 P)) (lf (rA P))) (.node (o8 P) (lf (iB P)) .nil)) (.node (jJ P) (.node (oP P) (lf (kE P)) (lf (rK P))) (.node (gS P) (lf (qN P)) .nil))) (.node (fV P) (.node (iK P) (.node (oH P) (lf (j7 P)) (lf (rG P))) (.node (gM P) (lf (qH P)) .nil)) (.node (jP P) (.node (oW P) (lf (kK P)) .nil) (.node (e9 P) (lf (qT P)) .nil)))) (.node (d3 P) (.node (eL P) (.node (iG P) (.node (mD P) (lf (j5 P)) (lf (nP P))) (.node (eY P) (lf (kU P)) .nil)) (.node (jN P) (.node (oU P) (lf (kI P)) .nil) (.node (gV P) (lf (nK P)) .nil))) (.node (fX P) (.node (iM P) (.node (oM P) (lf (kB P)) (lf (rI P))) (.node (gO P) (lf (qL P)) .nil)) (.node (lW P) (.node (mL P) (lf (hV P)) .nil) (.node (jZ P) (lf (qX P)) .nil)))))))
noncomputable def PB:List Stmt:=[aK 23,aK 24,aK 25,aK 26]
noncomputable def ps7:Pos:=⟨112,0,122,63⟩
theorem ID (w:World) (os:OsState):segRunT treeTable pw (w.withFollow "special-get-raises" false) 11 cZ 1 391 ⟨OM (w.withFollow "special-get-raises" false).params,169,{},#[],{},420,os⟩ (piecesOf PB aP (.body dV aP) IG [topFrame pq])=some (.next,⟨tr8 (w.withFollow "special-get-raises" false).params,213,{},#[],{},499,os⟩,.body dV aP,ps7):=by
  unfold piecesOf PB
  rw [PySem.W.Fast.te10110043849684766642,PySem.W.Fast.te14364793385576792824,PySem.W.Fast.te12563942051412417395]
  kernel_rfl
theorem NH (w:World) (os:OsState):segRunT treeTable pw (w.withFollow "special-get-raises" true) 11 cZ 1 391 ⟨OM (w.withFollow "special-get-raises" true).params,169,{},#[],{},420,os⟩ (piecesOf PB aP (.body dV aP) IG [topFrame pq])=some (.next,⟨tr8 (w.withFollow "special-get-raises" true).params,213,{},#[],{},499,os⟩,.body dV aP,ps7):=by
  unfold piecesOf PB
  rw [PySem.W.Fast.te10110043849684766642,PySem.W.Fast.te14364793385576792824,PySem.W.Fast.te12563942051412417395]
  kernel_rfl
theorem pc7 (w:World) (os:OsState):segRunT treeTable pw w 11 cZ 1 391 ⟨OM w.params,169,{},#[],{},420,os⟩ (piecesOf PB aP (.body dV aP) IG [topFrame pq])=some (.next,⟨tr8 w.params,213,{},#[],{},499,os⟩,.body dV aP,ps7) :=
  byRow2 "special-get-raises" (P:=fun w=>∀ os:OsState,segRunT treeTable pw w 11 cZ 1 391 ⟨OM w.params,169,{},#[],{},420,os⟩ (piecesOf PB aP (.body dV aP) IG [topFrame pq])=some (.next,⟨tr8 w.params,213,{},#[],{},499,os⟩,.body dV aP,ps7)) (fun w os=>ID w os) (fun w os=>NH w os) w os
noncomputable def o3v9 (P:Params):Obj:=⟨.type "dict",none,.dict #[kh P "__name__" 165 (.str "gitcore.packs" 392),kh P "__doc__" 166 .none,kh P "__package__" 167 .none,kh P "__loader__" 168 (.builtin "__main__.__loader__#opaque"),kh P "__spec__" 169 .none,kh P "__annotations__" 170 (.ref 6),kh P "__builtins__" 171 (.ref 4),kh P "__file__" 173 (.str "/claim/cut.py" 172),kh P "__cached__" 174 .none,kh P "GitError" 218 (.ref 32),kh P "BadObject" 234 (.ref 45),kh P "BadBits" 250 (.ref 57),kh P "BadDelta" 266 (.ref 69),kh P "BadPack" 282 (.ref 81),kh P "big_endian" 288 (.ref 88),kh P "be32" 295 (.ref 95),kh P "at_big_endian" 306 (.ref 102),kh P "at_be32" 314 (.ref 109),kh P "put_size" 322 (.ref 116),kh P "at_size" 333 (.ref 123),kh P "put_offset" 341 (.ref 130),kh P "at_offset" 351 (.ref 137),kh P "CountingHasher" 391 (.ref 162),kh P "PACK_SIGN" 395 (.bytes #[80,65,67,75] 394),kh P "PACK_VERSION" 397 (.int 2 396),kh P "PACK_VERSIONS_READ" 400 (.ref 167),kh P "PACK_HEAD_SIZE" 402 (.int 12 401),kh P "OFFSET_DELTA" 404 (.int 6 403),kh P "ID_DELTA" 406 (.int 7 405),kh P "KIND_NUMBERS" 419 (.ref 168),kh P "NUMBER_KINDS" 432 (.ref 169),kh P "entry_head" 442 (.ref 176),kh P "at_entry_head" 454 (.ref 183),kh P "PackEntry" 498 (.ref 208),kh P "PackBuilder" 562 (.ref 251),kh P "pack_closed" 572 (.ref 262),kh P "write_pack" 584 (.ref 270)] 37,#[]⟩
noncomputable def o12v8 (P:Params):Obj:=⟨.none,none,.fields #[.int 2 0,.int 0 0,.ref 20,.int 6 0,.int 0 0,.ref 41,.int 8 0,.int 0 0,.ref 53,.int 10 0,.int 0 0,.ref 65,.int 12 0,.int 0 0,.ref 77,.int 14 0,.int 0 0,.ref 87,.int 16 0,.int 0 0,.ref 94,.int 18 0,.int 0 0,.ref 101,.int 25 0,.int 0 0,.ref 108,.int 27 0,.int 0 0,.ref 115,.int 34 0,.int 0 0,.ref 122,.int 46 0,.int 0 0,.ref 129,.int 54 0,.int 0 0,.ref 136,.int 64 0,.int 0 0,.ref 143,.int 84 0,.int 0 0,.ref 175,.int 94 0,.int 0 0,.ref 182,.int 112 0,.int 0 0,.ref 189,.int 123 0,.int 0 0,.ref 218,.int 157 0,.int 0 0,.ref 261,.int 160 0,.int 0 0,.ref 269],#[]⟩
noncomputable def u0 (P:Params):Obj:=⟨.type "tuple",none,.seq #[] 0,#[]⟩
noncomputable def u4 (P:Params):Obj:=⟨.type "builtin_function_or_method",none,.fields #[.builtin "type.__prepare__",.type "type"],#[]⟩
noncomputable def u5 (P:Params):Obj:=⟨.type "dict",none,.dict #[kh P "__module__" 506 (.str "gitcore.packs" 392),kh P "__qualname__" 508 (.str "PackBuilder" 507),kh P "__firstlineno__" 510 (.int 123 509),kh P "__init__" 520 (.ref 227),kh P "piece_of" 531 (.ref 234),kh P "add" 541 (.ref 241),kh P "close" 548 (.ref 248),kh P "__static_attributes__" 555 (.ref 249)] 8,#[]⟩
noncomputable def u6 (P:Params):Obj:=⟨.type "tuple",none,.seq #[] 0,#[]⟩
noncomputable def u7 (P:Params):Obj:=⟨.none,none,.fields #[.int 125 0,.int 4 0,.ref 226,.int 133 0,.int 4 0,.ref 233,.int 145 0,.int 4 0,.ref 240,.int 155 0,.int 4 0,.ref 247],#[]⟩
noncomputable def u9 (P:Params):Obj:=⟨.type "code",none,.fields #[.str "PackBuilder" 501,.str "PackBuilder" 502,.str "/claim/cut.py" 503,.int 123 0,.int 0 0,.int 0 0,.int 0 0,.int 0 0,.ref 216,.bool false,.int 181 0,.ref 217,.none,.none,.none,.none,.int 504 0,.int 123 0,.str "/claim/cut.py" 505],#[]⟩
noncomputable def vA (P:Params):Obj:=⟨.type "frame",none,.plain,#[some (.ref 218),some (.ref 3),some (.ref 215),none,some (.str "gitcore.packs" 392),none,some (.ref 0)]⟩
noncomputable def rN (P:Params):Obj:=⟨.type "tuple",none,.seq #[.bool true] 0,#[]⟩
noncomputable def vB (P:Params):Obj:=⟨.type "tuple",none,.seq #[] 0,#[]⟩
noncomputable def vC (P:Params):Obj:=⟨.none,none,.fields #[],#[]⟩
noncomputable def vD (P:Params):Obj:=⟨.type "tuple",none,.seq #[.str "self" 514,.str "hasher" 515,.str "codec" 516,.str "by_offset" 517] 0,#[]⟩
noncomputable def vE (P:Params):Obj:=⟨.type "tuple",none,.seq #[] 0,#[]⟩
noncomputable def vF (P:Params):Obj:=⟨.none,none,fO "__init__" "PackBuilder.__init__" (aW 27 0) 0 .none .none .none .none,#[]⟩
noncomputable def rO (P:Params):Obj:=⟨.type "code",none,.fields #[.str "__init__" 511,.str "PackBuilder.__init__" 512,.str "/claim/cut.py" 513,.int 125 0,.int 4 0,.int 0 0,.int 0 0,.int 3 0,.ref 221,.bool true,.int 181 0,.ref 222,.none,.ref 223,.ref 224,.ref 225,.int 518 0,.int 125 0,.str "/claim/cut.py" 519],#[]⟩
noncomputable def rP (P:Params):Obj:=⟨.type "function",none,fO "__init__" "PackBuilder.__init__" (aW 27 0) 3 (.ref 220) .none (.str "gitcore.packs" 392) (.ref 226),#[]⟩
noncomputable def vG (P:Params):Obj:=⟨.type "tuple",none,.seq #[] 0,#[]⟩
noncomputable def vH (P:Params):Obj:=⟨.none,none,.fields #[],#[]⟩
noncomputable def vI (P:Params):Obj:=⟨.type "tuple",none,.seq #[.str "self" 524,.str "entry" 525,.str "number" 526,.str "packed" 527,.str "back" 528] 0,#[]⟩
noncomputable def vJ (P:Params):Obj:=⟨.type "tuple",none,.seq #[] 0,#[]⟩
noncomputable def vK (P:Params):Obj:=⟨.none,none,fO "piece_of" "PackBuilder.piece_of" (aW 27 1) 0 .none .none .none .none,#[]⟩
noncomputable def rQ (P:Params):Obj:=⟨.type "code",none,.fields #[.str "piece_of" 521,.str "PackBuilder.piece_of" 522,.str "/claim/cut.py" 523,.int 133 0,.int 2 0,.int 0 0,.int 0 0,.int 3 0,.ref 228,.bool true,.int 181 0,.ref 229,.none,.ref 230,.ref 231,.ref 232,.int 529 0,.int 133 0,.str "/claim/cut.py" 530],#[]⟩
noncomputable def rR (P:Params):Obj:=⟨.type "function",none,fO "piece_of" "PackBuilder.piece_of" (aW 27 1) 3 .none .none (.str "gitcore.packs" 392) (.ref 233),#[]⟩
noncomputable def vL (P:Params):Obj:=⟨.type "tuple",none,.seq #[] 0,#[]⟩
noncomputable def vM (P:Params):Obj:=⟨.none,none,.fields #[],#[]⟩
noncomputable def vN (P:Params):Obj:=⟨.type "tuple",none,.seq #[.str "self" 535,.str "entry" 536,.str "piece" 537,.str "place" 538] 0,#[]⟩
noncomputable def vO (P:Params):Obj:=⟨.type "tuple",none,.seq #[] 0,#[]⟩
noncomputable def vP (P:Params):Obj:=⟨.none,none,fO "add" "PackBuilder.add" (aW 27 2) 0 .none .none .none .none,#[]⟩
noncomputable def rS (P:Params):Obj:=⟨.type "code",none,.fields #[.str "add" 532,.str "PackBuilder.add" 533,.str "/claim/cut.py" 534,.int 145 0,.int 2 0,.int 0 0,.int 0 0,.int 3 0,.ref 235,.bool true,.int 181 0,.ref 236,.none,.ref 237,.ref 238,.ref 239,.int 539 0,.int 145 0,.str "/claim/cut.py" 540],#[]⟩
noncomputable def rT (P:Params):Obj:=⟨.type "function",none,fO "add" "PackBuilder.add" (aW 27 2) 3 .none .none (.str "gitcore.packs" 392) (.ref 240),#[]⟩
noncomputable def vQ (P:Params):Obj:=⟨.type "tuple",none,.seq #[] 0,#[]⟩
noncomputable def vR (P:Params):Obj:=⟨.none,none,.fields #[],#[]⟩
noncomputable def vS (P:Params):Obj:=⟨.type "tuple",none,.seq #[.str "self" 545] 0,#[]⟩
noncomputable def vT (P:Params):Obj:=⟨.type "tuple",none,.seq #[] 0,#[]⟩
noncomputable def vU (P:Params):Obj:=⟨.none,none,fO "close" "PackBuilder.close" (aW 27 3) 0 .none .none .none .none,#[]⟩
noncomputable def rU (P:Params):Obj:=⟨.type "code",none,.fields #[.str "close" 542,.str "PackBuilder.close" 543,.str "/claim/cut.py" 544,.int 155 0,.int 1 0,.int 0 0,.int 0 0,.int 3 0,.ref 242,.bool true,.int 181 0,.ref 243,.none,.ref 244,.ref 245,.ref 246,.int 546 0,.int 155 0,.str "/claim/cut.py" 547],#[]⟩
noncomputable def rV (P:Params):Obj:=⟨.type "function",none,fO "close" "PackBuilder.close" (aW 27 3) 3 .none .none (.str "gitcore.packs" 392) (.ref 247),#[]⟩
noncomputable def vV (P:Params):Obj:=⟨.type "tuple",none,.seq #[.str "by_offset" 549,.str "codec" 550,.str "hasher" 551,.str "length" 552,.str "pieces" 553,.str "places" 554] 0,#[]⟩
noncomputable def rW (P:Params):Obj:=⟨.type "dict",none,.dict #[kh P "__module__" 506 (.str "gitcore.packs" 392),kh P "__firstlineno__" 510 (.int 123 509),kh P "__init__" 520 (.ref 227),kh P "piece_of" 531 (.ref 234),kh P "add" 541 (.ref 241),kh P "close" 548 (.ref 248),kh P "__static_attributes__" 555 (.ref 249),kh P "__dict__" 557 (.ref 252),kh P "__weakref__" 559 (.ref 253),kh P "__doc__" 560 .none] 4,#[]⟩
noncomputable def rX (P:Params):Obj:=⟨.type "type",none,.cls { name:="PackBuilder",bases:=[.type "object"],mro:=[.ref 251,.type "object"],ns:=250,qualname:="PackBuilder",hasDict:=true,slotNames:=[],subclasses:=[],abstract:=false,collection:=none,hasDel:=false },#[none,none,some (.str "PackBuilder" 499),some (.str "PackBuilder" 507),some (.builtin "object.__new__"),some (.bool true)]⟩
noncomputable def vW (P:Params):Obj:=⟨.type "getset_descriptor",none,.fields #[.str "__dict__" 556,.ref 251,.builtin "function.__dict__",.builtin "function.__dict__#set"],#[]⟩
noncomputable def vX (P:Params):Obj:=⟨.type "getset_descriptor",none,.fields #[.str "__weakref__" 558,.ref 251,.builtin "ExceptionGroup.__weakref__",.none],#[]⟩
noncomputable def vY (P:Params):Obj:=⟨.type "super",none,.fields #[.ref 251,.ref 251,.ref 251],#[]⟩
noncomputable def vZ (P:Params):Obj:=⟨.type "builtin_function_or_method",none,.fields #[.builtin "object.__init_subclass__",.ref 251],#[]⟩
noncomputable def v8 (P:Params):Obj:=⟨.type "tuple",none,.seq #[] 0,#[]⟩
noncomputable def v9 (P:Params):Obj:=⟨.none,none,.fields #[],#[]⟩
noncomputable def wA (P:Params):Obj:=⟨.type "tuple",none,.seq #[.str "count" 566,.str "body" 567,.str "hasher" 568,.str "whole" 569] 0,#[]⟩
noncomputable def wB (P:Params):Obj:=⟨.type "tuple",none,.seq #[] 0,#[]⟩
noncomputable def wC (P:Params):Obj:=⟨.none,none,fO "pack_closed" "pack_closed" (aK 28) 0 .none .none .none .none,#[]⟩
noncomputable def rY (P:Params):Obj:=⟨.type "code",none,.fields #[.str "pack_closed" 563,.str "pack_closed" 564,.str "/claim/cut.py" 565,.int 157 0,.int 3 0,.int 0 0,.int 0 0,.int 3 0,.ref 256,.bool true,.int 181 0,.ref 257,.none,.ref 258,.ref 259,.ref 260,.int 570 0,.int 157 0,.str "/claim/cut.py" 571],#[]⟩
noncomputable def rZ (P:Params):Obj:=⟨.type "function",none,fO "pack_closed" "pack_closed" (aK 28) 3 .none .none (.str "gitcore.packs" 392) (.ref 261),#[]⟩
noncomputable def r7 (P:Params):Obj:=⟨.type "tuple",none,.seq #[.bool true] 0,#[]⟩
noncomputable def wD (P:Params):Obj:=⟨.type "tuple",none,.seq #[] 0,#[]⟩
noncomputable def wF (P:Params):Obj:=⟨.none,none,.fields #[],#[]⟩
noncomputable def wG (P:Params):Obj:=⟨.type "tuple",none,.seq #[.str "entries" 576,.str "hasher" 577,.str "codec" 578,.str "by_offset" 579,.str "builder" 580,.str "entry" 581] 0,#[]⟩
noncomputable def wH (P:Params):Obj:=⟨.type "tuple",none,.seq #[] 0,#[]⟩
noncomputable def wI (P:Params):Obj:=⟨.none,none,fO "write_pack" "write_pack" (aK 29) 0 .none .none .none .none,#[]⟩
noncomputable def r8 (P:Params):Obj:=⟨.type "code",none,.fields #[.str "write_pack" 573,.str "write_pack" 574,.str "/claim/cut.py" 575,.int 160 0,.int 4 0,.int 0 0,.int 0 0,.int 3 0,.ref 264,.bool true,.int 181 0,.ref 265,.none,.ref 266,.ref 267,.ref 268,.int 582 0,.int 160 0,.str "/claim/cut.py" 583],#[]⟩
noncomputable def r9 (P:Params):Obj:=⟨.type "function",none,fO "write_pack" "write_pack" (aK 29) 3 (.ref 263) .none (.str "gitcore.packs" 392) (.ref 269),#[]⟩
noncomputable def tr9 (P:Params):BT:=(.node (jW P) (.node (kW P) (.node (o3v9 P) (.node (mF P) (.node (fH P) (.node (eO P) (.node (lX P) (.node (j0 P) (lf (vZ P)) .nil) (lf (nN P))) (.node (mM P) (lf (hZ P)) (lf (vD P)))) (.node (iN P) (.node (oO P) (lf (kC P)) (lf (nS P))) (.node (gP P) (lf (nI P)) (lf (vP P))))) (.node (fR P) (.node (iH P) (.node (mE P) (.node (j6 P) (lf (r7 P)) .nil) (lf (rD P))) (.node (gJ P) (lf (iC P)) (lf (vJ P)))) (.node (jO P) (.node (mI P) (lf (hJ P)) (lf (u5 P))) (.node (gW P) (lf (nM P)) (lf (rU P)))))) (.node (d1 P) (.node (fN P) (.node (f5 P) (.node (mB P) (.node (j2 P) (lf (wB P)) .nil) (lf (rB P))) (.node (o9 P) (lf (kR P)) (lf (rP P)))) (.node (jK P) (.node (oQ P) (lf (kF P)) (lf (rL P))) (.node (e7 P) (lf (qO P)) (lf (vR P))))) (.node (fW P) (.node (iL P) (.node (oJ P) (.node (j8 P) (lf (wH P)) .nil) (lf (rH P))) (.node (gN P) (lf (qI P)) (lf (vL P)))) (.node (jQ P) (.node (oX P) (lf (kM P)) (lf (vA P))) (.node (fA P) (lf (qU P)) (lf (rX P))))))) (.node (lT P) (.node (mN P) (.node (fK P) (.node (fY P) (.node (lZ P) (.node (gZ P) (lf (v9 P)) .nil) (lf (qZ P))) (.node (o7 P) (lf (iA P)) (lf (vF P)))) (.node (jI P) (.node (mH P) (lf (g9 P)) (lf (rJ P))) (.node (gR P) (lf (qM P)) (lf (rT P))))) (.node (fU P) (.node (iJ P) (.node (oG P) (.node (g8 P) (lf (wF P)) .nil) (lf (rF P))) (.node (gL P) (lf (kV P)) (lf (rQ P)))) (.node (iP P) (.node (oV P) (lf (kJ P)) (lf (u7 P))) (.node (gY P) (lf (qS P)) (lf (vV P)))))) (.node (d2 P) (.node (fQ P) (.node (iF P) (.node (jS P) (.node (j4 P) (lf (rY P)) .nil) (lf (nO P))) (.node (eX P) (lf (kT P)) (lf (vH P)))) (.node (jM P) (.node (oS P) (lf (kH P)) (lf (u0 P))) (.node (gU P) (lf (qQ P)) (lf (vT P))))) (.node (eN P) (.node (f7 P) (.node (oL P) (.node (kA P) (lf (r8 P)) .nil) (lf (nR P))) (.node (e5 P) (lf (qK P)) (lf (vN P)))) (.node (lV P) (.node (oZ P) (lf (kP P)) (lf (vB P))) (.node (jY P) (lf (qW P)) (lf (vX P)))))))) (.node (nV P) (.node (lS P) (.node (mK P) (.node (fJ P) (.node (lR P) (.node (lY P) (.node (j1 P) (lf (v8 P)) .nil) (lf (qY P))) (.node (o5 P) (lf (kQ P)) (lf (vE P)))) (.node (jH P) (.node (mG P) (lf (kD P)) (lf (nU P))) (.node (gQ P) (lf (nJ P)) (lf (rS P))))) (.node (fS P) (.node (iI P) (.node (oF P) (.node (g7 P) (lf (wD P)) .nil) (lf (rE P))) (.node (gK P) (lf (iD P)) (lf (vK P)))) (.node (iO P) (.node (mJ P) (lf (hU P)) (lf (u6 P))) (.node (gX P) (lf (qR P)) (lf (rV P)))))) (.node (o12v8 P) (.node (fP P) (.node (iE P) (.node (jR P) (.node (j3 P) (lf (wC P)) .nil) (lf (rC P))) (.node (gI P) (lf (kS P)) (lf (vG P)))) (.node (jL P) (.node (oR P) (lf (kG P)) (lf (rM P))) (.node (e8 P) (lf (qP P)) (lf (vS P))))) (.node (eM P) (.node (f6 P) (.node (oK P) (.node (j9 P) (lf (wI P)) .nil) (lf (nQ P))) (.node (eZ P) (lf (qJ P)) (lf (vM P)))) (.node (lU P) (.node (oY P) (lf (kN P)) (lf (rN P))) (.node (jX P) (lf (qV P)) (lf (vW P))))))) (.node (mC P) (.node (d0 P) (.node (fM P) (.node (fZ P) (.node (mA P) (.node (g6 P) (lf (wA P)) .nil) (lf (rA P))) (.node (o8 P) (lf (iB P)) (lf (rO P)))) (.node (jJ P) (.node (oP P) (lf (kE P)) (lf (rK P))) (.node (gS P) (lf (qN P)) (lf (vQ P))))) (.node (fV P) (.node (iK P) (.node (oH P) (.node (j7 P) (lf (wG P)) .nil) (lf (rG P))) (.node (gM P) (lf (qH P)) (lf (rR P)))) (.node (jP P) (.node (oW P) (lf (kK P)) (lf (u9 P))) (.node (e9 P) (lf (qT P)) (lf (rW P)))))) (.node (d3 P) (.node (eL P) (.node (iG P) (.node (mD P) (.node (j5 P) (lf (rZ P)) .nil) (lf (nP P))) (.node (eY P) (lf (kU P)) (lf (vI P)))) (.node (jN P) (.node (oU P) (lf (kI P)) (lf (u4 P))) (.node (gV P) (lf (nK P)) (lf (vU P))))) (.node (fX P) (.node (iM P) (.node (oM P) (.node (kB P) (lf (r9 P)) .nil) (lf (rI P))) (.node (gO P) (lf (qL P)) (lf (vO P)))) (.node (lW P) (.node (mL P) (lf (hV P)) (lf (vC P))) (.node (jZ P) (lf (qX P)) (lf (vY P)))))))))
noncomputable def gr8:List Stmt:=[aK 27,aK 28,aK 29]
noncomputable def ps8:Pos:=⟨160,0,164,26⟩
theorem pc8 (w:World) (os:OsState):segRunT treeTable pw w 11 cZ 1 398 ⟨tr8 w.params,213,{},#[],{},499,os⟩ (piecesOf gr8 aP (.body dV aP) ps7 [topFrame pq])=some (.next,⟨tr9 w.params,271,{},#[],{},585,os⟩,.body dV aP,ps8):=by
  unfold piecesOf gr8
  rw [PySem.W.Fast.te10110043849684766642,PySem.W.Fast.te14364793385576792824,PySem.W.Fast.te12563942051412417395]
  kernel_rfl
noncomputable def o3v10 (P:Params):Obj:=⟨.type "dict",none,.dict #[kh P "__name__" 165 (.str "gitcore.packs" 392),kh P "__doc__" 166 .none,kh P "__package__" 167 .none,kh P "__loader__" 168 (.builtin "__main__.__loader__#opaque"),kh P "__spec__" 169 .none,kh P "__annotations__" 170 (.ref 6),kh P "__builtins__" 171 (.ref 4),kh P "__file__" 173 (.str "/claim/cut.py" 172),kh P "__cached__" 174 .none,kh P "GitError" 218 (.ref 32),kh P "BadObject" 234 (.ref 45),kh P "BadBits" 250 (.ref 57),kh P "BadDelta" 266 (.ref 69),kh P "BadPack" 282 (.ref 81),kh P "big_endian" 288 (.ref 88),kh P "be32" 295 (.ref 95),kh P "at_big_endian" 306 (.ref 102),kh P "at_be32" 314 (.ref 109),kh P "put_size" 322 (.ref 116),kh P "at_size" 333 (.ref 123),kh P "put_offset" 341 (.ref 130),kh P "at_offset" 351 (.ref 137),kh P "CountingHasher" 391 (.ref 162),kh P "PACK_SIGN" 395 (.bytes #[80,65,67,75] 394),kh P "PACK_VERSION" 397 (.int 2 396),kh P "PACK_VERSIONS_READ" 400 (.ref 167),kh P "PACK_HEAD_SIZE" 402 (.int 12 401),kh P "OFFSET_DELTA" 404 (.int 6 403),kh P "ID_DELTA" 406 (.int 7 405),kh P "KIND_NUMBERS" 419 (.ref 168),kh P "NUMBER_KINDS" 432 (.ref 169),kh P "entry_head" 442 (.ref 176),kh P "at_entry_head" 454 (.ref 183),kh P "PackEntry" 498 (.ref 208),kh P "PackBuilder" 562 (.ref 251),kh P "pack_closed" 572 (.ref 262),kh P "write_pack" 584 (.ref 270),kh P "Scanned" 632 (.ref 294),kh P "pack_count" 641 (.ref 305),kh P "pack_unpacked" 653 (.ref 312),kh P "scan_entry" 672 (.ref 319)] 41,#[]⟩
noncomputable def o12v9 (P:Params):Obj:=⟨.none,none,.fields #[.int 2 0,.int 0 0,.ref 20,.int 6 0,.int 0 0,.ref 41,.int 8 0,.int 0 0,.ref 53,.int 10 0,.int 0 0,.ref 65,.int 12 0,.int 0 0,.ref 77,.int 14 0,.int 0 0,.ref 87,.int 16 0,.int 0 0,.ref 94,.int 18 0,.int 0 0,.ref 101,.int 25 0,.int 0 0,.ref 108,.int 27 0,.int 0 0,.ref 115,.int 34 0,.int 0 0,.ref 122,.int 46 0,.int 0 0,.ref 129,.int 54 0,.int 0 0,.ref 136,.int 64 0,.int 0 0,.ref 143,.int 84 0,.int 0 0,.ref 175,.int 94 0,.int 0 0,.ref 182,.int 112 0,.int 0 0,.ref 189,.int 123 0,.int 0 0,.ref 218,.int 157 0,.int 0 0,.ref 261,.int 160 0,.int 0 0,.ref 269,.int 165 0,.int 0 0,.ref 276,.int 178 0,.int 0 0,.ref 304,.int 187 0,.int 0 0,.ref 311,.int 197 0,.int 0 0,.ref 318],#[]⟩
noncomputable def zH (P:Params):Obj:=⟨.type "tuple",none,.seq #[] 0,#[]⟩
noncomputable def zI (P:Params):Obj:=⟨.type "builtin_function_or_method",none,.fields #[.builtin "type.__prepare__",.type "type"],#[]⟩
noncomputable def zJ (P:Params):Obj:=⟨.type "dict",none,.dict #[kh P "__module__" 592 (.str "gitcore.packs" 392),kh P "__qualname__" 594 (.str "Scanned" 593),kh P "__firstlineno__" 596 (.int 165 595),kh P "__init__" 610 (.ref 284),kh P "is_delta" 617 (.ref 291),kh P "__static_attributes__" 625 (.ref 292)] 6,#[]⟩
noncomputable def zK (P:Params):Obj:=⟨.type "tuple",none,.seq #[] 0,#[]⟩
noncomputable def zL (P:Params):Obj:=⟨.none,none,.fields #[.int 167 0,.int 4 0,.ref 283,.int 176 0,.int 4 0,.ref 290],#[]⟩
noncomputable def zM (P:Params):Obj:=⟨.type "code",none,.fields #[.str "Scanned" 587,.str "Scanned" 588,.str "/claim/cut.py" 589,.int 165 0,.int 0 0,.int 0 0,.int 0 0,.int 0 0,.ref 274,.bool false,.int 181 0,.ref 275,.none,.none,.none,.none,.int 590 0,.int 165 0,.str "/claim/cut.py" 591],#[]⟩
noncomputable def zN (P:Params):Obj:=⟨.type "frame",none,.plain,#[some (.ref 276),some (.ref 3),some (.ref 273),none,some (.str "gitcore.packs" 392),none,some (.ref 0)]⟩
noncomputable def zO (P:Params):Obj:=⟨.type "tuple",none,.seq #[] 0,#[]⟩
noncomputable def zP (P:Params):Obj:=⟨.none,none,.fields #[],#[]⟩
noncomputable def zQ (P:Params):Obj:=⟨.type "tuple",none,.seq #[.str "self" 600,.str "at" 601,.str "number" 602,.str "size" 603,.str "base_at" 604,.str "base_id" 605,.str "data" 606,.str "behind" 607] 0,#[]⟩
noncomputable def zR (P:Params):Obj:=⟨.type "tuple",none,.seq #[] 0,#[]⟩
noncomputable def zS (P:Params):Obj:=⟨.none,none,fO "__init__" "Scanned.__init__" (aW 30 0) 0 .none .none .none .none,#[]⟩
noncomputable def wJ (P:Params):Obj:=⟨.type "code",none,.fields #[.str "__init__" 597,.str "Scanned.__init__" 598,.str "/claim/cut.py" 599,.int 167 0,.int 8 0,.int 0 0,.int 0 0,.int 3 0,.ref 278,.bool true,.int 181 0,.ref 279,.none,.ref 280,.ref 281,.ref 282,.int 608 0,.int 167 0,.str "/claim/cut.py" 609],#[]⟩
noncomputable def wK (P:Params):Obj:=⟨.type "function",none,fO "__init__" "Scanned.__init__" (aW 30 0) 3 .none .none (.str "gitcore.packs" 392) (.ref 283),#[]⟩
noncomputable def zT (P:Params):Obj:=⟨.type "tuple",none,.seq #[] 0,#[]⟩
noncomputable def zU (P:Params):Obj:=⟨.none,none,.fields #[],#[]⟩
noncomputable def zV (P:Params):Obj:=⟨.type "tuple",none,.seq #[.str "self" 614] 0,#[]⟩
noncomputable def zW (P:Params):Obj:=⟨.type "tuple",none,.seq #[] 0,#[]⟩
noncomputable def zX (P:Params):Obj:=⟨.none,none,fO "is_delta" "Scanned.is_delta" (aW 30 1) 0 .none .none .none .none,#[]⟩
noncomputable def wL (P:Params):Obj:=⟨.type "code",none,.fields #[.str "is_delta" 611,.str "Scanned.is_delta" 612,.str "/claim/cut.py" 613,.int 176 0,.int 1 0,.int 0 0,.int 0 0,.int 3 0,.ref 285,.bool true,.int 181 0,.ref 286,.none,.ref 287,.ref 288,.ref 289,.int 615 0,.int 176 0,.str "/claim/cut.py" 616],#[]⟩
noncomputable def wM (P:Params):Obj:=⟨.type "function",none,fO "is_delta" "Scanned.is_delta" (aW 30 1) 3 .none .none (.str "gitcore.packs" 392) (.ref 290),#[]⟩
noncomputable def zY (P:Params):Obj:=⟨.type "tuple",none,.seq #[.str "at" 618,.str "base_at" 619,.str "base_id" 620,.str "behind" 621,.str "data" 622,.str "number" 623,.str "size" 624] 0,#[]⟩
noncomputable def wN (P:Params):Obj:=⟨.type "dict",none,.dict #[kh P "__module__" 592 (.str "gitcore.packs" 392),kh P "__firstlineno__" 596 (.int 165 595),kh P "__init__" 610 (.ref 284),kh P "is_delta" 617 (.ref 291),kh P "__static_attributes__" 625 (.ref 292),kh P "__dict__" 627 (.ref 295),kh P "__weakref__" 629 (.ref 296),kh P "__doc__" 630 .none] 4,#[]⟩
noncomputable def wO (P:Params):Obj:=⟨.type "type",none,.cls { name:="Scanned",bases:=[.type "object"],mro:=[.ref 294,.type "object"],ns:=293,qualname:="Scanned",hasDict:=true,slotNames:=[],subclasses:=[],abstract:=false,collection:=none,hasDel:=false },#[none,none,some (.str "Scanned" 585),some (.str "Scanned" 593),some (.builtin "object.__new__"),some (.bool true)]⟩
noncomputable def zZ (P:Params):Obj:=⟨.type "getset_descriptor",none,.fields #[.str "__dict__" 626,.ref 294,.builtin "function.__dict__",.builtin "function.__dict__#set"],#[]⟩
noncomputable def z0 (P:Params):Obj:=⟨.type "getset_descriptor",none,.fields #[.str "__weakref__" 628,.ref 294,.builtin "ExceptionGroup.__weakref__",.none],#[]⟩
noncomputable def z3 (P:Params):Obj:=⟨.type "super",none,.fields #[.ref 294,.ref 294,.ref 294],#[]⟩
noncomputable def z4 (P:Params):Obj:=⟨.type "builtin_function_or_method",none,.fields #[.builtin "object.__init_subclass__",.ref 294],#[]⟩
noncomputable def z5 (P:Params):Obj:=⟨.type "tuple",none,.seq #[] 0,#[]⟩
noncomputable def z6 (P:Params):Obj:=⟨.none,none,.fields #[],#[]⟩
noncomputable def z7 (P:Params):Obj:=⟨.type "tuple",none,.seq #[.str "octets" 636,.str "hasher" 637,.str "end" 638] 0,#[]⟩
noncomputable def z8 (P:Params):Obj:=⟨.type "tuple",none,.seq #[] 0,#[]⟩
noncomputable def z9 (P:Params):Obj:=⟨.none,none,fO "pack_count" "pack_count" (aK 31) 0 .none .none .none .none,#[]⟩
noncomputable def wQ (P:Params):Obj:=⟨.type "code",none,.fields #[.str "pack_count" 633,.str "pack_count" 634,.str "/claim/cut.py" 635,.int 178 0,.int 2 0,.int 0 0,.int 0 0,.int 3 0,.ref 299,.bool true,.int 181 0,.ref 300,.none,.ref 301,.ref 302,.ref 303,.int 639 0,.int 178 0,.str "/claim/cut.py" 640],#[]⟩
noncomputable def wR (P:Params):Obj:=⟨.type "function",none,fO "pack_count" "pack_count" (aK 31) 3 .none .none (.str "gitcore.packs" 392) (.ref 304),#[]⟩
noncomputable def AA (P:Params):Obj:=⟨.type "tuple",none,.seq #[] 0,#[]⟩
noncomputable def AB (P:Params):Obj:=⟨.none,none,.fields #[],#[]⟩
noncomputable def AD (P:Params):Obj:=⟨.type "tuple",none,.seq #[.str "codec" 645,.str "octets" 646,.str "at" 647,.str "found" 648,.str "words" 649,.str "e" 650] 0,#[]⟩
noncomputable def AE (P:Params):Obj:=⟨.type "tuple",none,.seq #[] 0,#[]⟩
noncomputable def AF (P:Params):Obj:=⟨.none,none,fO "pack_unpacked" "pack_unpacked" (aK 32) 0 .none .none .none .none,#[]⟩
noncomputable def wU (P:Params):Obj:=⟨.type "code",none,.fields #[.str "pack_unpacked" 642,.str "pack_unpacked" 643,.str "/claim/cut.py" 644,.int 187 0,.int 3 0,.int 0 0,.int 0 0,.int 3 0,.ref 306,.bool true,.int 181 0,.ref 307,.none,.ref 308,.ref 309,.ref 310,.int 651 0,.int 187 0,.str "/claim/cut.py" 652],#[]⟩
noncomputable def wV (P:Params):Obj:=⟨.type "function",none,fO "pack_unpacked" "pack_unpacked" (aK 32) 3 .none .none (.str "gitcore.packs" 392) (.ref 311),#[]⟩
noncomputable def AG (P:Params):Obj:=⟨.type "tuple",none,.seq #[] 0,#[]⟩
noncomputable def AH (P:Params):Obj:=⟨.none,none,.fields #[],#[]⟩
noncomputable def AI (P:Params):Obj:=⟨.type "tuple",none,.seq #[.str "body" 657,.str "at" 658,.str "hasher" 659,.str "codec" 660,.str "starts" 661,.str "number" 662,.str "size" 663,.str "spot" 664,.str "base_at" 665,.str "base_id" 666,.str "back" 667,.str "data" 668,.str "after" 669] 0,#[]⟩
noncomputable def AJ (P:Params):Obj:=⟨.type "tuple",none,.seq #[] 0,#[]⟩
noncomputable def AK (P:Params):Obj:=⟨.none,none,fO "scan_entry" "scan_entry" (aK 33) 0 .none .none .none .none,#[]⟩
noncomputable def wW (P:Params):Obj:=⟨.type "code",none,.fields #[.str "scan_entry" 654,.str "scan_entry" 655,.str "/claim/cut.py" 656,.int 197 0,.int 5 0,.int 0 0,.int 0 0,.int 3 0,.ref 313,.bool true,.int 181 0,.ref 314,.none,.ref 315,.ref 316,.ref 317,.int 670 0,.int 197 0,.str "/claim/cut.py" 671],#[]⟩
noncomputable def wX (P:Params):Obj:=⟨.type "function",none,fO "scan_entry" "scan_entry" (aK 33) 3 .none .none (.str "gitcore.packs" 392) (.ref 318),#[]⟩
noncomputable def tr10 (P:Params):BT:=(.node (jW P) (.node (kW P) (.node (o3v10 P) (.node (mF P) (.node (fH P) (.node (eO P) (.node (lX P) (.node (j0 P) (lf (vZ P)) .nil) (.node (nN P) (lf (wX P)) .nil)) (.node (mM P) (.node (hZ P) (lf (zV P)) .nil) (lf (vD P)))) (.node (iN P) (.node (oO P) (.node (kC P) (lf (zH P)) .nil) (lf (nS P))) (.node (gP P) (.node (nI P) (lf (z9 P)) .nil) (lf (vP P))))) (.node (fR P) (.node (iH P) (.node (mE P) (.node (j6 P) (lf (r7 P)) .nil) (lf (rD P))) (.node (gJ P) (.node (iC P) (lf (zZ P)) .nil) (lf (vJ P)))) (.node (jO P) (.node (mI P) (.node (hJ P) (lf (zP P)) .nil) (lf (u5 P))) (.node (gW P) (.node (nM P) (lf (wU P)) .nil) (lf (rU P)))))) (.node (d1 P) (.node (fN P) (.node (f5 P) (.node (mB P) (.node (j2 P) (lf (wB P)) .nil) (lf (rB P))) (.node (o9 P) (.node (kR P) (lf (wM P)) .nil) (lf (rP P)))) (.node (jK P) (.node (oQ P) (.node (kF P) (lf (zL P)) .nil) (lf (rL P))) (.node (e7 P) (.node (qO P) (lf (AB P)) .nil) (lf (vR P))))) (.node (fW P) (.node (iL P) (.node (oJ P) (.node (j8 P) (lf (wH P)) .nil) (lf (rH P))) (.node (gN P) (.node (qI P) (lf (z5 P)) .nil) (lf (vL P)))) (.node (jQ P) (.node (oX P) (.node (kM P) (lf (wJ P)) .nil) (lf (vA P))) (.node (fA P) (.node (qU P) (lf (AI P)) .nil) (lf (rX P))))))) (.node (lT P) (.node (mN P) (.node (fK P) (.node (fY P) (.node (lZ P) (.node (gZ P) (lf (v9 P)) .nil) (lf (qZ P))) (.node (o7 P) (.node (iA P) (lf (zX P)) .nil) (lf (vF P)))) (.node (jI P) (.node (mH P) (.node (g9 P) (lf (zJ P)) .nil) (lf (rJ P))) (.node (gR P) (.node (qM P) (lf (wR P)) .nil) (lf (rT P))))) (.node (fU P) (.node (iJ P) (.node (oG P) (.node (g8 P) (lf (wF P)) .nil) (lf (rF P))) (.node (gL P) (.node (kV P) (lf (z3 P)) .nil) (lf (rQ P)))) (.node (iP P) (.node (oV P) (.node (kJ P) (lf (zR P)) .nil) (lf (u7 P))) (.node (gY P) (.node (qS P) (lf (AG P)) .nil) (lf (vV P)))))) (.node (d2 P) (.node (fQ P) (.node (iF P) (.node (jS P) (.node (j4 P) (lf (rY P)) .nil) (lf (nO P))) (.node (eX P) (.node (kT P) (lf (wN P)) .nil) (lf (vH P)))) (.node (jM P) (.node (oS P) (.node (kH P) (lf (zN P)) .nil) (lf (u0 P))) (.node (gU P) (.node (qQ P) (lf (AE P)) .nil) (lf (vT P))))) (.node (eN P) (.node (f7 P) (.node (oL P) (.node (kA P) (lf (r8 P)) .nil) (lf (nR P))) (.node (e5 P) (.node (qK P) (lf (z7 P)) .nil) (lf (vN P)))) (.node (lV P) (.node (oZ P) (.node (kP P) (lf (zT P)) .nil) (lf (vB P))) (.node (jY P) (.node (qW P) (lf (AK P)) .nil) (lf (vX P)))))))) (.node (nV P) (.node (lS P) (.node (mK P) (.node (fJ P) (.node (lR P) (.node (lY P) (.node (j1 P) (lf (v8 P)) .nil) (lf (qY P))) (.node (o5 P) (.node (kQ P) (lf (zW P)) .nil) (lf (vE P)))) (.node (jH P) (.node (mG P) (.node (kD P) (lf (zI P)) .nil) (lf (nU P))) (.node (gQ P) (.node (nJ P) (lf (wQ P)) .nil) (lf (rS P))))) (.node (fS P) (.node (iI P) (.node (oF P) (.node (g7 P) (lf (wD P)) .nil) (lf (rE P))) (.node (gK P) (.node (iD P) (lf (z0 P)) .nil) (lf (vK P)))) (.node (iO P) (.node (mJ P) (.node (hU P) (lf (zQ P)) .nil) (lf (u6 P))) (.node (gX P) (.node (qR P) (lf (wV P)) .nil) (lf (rV P)))))) (.node (o12v9 P) (.node (fP P) (.node (iE P) (.node (jR P) (.node (j3 P) (lf (wC P)) .nil) (lf (rC P))) (.node (gI P) (.node (kS P) (lf (zY P)) .nil) (lf (vG P)))) (.node (jL P) (.node (oR P) (.node (kG P) (lf (zM P)) .nil) (lf (rM P))) (.node (e8 P) (.node (qP P) (lf (AD P)) .nil) (lf (vS P))))) (.node (eM P) (.node (f6 P) (.node (oK P) (.node (j9 P) (lf (wI P)) .nil) (lf (nQ P))) (.node (eZ P) (.node (qJ P) (lf (z6 P)) .nil) (lf (vM P)))) (.node (lU P) (.node (oY P) (.node (kN P) (lf (wK P)) .nil) (lf (rN P))) (.node (jX P) (.node (qV P) (lf (AJ P)) .nil) (lf (vW P))))))) (.node (mC P) (.node (d0 P) (.node (fM P) (.node (fZ P) (.node (mA P) (.node (g6 P) (lf (wA P)) .nil) (lf (rA P))) (.node (o8 P) (.node (iB P) (lf (wL P)) .nil) (lf (rO P)))) (.node (jJ P) (.node (oP P) (.node (kE P) (lf (zK P)) .nil) (lf (rK P))) (.node (gS P) (.node (qN P) (lf (AA P)) .nil) (lf (vQ P))))) (.node (fV P) (.node (iK P) (.node (oH P) (.node (j7 P) (lf (wG P)) .nil) (lf (rG P))) (.node (gM P) (.node (qH P) (lf (z4 P)) .nil) (lf (rR P)))) (.node (jP P) (.node (oW P) (.node (kK P) (lf (zS P)) .nil) (lf (u9 P))) (.node (e9 P) (.node (qT P) (lf (AH P)) .nil) (lf (rW P)))))) (.node (d3 P) (.node (eL P) (.node (iG P) (.node (mD P) (.node (j5 P) (lf (rZ P)) .nil) (lf (nP P))) (.node (eY P) (.node (kU P) (lf (wO P)) .nil) (lf (vI P)))) (.node (jN P) (.node (oU P) (.node (kI P) (lf (zO P)) .nil) (lf (u4 P))) (.node (gV P) (.node (nK P) (lf (AF P)) .nil) (lf (vU P))))) (.node (fX P) (.node (iM P) (.node (oM P) (.node (kB P) (lf (r9 P)) .nil) (lf (rI P))) (.node (gO P) (.node (qL P) (lf (z8 P)) .nil) (lf (vO P)))) (.node (lW P) (.node (mL P) (.node (hV P) (lf (zU P)) .nil) (lf (vC P))) (.node (jZ P) (.node (qX P) (lf (wW P)) .nil) (lf (vY P)))))))))
noncomputable def gr9:List Stmt:=[aK 30,aK 31,aK 32,aK 33]
noncomputable def ps9:Pos:=⟨197,0,216,67⟩
theorem pc9 (w:World) (os:OsState):segRunT treeTable pw w 11 cZ 1 372 ⟨tr9 w.params,271,{},#[],{},585,os⟩ (piecesOf gr9 aP (.body dV aP) ps8 [topFrame pq])=some (.next,⟨tr10 w.params,320,{},#[],{},673,os⟩,.body dV aP,ps9):=by
  unfold piecesOf gr9
  rw [PySem.W.Fast.te10110043849684766642,PySem.W.Fast.te14364793385576792824,PySem.W.Fast.te12563942051412417395]
  kernel_rfl
noncomputable def o3v11 (P:Params):Obj:=⟨.type "dict",none,.dict #[kh P "__name__" 165 (.str "law_nt0281_01" 730),kh P "__doc__" 166 .none,kh P "__package__" 167 .none,kh P "__loader__" 168 (.builtin "__main__.__loader__#opaque"),kh P "__spec__" 169 .none,kh P "__annotations__" 170 (.ref 6),kh P "__builtins__" 171 (.ref 4),kh P "__file__" 173 (.str "/claim/cut.py" 172),kh P "__cached__" 174 .none,kh P "GitError" 218 (.ref 32),kh P "BadObject" 234 (.ref 45),kh P "BadBits" 250 (.ref 57),kh P "BadDelta" 266 (.ref 69),kh P "BadPack" 282 (.ref 81),kh P "big_endian" 288 (.ref 88),kh P "be32" 295 (.ref 95),kh P "at_big_endian" 306 (.ref 102),kh P "at_be32" 314 (.ref 109),kh P "put_size" 322 (.ref 116),kh P "at_size" 333 (.ref 123),kh P "put_offset" 341 (.ref 130),kh P "at_offset" 351 (.ref 137),kh P "CountingHasher" 391 (.ref 162),kh P "PACK_SIGN" 395 (.bytes #[80,65,67,75] 394),kh P "PACK_VERSION" 397 (.int 2 396),kh P "PACK_VERSIONS_READ" 400 (.ref 167),kh P "PACK_HEAD_SIZE" 402 (.int 12 401),kh P "OFFSET_DELTA" 404 (.int 6 403),kh P "ID_DELTA" 406 (.int 7 405),kh P "KIND_NUMBERS" 419 (.ref 168),kh P "NUMBER_KINDS" 432 (.ref 169),kh P "entry_head" 442 (.ref 176),kh P "at_entry_head" 454 (.ref 183),kh P "PackEntry" 498 (.ref 208),kh P "PackBuilder" 562 (.ref 251),kh P "pack_closed" 572 (.ref 262),kh P "write_pack" 584 (.ref 270),kh P "Scanned" 632 (.ref 294),kh P "pack_count" 641 (.ref 305),kh P "pack_unpacked" 653 (.ref 312),kh P "scan_entry" 672 (.ref 319),kh P "scan_pack" 687 (.ref 326),kh P "StoredCodec" 729 (.ref 351),kh P "_law_draw" 743 (.ref 362),kh P "_law_head" 753 (.ref 369)] 45,#[]⟩
noncomputable def PH (P:Params):Obj:=⟨.none,none,.fields #[.int 2 0,.int 0 0,.ref 20,.int 6 0,.int 0 0,.ref 41,.int 8 0,.int 0 0,.ref 53,.int 10 0,.int 0 0,.ref 65,.int 12 0,.int 0 0,.ref 77,.int 14 0,.int 0 0,.ref 87,.int 16 0,.int 0 0,.ref 94,.int 18 0,.int 0 0,.ref 101,.int 25 0,.int 0 0,.ref 108,.int 27 0,.int 0 0,.ref 115,.int 34 0,.int 0 0,.ref 122,.int 46 0,.int 0 0,.ref 129,.int 54 0,.int 0 0,.ref 136,.int 64 0,.int 0 0,.ref 143,.int 84 0,.int 0 0,.ref 175,.int 94 0,.int 0 0,.ref 182,.int 112 0,.int 0 0,.ref 189,.int 123 0,.int 0 0,.ref 218,.int 157 0,.int 0 0,.ref 261,.int 160 0,.int 0 0,.ref 269,.int 165 0,.int 0 0,.ref 276,.int 178 0,.int 0 0,.ref 304,.int 187 0,.int 0 0,.ref 311,.int 197 0,.int 0 0,.ref 318,.int 217 0,.int 0 0,.ref 325,.int 234 0,.int 0 0,.ref 332,.int 248 0,.int 0 0,.ref 361,.int 257 0,.int 0 0,.ref 368],#[]⟩
noncomputable def FO (P:Params):Obj:=⟨.type "tuple",none,.seq #[] 0,#[]⟩
noncomputable def FP (P:Params):Obj:=⟨.none,none,.fields #[],#[]⟩
noncomputable def FQ (P:Params):Obj:=⟨.type "tuple",none,.seq #[.str "octets" 676,.str "hasher" 677,.str "codec" 678,.str "count" 679,.str "body" 680,.str "found" 681,.str "starts" 682,.str "at" 683,.str "one" 684] 0,#[]⟩
noncomputable def FR (P:Params):Obj:=⟨.type "tuple",none,.seq #[] 0,#[]⟩
noncomputable def FT (P:Params):Obj:=⟨.none,none,fO "scan_pack" "scan_pack" (aK 34) 0 .none .none .none .none,#[]⟩
noncomputable def AL (P:Params):Obj:=⟨.type "code",none,.fields #[.str "scan_pack" 673,.str "scan_pack" 674,.str "/claim/cut.py" 675,.int 217 0,.int 3 0,.int 0 0,.int 0 0,.int 3 0,.ref 320,.bool true,.int 181 0,.ref 321,.none,.ref 322,.ref 323,.ref 324,.int 685 0,.int 217 0,.str "/claim/cut.py" 686],#[]⟩
noncomputable def AM (P:Params):Obj:=⟨.type "function",none,fO "scan_pack" "scan_pack" (aK 34) 3 .none .none (.str "gitcore.packs" 392) (.ref 325),#[]⟩
noncomputable def FU (P:Params):Obj:=⟨.type "tuple",none,.seq #[] 0,#[]⟩
noncomputable def FV (P:Params):Obj:=⟨.type "builtin_function_or_method",none,.fields #[.builtin "type.__prepare__",.type "type"],#[]⟩
noncomputable def FW (P:Params):Obj:=⟨.type "dict",none,.dict #[kh P "__module__" 697 (.str "gitcore.deflate" 688),kh P "__qualname__" 699 (.str "StoredCodec" 698),kh P "__firstlineno__" 701 (.int 234 700),kh P "pack" 709 (.ref 340),kh P "unpack" 721 (.ref 348),kh P "__static_attributes__" 722 (.ref 349)] 6,#[]⟩
noncomputable def FX (P:Params):Obj:=⟨.type "tuple",none,.seq #[] 0,#[]⟩
noncomputable def FY (P:Params):Obj:=⟨.none,none,.fields #[.int 236 0,.int 4 0,.ref 339,.int 239 0,.int 4 0,.ref 347],#[]⟩
noncomputable def FZ (P:Params):Obj:=⟨.type "code",none,.fields #[.str "StoredCodec" 692,.str "StoredCodec" 693,.str "/claim/cut.py" 694,.int 234 0,.int 0 0,.int 0 0,.int 0 0,.int 0 0,.ref 330,.bool false,.int 181 0,.ref 331,.none,.none,.none,.none,.int 695 0,.int 234 0,.str "/claim/cut.py" 696],#[]⟩
noncomputable def F6 (P:Params):Obj:=⟨.type "frame",none,.plain,#[some (.ref 332),some (.ref 3),some (.ref 329),none,some (.str "gitcore.deflate" 688),none,some (.ref 0)]⟩
noncomputable def F8 (P:Params):Obj:=⟨.type "tuple",none,.seq #[] 0,#[]⟩
noncomputable def GA (P:Params):Obj:=⟨.none,none,.fields #[],#[]⟩
noncomputable def GB (P:Params):Obj:=⟨.type "tuple",none,.seq #[.str "self" 705,.str "octets" 706] 0,#[]⟩
noncomputable def GC (P:Params):Obj:=⟨.type "tuple",none,.seq #[] 0,#[]⟩
noncomputable def GD (P:Params):Obj:=⟨.none,none,fO "pack" "StoredCodec.pack" (aW 36 0) 0 .none .none .none .none,#[]⟩
noncomputable def AN (P:Params):Obj:=⟨.type "code",none,.fields #[.str "pack" 702,.str "StoredCodec.pack" 703,.str "/claim/cut.py" 704,.int 236 0,.int 2 0,.int 0 0,.int 0 0,.int 3 0,.ref 334,.bool true,.int 181 0,.ref 335,.none,.ref 336,.ref 337,.ref 338,.int 707 0,.int 236 0,.str "/claim/cut.py" 708],#[]⟩
noncomputable def AO (P:Params):Obj:=⟨.type "function",none,fO "pack" "StoredCodec.pack" (aW 36 0) 3 .none .none (.str "gitcore.deflate" 688) (.ref 339),#[]⟩
noncomputable def AP (P:Params):Obj:=⟨.type "tuple",none,.seq #[.int 0 710] 0,#[]⟩
noncomputable def GF (P:Params):Obj:=⟨.type "tuple",none,.seq #[] 0,#[]⟩
noncomputable def GG (P:Params):Obj:=⟨.none,none,.fields #[],#[]⟩
noncomputable def GH (P:Params):Obj:=⟨.type "tuple",none,.seq #[.str "self" 714,.str "octets" 715,.str "at" 716,.str "size" 717,.str "begin" 718] 0,#[]⟩
noncomputable def GI (P:Params):Obj:=⟨.type "tuple",none,.seq #[] 0,#[]⟩
noncomputable def GJ (P:Params):Obj:=⟨.none,none,fO "unpack" "StoredCodec.unpack" (aW 36 1) 0 .none .none .none .none,#[]⟩
noncomputable def AQ (P:Params):Obj:=⟨.type "code",none,.fields #[.str "unpack" 711,.str "StoredCodec.unpack" 712,.str "/claim/cut.py" 713,.int 239 0,.int 3 0,.int 0 0,.int 0 0,.int 3 0,.ref 342,.bool true,.int 181 0,.ref 343,.none,.ref 344,.ref 345,.ref 346,.int 719 0,.int 239 0,.str "/claim/cut.py" 720],#[]⟩
noncomputable def AR (P:Params):Obj:=⟨.type "function",none,fO "unpack" "StoredCodec.unpack" (aW 36 1) 3 (.ref 341) .none (.str "gitcore.deflate" 688) (.ref 347),#[]⟩
noncomputable def GK (P:Params):Obj:=⟨.type "tuple",none,.seq #[] 0,#[]⟩
noncomputable def AS (P:Params):Obj:=⟨.type "dict",none,.dict #[kh P "__module__" 697 (.str "gitcore.deflate" 688),kh P "__firstlineno__" 701 (.int 234 700),kh P "pack" 709 (.ref 340),kh P "unpack" 721 (.ref 348),kh P "__static_attributes__" 722 (.ref 349),kh P "__dict__" 724 (.ref 352),kh P "__weakref__" 726 (.ref 353),kh P "__doc__" 727 .none] 4,#[]⟩
noncomputable def AU (P:Params):Obj:=⟨.type "type",none,.cls { name:="StoredCodec",bases:=[.type "object"],mro:=[.ref 351,.type "object"],ns:=350,qualname:="StoredCodec",hasDict:=true,slotNames:=[],subclasses:=[],abstract:=false,collection:=none,hasDel:=false },#[none,none,some (.str "StoredCodec" 690),some (.str "StoredCodec" 698),some (.builtin "object.__new__"),some (.bool true)]⟩
noncomputable def GL (P:Params):Obj:=⟨.type "getset_descriptor",none,.fields #[.str "__dict__" 723,.ref 351,.builtin "function.__dict__",.builtin "function.__dict__#set"],#[]⟩
noncomputable def GN (P:Params):Obj:=⟨.type "getset_descriptor",none,.fields #[.str "__weakref__" 725,.ref 351,.builtin "ExceptionGroup.__weakref__",.none],#[]⟩
noncomputable def GO (P:Params):Obj:=⟨.type "super",none,.fields #[.ref 351,.ref 351,.ref 351],#[]⟩
noncomputable def GP (P:Params):Obj:=⟨.type "builtin_function_or_method",none,.fields #[.builtin "object.__init_subclass__",.ref 351],#[]⟩
noncomputable def GQ (P:Params):Obj:=⟨.type "tuple",none,.seq #[] 0,#[]⟩
noncomputable def GR (P:Params):Obj:=⟨.none,none,.fields #[],#[]⟩
noncomputable def GS (P:Params):Obj:=⟨.type "tuple",none,.seq #[.str "deck" 735,.str "below" 736,.str "turn" 737,.str "cells" 738,.str "cell" 739,.str "mixed" 740] 0,#[]⟩
noncomputable def GU (P:Params):Obj:=⟨.type "tuple",none,.seq #[] 0,#[]⟩
noncomputable def GV (P:Params):Obj:=⟨.none,none,fO "_law_draw" "_law_draw" (aK 38) 0 .none .none .none .none,#[]⟩
noncomputable def AV (P:Params):Obj:=⟨.type "code",none,.fields #[.str "_law_draw" 732,.str "_law_draw" 733,.str "/claim/cut.py" 734,.int 248 0,.int 2 0,.int 0 0,.int 0 0,.int 3 0,.ref 356,.bool true,.int 181 0,.ref 357,.none,.ref 358,.ref 359,.ref 360,.int 741 0,.int 248 0,.str "/claim/cut.py" 742],#[]⟩
noncomputable def AW (P:Params):Obj:=⟨.type "function",none,fO "_law_draw" "_law_draw" (aK 38) 3 .none .none (.str "law_nt0281_01" 730) (.ref 361),#[]⟩
noncomputable def GW (P:Params):Obj:=⟨.type "tuple",none,.seq #[] 0,#[]⟩
noncomputable def GX (P:Params):Obj:=⟨.none,none,.fields #[],#[]⟩
noncomputable def GY (P:Params):Obj:=⟨.type "tuple",none,.seq #[.str "number" 747,.str "size" 748,.str "found" 749,.str "rest" 750] 0,#[]⟩
noncomputable def GZ (P:Params):Obj:=⟨.type "tuple",none,.seq #[] 0,#[]⟩
noncomputable def G6 (P:Params):Obj:=⟨.none,none,fO "_law_head" "_law_head" (aK 39) 0 .none .none .none .none,#[]⟩
noncomputable def AX (P:Params):Obj:=⟨.type "code",none,.fields #[.str "_law_head" 744,.str "_law_head" 745,.str "/claim/cut.py" 746,.int 257 0,.int 2 0,.int 0 0,.int 0 0,.int 3 0,.ref 363,.bool true,.int 181 0,.ref 364,.none,.ref 365,.ref 366,.ref 367,.int 751 0,.int 257 0,.str "/claim/cut.py" 752],#[]⟩
noncomputable def AY (P:Params):Obj:=⟨.type "function",none,fO "_law_head" "_law_head" (aK 39) 3 .none .none (.str "law_nt0281_01" 730) (.ref 368),#[]⟩
noncomputable def tr11 (P:Params):BT:=(.node (jW P) (.node (kW P) (.node (o3v11 P) (.node (mF P) (.node (fH P) (.node (eO P) (.node (lX P) (.node (j0 P) (lf (vZ P)) .nil) (.node (nN P) (lf (wX P)) .nil)) (.node (mM P) (.node (hZ P) (lf (zV P)) .nil) (.node (vD P) (lf (AU P)) .nil))) (.node (iN P) (.node (oO P) (.node (kC P) (lf (zH P)) .nil) (.node (nS P) (lf (GA P)) .nil)) (.node (gP P) (.node (nI P) (lf (z9 P)) .nil) (.node (vP P) (lf (G6 P)) .nil)))) (.node (fR P) (.node (iH P) (.node (mE P) (.node (j6 P) (lf (r7 P)) .nil) (.node (rD P) (lf (FU P)) .nil)) (.node (gJ P) (.node (iC P) (lf (zZ P)) .nil) (.node (vJ P) (lf (GU P)) .nil))) (.node (jO P) (.node (mI P) (.node (hJ P) (lf (zP P)) .nil) (.node (u5 P) (lf (GG P)) .nil)) (.node (gW P) (.node (nM P) (lf (wU P)) .nil) (lf (rU P)))))) (.node (d1 P) (.node (fN P) (.node (f5 P) (.node (mB P) (.node (j2 P) (lf (wB P)) .nil) (.node (rB P) (lf (FR P)) .nil)) (.node (o9 P) (.node (kR P) (lf (wM P)) .nil) (.node (rP P) (lf (GP P)) .nil))) (.node (jK P) (.node (oQ P) (.node (kF P) (lf (zL P)) .nil) (.node (rL P) (lf (AN P)) .nil)) (.node (e7 P) (.node (qO P) (lf (AB P)) .nil) (lf (vR P))))) (.node (fW P) (.node (iL P) (.node (oJ P) (.node (j8 P) (lf (wH P)) .nil) (.node (rH P) (lf (FY P)) .nil)) (.node (gN P) (.node (qI P) (lf (z5 P)) .nil) (.node (vL P) (lf (GW P)) .nil))) (.node (jQ P) (.node (oX P) (.node (kM P) (lf (wJ P)) .nil) (.node (vA P) (lf (AQ P)) .nil)) (.node (fA P) (.node (qU P) (lf (AI P)) .nil) (lf (rX P))))))) (.node (lT P) (.node (mN P) (.node (fK P) (.node (fY P) (.node (lZ P) (.node (gZ P) (lf (v9 P)) .nil) (.node (qZ P) (lf (FP P)) .nil)) (.node (o7 P) (.node (iA P) (lf (zX P)) .nil) (.node (vF P) (lf (GN P)) .nil))) (.node (jI P) (.node (mH P) (.node (g9 P) (lf (zJ P)) .nil) (.node (rJ P) (lf (GC P)) .nil)) (.node (gR P) (.node (qM P) (lf (wR P)) .nil) (.node (rT P) (lf (AY P)) .nil)))) (.node (fU P) (.node (iJ P) (.node (oG P) (.node (g8 P) (lf (wF P)) .nil) (.node (rF P) (lf (FW P)) .nil)) (.node (gL P) (.node (kV P) (lf (z3 P)) .nil) (.node (rQ P) (lf (AV P)) .nil))) (.node (iP P) (.node (oV P) (.node (kJ P) (lf (zR P)) .nil) (.node (u7 P) (lf (GI P)) .nil)) (.node (gY P) (.node (qS P) (lf (AG P)) .nil) (lf (vV P)))))) (.node (d2 P) (.node (fQ P) (.node (iF P) (.node (jS P) (.node (j4 P) (lf (rY P)) .nil) (.node (nO P) (lf (AL P)) .nil)) (.node (eX P) (.node (kT P) (lf (wN P)) .nil) (.node (vH P) (lf (GR P)) .nil))) (.node (jM P) (.node (oS P) (.node (kH P) (lf (zN P)) .nil) (.node (u0 P) (lf (AP P)) .nil)) (.node (gU P) (.node (qQ P) (lf (AE P)) .nil) (lf (vT P))))) (.node (eN P) (.node (f7 P) (.node (oL P) (.node (kA P) (lf (r8 P)) .nil) (.node (nR P) (lf (F6 P)) .nil)) (.node (e5 P) (.node (qK P) (lf (z7 P)) .nil) (.node (vN P) (lf (GY P)) .nil))) (.node (lV P) (.node (oZ P) (.node (kP P) (lf (zT P)) .nil) (.node (vB P) (lf (GK P)) .nil)) (.node (jY P) (.node (qW P) (lf (AK P)) .nil) (lf (vX P)))))))) (.node (nV P) (.node (lS P) (.node (mK P) (.node (fJ P) (.node (lR P) (.node (lY P) (.node (j1 P) (lf (v8 P)) .nil) (.node (qY P) (lf (FO P)) .nil)) (.node (o5 P) (.node (kQ P) (lf (zW P)) .nil) (.node (vE P) (lf (GL P)) .nil))) (.node (jH P) (.node (mG P) (.node (kD P) (lf (zI P)) .nil) (.node (nU P) (lf (GB P)) .nil)) (.node (gQ P) (.node (nJ P) (lf (wQ P)) .nil) (.node (rS P) (lf (AX P)) .nil)))) (.node (fS P) (.node (iI P) (.node (oF P) (.node (g7 P) (lf (wD P)) .nil) (.node (rE P) (lf (FV P)) .nil)) (.node (gK P) (.node (iD P) (lf (z0 P)) .nil) (.node (vK P) (lf (GV P)) .nil))) (.node (iO P) (.node (mJ P) (.node (hU P) (lf (zQ P)) .nil) (.node (u6 P) (lf (GH P)) .nil)) (.node (gX P) (.node (qR P) (lf (wV P)) .nil) (lf (rV P)))))) (.node (PH P) (.node (fP P) (.node (iE P) (.node (jR P) (.node (j3 P) (lf (wC P)) .nil) (.node (rC P) (lf (FT P)) .nil)) (.node (gI P) (.node (kS P) (lf (zY P)) .nil) (.node (vG P) (lf (GQ P)) .nil))) (.node (jL P) (.node (oR P) (.node (kG P) (lf (zM P)) .nil) (.node (rM P) (lf (AO P)) .nil)) (.node (e8 P) (.node (qP P) (lf (AD P)) .nil) (lf (vS P))))) (.node (eM P) (.node (f6 P) (.node (oK P) (.node (j9 P) (lf (wI P)) .nil) (.node (nQ P) (lf (FZ P)) .nil)) (.node (eZ P) (.node (qJ P) (lf (z6 P)) .nil) (.node (vM P) (lf (GX P)) .nil))) (.node (lU P) (.node (oY P) (.node (kN P) (lf (wK P)) .nil) (.node (rN P) (lf (AR P)) .nil)) (.node (jX P) (.node (qV P) (lf (AJ P)) .nil) (lf (vW P))))))) (.node (mC P) (.node (d0 P) (.node (fM P) (.node (fZ P) (.node (mA P) (.node (g6 P) (lf (wA P)) .nil) (.node (rA P) (lf (FQ P)) .nil)) (.node (o8 P) (.node (iB P) (lf (wL P)) .nil) (.node (rO P) (lf (GO P)) .nil))) (.node (jJ P) (.node (oP P) (.node (kE P) (lf (zK P)) .nil) (.node (rK P) (lf (GD P)) .nil)) (.node (gS P) (.node (qN P) (lf (AA P)) .nil) (lf (vQ P))))) (.node (fV P) (.node (iK P) (.node (oH P) (.node (j7 P) (lf (wG P)) .nil) (.node (rG P) (lf (FX P)) .nil)) (.node (gM P) (.node (qH P) (lf (z4 P)) .nil) (.node (rR P) (lf (AW P)) .nil))) (.node (jP P) (.node (oW P) (.node (kK P) (lf (zS P)) .nil) (.node (u9 P) (lf (GJ P)) .nil)) (.node (e9 P) (.node (qT P) (lf (AH P)) .nil) (lf (rW P)))))) (.node (d3 P) (.node (eL P) (.node (iG P) (.node (mD P) (.node (j5 P) (lf (rZ P)) .nil) (.node (nP P) (lf (AM P)) .nil)) (.node (eY P) (.node (kU P) (lf (wO P)) .nil) (.node (vI P) (lf (GS P)) .nil))) (.node (jN P) (.node (oU P) (.node (kI P) (lf (zO P)) .nil) (.node (u4 P) (lf (GF P)) .nil)) (.node (gV P) (.node (nK P) (lf (AF P)) .nil) (lf (vU P))))) (.node (fX P) (.node (iM P) (.node (oM P) (.node (kB P) (lf (r9 P)) .nil) (.node (rI P) (lf (F8 P)) .nil)) (.node (gO P) (.node (qL P) (lf (z8 P)) .nil) (.node (vO P) (lf (GZ P)) .nil))) (.node (lW P) (.node (mL P) (.node (hV P) (lf (zU P)) .nil) (.node (vC P) (lf (AS P)) .nil)) (.node (jZ P) (.node (qX P) (lf (wW P)) .nil) (lf (vY P)))))))))
noncomputable def O9:List Stmt:=[aK 34,aK 35,aK 36,aK 37,aK 38,aK 39]
noncomputable def ps10:Pos:=⟨257,0,263,23⟩
theorem pc10 (w:World) (os:OsState):segRunT treeTable pw w 11 cZ 1 380 ⟨tr10 w.params,320,{},#[],{},673,os⟩ (piecesOf O9 aP (.body dV aP) ps9 [topFrame pq])=some (.next,⟨tr11 w.params,370,{},#[],{},754,os⟩,.body dV aP,ps10):=by
  unfold piecesOf O9
  rw [PySem.W.Fast.te10110043849684766642,PySem.W.Fast.te14364793385576792824,PySem.W.Fast.te12563942051412417395]
  kernel_rfl
noncomputable def OH (P:Params):Obj:=⟨.type "dict",none,.dict #[kh P "__name__" 165 (.str "law_nt0281_01" 730),kh P "__doc__" 166 .none,kh P "__package__" 167 .none,kh P "__loader__" 168 (.builtin "__main__.__loader__#opaque"),kh P "__spec__" 169 .none,kh P "__annotations__" 170 (.ref 6),kh P "__builtins__" 171 (.ref 4),kh P "__file__" 173 (.str "/claim/cut.py" 172),kh P "__cached__" 174 .none,kh P "GitError" 218 (.ref 32),kh P "BadObject" 234 (.ref 45),kh P "BadBits" 250 (.ref 57),kh P "BadDelta" 266 (.ref 69),kh P "BadPack" 282 (.ref 81),kh P "big_endian" 288 (.ref 88),kh P "be32" 295 (.ref 95),kh P "at_big_endian" 306 (.ref 102),kh P "at_be32" 314 (.ref 109),kh P "put_size" 322 (.ref 116),kh P "at_size" 333 (.ref 123),kh P "put_offset" 341 (.ref 130),kh P "at_offset" 351 (.ref 137),kh P "CountingHasher" 391 (.ref 162),kh P "PACK_SIGN" 395 (.bytes #[80,65,67,75] 394),kh P "PACK_VERSION" 397 (.int 2 396),kh P "PACK_VERSIONS_READ" 400 (.ref 167),kh P "PACK_HEAD_SIZE" 402 (.int 12 401),kh P "OFFSET_DELTA" 404 (.int 6 403),kh P "ID_DELTA" 406 (.int 7 405),kh P "KIND_NUMBERS" 419 (.ref 168),kh P "NUMBER_KINDS" 432 (.ref 169),kh P "entry_head" 442 (.ref 176),kh P "at_entry_head" 454 (.ref 183),kh P "PackEntry" 498 (.ref 208),kh P "PackBuilder" 562 (.ref 251),kh P "pack_closed" 572 (.ref 262),kh P "write_pack" 584 (.ref 270),kh P "Scanned" 632 (.ref 294),kh P "pack_count" 641 (.ref 305),kh P "pack_unpacked" 653 (.ref 312),kh P "scan_entry" 672 (.ref 319),kh P "scan_pack" 687 (.ref 326),kh P "StoredCodec" 729 (.ref 351),kh P "_law_draw" 743 (.ref 362),kh P "_law_head" 753 (.ref 369),kh P "_law_back" 761 (.ref 376),kh P "_law_stored" 770 (.ref 383),kh P "_law_four" 777 (.ref 390),kh P "_law_octets" 783 (.ref 395),kh P "_law_rows" 796 (.ref 402),kh P "_law_plain" 816 (.ref 409),kh P "_law_signed" 824 (.ref 416),kh P "_law_is_refused" 833 (.ref 423),kh P "_law_scanned" 845 (.ref 430),kh P "_law_wrong_ones" 851 (.ref 435),kh P "law" 857 (.ref 440)] 56,#[]⟩
noncomputable def PI (P:Params):Obj:=⟨.none,none,.fields #[.int 2 0,.int 0 0,.ref 20,.int 6 0,.int 0 0,.ref 41,.int 8 0,.int 0 0,.ref 53,.int 10 0,.int 0 0,.ref 65,.int 12 0,.int 0 0,.ref 77,.int 14 0,.int 0 0,.ref 87,.int 16 0,.int 0 0,.ref 94,.int 18 0,.int 0 0,.ref 101,.int 25 0,.int 0 0,.ref 108,.int 27 0,.int 0 0,.ref 115,.int 34 0,.int 0 0,.ref 122,.int 46 0,.int 0 0,.ref 129,.int 54 0,.int 0 0,.ref 136,.int 64 0,.int 0 0,.ref 143,.int 84 0,.int 0 0,.ref 175,.int 94 0,.int 0 0,.ref 182,.int 112 0,.int 0 0,.ref 189,.int 123 0,.int 0 0,.ref 218,.int 157 0,.int 0 0,.ref 261,.int 160 0,.int 0 0,.ref 269,.int 165 0,.int 0 0,.ref 276,.int 178 0,.int 0 0,.ref 304,.int 187 0,.int 0 0,.ref 311,.int 197 0,.int 0 0,.ref 318,.int 217 0,.int 0 0,.ref 325,.int 234 0,.int 0 0,.ref 332,.int 248 0,.int 0 0,.ref 361,.int 257 0,.int 0 0,.ref 368,.int 264 0,.int 0 0,.ref 375,.int 270 0,.int 0 0,.ref 382,.int 276 0,.int 0 0,.ref 389,.int 278 0,.int 0 0,.ref 394,.int 282 0,.int 0 0,.ref 401,.int 292 0,.int 0 0,.ref 408,.int 307 0,.int 0 0,.ref 415,.int 309 0,.int 0 0,.ref 422,.int 316 0,.int 0 0,.ref 429,.int 323 0,.int 0 0,.ref 434,.int 337 0,.int 0 0,.ref 439],#[]⟩
noncomputable def PJ (P:Params):Obj:=⟨.type "tuple",none,.seq #[] 0,#[]⟩
noncomputable def PK (P:Params):Obj:=⟨.none,none,.fields #[],#[]⟩
noncomputable def PL (P:Params):Obj:=⟨.type "tuple",none,.seq #[.str "number" 757,.str "found" 758] 0,#[]⟩
noncomputable def PM (P:Params):Obj:=⟨.type "tuple",none,.seq #[] 0,#[]⟩
noncomputable def PN (P:Params):Obj:=⟨.none,none,fO "_law_back" "_law_back" (aK 40) 0 .none .none .none .none,#[]⟩
noncomputable def G8 (P:Params):Obj:=⟨.type "code",none,.fields #[.str "_law_back" 754,.str "_law_back" 755,.str "/claim/cut.py" 756,.int 264 0,.int 1 0,.int 0 0,.int 0 0,.int 3 0,.ref 370,.bool true,.int 181 0,.ref 371,.none,.ref 372,.ref 373,.ref 374,.int 759 0,.int 264 0,.str "/claim/cut.py" 760],#[]⟩
noncomputable def HA (P:Params):Obj:=⟨.type "function",none,fO "_law_back" "_law_back" (aK 40) 3 .none .none (.str "law_nt0281_01" 730) (.ref 375),#[]⟩
noncomputable def PQ (P:Params):Obj:=⟨.type "tuple",none,.seq #[] 0,#[]⟩
noncomputable def PR (P:Params):Obj:=⟨.none,none,.fields #[],#[]⟩
noncomputable def PS (P:Params):Obj:=⟨.type "tuple",none,.seq #[.str "octets" 765,.str "found" 766,.str "rest" 767] 0,#[]⟩
noncomputable def PT (P:Params):Obj:=⟨.type "tuple",none,.seq #[] 0,#[]⟩
noncomputable def PU (P:Params):Obj:=⟨.none,none,fO "_law_stored" "_law_stored" (aK 41) 0 .none .none .none .none,#[]⟩
noncomputable def HB (P:Params):Obj:=⟨.type "code",none,.fields #[.str "_law_stored" 762,.str "_law_stored" 763,.str "/claim/cut.py" 764,.int 270 0,.int 1 0,.int 0 0,.int 0 0,.int 3 0,.ref 377,.bool true,.int 181 0,.ref 378,.none,.ref 379,.ref 380,.ref 381,.int 768 0,.int 270 0,.str "/claim/cut.py" 769],#[]⟩
noncomputable def HC (P:Params):Obj:=⟨.type "function",none,fO "_law_stored" "_law_stored" (aK 41) 3 .none .none (.str "law_nt0281_01" 730) (.ref 382),#[]⟩
noncomputable def PW (P:Params):Obj:=⟨.type "tuple",none,.seq #[] 0,#[]⟩
noncomputable def PX (P:Params):Obj:=⟨.none,none,.fields #[],#[]⟩
noncomputable def PY (P:Params):Obj:=⟨.type "tuple",none,.seq #[.str "number" 774] 0,#[]⟩
noncomputable def PZ (P:Params):Obj:=⟨.type "tuple",none,.seq #[] 0,#[]⟩
noncomputable def P0 (P:Params):Obj:=⟨.none,none,fO "_law_four" "_law_four" (aK 42) 0 .none .none .none .none,#[]⟩
noncomputable def HD (P:Params):Obj:=⟨.type "code",none,.fields #[.str "_law_four" 771,.str "_law_four" 772,.str "/claim/cut.py" 773,.int 276 0,.int 1 0,.int 0 0,.int 0 0,.int 3 0,.ref 384,.bool true,.int 181 0,.ref 385,.none,.ref 386,.ref 387,.ref 388,.int 775 0,.int 276 0,.str "/claim/cut.py" 776],#[]⟩
noncomputable def HE (P:Params):Obj:=⟨.type "function",none,fO "_law_four" "_law_four" (aK 42) 3 .none .none (.str "law_nt0281_01" 730) (.ref 389),#[]⟩
noncomputable def P1 (P:Params):Obj:=⟨.type "tuple",none,.seq #[] 0,#[]⟩
noncomputable def P2 (P:Params):Obj:=⟨.none,none,.fields #[],#[]⟩
noncomputable def P4 (P:Params):Obj:=⟨.none,none,fO "_law_octets" "_law_octets" (aK 43) 0 .none .none .none .none,#[]⟩
noncomputable def HF (P:Params):Obj:=⟨.type "code",none,.fields #[.str "_law_octets" 778,.str "_law_octets" 779,.str "/claim/cut.py" 780,.int 278 0,.int 2 0,.int 0 0,.int 0 0,.int 3 0,.ref 391,.bool true,.int 181 0,.ref 392,.none,.none,.none,.ref 393,.int 781 0,.int 278 0,.str "/claim/cut.py" 782],#[]⟩
noncomputable def HG (P:Params):Obj:=⟨.type "function",none,fO "_law_octets" "_law_octets" (aK 43) 3 .none .none (.str "law_nt0281_01" 730) (.ref 394),#[]⟩
noncomputable def P5 (P:Params):Obj:=⟨.type "tuple",none,.seq #[] 0,#[]⟩
noncomputable def P6 (P:Params):Obj:=⟨.none,none,.fields #[],#[]⟩
noncomputable def P7 (P:Params):Obj:=⟨.type "tuple",none,.seq #[.str "deck" 787,.str "rows" 788,.str "k" 789,.str "oid" 790,.str "kind" 791,.str "base" 792,.str "octets" 793] 0,#[]⟩
noncomputable def P8 (P:Params):Obj:=⟨.type "tuple",none,.seq #[] 0,#[]⟩
noncomputable def P9 (P:Params):Obj:=⟨.none,none,fO "_law_rows" "_law_rows" (aK 44) 0 .none .none .none .none,#[]⟩
noncomputable def HH (P:Params):Obj:=⟨.type "code",none,.fields #[.str "_law_rows" 784,.str "_law_rows" 785,.str "/claim/cut.py" 786,.int 282 0,.int 1 0,.int 0 0,.int 0 0,.int 3 0,.ref 396,.bool true,.int 181 0,.ref 397,.none,.ref 398,.ref 399,.ref 400,.int 794 0,.int 282 0,.str "/claim/cut.py" 795],#[]⟩
noncomputable def HI (P:Params):Obj:=⟨.type "function",none,fO "_law_rows" "_law_rows" (aK 44) 3 .none .none (.str "law_nt0281_01" 730) (.ref 401),#[]⟩
noncomputable def QA (P:Params):Obj:=⟨.type "tuple",none,.seq #[] 0,#[]⟩
noncomputable def QB (P:Params):Obj:=⟨.none,none,.fields #[],#[]⟩
noncomputable def QC (P:Params):Obj:=⟨.type "tuple",none,.seq #[.str "rows" 800,.str "is_placed" 801,.str "whole" 802,.str "told" 803,.str "known" 804,.str "oid" 805,.str "kind" 806,.str "octets" 807,.str "base" 808,.str "at" 809,.str "number" 810,.str "extra" 811,.str "base_at" 812,.str "base_id" 813] 0,#[]⟩
noncomputable def QD (P:Params):Obj:=⟨.type "tuple",none,.seq #[] 0,#[]⟩
noncomputable def QE (P:Params):Obj:=⟨.none,none,fO "_law_plain" "_law_plain" (aK 45) 0 .none .none .none .none,#[]⟩
noncomputable def HJ (P:Params):Obj:=⟨.type "code",none,.fields #[.str "_law_plain" 797,.str "_law_plain" 798,.str "/claim/cut.py" 799,.int 292 0,.int 2 0,.int 0 0,.int 0 0,.int 3 0,.ref 403,.bool true,.int 181 0,.ref 404,.none,.ref 405,.ref 406,.ref 407,.int 814 0,.int 292 0,.str "/claim/cut.py" 815],#[]⟩
noncomputable def HK (P:Params):Obj:=⟨.type "function",none,fO "_law_plain" "_law_plain" (aK 45) 3 .none .none (.str "law_nt0281_01" 730) (.ref 408),#[]⟩
noncomputable def QF (P:Params):Obj:=⟨.type "tuple",none,.seq #[] 0,#[]⟩
noncomputable def QG (P:Params):Obj:=⟨.none,none,.fields #[],#[]⟩
noncomputable def QH (P:Params):Obj:=⟨.type "tuple",none,.seq #[.str "hasher" 820,.str "body" 821] 0,#[]⟩
noncomputable def QI (P:Params):Obj:=⟨.type "tuple",none,.seq #[] 0,#[]⟩
noncomputable def QJ (P:Params):Obj:=⟨.none,none,fO "_law_signed" "_law_signed" (aK 46) 0 .none .none .none .none,#[]⟩
noncomputable def HL (P:Params):Obj:=⟨.type "code",none,.fields #[.str "_law_signed" 817,.str "_law_signed" 818,.str "/claim/cut.py" 819,.int 307 0,.int 2 0,.int 0 0,.int 0 0,.int 3 0,.ref 410,.bool true,.int 181 0,.ref 411,.none,.ref 412,.ref 413,.ref 414,.int 822 0,.int 307 0,.str "/claim/cut.py" 823],#[]⟩
noncomputable def HM (P:Params):Obj:=⟨.type "function",none,fO "_law_signed" "_law_signed" (aK 46) 3 .none .none (.str "law_nt0281_01" 730) (.ref 415),#[]⟩
noncomputable def QK (P:Params):Obj:=⟨.type "tuple",none,.seq #[] 0,#[]⟩
noncomputable def QL (P:Params):Obj:=⟨.none,none,.fields #[],#[]⟩
noncomputable def QM (P:Params):Obj:=⟨.type "tuple",none,.seq #[.str "octets" 828,.str "hasher" 829,.str "found" 830] 0,#[]⟩
noncomputable def QN (P:Params):Obj:=⟨.type "tuple",none,.seq #[] 0,#[]⟩
noncomputable def QO (P:Params):Obj:=⟨.none,none,fO "_law_is_refused" "_law_is_refused" (aK 47) 0 .none .none .none .none,#[]⟩
noncomputable def HN (P:Params):Obj:=⟨.type "code",none,.fields #[.str "_law_is_refused" 825,.str "_law_is_refused" 826,.str "/claim/cut.py" 827,.int 309 0,.int 2 0,.int 0 0,.int 0 0,.int 3 0,.ref 417,.bool true,.int 181 0,.ref 418,.none,.ref 419,.ref 420,.ref 421,.int 831 0,.int 309 0,.str "/claim/cut.py" 832],#[]⟩
noncomputable def HO (P:Params):Obj:=⟨.type "function",none,fO "_law_is_refused" "_law_is_refused" (aK 47) 3 .none .none (.str "law_nt0281_01" 730) (.ref 422),#[]⟩
noncomputable def QP (P:Params):Obj:=⟨.type "tuple",none,.seq #[] 0,#[]⟩
noncomputable def QQ (P:Params):Obj:=⟨.none,none,.fields #[],#[]⟩
noncomputable def QR (P:Params):Obj:=⟨.type "tuple",none,.seq #[.str "octets" 837,.str "hasher" 838,.str "found" 839,.str "it" 840,.str "base_at" 841,.str "base_id" 842] 0,#[]⟩
noncomputable def QS (P:Params):Obj:=⟨.type "tuple",none,.seq #[] 0,#[]⟩
noncomputable def QT (P:Params):Obj:=⟨.none,none,fO "_law_scanned" "_law_scanned" (aK 48) 0 .none .none .none .none,#[]⟩
noncomputable def HP (P:Params):Obj:=⟨.type "code",none,.fields #[.str "_law_scanned" 834,.str "_law_scanned" 835,.str "/claim/cut.py" 836,.int 316 0,.int 2 0,.int 0 0,.int 0 0,.int 3 0,.ref 424,.bool true,.int 181 0,.ref 425,.none,.ref 426,.ref 427,.ref 428,.int 843 0,.int 316 0,.str "/claim/cut.py" 844],#[]⟩
noncomputable def HQ (P:Params):Obj:=⟨.type "function",none,fO "_law_scanned" "_law_scanned" (aK 48) 3 .none .none (.str "law_nt0281_01" 730) (.ref 429),#[]⟩
noncomputable def QU (P:Params):Obj:=⟨.type "tuple",none,.seq #[] 0,#[]⟩
noncomputable def QV (P:Params):Obj:=⟨.none,none,.fields #[],#[]⟩
noncomputable def QW (P:Params):Obj:=⟨.none,none,fO "_law_wrong_ones" "_law_wrong_ones" (aK 49) 0 .none .none .none .none,#[]⟩
noncomputable def HR (P:Params):Obj:=⟨.type "code",none,.fields #[.str "_law_wrong_ones" 846,.str "_law_wrong_ones" 847,.str "/claim/cut.py" 848,.int 323 0,.int 4 0,.int 0 0,.int 0 0,.int 3 0,.ref 431,.bool true,.int 181 0,.ref 432,.none,.none,.none,.ref 433,.int 849 0,.int 323 0,.str "/claim/cut.py" 850],#[]⟩
noncomputable def HS (P:Params):Obj:=⟨.type "function",none,fO "_law_wrong_ones" "_law_wrong_ones" (aK 49) 3 .none .none (.str "law_nt0281_01" 730) (.ref 434),#[]⟩
noncomputable def QX (P:Params):Obj:=⟨.type "tuple",none,.seq #[] 0,#[]⟩
noncomputable def QY (P:Params):Obj:=⟨.none,none,.fields #[],#[]⟩
noncomputable def QZ (P:Params):Obj:=⟨.none,none,fO "law" "law" (aK 50) 0 .none .none .none .none,#[]⟩
noncomputable def HT (P:Params):Obj:=⟨.type "code",none,.fields #[.str "law" 852,.str "law" 853,.str "/claim/cut.py" 854,.int 337 0,.int 1 0,.int 0 0,.int 0 0,.int 3 0,.ref 436,.bool true,.int 181 0,.ref 437,.none,.none,.none,.ref 438,.int 855 0,.int 337 0,.str "/claim/cut.py" 856],#[]⟩
noncomputable def HU (P:Params):Obj:=⟨.type "function",none,fO "law" "law" (aK 50) 3 .none .none (.str "law_nt0281_01" 730) (.ref 439),#[]⟩
noncomputable def tr12 (P:Params):BT:=(.node (jW P) (.node (kW P) (.node (OH P) (.node (mF P) (.node (fH P) (.node (eO P) (.node (lX P) (.node (j0 P) (lf (vZ P)) (lf (HC P))) (.node (nN P) (lf (wX P)) .nil)) (.node (mM P) (.node (hZ P) (lf (zV P)) (lf (HL P))) (.node (vD P) (lf (AU P)) .nil))) (.node (iN P) (.node (oO P) (.node (kC P) (lf (zH P)) (lf (P8 P))) (.node (nS P) (lf (GA P)) .nil)) (.node (gP P) (.node (nI P) (lf (z9 P)) (lf (QU P))) (.node (vP P) (lf (G6 P)) .nil)))) (.node (fR P) (.node (iH P) (.node (mE P) (.node (j6 P) (lf (r7 P)) (lf (P1 P))) (.node (rD P) (lf (FU P)) .nil)) (.node (gJ P) (.node (iC P) (lf (zZ P)) (lf (HO P))) (.node (vJ P) (lf (GU P)) .nil))) (.node (jO P) (.node (mI P) (.node (hJ P) (lf (zP P)) (lf (QE P))) (.node (u5 P) (lf (GG P)) .nil)) (.node (gW P) (.node (nM P) (lf (wU P)) (lf (HT P))) (.node (rU P) (lf (G8 P)) .nil))))) (.node (d1 P) (.node (fN P) (.node (f5 P) (.node (mB P) (.node (j2 P) (lf (wB P)) (lf (PZ P))) (.node (rB P) (lf (FR P)) .nil)) (.node (o9 P) (.node (kR P) (lf (wM P)) (lf (QM P))) (.node (rP P) (lf (GP P)) .nil))) (.node (jK P) (.node (oQ P) (.node (kF P) (lf (zL P)) (lf (QA P))) (.node (rL P) (lf (AN P)) .nil)) (.node (e7 P) (.node (qO P) (lf (AB P)) (lf (HS P))) (.node (vR P) (lf (PK P)) .nil)))) (.node (fW P) (.node (iL P) (.node (oJ P) (.node (j8 P) (lf (wH P)) (lf (HG P))) (.node (rH P) (lf (FY P)) .nil)) (.node (gN P) (.node (qI P) (lf (z5 P)) (lf (QS P))) (.node (vL P) (lf (GW P)) .nil))) (.node (jQ P) (.node (oX P) (.node (kM P) (lf (wJ P)) (lf (QG P))) (.node (vA P) (lf (AQ P)) .nil)) (.node (fA P) (.node (qU P) (lf (AI P)) .nil) (.node (rX P) (lf (PS P)) .nil)))))) (.node (lT P) (.node (mN P) (.node (fK P) (.node (fY P) (.node (lZ P) (.node (gZ P) (lf (v9 P)) (lf (PX P))) (.node (qZ P) (lf (FP P)) .nil)) (.node (o7 P) (.node (iA P) (lf (zX P)) (lf (QK P))) (.node (vF P) (lf (GN P)) .nil))) (.node (jI P) (.node (mH P) (.node (g9 P) (lf (zJ P)) (lf (HH P))) (.node (rJ P) (lf (GC P)) .nil)) (.node (gR P) (.node (qM P) (lf (wR P)) (lf (QW P))) (.node (rT P) (lf (AY P)) .nil)))) (.node (fU P) (.node (iJ P) (.node (oG P) (.node (g8 P) (lf (wF P)) (lf (P4 P))) (.node (rF P) (lf (FW P)) .nil)) (.node (gL P) (.node (kV P) (lf (z3 P)) (lf (QQ P))) (.node (rQ P) (lf (AV P)) .nil))) (.node (iP P) (.node (oV P) (.node (kJ P) (lf (zR P)) (lf (HK P))) (.node (u7 P) (lf (GI P)) .nil)) (.node (gY P) (.node (qS P) (lf (AG P)) .nil) (.node (vV P) (lf (PQ P)) .nil))))) (.node (d2 P) (.node (fQ P) (.node (iF P) (.node (jS P) (.node (j4 P) (lf (rY P)) (lf (HD P))) (.node (nO P) (lf (AL P)) .nil)) (.node (eX P) (.node (kT P) (lf (wN P)) (lf (QO P))) (.node (vH P) (lf (GR P)) .nil))) (.node (jM P) (.node (oS P) (.node (kH P) (lf (zN P)) (lf (QC P))) (.node (u0 P) (lf (AP P)) .nil)) (.node (gU P) (.node (qQ P) (lf (AE P)) (lf (QY P))) (.node (vT P) (lf (PM P)) .nil)))) (.node (eN P) (.node (f7 P) (.node (oL P) (.node (kA P) (lf (r8 P)) (lf (P6 P))) (.node (nR P) (lf (F6 P)) .nil)) (.node (e5 P) (.node (qK P) (lf (z7 P)) (lf (HP P))) (.node (vN P) (lf (GY P)) .nil))) (.node (lV P) (.node (oZ P) (.node (kP P) (lf (zT P)) (lf (QI P))) (.node (vB P) (lf (GK P)) .nil)) (.node (jY P) (.node (qW P) (lf (AK P)) .nil) (.node (vX P) (lf (PU P)) .nil))))))) (.node (nV P) (.node (lS P) (.node (mK P) (.node (fJ P) (.node (lR P) (.node (lY P) (.node (j1 P) (lf (v8 P)) (lf (PW P))) (.node (qY P) (lf (FO P)) .nil)) (.node (o5 P) (.node (kQ P) (lf (zW P)) (lf (HM P))) (.node (vE P) (lf (GL P)) .nil))) (.node (jH P) (.node (mG P) (.node (kD P) (lf (zI P)) (lf (P9 P))) (.node (nU P) (lf (GB P)) .nil)) (.node (gQ P) (.node (nJ P) (lf (wQ P)) (lf (QV P))) (.node (rS P) (lf (AX P)) .nil)))) (.node (fS P) (.node (iI P) (.node (oF P) (.node (g7 P) (lf (wD P)) (lf (P2 P))) (.node (rE P) (lf (FV P)) .nil)) (.node (gK P) (.node (iD P) (lf (z0 P)) (lf (QP P))) (.node (vK P) (lf (GV P)) .nil))) (.node (iO P) (.node (mJ P) (.node (hU P) (lf (zQ P)) (lf (HJ P))) (.node (u6 P) (lf (GH P)) .nil)) (.node (gX P) (.node (qR P) (lf (wV P)) (lf (HU P))) (.node (rV P) (lf (HA P)) .nil))))) (.node (PI P) (.node (fP P) (.node (iE P) (.node (jR P) (.node (j3 P) (lf (wC P)) (lf (P0 P))) (.node (rC P) (lf (FT P)) .nil)) (.node (gI P) (.node (kS P) (lf (zY P)) (lf (QN P))) (.node (vG P) (lf (GQ P)) .nil))) (.node (jL P) (.node (oR P) (.node (kG P) (lf (zM P)) (lf (QB P))) (.node (rM P) (lf (AO P)) .nil)) (.node (e8 P) (.node (qP P) (lf (AD P)) (lf (QX P))) (.node (vS P) (lf (PL P)) .nil)))) (.node (eM P) (.node (f6 P) (.node (oK P) (.node (j9 P) (lf (wI P)) (lf (P5 P))) (.node (nQ P) (lf (FZ P)) .nil)) (.node (eZ P) (.node (qJ P) (lf (z6 P)) (lf (QT P))) (.node (vM P) (lf (GX P)) .nil))) (.node (lU P) (.node (oY P) (.node (kN P) (lf (wK P)) (lf (QH P))) (.node (rN P) (lf (AR P)) .nil)) (.node (jX P) (.node (qV P) (lf (AJ P)) .nil) (.node (vW P) (lf (PT P)) .nil)))))) (.node (mC P) (.node (d0 P) (.node (fM P) (.node (fZ P) (.node (mA P) (.node (g6 P) (lf (wA P)) (lf (PY P))) (.node (rA P) (lf (FQ P)) .nil)) (.node (o8 P) (.node (iB P) (lf (wL P)) (lf (QL P))) (.node (rO P) (lf (GO P)) .nil))) (.node (jJ P) (.node (oP P) (.node (kE P) (lf (zK P)) (lf (HI P))) (.node (rK P) (lf (GD P)) .nil)) (.node (gS P) (.node (qN P) (lf (AA P)) (lf (HR P))) (.node (vQ P) (lf (PJ P)) .nil)))) (.node (fV P) (.node (iK P) (.node (oH P) (.node (j7 P) (lf (wG P)) (lf (HF P))) (.node (rG P) (lf (FX P)) .nil)) (.node (gM P) (.node (qH P) (lf (z4 P)) (lf (QR P))) (.node (rR P) (lf (AW P)) .nil))) (.node (jP P) (.node (oW P) (.node (kK P) (lf (zS P)) (lf (QF P))) (.node (u9 P) (lf (GJ P)) .nil)) (.node (e9 P) (.node (qT P) (lf (AH P)) .nil) (.node (rW P) (lf (PR P)) .nil))))) (.node (d3 P) (.node (eL P) (.node (iG P) (.node (mD P) (.node (j5 P) (lf (rZ P)) (lf (HE P))) (.node (nP P) (lf (AM P)) .nil)) (.node (eY P) (.node (kU P) (lf (wO P)) (lf (HN P))) (.node (vI P) (lf (GS P)) .nil))) (.node (jN P) (.node (oU P) (.node (kI P) (lf (zO P)) (lf (QD P))) (.node (u4 P) (lf (GF P)) .nil)) (.node (gV P) (.node (nK P) (lf (AF P)) (lf (QZ P))) (.node (vU P) (lf (PN P)) .nil)))) (.node (fX P) (.node (iM P) (.node (oM P) (.node (kB P) (lf (r9 P)) (lf (P7 P))) (.node (rI P) (lf (F8 P)) .nil)) (.node (gO P) (.node (qL P) (lf (z8 P)) (lf (HQ P))) (.node (vO P) (lf (GZ P)) .nil))) (.node (lW P) (.node (mL P) (.node (hV P) (lf (zU P)) (lf (QJ P))) (.node (vC P) (lf (AS P)) .nil)) (.node (jZ P) (.node (qX P) (lf (wW P)) .nil) (.node (vY P) (lf (HB P)) .nil))))))))
noncomputable def PA:List Stmt:=[aK 40,aK 41,aK 42,aK 43,aK 44,aK 45,aK 46,aK 47,aK 48,aK 49,aK 50]
noncomputable def ps11:Pos:=⟨337,0,357,109⟩
theorem pc11 (w:World) (os:OsState):segRunT treeTable pw w 11 cZ 1 341 ⟨tr11 w.params,370,{},#[],{},754,os⟩ (piecesOf PA aP (.body dV aP) ps10 [topFrame pq])=some (.next,⟨tr12 w.params,441,{},#[],{},858,os⟩,.body dV aP,ps11):=by
  unfold piecesOf PA
  rw [PySem.W.Fast.te10110043849684766642,PySem.W.Fast.te14364793385576792824,PySem.W.Fast.te12563942051412417395]
  kernel_rfl
section
variable {tb:String→Option Builtin} {p:Program} {w:World} {n₀:Nat} {ann:Option Value} {b:Nat}
theorem BN {n m:Nat} {s s1:SharedT} {t t1:Thread} {r:Option (SharedT×Thread)} (h:segGoT tb p w n₀ ann b n s t=some (s1,t1)) (k:segGoT tb p w n₀ ann b m s1 t1=r):segGoT tb p w n₀ ann b (n+m) s t=r:=by
  induction n generalizing s t with
  | zero =>
    obtain⟨rfl,rfl⟩:s=s1∧t=t1:=by simpa [segGoT] using h
    rw [Nat.zero_add];exact k
  | succ n ih =>
    rw [show n+1+m=n+m+1 by omega]
    unfold segGoT at h ⊢
    cases he:endAt b t with
    | some f=>rw [he] at h;cases h
    | none =>
      rw [he] at h
      cases hk:stepOk n₀ ann t with
      | false=>rw [hk] at h;cases h
      | true =>
        rw [hk] at h
        cases hs:stepT (denote tb) p w s t with
        | none=>rw [hs] at h;cases h
        | some q=>obtain⟨s2,t2⟩:=q;rw [hs] at h;exact ih h
theorem ME {n m:Nat} {s s1:SharedT} {t t1:Thread} {r:Flow×SharedT×Code×Pos} (h:segGoT tb p w n₀ ann b n s t=some (s1,t1)) (k:segRunT tb p w n₀ ann b m s1 t1=some r):segRunT tb p w n₀ ann b (n+m) s t=some r:=by
  induction n generalizing s t with
  | zero =>
    obtain⟨rfl,rfl⟩:s=s1∧t=t1:=by simpa [segGoT] using h
    rw [Nat.zero_add];exact k
  | succ n ih =>
    rw [show n+1+m=n+m+1 by omega]
    unfold segGoT at h
    unfold segRunT
    cases he:endAt b t with
    | some f=>rw [he] at h;cases h
    | none =>
      rw [he] at h
      cases hk:stepOk n₀ ann t with
      | false=>rw [hk] at h;cases h
      | true =>
        rw [hk] at h
        cases hs:stepT (denote tb) p w s t with
        | none=>rw [hs] at h;cases h
        | some q=>obtain⟨s2,t2⟩:=q;rw [hs] at h;exact ih h
theorem D4 (k:Nat) {n:Nat} {s:SharedT} {t:Thread} {r:Flow×SharedT×Code×Pos} (h:segRunT tb p w n₀ ann b n s t=some r):segRunT tb p w n₀ ann b (n+k) s t=some r:=by
  induction n generalizing s t with
  | zero=>cases h
  | succ n ih =>
    rw [show n+1+k=n+k+1 by omega]
    unfold segRunT at h ⊢
    cases he:endAt b t with
    | some f=>rw [he] at h;exact h
    | none =>
      rw [he] at h
      cases hk:stepOk n₀ ann t with
      | false=>rw [hk] at h;cases h
      | true =>
        rw [hk] at h
        cases hs:stepT (denote tb) p w s t with
        | none=>rw [hs] at h;cases h
        | some q=>obtain⟨s2,t2⟩:=q;rw [hs] at h;exact ih h
end
noncomputable abbrev gT (w:World) (n:Nat) (s:SharedT) (t:Thread):Option (SharedT×Thread):=segGoT treeTable pw w 11 cZ 1 n s t
noncomputable def To {α:Type} (w:World) (N:Nat) (s:SharedT) (x:Sem α) (s':SharedT) (a:α):Prop :=
  ∀ (K:α→Sem Fin) (H:Value→Sem Fin) (gd:Bool→Bool) (lv:List Value→List Value) (code:Code) (pos:Pos),
    ∃ n pos',n≤N∧gT w n s ⟨x.wrap K H gd lv,code,pos,[topFrame pq]⟩=some (s',⟨K a,code,pos',[topFrame pq]⟩)
section
variable {α β:Type} {w:World} {s s1 s2:SharedT}
theorem To.pure (a:α):To w 0 s (Pure.pure a) s a:=fun xx xx xx xx xx pos=>⟨0,pos,Nat.le_refl _,rfl⟩
theorem To.bind {N M:Nat} {x:Sem α} {f:α→Sem β} {a:α} {b:β} (h:To w N s x s1 a) (k:To w M s1 (f a) s2 b):To w (N+M) s (x >>= f) s2 b:=fun K H gd lv code pos=>by
  obtain⟨n,p1,hn,e⟩:=h (fun a=>(f a).wrap K H gd lv) H gd lv code pos
  obtain⟨m,p2,hm,e2⟩:=k K H gd lv code p1
  refine⟨n+m,p2,by omega,?_⟩
  rw [Sem.bind_eq_wrap',Sem.wrap_wrap]
  exact BN e e2
theorem To.keep {N:Nat} {x:Sem α} {a:α} {vs:List Value} (h:To w N s x s1 a):To w N s (x.keep vs) s1 a:=fun K H gd lv code pos=>by
  obtain⟨n,p1,hn,e⟩:=h K H gd (fun l=>lv (vs++l)) code pos
  refine⟨n,p1,hn,?_⟩
  rw [Sem.keep_eq_wrap,Sem.wrap_wrap]
  exact e
theorem To.holding {N:Nat} {x:Sem α} {a:α} {vs:List Value} (h:To w N s x s1 a):To w N s (PySem.holding vs x) s1 a:=by
  unfold PySem.holding
  split
  · exact h
  · exact h.keep
theorem To.mono {N M:Nat} {x:Sem α} {a:α} (h:To w N s x s1 a) (le:N≤M):To w M s x s1 a:=fun K H gd lv code pos=>by
  obtain⟨n,p1,hn,e⟩:=h K H gd lv code pos
  exact⟨n,p1,by omega,e⟩
theorem To.rule (t:String):To w 1 s (PySem.rule t) s ():=fun K H gd lv code pos=>⟨1,pos,Nat.le_refl _,rfl⟩
theorem To.standAt (q:Pos):To w 1 s (PySem.standAt q) s ():=fun K H gd lv code pos=>⟨1,q,Nat.le_refl _,rfl⟩
end
set_option tactic.hygienic true in
theorem tH (P:Params) (x:Str):-(2 ^ 63)≤PyData.keyHash P x∧PyData.keyHash P x<2 ^ 63∧PyData.keyHash P x≠-1:=by
  have red:∀ i:Int,-(2 ^ 63)≤reduceHash i∧reduceHash i<2 ^ 63∧reduceHash i≠-1:=fun i=>by
    unfold reduceHash
    split
    · rename_i h
      simp only [Bool.and_eq_true,decide_eq_true_eq] at h
      split
      · refine⟨by decide,by decide,by decide⟩
      · rename_i h2;exact⟨h.1,h.2,by simpa using h2⟩
    · dsimp only
      have h1:0≤(i.natAbs:Int) % (2 ^ 61 - 1):=Int.emod_nonneg _ (by decide)
      have h2:(i.natAbs:Int) % (2 ^ 61 - 1)<2 ^ 61 - 1:=Int.emod_lt_of_pos _ (by decide)
      generalize (i.natAbs:Int) % (2 ^ 61 - 1)=r at h1 h2
      split
      · split <;> rename_i q
        · refine⟨by decide,by decide,by decide⟩
        · exact⟨by omega,by omega,by simpa using q⟩
      · split <;> rename_i q
        · refine⟨by decide,by decide,by decide⟩
        · exact⟨by omega,by omega,by simpa using q⟩
  unfold PyData.keyHash
  split
  · refine⟨by decide,by decide,by decide⟩
  · exact red _
theorem yP (P:Params) (x:Str):pyHashByItsType.reduced (PyData.keyHash P x)=Pure.pure (reduceHash (PyData.keyHash P x)):=by
  obtain⟨h1,h2,h3⟩:=tH P x
  have hc:(decide (-(2 ^ 63:Int)≤PyData.keyHash P x) && decide (PyData.keyHash P x<2 ^ 63))=true:=by
    rw [decide_eq_true h1,decide_eq_true h2];rfl
  unfold pyHashByItsType.reduced reduceHash
  rw [if_pos hc]
  simp only [hc,if_true]
noncomputable def kb:Nat→List UInt8
  | 0=>[99,111,109,109,105,116]
  | 1=>[116,114,101,101]
  | 2=>[98,108,111,98]
  | _=>[116,97,103]
noncomputable def kt:Nat→Nat
  | 0=>407
  | 1=>409
  | 2=>411
  | _=>413
noncomputable def kv:Nat→Value
  | 0=>.int 1 408
  | 1=>.int 2 410
  | 2=>.int 3 412
  | _=>.int 4 414
noncomputable def ky (i:Nat):Value:=.bytes (kb i).toArray (kt i)
noncomputable def en (P:Params) (i:Nat):DictEntry:=bh P (kb i) (kt i) (kv i)
noncomputable def sW (P:Params):Nat→Array DictEntry
  | 0=>#[]
  | 1=>#[en P 0]
  | 2=>#[en P 0,en P 1]
  | 3=>#[en P 0,en P 1,en P 2]
  | _=>#[en P 0,en P 1,en P 2,en P 3]
noncomputable def dk (P:Params) (k:Nat):Obj:=⟨.type "dict",none,.dict (sW P k) k,#[]⟩
noncomputable def sk (w:World) (os:OsState) (k:Nat) (t:Nat):SharedT:=⟨(tr6 w.params).ins 168 (dk w.params k),169,{},#[],{},t,os⟩
noncomputable abbrev wb (w:World) (b:Bool):World:=w.withFollow "special-get-raises" b
theorem MF (w:World) (b:Bool) (os:OsState) (k i t:Nat) (hi:i<4):To (wb w b) 6 (sk (wb w b) os k t) (pyHash (ky i)) (sk (wb w b) os k (t+1)) (hashW w.params (.bytes (kb i))):=by
  intro K H gd lv code pos
  have key:segGoT treeTable pw (wb w b) 11 cZ 1 6 (sk (wb w b) os k t) ⟨(pyHash (ky i)).wrap K H gd lv,code,pos,[topFrame pq]⟩=some (sk (wb w b) os k (t+1),⟨(pyHashByItsType.reduced (PyData.keyHash w.params ⟨(kb i).toArray.map (fun xx=>xx.toNat)⟩)).wrap K H gd lv,code,pos,[topFrame pq]⟩):=by
    have h:i=0∨i=1∨i=2∨i=3:=(by decide:∀ a:Fin 4,a.val=0∨a.val=1∨a.val=2∨a.val=3) ⟨i,hi⟩
    rcases h with rfl | rfl | rfl | rfl <;> cases b <;> (rw [PySem.W.Fast.te10295753902157049106,PySem.W.Fast.te14364793385576792824];kernel_rfl)
  refine⟨6,pos,Nat.le_refl _,?_⟩
  rw [gT,key,yP]
  rfl
theorem eq_to (w:World) (b:Bool) (os:OsState) (k t:Nat) (i j:Nat) (hj:j<i) (hi:i<4):To (wb w b) 4 (sk (wb w b) os k t) (eqBool (ky j) (ky i)) (sk (wb w b) os k t) false:=by
  intro K H gd lv code pos
  refine⟨4,pos,Nat.le_refl _,?_⟩
  have h:(i=1∧j=0)∨(i=2∧j=0)∨(i=2∧j=1)∨(i=3∧j=0)∨(i=3∧j=1)∨(i=3∧j=2):=(by decide:∀ a b:Fin 4,b.val<a.val→(a.val=1∧b.val=0)∨(a.val=2∧b.val=0)∨(a.val=2∧b.val=1)∨(a.val=3∧b.val=0)∨(a.val=3∧b.val=1)∨(a.val=3∧b.val=2)) ⟨i,hi⟩ ⟨j,Nat.lt_trans hj hi⟩ hj
  rcases h with ⟨rfl,rfl⟩ | ⟨rfl,rfl⟩ | ⟨rfl,rfl⟩ | ⟨rfl,rfl⟩ | ⟨rfl,rfl⟩ | ⟨rfl,rfl⟩ <;> cases b <;> (rw [gT,PySem.W.Fast.te10295753902157049106,PySem.W.Fast.te14364793385576792824];kernel_rfl)
theorem x4 (w:World) (b:Bool) (os:OsState) (k t i:Nat):To (wb w b) 1 (sk (wb w b) os k t) (dictEpoch 168 (keyPart (ky i))) (sk (wb w b) os k t) k:=by
  intro K H gd lv code pos
  refine⟨1,pos,Nat.le_refl _,?_⟩
  rw [gT,PySem.W.Fast.te10295753902157049106,PySem.W.Fast.te14364793385576792824];kernel_rfl
theorem zA (w:World) (b:Bool) (os:OsState) (k t i:Nat):To (wb w b) 1 (sk (wb w b) os k t) (dictEntries 168 (keyPart (ky i))) (sk (wb w b) os k t) (sW w.params k):=by
  intro K H gd lv code pos
  refine⟨1,pos,Nat.le_refl _,?_⟩
  rw [gT,PySem.W.Fast.te10295753902157049106,PySem.W.Fast.te14364793385576792824];kernel_rfl
theorem RE (w:World) (b:Bool) (os:OsState) (k t:Nat) (hk:k<4):To (wb w b) 3 (sk (wb w b) os k t) (updateDictKeys 168 (·.push ⟨hashW w.params (.bytes (kb k)),ky k,kv k⟩) (keyPart (ky k))) (sk (wb w b) os (k+1) t) ():=by
  intro K H gd lv code pos
  refine⟨3,pos,Nat.le_refl _,?_⟩
  have h:k=0∨k=1∨k=2∨k=3:=(by decide:∀ a:Fin 4,a.val=0∨a.val=1∨a.val=2∨a.val=3) ⟨k,hk⟩
  rcases h with rfl | rfl | rfl | rfl <;> (rw [gT,PySem.W.Fast.te10295753902157049106,PySem.W.Fast.te14364793385576792824];kernel_rfl)
theorem BJ (P:Params) (k:Nat) (hk:k<4) (j:Nat) (e:DictEntry) (h:(sW P k)[j]?=some e):j<k∧e.key=ky j:=by
  have hk':k=0∨k=1∨k=2∨k=3:=(by decide:∀ a:Fin 4,a.val=0∨a.val=1∨a.val=2∨a.val=3) ⟨k,hk⟩
  rcases hk' with rfl | rfl | rfl | rfl
  · simp [sW] at h
  · match j,h with
    | 0,h=>simp [sW] at h;subst h;exact⟨by omega,rfl⟩
    | j+1,h=>simp [sW] at h
  · match j,h with
    | 0,h=>simp [sW] at h;subst h;exact⟨by omega,rfl⟩
    | 1,h=>simp [sW] at h;subst h;exact⟨by omega,rfl⟩
    | j+2,h=>simp [sW] at h
  · match j,h with
    | 0,h=>simp [sW] at h;subst h;exact⟨by omega,rfl⟩
    | 1,h=>simp [sW] at h;subst h;exact⟨by omega,rfl⟩
    | 2,h=>simp [sW] at h;subst h;exact⟨by omega,rfl⟩
    | j+3,h=>simp [sW] at h
theorem NU (w:World) (b:Bool) (os:OsState) (k t:Nat) (hk:k<4) (h:Int) (places:List Nat):To (wb w b) (10*places.length) (sk (wb w b) os k t) (dictWalkPlain 168 (ky k) h (sW w.params k) places) (sk (wb w b) os k t) none:=by
  unfold dictWalkPlain
  rw [show 10*places.length=10*places.length+0 from rfl]
  refine To.bind (a:=(none,())) ?_ (by exact To.pure (α:=Option Nat) none)
  induction places with
  | nil=>exact To.pure _
  | cons i r ih =>
    rw [List.forIn_cons,show 10*(i::r).length=10+10*r.length by rw [List.length_cons];omega]
    refine To.bind (a:=ForInStep.yield (none,())) ?_ ih
    cases q:(sW w.params k)[i]? with
    | none=>exact(To.pure _).mono (by omega)
    | some e =>
      obtain⟨q1,q2⟩:=BJ w.params k hk i e q
      dsimp only
      split
      · refine To.mono (N:=1+(4+(1+(1+0)))) (To.bind (x4 w b os k t k) ?_) (by omega)
        rw [q2]
        refine To.bind (eq_to w b os k t k i q1 hk) (To.bind (x4 w b os k t k) ?_)
        rw [if_neg (by simp)]
        rw [if_neg (by decide)]
        exact To.bind (To.rule _) (To.pure _)
      · exact(To.pure _).mono (by omega)
theorem MC (w:World) (b:Bool) (os:OsState) (k t:Nat) (hk:k<4) (h:Int):To (wb w b) 31 (sk (wb w b) os k t) (dictFind 168 (ky k) h) (sk (wb w b) os k t) none:=by
  unfold dictFind
  refine To.holding ?_
  refine To.mono (N:=1+30) (To.bind (zA w b os k t k) ?_) (by omega)
  have all:((ky k::(placesWithHash (sW w.params k).size (fun i=>(sW w.params k)[i]?.map (fun xx=>xx.hash)) h).filterMap fun i=>(sW w.params k)[i]?.map (fun xx=>xx.key)).all carriedByValue)=true:=by
    rw [List.all_cons,List.all_eq_true.mpr,Bool.and_true]
    · rfl
    · intro v hv
      obtain⟨i,_,hi⟩:=List.mem_filterMap.mp hv
      cases he:(sW w.params k)[i]? with
      | none=>rw [he] at hi;cases hi
      | some e =>
        rw [he] at hi
        obtain rfl:e.key=v:=by simpa using hi
        rw [(BJ w.params k hk i e he).2];rfl
  have len:(placesWithHash (sW w.params k).size (fun i=>(sW w.params k)[i]?.map (fun xx=>xx.hash)) h).length≤3:=by
    unfold placesWithHash
    refine Nat.le_trans (List.length_filter_le _ _) ?_
    rw [List.length_range]
    have hk':k=0∨k=1∨k=2∨k=3:=(by decide:∀ a:Fin 4,a.val=0∨a.val=1∨a.val=2∨a.val=3) ⟨k,hk⟩
    rcases hk' with rfl | rfl | rfl | rfl <;> simp [sW]
  show To (wb w b) 30 _ (if _ then _ else _) _ _
  rw [if_pos all]
  exact(NU w b os k t hk h _).mono (by omega)
theorem w9 (w:World) (b:Bool) (os:OsState) (k t:Nat) (hk:k<4):To (wb w b) 50 (sk (wb w b) os k t) (dictSet 168 (ky k) (kv k)) (sk (wb w b) os (k+1) (t+1)) ():=by
  unfold dictSet
  refine To.holding (To.mono (N:=6+(31+(1+3))) (To.bind (MF w b os k k t hk) ?_) (by omega))
  unfold dictSetHashed
  refine To.holding (To.bind (MC w b os k (t+1) hk _) (To.bind (To.rule _) (RE w b os k (t+1) hk)))
noncomputable def vals:List (Value×Value):=[(ky 0,kv 0),(ky 1,kv 1),(ky 2,kv 2),(ky 3,kv 3)]
theorem OQ (w:World) (b:Bool) (os:OsState):To (wb w b) 200 (sk (wb w b) os 0 415) (forIn vals PUnit.unit fun(x:Value×Value) (_:PUnit)=>(match x with | (k,v)=>do dictSet 168 k v;pure (ForInStep.yield PUnit.unit):Sem (ForInStep PUnit))) (sk (wb w b) os 4 419) PUnit.unit:=by
  unfold vals
  refine To.mono (N:=50+0+(50+0+(50+0+(50+0+0)))) ?_ (by omega)
  rw [List.forIn_cons]
  refine To.bind (To.bind (w9 w b os 0 415 (by omega)) (To.pure _)) ?_
  show To _ _ _ (forIn _ _ _) _ _
  rw [List.forIn_cons]
  refine To.bind (To.bind (w9 w b os 1 416 (by omega)) (To.pure _)) ?_
  show To _ _ _ (forIn _ _ _) _ _
  rw [List.forIn_cons]
  refine To.bind (To.bind (w9 w b os 2 417 (by omega)) (To.pure _)) ?_
  show To _ _ _ (forIn _ _ _) _ _
  rw [List.forIn_cons]
  refine To.bind (To.bind (w9 w b os 3 418 (by omega)) (To.pure _)) ?_
  exact To.pure _
noncomputable def dPos:Pos:=⟨82,15,82,64⟩
noncomputable def NP:Pos:=⟨82,0,82,64⟩
noncomputable def NQ:List Expr:=match aK 22 with | .Assign t _ _=>t | _=>[]
noncomputable def vx:Expr:=match aK 22 with | .Assign _ v _=>v | _=>.Constant .none 0 default
noncomputable def prs:List (Sem Value×Sem Value):=match vx with
  | .Dict ks vs p=>((evalEachOpt ks aP).filterMap id).zip ((evalEach vs aP).map fun v=>do let x ← v;standAt p;pure x)
  | _=>[]
noncomputable def s6 (w:World) (os:OsState):SharedT:=⟨tr6 w.params,168,{},#[],{},407,os⟩
theorem EJ (w:World) (os:OsState):To w 1 (s6 w os) (alloc { cls:=.type "dict",data:=.dict #[] }) (sk w os 0 407) 168:=by
  intro K H gd lv code pos
  refine⟨1,pos,Nat.le_refl _,?_⟩
  rw [gT,PySem.W.Fast.te10295753902157049106,PySem.W.Fast.te14364793385576792824];kernel_rfl
theorem IC (w:World) (os:OsState):To w 12 (sk w os 0 407) (evalPairs prs) (sk w os 0 415) vals:=by
  intro K H gd lv code pos
  refine⟨12,dPos,Nat.le_refl _,?_⟩
  rw [gT,PySem.W.Fast.te10295753902157049106,PySem.W.Fast.te14364793385576792824];kernel_rfl
theorem RL (w:World) (b:Bool) (os:OsState):To (wb w b) 300 (s6 (wb w b) os) (subDict prs) (sk (wb w b) os 4 419) 168:=by
  unfold subDict
  refine To.mono (N:=1+(12+(200+0)+0)) (To.bind (EJ _ os) ?_) (by omega)
  refine To.bind (a:=()) (To.holding ?_) (To.pure _)
  rw [if_pos (by decide)]
  exact To.bind (IC _ os) (To.holding (To.bind (OQ w b os) (To.pure _)))
theorem vx_eq:eval vx aP=(do standAt dPos;(subDict prs >>= fun d=>pure (some d)) >>= fun(m:Option Addr)=>match m with | some d=>pure (.ref d) | none=>newDict):=by
  kernel_rfl
theorem vx_to (w:World) (b:Bool) (os:OsState):To (wb w b) 301 (s6 (wb w b) os) (eval vx aP) (sk (wb w b) os 4 419) (.ref 168):=by
  rw [vx_eq]
  exact To.mono (N:=1+(300+0+0)) (To.bind (To.standAt _) (To.bind (To.bind (RL w b os) (To.pure _)) (To.pure _))) (by omega)
noncomputable def ToP {α:Type} (w:World) (N:Nat) (s:SharedT) (x:Sem α) (s':SharedT) (a:α) (q:Pos):Prop :=
  ∀ (K:α→Sem Fin) (H:Value→Sem Fin) (gd:Bool→Bool) (lv:List Value→List Value) (code:Code) (pos:Pos),
    ∃ n,n≤N∧gT w n s ⟨x.wrap K H gd lv,code,pos,[topFrame pq]⟩=some (s',⟨K a,code,q,[topFrame pq]⟩)
theorem To.BF {α β:Type} {w:World} {s s1 s2:SharedT} {N M:Nat} {x:Sem α} {f:α→Sem β} {a:α} {b:β} {q:Pos} (h:To w N s x s1 a) (k:ToP w M s1 (f a) s2 b q):ToP w (N+M) s (x >>= f) s2 b q:=fun K H gd lv code pos=>by
  obtain⟨n,p1,hn,e⟩:=h (fun a=>(f a).wrap K H gd lv) H gd lv code pos
  obtain⟨m,hm,e2⟩:=k K H gd lv code p1
  refine⟨n+m,by omega,?_⟩
  rw [Sem.bind_eq_wrap',Sem.wrap_wrap]
  exact BN e e2
noncomputable def s7 (w:World) (os:OsState):SharedT:=⟨OM w.params,169,{},#[],{},420,os⟩
theorem D7 (w:World) (os:OsState):ToP w 7 (sk w os 4 419) (assignStores aP (.ref 168) none ((assignEach NQ aP).map (fun xx=>xx.2))) (s7 w os) .next IG:=by
  intro K H gd lv code pos
  refine⟨7,Nat.le_refl _,?_⟩
  rw [gT,PySem.W.Fast.te10295753902157049106,PySem.W.Fast.te14364793385576792824];kernel_rfl
theorem L9:exec (aK 22) aP=(do
    standAt NP
    let c ← swapsWithSole NQ vx NP.line aP
    if c=true then evalThenUse vx aP (fun v=>assignAll v ((assignEach NQ aP).map (fun xx=>xx.2))) >>= fun xx=>pure .next
    else do
      let v ← eval vx aP
      let sw ← swappedStores NQ vx aP
      assignStores aP v sw ((assignEach NQ aP).map (fun xx=>xx.2))):=by
  kernel_rfl
theorem MA (w:World) (b:Bool) (os:OsState):ToP (wb w b) 400 (s6 (wb w b) os) (exec (aK 22) aP) (s7 (wb w b) os) .next IG:=by
  rw [L9]
  intro K H gd lv code pos
  have sw:swapsWithSole NQ vx NP.line aP=Pure.pure false:=by kernel_rfl
  have ss:swappedStores NQ vx aP=Pure.pure none:=by kernel_rfl
  rw [sw,ss]
  obtain⟨n,hn,e⟩:=To.BF (To.standAt (w:=wb w b) (s:=s6 (wb w b) os) NP) (f:=fun xx=>do
    let c ← (Pure.pure false:Sem Bool)
    if c=true then evalThenUse vx aP (fun v=>assignAll v ((assignEach NQ aP).map (fun xx=>xx.2))) >>= fun xx=>pure Flow.next
    else do
      let v ← eval vx aP
      let sw ← (Pure.pure none:Sem (Option (List Str)))
      assignStores aP v sw ((assignEach NQ aP).map (fun xx=>xx.2))) (To.BF (To.pure false) (To.BF (vx_to w b os) (To.BF (To.pure none) (D7 _ os)))) K H gd lv code pos
  exact⟨n,by omega,e⟩
theorem pc6b (w:World) (b:Bool) (os:OsState):segRunT treeTable pw (wb w b) 11 cZ 1 401 ⟨tr6 (wb w b).params,168,{},#[],{},407,os⟩ (piecesOf gr6 aP (.body dV aP) RD [topFrame pq])=some (.next,⟨OM (wb w b).params,169,{},#[],{},420,os⟩,.body dV aP,IG):=by
  obtain⟨n,hn,e⟩:=MA w b os (fun f=>((match f with | .next=>execs [] aP | f=>Pure.pure f):Sem Flow).wrap doneF deadEnd id id) deadEnd id id (.body dV aP) RD
  have r:segRunT treeTable pw (wb w b) 11 cZ 1 1 (s7 (wb w b) os) ⟨doneF .next,.body dV aP,IG,[topFrame pq]⟩=some (.next,s7 (wb w b) os,.body dV aP,IG):=rfl
  have h:=ME e r
  have h2:=D4 (400 - n) h
  rw [show n+1+(400 - n)=401 by omega] at h2
  have q:piecesOf gr6 aP (.body dV aP) RD [topFrame pq]=⟨(exec (aK 22) aP).wrap (fun f=>((match f with | .next=>execs [] aP | f=>Pure.pure f):Sem Flow).wrap doneF deadEnd id id) deadEnd id id,.body dV aP,RD,[topFrame pq]⟩:=by
    unfold piecesOf gr6
    have x:execs [aK 22] aP=exec (aK 22) aP >>= fun f=>(match f with | .next=>execs [] aP | f=>Pure.pure f):=rfl
    rw [x,Sem.bind_eq_wrap',Sem.wrap_wrap]
    rfl
  rw [q]
  exact h2
theorem pc6 (w:World) (os:OsState):segRunT treeTable pw w 11 cZ 1 401 ⟨tr6 w.params,168,{},#[],{},407,os⟩ (piecesOf gr6 aP (.body dV aP) RD [topFrame pq])=some (.next,⟨OM w.params,169,{},#[],{},420,os⟩,.body dV aP,IG) :=
  byRow2 "special-get-raises" (P:=fun w=>∀ os:OsState,segRunT treeTable pw w 11 cZ 1 401 ⟨tr6 w.params,168,{},#[],{},407,os⟩ (piecesOf gr6 aP (.body dV aP) RD [topFrame pq])=some (.next,⟨OM w.params,169,{},#[],{},420,os⟩,.body dV aP,IG)) (fun w os=>pc6b w false os) (fun w os=>pc6b w true os) w os
noncomputable def jG (P:Params):Heap:=absHeap (tr12 P) 441 {}
theorem OZ:dV=gr0++(gr1++(gr2++(gr3++(gr4++(gr5++(gr6++(PB++(gr8++(gr9++(O9++(PA++[]))))))))))):=by kernel_rfl
theorem O8 (w:World) (os:OsState):topRun treeTable pw w 11 cZ 2 ⟨jG w.params,#[],{},858,os⟩ (restOf [] aP (.body dV aP) ps11 [topFrame pq])=some ⟨jG w.params,#[],{},858,os⟩:=by
  rw [PySem.W.Fast.te14082659384304107361,PySem.W.Fast.te14364793385576792824]
  kernel_rfl
theorem NN (w:World) (os:OsState):topRun treeTable pw w 11 cZ 8000 ⟨boot_heap w.params,Array.mk [],boot_drawn,boot_toks,os⟩ (topStub pw)=some ⟨jG w.params,#[],{},858,os⟩:=by
  have k:=O8 w os
  replace k:=piece_app (segRun_of (pc11 w os)) k
  replace k:=piece_app (segRun_of (pc10 w os)) k
  replace k:=piece_app (segRun_of (pc9 w os)) k
  replace k:=piece_app (segRun_of (pc8 w os)) k
  replace k:=piece_app (segRun_of (pc7 w os)) k
  replace k:=piece_app (segRun_of (pc6 w os)) k
  replace k:=piece_app (segRun_of (pc5 w os)) k
  replace k:=piece_app (segRun_of (pc4 w os)) k
  replace k:=piece_app (segRun_of (pc3 w os)) k
  replace k:=piece_app (segRun_of (pc2 w os)) k
  replace k:=piece_app (segRun_of (pc1 w os)) k
  replace k:=piece_app (segRun_of (pc0 w os)) k
  rw [← OZ] at k
  replace k:=piece_block (O4 w os) k
  replace k:=go_top (RC w os) k
  obtain⟨M,hM,k⟩:∃ M,M≤8000∧topRun treeTable pw w 11 cZ M ⟨boot_heap w.params,Array.mk [],boot_drawn,boot_toks,os⟩ (topStub pw)=some ⟨jG w.params,#[],{},858,os⟩:=⟨_,by decide,k⟩
  have h:=topRun_mono (8000 - M) _ _ _ _ k
  rwa [show M+(8000 - M)=8000 by omega] at h
noncomputable def qv:Program:={ pw with main:={ pw.main with body:=pw.main.body.drop 50 } }
noncomputable def loose:List Str:=(["GitError","BadObject","BadBits","BadDelta","BadPack","big_endian","be32","at_big_endian","at_be32","put_size","at_size","put_offset","at_offset","CountingHasher","PACK_SIGN","PACK_VERSION","PACK_VERSIONS_READ","PACK_HEAD_SIZE","OFFSET_DELTA","ID_DELTA"]:List Str) ++
  (["KIND_NUMBERS","NUMBER_KINDS","entry_head","at_entry_head","PackEntry","PackBuilder","pack_closed","write_pack","Scanned","pack_count","pack_unpacked","scan_entry","scan_pack","StoredCodec"]:List Str) ++
  (["_law_draw","_law_head","_law_back","_law_stored","_law_four","_law_octets","_law_rows","_law_plain","_law_signed","_law_is_refused","_law_scanned","_law_wrong_ones"]:List Str)
theorem open0:∀ w:World,(fencedOpening treeTable pw w 8000).map (fun s=>(s.heap,s.gens,s.drawn,s.toks))=some (boot_heap w.params,Array.mk [],boot_drawn,boot_toks) :=
  boot_open (by kernel_rfl) (by decide) (fun s=>by kernel_rfl)
theorem size0:∀ w:World,((boot_heap w.params).isNs mainGlobals && (Array.mk []:Array GenState).size == 0,(boot_heap w.params).objs.size,(boot_heap w.params).nsMap mainGlobals "__annotations__")=(true,11,cZ):=fun w=>by
  rw [PySem.W.Fast.te8920871248978507458];kernel_rfl
theorem look0 (w:World) (os:OsState):(staticsOk (importedModules pw.main.body) (boot_heap w.params) (jG w.params) && namesBound pw (jG w.params) && gensDone ⟨jG w.params,#[],{},858,os⟩ && laidKept (boot_heap w.params) (jG w.params))=true:=by
  rw [PySem.W.Fast.te5923862056798008813];kernel_rfl
theorem look1 (w:World) (os:OsState):openSeen qv loose (importedModules pw.main.body) (fun xx=>true) true ⟨jG w.params,#[],{},858,os⟩=openGood qv loose:=by
  rw [PySem.W.Fast.te5923862056798008813,PySem.W.Fast.te4187177175401517315];kernel_rfl
theorem left:LeftO pw qv loose (fun xx=>true) (fun s=>s.heap) (fun w=>jG w.params) 8000 :=
  LeftO.of_pieces open0 size0 NN (by decide) fun w=>funext fun os=>Prod.ext (look0 w os) (Prod.ext (look1 w os) rfl)
@[elab_as_elim] theorem gen {α:Sort _} {P:α→Prop} (e:α) (h:∀ x,e=x→P x):P e:=h e rfl
@[elab_as_elim] theorem gen0 {α:Sort _} {P:α→Prop} (e:α) (h:∀ x,P x):P e:=h e
theorem pW {t:BT} {n:Nat} {life:Life} {a:Nat} {o:Obj} (h:a<n) (g:t.get a=some o) (e:alive o=some o):(absHeap t n life).get? a=some o:=(abs_get h g).trans e
noncomputable def KF (P:Params):Frag:=[(0,jW P),(2,nV P),(3,OH P),(22,eL P),(28,eM P),(29,eN P),(31,eO P),(32,lR P),(44,f6 P),(45,f7 P),(56,iO P),(57,iP P),(68,jR P),(69,jS P),(80,mG P),(81,mH P),(87,mI P),(88,mJ P),(94,mL P),(95,mM P),(101,eX P),(102,eY P),(108,eZ P),(109,e5 P),(115,e7 P),(116,e8 P),(122,e9 P),(123,fA P),(129,gZ P),(130,g6 P),(136,g7 P),(137,g8 P),(145,g9 P),(151,hJ P),(152,hU P),(158,hV P),(159,hZ P),(161,iA P),(162,iB P),(167,iC P),(168,iD P),(169,kV P),(175,nI P),(176,nJ P),(182,nK P),(183,nM P),(191,nN P),(197,nO P),(198,nP P),(204,nQ P),(205,nR P),(207,nS P),(208,nU P),(220,rN P),(226,rO P),(227,rP P),(233,rQ P),(234,rR P),(240,rS P),(241,rT P),(247,rU P),(248,rV P),(250,rW P),(251,rX P),(261,rY P),(262,rZ P),(263,r7 P),(269,r8 P),(270,r9 P),(283,wJ P),(284,wK P),(290,wL P),(291,wM P),(293,wN P),(294,wO P),(304,wQ P),(305,wR P),(311,wU P),(312,wV P),(318,wW P),(319,wX P),(325,AL P),(326,AM P),(339,AN P),(340,AO P),(341,AP P),(347,AQ P),(348,AR P),(350,AS P),(351,AU P),(361,AV P),(362,AW P),(368,AX P),(369,AY P),(375,G8 P),(376,HA P),(382,HB P),(383,HC P),(389,HD P),(390,HE P),(394,HF P),(395,HG P),(401,HH P),(402,HI P),(408,HJ P),(409,HK P),(415,HL P),(416,HM P),(422,HN P),(423,HO P),(429,HP P),(430,HQ P),(434,HR P),(435,HS P),(439,HT P),(440,HU P)]
theorem inNil {h:Heap}:Frag.In [] h:=fun a o e=>by cases e
set_option tactic.hygienic true in
theorem PD {h:Heap} {a:Addr} {o:Obj} {l:Frag} (x:h.get? a=some o) (y:Frag.In l h):Frag.In ((a,o)::l) h:=fun b p e=>by
  rw [List.lookup_cons] at e
  split at e
  · rename_i q;cases beq_iff_eq.mp q;cases e;exact x
  · exact y b p e
theorem KF_hp (P:Params):(KF P).In (jG P):=by
  unfold KF
  repeat refine PD (pW (by decide) (by kernel_rfl) (by kernel_rfl)) ?_
  exact inNil
noncomputable abbrev FM:=Addr→Option Obj
noncomputable def Le (F F':FM):Prop:=∀ a o,F a=some o→F' a=some o
theorem Le.refl (F:FM):Le F F:=fun xx xx e=>e
theorem Le.trans {F F' F'':FM} (a:Le F F') (b:Le F' F''):Le F F'':=fun x o e=>b x o (a x o e)
noncomputable def F0:FM:=fun xx=>none
theorem Le.zero (F:FM):Le F0 F:=fun xx xx e=>by cases e
noncomputable abbrev Kp (h h':Heap):Prop:=∀ b o,h.get? b=some o→h'.get? b=some o
theorem Kp.refl (h:Heap):Kp h h:=fun xx xx e=>e
noncomputable abbrev sh (s:Shared) (h:Heap) (k:Nat):Shared:={ s with heap:=h,toks:=k }
noncomputable abbrev MM (w:World):=model pw w
inductive PV where
  | none | bool (b:Bool) | int (i:Int) | bytes (b:List UInt8) | str (s:Str) | val (v:Value)
  | pO (a C dx:Addr) | tup (ps:List PV) | lst (ps:List PV) | inst (C:Addr) (xs:List Str) (ps:List PV)
noncomputable abbrev seqObj (T:String) (vs:List Value) (n:Nat):Obj:={ cls:=.type T,data:=.seq vs.toArray n }
inductive Ent (P:Params):List Str→List Value→List DictEntry→Prop
  | nil:Ent P [] [] []
  | cons {x xs v vs t es}:Ent P xs vs es→Ent P (x::xs) (v::vs) (⟨PyData.keyHash P x,.str x t,v⟩::es)
mutual
noncomputable def PV.Is (P:Params) (F:FM):PV→Value→Prop
  | .none,v=>v=Value.none
  | .bool b,v=>v=Value.bool b
  | .int i,v=>∃ t,v=Value.int i t
  | .bytes b,v=>∃ t,v=Value.bytes b.toArray t
  | .str s,v=>∃ t,v=Value.str s t
  | .val u,v=>v=u
  | .pO a C dx,v=>v=Value.ref a∧F a=some (instObj C dx)
  | .tup ps,v=>∃ a vs n,v=Value.ref a∧F a=some (seqObj "tuple" vs n)∧aS P F ps vs
  | .lst ps,v=>∃ a vs n,v=Value.ref a∧F a=some (seqObj "list" vs n)∧aS P F ps vs
  | .inst C xs ps,v=>∃ a dx vs es n,v=Value.ref a∧F a=some (instObj C dx)∧F dx=some (dictOf es n)∧Ent P xs vs es∧aS P F ps vs
noncomputable def aS (P:Params) (F:FM):List PV→List Value→Prop
  | [],vs=>vs=[]
  | p::ps,vs=>∃ v us,vs=v::us∧PV.Is P F p v∧aS P F ps us
end
mutual
theorem PV.Is.mono {P:Params} {F F':FM} (l:Le F F'):∀ {p:PV} {v:Value},p.Is P F v→p.Is P F' v
  | .none,_,h=>h | .bool _,_,h=>h | .int _,_,h=>h | .bytes _,_,h=>h | .str _,_,h=>h | .val _,_,h=>h
  | .pO _ _ _,_,h=>⟨h.1,l _ _ h.2⟩
  | .tup ps,_,h=>Exists.imp (fun xx q=>q.imp fun xx q=>q.imp fun xx q=>⟨q.1,l _ _ q.2.1,aS.mono l q.2.2⟩) h
  | .lst ps,_,h=>Exists.imp (fun xx q=>q.imp fun xx q=>q.imp fun xx q=>⟨q.1,l _ _ q.2.1,aS.mono l q.2.2⟩) h
  | .inst C xs ps,_,h=>Exists.imp (fun xx q=>q.imp fun xx q=>q.imp fun xx q=>q.imp fun xx q=>q.imp fun xx q=>⟨q.1,l _ _ q.2.1,l _ _ q.2.2.1,q.2.2.2.1,aS.mono l q.2.2.2.2⟩) h
theorem aS.mono {P:Params} {F F':FM} (l:Le F F'):∀ {ps:List PV} {vs:List Value},aS P F ps vs→aS P F' ps vs
  | [],_,h=>h
  | p::ps,_,h=>by
    unfold aS at h ⊢
    obtain⟨v,us,e,f,q⟩:=h
    exact⟨v,us,e,PV.Is.mono l f,aS.mono l q⟩
end
theorem aS.length {P:Params} {F:FM}:∀ {ps:List PV} {vs:List Value},aS P F ps vs→vs.length=ps.length
  | [],_,h=>by unfold aS at h;subst h;rfl
  | p::ps,_,h=>by
    unfold aS at h
    obtain⟨v,us,rfl,-,q⟩:=h
    rw [List.length_cons,List.length_cons,aS.length q]
theorem aS.nil {P:Params} {F:FM}:aS P F [] []:=by unfold aS;rfl
theorem aS.cons {P:Params} {F:FM} {p:PV} {ps:List PV} {v:Value} {vs:List Value} (h:p.Is P F v) (t:aS P F ps vs):aS P F (p::ps) (v::vs):=by
  unfold aS;exact⟨v,vs,rfl,h,t⟩
theorem aS.aZ {P:Params} {F:FM} {p:PV} {ps:List PV} {vs:List Value} (h:aS P F (p::ps) vs):∃ v us,vs=v::us∧p.Is P F v∧aS P F ps us:=by
  unfold aS at h;exact h
theorem aS.cT {P:Params} {F:FM} {vs:List Value} (h:aS P F [] vs):vs=[]:=by
  unfold aS at h;exact h
theorem aS.append {P:Params} {F:FM} {ps qs:List PV} {vs us:List Value} (h:aS P F ps vs) (q:aS P F qs us):aS P F (ps++qs) (vs++us):=by
  induction ps generalizing vs with
  | nil=>rw [h.cT];exact q
  | cons p ps ih =>
    obtain⟨v,us,rfl,a,b⟩:=h.aZ
    exact .cons a (ih b)
theorem aS.one {P:Params} {F:FM} {p:PV} {v:Value} (h:p.Is P F v):aS P F [p] [v]:=.cons h .nil
theorem aS.get {P:Params} {F:FM} {ps:List PV} {vs:List Value} {i:Nat} {p:PV} (h:aS P F ps vs) (e:ps[i]?=some p):∃ v,vs[i]?=some v∧p.Is P F v:=by
  induction ps generalizing vs i with
  | nil=>cases e
  | cons q ps ih =>
    obtain⟨v,us,rfl,a,b⟩:=h.aZ
    cases i with
    | zero=>cases e;exact⟨v,rfl,a⟩
    | succ i=>exact ih (vs:=us) (i:=i) b e
theorem aS.set {P:Params} {F:FM} {p:PV} {v:Value} (y:p.Is P F v) {ps:List PV} {vs:List Value} (h:aS P F ps vs) (i:Nat):aS P F (ps.set i p) (vs.set i v):=by
  induction ps generalizing vs i with
  | nil=>rw [h.cT];exact .nil
  | cons q ps ih =>
    obtain⟨u,us,rfl,a,b⟩:=h.aZ
    cases i with
    | zero=>exact .cons y b
    | succ i=>exact .cons a (ih b i)
theorem aS.reverse {P:Params} {F:FM}:∀ {ps:List PV} {vs:List Value},aS P F ps vs→aS P F ps.reverse vs.reverse
  | [],_,h=>by rw [h.cT];exact .nil
  | q::ps,_,h=>by
    obtain⟨u,us,rfl,a,b⟩:=h.aZ
    rw [List.reverse_cons,List.reverse_cons]
    exact(aS.reverse b).append (.one a)
theorem aS.take {P:Params} {F:FM}:∀ {ps:List PV} {vs:List Value} (_:aS P F ps vs) (i:Nat),aS P F (ps.take i) (vs.take i)
  | [],_,h,i=>by rw [h.cT];simp;exact .nil
  | q::ps,_,h,i=>by
    obtain⟨u,us,rfl,a,b⟩:=h.aZ
    cases i with
    | zero=>exact .nil
    | succ i=>exact .cons a (aS.take b i)
theorem aS.drop {P:Params} {F:FM} {ps:List PV} {vs:List Value} (h:aS P F ps vs) (i:Nat):aS P F (ps.drop i) (vs.drop i):=by
  induction ps generalizing vs i with
  | nil=>rw [h.cT];simp;exact .nil
  | cons q ps ih =>
    obtain⟨u,us,rfl,a,b⟩:=h.aZ
    cases i with
    | zero=>exact .cons a b
    | succ i=>exact ih b i
theorem aS.split {P:Params} {F:FM} {ps qs:List PV} {vs:List Value} (h:aS P F (ps++qs) vs):∃ us ws,vs=us++ws∧aS P F ps us∧aS P F qs ws:=by
  induction ps generalizing vs with
  | nil=>exact⟨[],_,rfl,.nil,h⟩
  | cons p ps ih =>
    obtain⟨v,us,rfl,a,b⟩:=aS.aZ h
    obtain⟨x,y,rfl,c,d⟩:=ih b
    exact⟨v::x,y,rfl,.cons a c,d⟩
inductive Look:List (Str×PV)→Str→PV→Prop
  | head {x p r}:Look ((x,p)::r) x p
  | tail {x p y q r}:x≠y→Look r x p→Look ((y,q)::r) x p
inductive PO where
  | frame (ρ:List (Str×PV)) | list (ps:List PV) | ns (xs:List Str) (ps:List PV)
  | dB (kvs:List (List UInt8×PV)) | dI (kvs:List (Int×PV)) | barr (b:List UInt8) | exc (C:Addr) (c:Value) (p:PV) | raw (o:Obj) | cell (p:PV)
noncomputable def mV (w:World) (F:FM) (h:Heap) (a C:Addr) (c:Value) (p:PV):Prop :=
  ∃ dx vs,h.get? a=some ⟨.ref C,some dx,.fields vs,#[]⟩∧vs.size=6∧vs[2]?=some c∧(∃ v t n,F dx=some (dictOf [⟨PyData.keyHash w.params "told",.str "told" t,v⟩] n)∧p.Is w.params F v) ∧
    (vs[1]?=some Value.none∨∃ T oT ts x,vs[1]?=some (Value.ref T)∧F T=none∧h.get? T=some oT∧oT.cls=.type "traceback"∧oT.data=.fields ts∧ts[3]?=some x)
noncomputable def gD (o:Obj):Prop:=o.cls=.type "traceback"→∀ ts,o.data≠.fields ts
noncomputable def PO.At (w:World) (F:FM) (h:Heap) (a:Addr):PO→Prop
  | .frame ρ=>∃ m,h.Ns a m∧∀ x p,Look ρ x p→∃ v,m x=some v∧p.Is w.params F v
  | .list ps=>∃ vs n,h.get? a=some (seqObj "list" vs n)∧aS w.params F ps vs
  | .ns xs ps=>∃ vs es n,h.get? a=some (dictOf es n)∧Ent w.params xs vs es∧aS w.params F ps vs
  | .dB kvs=>∃ kw:List (List UInt8×Value),h.DictOf (bytesKind pw w) a kw∧kw.map (fun xx=>xx.1)=kvs.map (fun xx=>xx.1)∧aS w.params F (kvs.map (fun xx=>xx.2)) (kw.map (fun xx=>xx.2))
  | .dI kvs=>∃ kw:List (Int×Value),h.DictOf (intKind pw w) a kw∧kw.map (fun xx=>xx.1)=kvs.map (fun xx=>xx.1)∧aS w.params F (kvs.map (fun xx=>xx.2)) (kw.map (fun xx=>xx.2))
  | .barr b=>h.get? a=some { cls:=.type "bytearray",data:=.bytearray b.toArray 0 }
  | .exc C c p=>mV w F h a C c p
  | .raw o=>h.get? a=some o∧gD o
  | .cell p=>∃ o v,h.get? a=some o∧o.data=.cell (some v)∧p.Is w.params F v
noncomputable abbrev Led:=List (Addr×PO)
noncomputable def PO.isFrame:PO→Bool
  | .frame _=>true
  | _=>false
noncomputable def bN (G:Led):List Addr:=G.filterMap fun q=>if q.2.isFrame then some q.1 else none
structure Sb (w:World) (A:Around) (F:FM) (h:Heap) (G:Led):Prop where
  base:∀ a o,(jG w.params).get? a=some o→F a=some o
  sub:∀ a o,F a=some o→h.get? a=some o
  led:∀ q∈G,q.2.At w F h q.1∧F q.1=none
  nd:(G.map (fun xx=>xx.1)).Nodup
  fr:∃ envs,A.frames=some envs∧∀ env∈envs,env.scope.kind≠.module∧∃ L,env.frame=some L∧L∈bN G
theorem mV.mono {w:World} {F F':FM} {h h':Heap} {a C:Addr} {c:Value} {p:PV} (l:Le F F') (k:Kp h h') (fr:∀ b o,F b=none→h.get? b=some o→¬ gD o→F' b=none) (x:mV w F h a C c p):mV w F' h' a C c p :=
  x.imp fun xx q=>q.imp fun xx q=>⟨k _ _ q.1,q.2.1,q.2.2.1,q.2.2.2.1.imp fun xx r=>r.imp fun xx r=>r.imp fun xx r=>⟨l _ _ r.1,r.2.mono l⟩,
    q.2.2.2.2.imp id fun r=>r.imp fun T r=>r.imp fun oT r=>r.imp fun xx r=>r.imp fun xx r=>⟨r.1,fr T oT r.2.1 r.2.2.1 (fun n=>n r.2.2.2.1 _ r.2.2.2.2.1),k _ _ r.2.2.1,r.2.2.2⟩⟩
theorem PO.At.OC {w:World} {F F':FM} {h h':Heap} {a:Addr} (l:Le F F') (k:Kp h h') (fr:∀ b o,F b=none→h.get? b=some o→¬ gD o→F' b=none) {p:PO} (x:p.At w F h a):p.At w F' h' a:=by
  cases p with
  | frame ρ=>exact x.imp fun xx q=>⟨q.1.keeps k,fun x p lk=>(q.2 x p lk).imp fun xx r=>⟨r.1,r.2.mono l⟩⟩
  | list ps=>exact x.imp fun xx q=>q.imp fun xx q=>⟨k _ _ q.1,q.2.mono l⟩
  | ns xs ps=>exact x.imp fun xx q=>q.imp fun xx q=>q.imp fun xx q=>⟨k _ _ q.1,q.2.1,q.2.2.mono l⟩
  | dB kvs=>exact x.imp fun xx q=>⟨q.1.keep k,q.2.1,q.2.2.mono l⟩
  | dI kvs=>exact x.imp fun xx q=>⟨q.1.keep k,q.2.1,q.2.2.mono l⟩
  | barr b=>exact k _ _ x
  | exc C c p=>exact mV.mono l k fr x
  | raw o=>exact⟨k _ _ x.1,x.2⟩
  | cell p=>exact x.imp fun xx q=>q.imp fun xx q=>⟨k _ _ q.1,q.2.1,q.2.2.mono l⟩
theorem PO.At.mono {w:World} {F F':FM} {h h':Heap} {a:Addr} (l:Le F F') (k:Kp h h') (fr:∀ b,F b=none→h.get? b≠none→F' b=none) {p:PO} (x:p.At w F h a):p.At w F' h' a :=
  x.OC l k fun b xx f e xx=>fr b f fun z=>nomatch e.symm.trans z
theorem PO.At.there {w:World} {F:FM} {h:Heap} {a:Addr} {p:PO} (x:p.At w F h a):∃ o,h.get? a=some o:=by
  cases p with
  | frame ρ=>exact x.elim fun xx q=>q.1.elim fun o q=>q.elim fun xx q=>q.elim fun xx q=>⟨o,q.1⟩
  | list ps=>exact x.elim fun xx q=>q.elim fun xx q=>⟨_,q.1⟩
  | ns xs ps=>exact x.elim fun xx q=>q.elim fun xx q=>q.elim fun xx q=>⟨_,q.1⟩
  | dB kvs=>exact x.elim fun xx q=>q.1.elim fun o q=>q.elim fun xx q=>q.elim fun xx q=>⟨o,q.1⟩
  | dI kvs=>exact x.elim fun xx q=>q.1.elim fun o q=>q.elim fun xx q=>q.elim fun xx q=>⟨o,q.1⟩
  | barr b=>exact⟨_,x⟩
  | exc C c p=>exact x.elim fun xx q=>q.elim fun xx q=>⟨_,q.1⟩
  | raw o=>exact⟨o,x.1⟩
  | cell p=>exact x.elim fun o q=>q.elim fun xx q=>⟨o,q.1⟩
theorem b9 {h:Heap} {a:Addr} {o o':Obj} (ho:h.get? a=some o) (e:h.get? a=some o') (n:gD o'):gD o:=Option.some.inj (ho.symm.trans e) ▸ n
theorem PO.At.BU {w:World} {F:FM} {h:Heap} {a:Addr} {o:Obj} (ho:h.get? a=some o) {p:PO} (x:p.At w F h a):gD o:=by
  cases p with
  | frame ρ=>exact x.elim fun xx q=>q.1.elim fun o q=>q.elim fun xx q=>q.elim fun xx q=>b9 ho q.1 fun xx ts z=>nomatch q.2.1.symm.trans z
  | list ps=>exact x.elim fun xx q=>q.elim fun xx q=>b9 ho q.1 fun xx xx z=>nomatch z
  | ns xs ps=>exact x.elim fun xx q=>q.elim fun xx q=>q.elim fun xx q=>b9 ho q.1 fun xx xx z=>nomatch z
  | dB kvs=>exact x.elim fun xx q=>q.1.elim fun o q=>q.elim fun xx q=>q.elim fun xx q=>b9 ho q.1 fun xx ts z=>nomatch q.2.2.1.symm.trans z
  | dI kvs=>exact x.elim fun xx q=>q.1.elim fun o q=>q.elim fun xx q=>q.elim fun xx q=>b9 ho q.1 fun xx ts z=>nomatch q.2.2.1.symm.trans z
  | barr b=>exact b9 ho x fun xx xx z=>nomatch z
  | exc C c p=>exact x.elim fun xx q=>q.elim fun xx q=>b9 ho q.1 fun y xx xx=>nomatch y
  | raw o'=>exact b9 ho x.1 x.2
  | cell p=>exact x.elim fun o q=>q.elim fun xx q=>b9 ho q.1 fun xx xx z=>nomatch q.2.1.symm.trans z
noncomputable def EH (h:Heap) (T:Addr):Prop:=∃ oT ts x,h.get? T=some oT∧oT.cls=.type "traceback"∧oT.data=.fields ts∧ts[3]?=some x
theorem PO.At.moved {w:World} {F:FM} {h h':Heap} {a:Addr} (s:∀ o,h.get? a=some o→h'.get? a=some o) (tr:∀ T,F T=none→EH h T→EH h' T) {p:PO} (x:p.At w F h a):p.At w F h' a:=by
  cases p with
  | frame ρ=>exact x.imp fun xx q=>⟨q.1.imp fun xx q=>q.imp fun xx q=>q.imp fun xx q=>⟨s _ q.1,q.2⟩,q.2⟩
  | list ps=>exact x.imp fun xx q=>q.imp fun xx q=>⟨s _ q.1,q.2⟩
  | ns xs ps=>exact x.imp fun xx q=>q.imp fun xx q=>q.imp fun xx q=>⟨s _ q.1,q.2⟩
  | dB kvs=>exact x.imp fun xx q=>⟨q.1.imp fun xx q=>q.imp fun xx q=>q.imp fun xx q=>⟨s _ q.1,q.2⟩,q.2⟩
  | dI kvs=>exact x.imp fun xx q=>⟨q.1.imp fun xx q=>q.imp fun xx q=>q.imp fun xx q=>⟨s _ q.1,q.2⟩,q.2⟩
  | barr b=>exact s _ x
  | exc C c p=>exact x.imp fun xx q=>q.imp fun xx q=>⟨s _ q.1,q.2.1,q.2.2.1,q.2.2.2.1,q.2.2.2.2.imp id fun r=>r.elim fun T r=>r.elim fun oT r=>r.elim fun ts r=>r.elim fun x r=>(tr T r.2.1 ⟨oT,ts,x,r.2.2⟩).elim fun oT' t=>t.elim fun ts' t=>t.elim fun x' t=>⟨T,oT',ts',x',r.1,r.2.1,t⟩⟩
  | raw o=>exact⟨s _ x.1,x.2⟩
  | cell p=>exact x.imp fun xx q=>q.imp fun xx q=>⟨s _ q.1,q.2⟩
theorem EH.kept {h h':Heap} {T:Addr} (x:EH h T) (s:∀ o,h.get? T=some o→¬ gD o→h'.get? T=some o):EH h' T :=
  x.imp fun xx q=>q.imp fun xx q=>q.imp fun xx q=>⟨s _ q.1 fun n=>n q.2.1 _ q.2.2.1,q.2⟩
theorem PO.At.extBut {w:World} {F:FM} {h h':Heap} {a d:Addr} (ne:a≠d) (s:Heap.ExtBut d h h') (nt:∀ o,h.get? d=some o→gD o) {p:PO} (x:p.At w F h a):p.At w F h' a :=
  x.moved (fun o=>s a o ne) fun T xx t=>t.kept fun o e n=>s T o (fun z=>n (nt o (z ▸ e))) e
theorem PO.At.same {w:World} {F:FM} {h h':Heap} {a d:Addr} (ne:a≠d) (s:Heap.SameBut d h h') (nt:∀ o,h.get? d=some o→gD o) {p:PO} (x:p.At w F h a):p.At w F h' a :=
  x.extBut ne (fun b xx n e=>(s.2 b n).trans e) nt
section
variable {w:World} {A:Around} {F F':FM} {h h':Heap} {G G':Led}
theorem Sb.ext (S:Sb w A F h G) (k:Kp h h'):Sb w A F h' G :=
  ⟨S.base,fun a o e=>k _ _ (S.sub a o e),fun q hq=>⟨(S.led q hq).1.mono (Le.refl F) k (fun xx e xx=>e),(S.led q hq).2⟩,S.nd,S.fr⟩
theorem Sb.bE (S:Sb w A F h G):F h.objs.size=none:=by
  cases e:F h.objs.size with
  | none=>rfl
  | some o=>exact absurd (Heap.lt_size (S.sub _ _ e)) (Nat.lt_irrefl _)
theorem Sb.lt (S:Sb w A F h G) {q:Addr×PO} (hq:q∈G):q.1<h.objs.size:=let ⟨_,e⟩:=(S.led q hq).1.there;Heap.lt_size e
theorem Sb.ne_size (S:Sb w A F h G):h.objs.size∉G.map (fun xx=>xx.1):=fun hm=>by
  obtain⟨q,hq,e⟩:=List.mem_map.mp hm
  exact absurd (S.lt hq) (by rw [e];exact Nat.lt_irrefl _)
theorem cP {G G':Led} (s:∀ q∈G,q∈G') {L:Addr} (h:L∈bN G):L∈bN G':=by
  unfold bN at h ⊢
  obtain⟨q,hq,e⟩:=List.mem_filterMap.mp h
  exact List.mem_filterMap.mpr ⟨q,s q hq,e⟩
theorem Sb.push {o:Obj} {p:PO} (S:Sb w A F h G) (hf:o.isFreed=false) (ok:p.At w F (h.push o) h.objs.size):Sb w A F (h.push o) ((h.objs.size,p)::G):=by
  have k:Kp h (h.push o):=fun xx xx e=>Heap.get?_push_of_some _ e
  have S':=S.ext k
  refine⟨S'.base,S'.sub,fun q hq=>?_,?_,?_⟩
  · rcases List.mem_cons.mp hq with rfl | hq
    · exact⟨ok,S.bE⟩
    · exact S'.led q hq
  · rw [List.map_cons,List.nodup_cons];exact⟨S.ne_size,S.nd⟩
  · obtain⟨envs,e,f⟩:=S.fr
    exact⟨envs,e,fun env he=>⟨(f env he).1,let ⟨L,a,b⟩:=(f env he).2;⟨L,a,cP (fun q hq=>List.mem_cons_of_mem _ hq) b⟩⟩⟩
noncomputable def FM.put (F:FM) (a:Addr) (o:Obj):FM:=fun b=>if b=a then some o else F b
set_option tactic.hygienic true in
theorem Le.put {F:FM} {a:Addr} {o:Obj} (e:F a=none):Le F (F.put a o):=fun b x q=>by
  unfold FM.put
  split
  · rename_i z;subst z;rw [e] at q;cases q
  · exact q
theorem FM.bO {F:FM} {a:Addr} {o:Obj}:F.put a o a=some o:=if_pos rfl
theorem FM.w6 {F:FM} {a b:Addr} {o:Obj} (n:b≠a):F.put a o b=F b:=if_neg n
set_option tactic.hygienic true in
theorem Sb.fix {o:Obj} (S:Sb w A F h G) (hf:o.isFreed=false):Sb w A (F.put h.objs.size o) (h.push o) G:=by
  have k:Kp h (h.push o):=fun _ _ e=>Heap.get?_push_of_some _ e
  have l:Le F (F.put h.objs.size o):=Le.put S.bE
  refine⟨fun a x e=>l _ _ (S.base a x e),fun a x e=>?_,fun q hq=>⟨(S.led q hq).1.mono l k fun b e nb=>?_,?_⟩,S.nd,S.fr⟩
  · unfold FM.put at e
    split at e
    · rename_i z;subst z;cases e;exact Heap.get?_push_size _ hf
    · exact k _ _ (S.sub _ _ e)
  · rw [FM.w6];exact e
    intro z;subst z;exact nb (Heap.get?_none_of_le (Nat.le_refl _))
  · rw [FM.w6 (Nat.ne_of_lt (S.lt hq))];exact(S.led q hq).2
theorem Sb.perm (S:Sb w A F h G) (p:G.Perm G'):Sb w A F h G' :=
  ⟨S.base,S.sub,fun q hq=>S.led q (p.mem_iff.mpr hq),(p.map _).nodup_iff.mp S.nd,let ⟨envs,e,f⟩:=S.fr;⟨envs,e,fun env he=>⟨(f env he).1,let ⟨L,a,b⟩:=(f env he).2;⟨L,a,cP (fun q hq=>p.mem_iff.mp hq) b⟩⟩⟩⟩
theorem Sb.drop {d:Addr} {p:PO} (S:Sb w A F h ((d,p)::G)) (nf:p.isFrame=false):Sb w A F h G :=
  ⟨S.base,S.sub,fun q hq=>S.led q (List.mem_cons_of_mem _ hq),(List.nodup_cons.mp S.nd).2,let ⟨envs,e,f⟩:=S.fr;⟨envs,e,fun env he=>⟨(f env he).1,let ⟨L,a,b⟩:=(f env he).2;⟨L,a,by
    unfold bN at b;rw [List.filterMap_cons] at b;simp only [nf,Bool.false_eq_true,if_false] at b;exact b⟩⟩⟩⟩
theorem Sb.upd {d:Addr} {p p':PO} (S:Sb w A F h ((d,p)::G)) (sb:Heap.SameBut d h h') (a:p'.At w F h' d) (ff:p.isFrame=p'.isFrame):Sb w A F h' ((d,p')::G):=by
  have D:=S.led _ (.head _)
  have nd:=List.nodup_cons.mp S.nd
  refine⟨S.base,fun b o e=>(sb.2 b fun z=>by subst z;have z2:=D.2;rw [e] at z2;cases z2).trans (S.sub b o e),fun q hq=>?_,S.nd,?_⟩
  · rcases List.mem_cons.mp hq with rfl | hq
    · exact⟨a,D.2⟩
    · have Q:=S.led q (List.mem_cons_of_mem _ hq)
      exact⟨Q.1.same (fun z=>nd.1 (List.mem_map.mpr ⟨q,hq,z⟩)) sb (fun o ho=>D.1.BU ho),Q.2⟩
  · obtain⟨envs,e,f⟩:=S.fr
    refine⟨envs,e,fun env he=>⟨(f env he).1,let ⟨L,a,b⟩:=(f env he).2;⟨L,a,?_⟩⟩⟩
    unfold bN at b ⊢
    rw [List.filterMap_cons] at b ⊢
    dsimp only at b ⊢
    rw [← ff];exact b
set_option tactic.hygienic true in
theorem Sb.freeze {d:Addr} {p:PO} {o:Obj} (S:Sb w A F h ((d,p)::G)) (nf:p.isFrame=false) (ho:h.get? d=some o):Sb w A (F.put d o) h G:=by
  have D:=S.led _ (.head _)
  have nd:=List.nodup_cons.mp S.nd
  have S':=S.drop nf
  have l:Le F (F.put d o):=Le.put D.2
  refine⟨fun a x e=>l _ _ (S.base a x e),fun a x e=>?_,fun q hq=>⟨?_,?_⟩,S'.nd,S'.fr⟩
  · unfold FM.put at e
    split at e
    · rename_i z;subst z;cases e;exact ho
    · exact S.sub _ _ e
  · refine(S'.led q hq).1.OC l (fun _ _ e=>e) fun b o' f e n=>?_
    rw [FM.w6];exact f
    intro z;subst z;rw [ho] at e;cases e;exact n (D.1.BU ho)
  · rw [FM.w6];exact(S'.led q hq).2
    intro z;exact nd.1 (List.mem_map.mpr ⟨q,hq,z⟩)
theorem Sb.frames (S:Sb w A F h G) {A':Around} (e:A'.frames=A.frames):Sb w A' F h G:=⟨S.base,S.sub,S.led,S.nd,by rw [e];exact S.fr⟩
end
theorem Sb.kf {w:World} {A:Around} {F:FM} {h:Heap} {G:Led} (S:Sb w A F h G):(KF w.params).In h:=fun a o e=>S.sub _ _ (S.base _ _ (KF_hp w.params a o e))
theorem Sb.hp {w:World} {A:Around} {F:FM} {h:Heap} {G:Led} (S:Sb w A F h G):Kp (jG w.params) h:=fun a o e=>S.sub _ _ (S.base _ _ e)
theorem Sb.nolimit {w:World} {A:Around} {F:FM} {h:Heap} {G:Led} (S:Sb w A F h G):h.NoLimit :=
  Heap.NoLimit.keeps (h:=jG w.params) (.of_ok (by kernel_rfl)) S.hp
noncomputable def TX (w:World) (A:Around) (F:FM) {α:Type} (t:Sem α) (G:Led) (N:Led→FM→α→Prop) (X:Addr→Value→PV→Led→Prop):Prop :=
  ∀ (F1:FM) (H:Led) (s:Shared) (h:Heap) (k:Nat) (Q:α→Shared→Prop) (E:Value→Shared→Prop),Le F F1→Sb w A F1 h (G++H) →
    (∀ a F' h' k' G',Le F1 F'→Sb w A F' h' (G'++H)→N G' F' a→Q a (sh s h' k')) →
    (∀ e C c p F' h' k' G',Le F1 F'→Sb w A F' h' ((e,.exc C c p)::(G'++H))→X C c p G'→E (.ref e) (sh s h' k'))→wpAny (MM w) A t Q E (sh s h k)
noncomputable def bG:Addr→Value→PV→Led→Prop:=fun xx xx xx xx=>False
noncomputable def T (w:World) (A:Around) (F:FM) {α:Type} (t:Sem α) (G G':Led) (P:FM→α→Prop):Prop:=TX w A F t G (fun G'' F' a=>G''=G'∧P F' a) bG
section
variable {α β:Type} {w:World} {A:Around} {F F':FM} {G G' G2:Led} {N:Led→FM→α→Prop} {X:Addr→Value→PV→Led→Prop}
theorem TX.pure {a:α} (n:∀ F',Le F F'→N G F' a):TX w A F (Pure.pure a) G N X:=fun F1 H s h k Q E l S q x=>wpAny_pure (q a F1 h k G (.refl _) S (n F1 l))
theorem TX.low {t:Sem α} (y:TX w A F t G N X) (l:Le F F'):TX w A F' t G N X:=fun F1 H s h k Q E l' S q x=>y F1 H s h k Q E (l.trans l') S q x
theorem TX.bind {t:Sem α} {f:α→Sem β} {N':Led→FM→β→Prop} (y:TX w A F t G N X) (z:∀ a F' G',Le F F'→N G' F' a→TX w A F' (f a) G' N' X):TX w A F (t >>= f) G N' X :=
  fun F1 H s h k Q E l S q x=>wpAny_bind (y F1 H s h k _ E l S (fun a F' h' k' G' l' S' n=>z a F' G' (l.trans l') n F' H s h' k' Q E (.refl _) S' (fun b F'' h'' k'' G'' l'' S'' n'=>q b F'' h'' k'' G'' (l'.trans l'') S'' n')
    fun e C c p F'' h'' k'' G'' l'' S'' n'=>x e C c p F'' h'' k'' G'' (l'.trans l'') S'' n') x)
theorem TX.imp {t:Sem α} {N':Led→FM→α→Prop} {X':Addr→Value→PV→Led→Prop} (y:TX w A F t G N X) (i:∀ G' F' a,Le F F'→N G' F' a→N' G' F' a) (j:∀ C c p G',X C c p G'→X' C c p G'):TX w A F t G N' X' :=
  fun F1 H s h k Q E l S q x=>y F1 H s h k Q E l S (fun a F' h' k' G' l' S' n=>q a F' h' k' G' l' S' (i G' F' a (l.trans l') n)) fun e C c p F' h' k' G' l' S' n=>x e C c p F' h' k' G' l' S' (j C c p G' n)
theorem TX.gH {t:Sem α} {N':Led→FM→α→Prop} {X':Addr→Value→PV→Led→Prop} (y:TX w A F t G N X)
    (i:∀ G' F' a,Le F F'→N G' F' a→∃ G'',N' G'' F' a∧∀ F2 h H,Sb w A F2 h (G'++H)→Sb w A F2 h (G''++H))
    (j:∀ C c p G',X C c p G'→∃ G'',X' C c p G''∧∀ F2 h e H,Sb w A F2 h ((e,.exc C c p)::(G'++H))→Sb w A F2 h ((e,.exc C c p)::(G''++H))):TX w A F t G N' X' :=
  fun F1 H s h k Q E l S q x=>y F1 H s h k Q E l S (fun a F' h' k' G' l' S' n=>let ⟨G'',n',f⟩:=i G' F' a (l.trans l') n;q a F' h' k' G'' l' (f _ _ _ S') n')
    fun e C c p F' h' k' G' l' S' n=>let ⟨G'',n',f⟩:=j C c p G' n;x e C c p F' h' k' G'' l' (f _ _ _ _ S') n'
theorem TX.pre {t:Sem α} (y:TX w A F t G' N X) (f:∀ F2 h H,Sb w A F2 h (G++H)→Sb w A F2 h (G'++H)):TX w A F t G N X :=
  fun F1 H s h k Q E l S q x=>y F1 H s h k Q E l (f _ _ _ S) q x
theorem TX.frame {t:Sem α} (y:TX w A F t G N X) (G2:Led):TX w A F t (G++G2) (fun G' F' a=>∃ G1,G'=G1++G2∧N G1 F' a) (fun C c p G'=>∃ G1,G'=G1++G2∧X C c p G1) :=
  fun F1 H s h k Q E l S q x=>y F1 (G2++H) s h k Q E l (by rwa [← List.append_assoc])
    (fun a F' h' k' G' l' S' n=>q a F' h' k' (G'++G2) l' (by rwa [List.append_assoc]) ⟨G',rfl,n⟩)
    fun e C c p F' h' k' G' l' S' n=>x e C c p F' h' k' (G'++G2) l' (by rwa [List.append_assoc]) ⟨G',rfl,n⟩
theorem TX.holding {vs:List Value} {t:Sem α} (y:TX w A F t G N X):TX w A F (PySem.holding vs t) G N X:=fun F1 H s h k Q E l S q x=>wpAny_holding (y F1 H s h k Q E l S q x)
theorem TX.at {pos:Pos} {t:Sem α} (y:TX w A F t G N X):TX w A F (standAt pos >>= fun xx=>t) G N X:=fun F1 H s h k Q E l S q x=>wpAny_bind (wpAny_standAt (y F1 H s h k Q E l S q x))
theorem TX.operate {vs:List Value} {t:Sem Value} {N:Led→FM→Value→Prop} (y:TX w A F t G N X):TX w A F (PySem.operate vs t) G N X:=fun F1 H s h k Q E l S q x Γ p hΓ=>by
  rw [Sem.wp_operate];exact y F1 H s h k Q E l S q x Γ p hΓ
theorem T.x {t:Sem α} {P:FM→α→Prop} (y:T w A F t G G' P):TX w A F t G (fun G'' F' a=>G''=G'∧P F' a) X:=TX.imp y (fun xx xx xx xx h=>h) fun xx xx xx xx h=>h.elim
theorem T.low {t:Sem α} {P:FM→α→Prop} (y:T w A F t G G' P) (l:Le F F'):T w A F' t G G' P:=TX.low y l
theorem T.pure {a:α} {P:FM→α→Prop} (n:∀ F',Le F F'→P F' a):T w A F (Pure.pure a) G G P:=TX.pure fun F' l=>⟨rfl,n F' l⟩
theorem T.bind {t:Sem α} {f:α→Sem β} {P:FM→α→Prop} {R:FM→β→Prop} (y:T w A F t G G' P) (z:∀ a F',Le F F'→P F' a→T w A F' (f a) G' G2 R):T w A F (t >>= f) G G2 R :=
  TX.bind y fun a F' G'' l n=>by obtain⟨rfl,p⟩:=n;exact z a F' l p
theorem T.N4 {t:Sem α} {f:α→Sem β} {P:FM→α→Prop} {N':Led→FM→β→Prop} (y:T w A F t G G' P) (z:∀ a F',Le F F'→P F' a→TX w A F' (f a) G' N' X):TX w A F (t >>= f) G N' X :=
  TX.bind y.x fun a F' G'' l n=>by obtain⟨rfl,p⟩:=n;exact z a F' l p
theorem T.imp {t:Sem α} {P P':FM→α→Prop} (y:T w A F t G G' P) (i:∀ F' a,Le F F'→P F' a→P' F' a):T w A F t G G' P':=TX.imp y (fun xx F' a l h=>⟨h.1,i F' a l h.2⟩) fun xx xx xx xx h=>h
theorem T.holding {vs:List Value} {t:Sem α} {P:FM→α→Prop} (y:T w A F t G G' P):T w A F (PySem.holding vs t) G G' P:=TX.holding y
theorem T.at {pos:Pos} {t:Sem α} {P:FM→α→Prop} (y:T w A F t G G' P):T w A F (standAt pos >>= fun xx=>t) G G' P:=TX.at y
theorem T.operate {vs:List Value} {t:Sem Value} {P:FM→Value→Prop} (y:T w A F t G G' P):T w A F (PySem.operate vs t) G G' P:=TX.operate y
theorem T.of {t:Sem α} {P:FM→α→Prop} (y:∀ F1 s h k Q E H,Le F F1→Sb w A F1 h H→(∀ a h' k',Kp h h'→P F1 a→Q a (sh s h' k'))→wpAny (MM w) A t Q E (sh s h k)):T w A F t G G P :=
  fun F1 H s h k Q E l S q x=>y F1 s h k Q E (G++H) l S fun a h' k' kp p=>q a F1 h' k' G (.refl _) (S.ext kp) ⟨rfl,p⟩
theorem T.f9 {t:Sem α} {P:FM→α→Prop} (y:∀ F1 (s:Shared) Q E,Le F F1→(∀ a k',P F1 a→Q a { s with toks:=k' })→wpAny (MM w) A t Q E s):T w A F t G G P :=
  T.of fun F1 s h k Q E H l S q=>y F1 (sh s h k) Q E l fun a k' p=>q a h k' (.refl _) p
theorem eQ {γ:Type} {x y:γ}:∀ {l:List γ} {i:Nat},l[i]?=some x→(y::l.eraseIdx i).Perm (l.set i y)
  | [],i,e=>by simp at e
  | z::l,0,e=>by simp
  | z::l,i+1,e=>by
    simp only [List.eraseIdx_cons_succ,List.set_cons_succ]
    exact(List.Perm.swap _ _ _).trans ((eQ (l:=l) (i:=i) (by simpa using e)).cons _)
theorem yK {γ:Type} {x:γ} {l:List γ} {i:Nat} (e:l[i]?=some x):(x::l.eraseIdx i).Perm l:=by
  have:=eQ (y:=x) e
  rwa [show l.set i x=l from by
    obtain⟨li,ei⟩:=List.getElem?_eq_some_iff.mp e
    rw [← ei];exact List.set_getElem_self li] at this
theorem TX.use {t:Sem α} {i:Nat} {d:Addr} {p:PO} (hi:G[i]?=some (d,p)) (y:TX w A F t [(d,p)] N X)
    {N':Led→FM→α→Prop} {X':Addr→Value→PV→Led→Prop}
    (n:∀ G1 F' a,Le F F'→N G1 F' a→∃ p',G1=[(d,p')]∧N' (G.set i (d,p')) F' a) (x:∀ C c p G1,X C c p G1→∃ p',G1=[(d,p')]∧X' C c p (G.set i (d,p'))):TX w A F t G N' X':=by
  have p1:=yK hi
  refine TX.gH (TX.pre (y.frame (G.eraseIdx i)) fun F2 h H S=>S.perm (p1.symm.append_right H)) (fun G' F' a l h=>?_) fun C c p G' h=>?_
  · obtain⟨G1,rfl,h⟩:=h
    obtain⟨p',rfl,h2⟩:=n G1 F' a l h
    exact⟨_,h2,fun F2 h H S=>S.perm ((eQ hi).append_right H)⟩
  · obtain⟨G1,rfl,h⟩:=h
    obtain⟨p',rfl,h2⟩:=x C c p G1 h
    exact⟨_,h2,fun F2 h e H S=>S.perm (((eQ hi).append_right H).cons _)⟩
theorem T.use {t:Sem α} {P:FM→α→Prop} {i:Nat} {d:Addr} {p p':PO} (hi:G[i]?=some (d,p)) (y:T w A F t [(d,p)] [(d,p')] P):T w A F t G (G.set i (d,p')) P :=
  TX.use hi y (fun G1 F' a xx h=>⟨p',h.1,rfl,h.2⟩) fun C c p G1 h=>h.elim
end
theorem uZ {w:World} {A:Around} {F:FM} {h:Heap} {G:Led} (S:Sb w A F h G):h.Ns mainGlobals ((jG w.params).nsMap mainGlobals) :=
  (Heap.Ns.of_isNs (h:=jG w.params) (by kernel_rfl)).keeps S.hp
theorem PF {w:World} {A:Around} {F:FM} {h:Heap} {G:Led} (S:Sb w A F h G):h.Ns builtinsNs ((jG w.params).nsMap builtinsNs) :=
  (Heap.Ns.of_isNs (h:=jG w.params) (by kernel_rfl)).keeps S.hp
noncomputable def yM:List (Str×PV):=[(Str.ofString "GitError",.val (.ref 32)),(Str.ofString "BadObject",.val (.ref 45)),(Str.ofString "BadBits",.val (.ref 57)),(Str.ofString "BadDelta",.val (.ref 69)),(Str.ofString "BadPack",.val (.ref 81)),(Str.ofString "big_endian",.val (.ref 88)),(Str.ofString "be32",.val (.ref 95)),(Str.ofString "at_big_endian",.val (.ref 102)),(Str.ofString "at_be32",.val (.ref 109)),(Str.ofString "put_size",.val (.ref 116)),(Str.ofString "at_size",.val (.ref 123)),(Str.ofString "put_offset",.val (.ref 130)),(Str.ofString "at_offset",.val (.ref 137)),(Str.ofString "CountingHasher",.val (.ref 162)),(Str.ofString "KIND_NUMBERS",.val (.ref 168)),(Str.ofString "NUMBER_KINDS",.val (.ref 169)),(Str.ofString "entry_head",.val (.ref 176)),(Str.ofString "at_entry_head",.val (.ref 183)),(Str.ofString "PackEntry",.val (.ref 208)),(Str.ofString "PackBuilder",.val (.ref 251)),(Str.ofString "pack_closed",.val (.ref 262)),(Str.ofString "write_pack",.val (.ref 270)),(Str.ofString "Scanned",.val (.ref 294)),(Str.ofString "pack_count",.val (.ref 305)),(Str.ofString "pack_unpacked",.val (.ref 312)),(Str.ofString "scan_entry",.val (.ref 319)),(Str.ofString "scan_pack",.val (.ref 326)),(Str.ofString "StoredCodec",.val (.ref 351)),(Str.ofString "_law_draw",.val (.ref 362)),(Str.ofString "_law_head",.val (.ref 369)),(Str.ofString "_law_back",.val (.ref 376)),(Str.ofString "_law_stored",.val (.ref 383)),(Str.ofString "_law_four",.val (.ref 390)),(Str.ofString "_law_octets",.val (.ref 395)),(Str.ofString "_law_rows",.val (.ref 402)),(Str.ofString "_law_plain",.val (.ref 409)),(Str.ofString "_law_signed",.val (.ref 416)),(Str.ofString "_law_is_refused",.val (.ref 423)),(Str.ofString "_law_scanned",.val (.ref 430)),(Str.ofString "_law_wrong_ones",.val (.ref 435)),(Str.ofString "law",.val (.ref 440)),(Str.ofString "PACK_SIGN",.bytes [80,65,67,75]),(Str.ofString "PACK_VERSION",.int 2),(Str.ofString "PACK_HEAD_SIZE",.int 12),(Str.ofString "OFFSET_DELTA",.int 6),(Str.ofString "ID_DELTA",.int 7),(Str.ofString "PACK_VERSIONS_READ",.tup [.int 2,.int 3])]
set_option tactic.hygienic true in
theorem lQ {α:Type} {x k:Str} {a b:α} {l:List (Str×α)} {M:Prop} (e:((k,a)::l).lookup x=some b) (h1:x=k→a=b→M) (h2:l.lookup x=some b→M):M:=by
  rw [List.lookup_cons] at e
  split at e
  · rename_i q;cases e;exact h1 (beq_iff_eq.mp q) rfl
  · exact h2 e
noncomputable def mX (w:World) (F:FM) (l:List (Str×PV)):Prop:=∀ (x:Str) (p:PV),l.lookup x=some p→∃ v,(jG w.params).nsMap mainGlobals x=some v∧p.Is w.params F v
theorem gNil {w:World} {F:FM}:mX w F []:=fun x p e=>by cases e
theorem qC {w:World} {F:FM} {k:Str} {q:PV} {l:List (Str×PV)} (h:∃ v,(jG w.params).nsMap mainGlobals k=some v∧q.Is w.params F v) (t:mX w F l):mX w F ((k,q)::l):=fun x p e=>by
  refine lQ e (fun a b=>?_) fun e=>t x p e
  subst a;subst b;exact h
theorem gRef {w:World} {F:FM} {k:Str} {n:Addr} {l:List (Str×PV)} (h:(jG w.params).nsMap mainGlobals k=some (.ref n)) (t:mX w F l):mX w F ((k,.val (.ref n))::l):=qC ⟨_,h,rfl⟩ t
theorem BM {w:World} {F:FM} (hb:∀ a o,(jG w.params).get? a=some o→F a=some o) {x:Str} {p:PV} (e:yM.lookup x=some p):∃ v,(jG w.params).nsMap mainGlobals x=some v∧p.Is w.params F v:=by
  refine(show mX w F yM from ?_) x p e
  unfold yM
  repeat refine gRef (by kernel_rfl) ?_
  refine qC ⟨.bytes #[80,65,67,75] 394,by kernel_rfl,_,rfl⟩ ?_
  refine qC ⟨.int 2 396,by kernel_rfl,_,rfl⟩ ?_
  refine qC ⟨.int 12 401,by kernel_rfl,_,rfl⟩ ?_
  refine qC ⟨.int 6 403,by kernel_rfl,_,rfl⟩ ?_
  refine qC ⟨.int 7 405,by kernel_rfl,_,rfl⟩ ?_
  exact qC ⟨.ref 167,by kernel_rfl,167,[.int 2 398,.int 3 399],0,rfl,hb _ _ (pW (by decide) (by kernel_rfl) (by kernel_rfl)),.cons ⟨_,rfl⟩ (.cons ⟨_,rfl⟩ .nil)⟩ gNil
noncomputable def uK:List (Str×Value):=[(Str.ofString "len",.builtin "len"),(Str.ofString "bytes",.type "bytes"),(Str.ofString "range",.type "range"),(Str.ofString "list",.type "list"),(Str.ofString "bytearray",.type "bytearray"),(Str.ofString "str",.type "str")]
theorem O5 {P:Params} {x:Str} {v:Value} (e:uK.lookup x=some v):(jG P).nsMap mainGlobals x=none∧(jG P).nsMap builtinsNs x=some v:=by
  unfold uK at e
  iterate 6 (refine lQ e (fun a b=>?_) fun e=>?_;· subst a;subst b;exact⟨by kernel_rfl,by kernel_rfl⟩)
  cases e
noncomputable abbrev Ev (w:World) (A:Around) (env:Env) (G:Led) (e:Expr) (p:PV) (G':Led):Prop:=T w A F0 (eval e env) G G' (fun F v=>p.Is w.params F v)
noncomputable abbrev Tr (w:World) (A:Around) (env:Env) (G:Led) (e:Expr) (b:Bool) (G':Led):Prop:=T w A F0 (isTrue e env (eval e env)) G G' (fun xx v=>v=b)
section
variable {w:World} {A:Around} {env:Env} {G G' G1 G2 G3:Led} {e l r:Expr} {pos:Pos} {k:Nat} {F:FM}
theorem Ev.int {i:Int}:Ev w A env G (.Constant (.int i) k pos) (.int i) G:=T.f9 fun F1 s Q E l q=>wpAny_Constant_int (q _ _ ⟨_,rfl⟩)
theorem Ev.bytes {x:List UInt8}:Ev w A env G (.Constant (.bytes x) k pos) (.bytes x) G:=T.f9 fun F1 s Q E l q=>W.Constant_bytes (q _ _ ⟨_,rfl⟩)
theorem Ev.str {x:Str}:Ev w A env G (.Constant (.str x) k pos) (.str x) G:=T.f9 fun F1 s Q E l q=>wpAny_Constant_str (q _ _ ⟨_,rfl⟩)
theorem Ev.none:Ev w A env G (.Constant .none k pos) .none G:=T.f9 fun F1 s Q E l q=>wpAny_Constant_none (q _ s.toks rfl)
theorem Ev.bool {x:Bool}:Ev w A env G (.Constant (.bool x) k pos) (.bool x) G:=T.f9 fun F1 s Q E l q=>wpAny_Constant_bool (q _ s.toks rfl)
theorem Sb.frame {A:Around} {F:FM} {h:Heap} {H:Led} {i:Nat} {L:Addr} {ρ:List (Str×PV)} (S:Sb w A F h (G++H)) (e:G[i]?=some (L,.frame ρ)) :
    ∃ m,h.Ns L m∧∀ x p,Look ρ x p→∃ v,m x=some v∧p.Is w.params F v:=(S.led _ (List.mem_append_left _ (List.mem_of_getElem? e))).1
theorem Ev.name {i:Nat} {ρ:List (Str×PV)} {x:Str} {p:PV} (e:G[i]?=some (env.locals,.frame ρ)) (lk:Look ρ x p) (hk:env.scope.kind=.function) (hl:env.scope.names.lookup x=some .local)
    (hd:(x == ("__debug__":Str))=false:=by decide):Ev w A env G (.Name x pos) p G:=fun F1 H s h k Q E l S q x=>by
  obtain⟨m,n,c⟩:=S.frame e
  obtain⟨v,hv,pv⟩:=c _ _ lk
  exact wpAny_Name (wpAny_loadName_local hk hl n hv (q v F1 h k G (.refl _) S ⟨rfl,pv⟩)) hd
theorem Ev.glob {x:Str} {p:PV} (hp:yM.lookup x=some p) (hk:env.scope.kind=.function) (hl:env.scope.names.lookup x=some .globalImplicit) (hg:env.globals=mainGlobals)
    (hd:(x == ("__debug__":Str))=false:=by decide):Ev w A env G (.Name x pos) p G:=fun F1 H s h k Q E l S q x=>by
  obtain⟨v,hv,pv⟩:=BM S.base hp
  exact Calls.Name_function_global hk hl (Calls.loadGlobal_global (hg ▸ uZ S) hv (q v F1 h k G (.refl _) S ⟨rfl,pv⟩)) hd
theorem Ev.blt {x:Str} {v:Value} (hp:uK.lookup x=some v) (hk:env.scope.kind=.function) (hl:env.scope.names.lookup x=some .globalImplicit) (hg:env.globals=mainGlobals) (hb:env.builtins=builtinsNs)
    (hd:(x == ("__debug__":Str))=false:=by decide):Ev w A env G (.Name x pos) (.val v) G:=fun F1 H s h k Q E l S q x=>by
  obtain⟨h1,h2⟩:=O5 (P:=w.params) hp
  exact Calls.Name_function_global hk hl (Calls.loadGlobal_builtin (hg ▸ uZ S) h1 (hb ▸ PF S) h2 (q v F1 h k G (.refl _) S ⟨rfl,rfl⟩)) hd
theorem Ev.bin {op:Operator} {p q R:PV} (hl:Ev w A env G l p G1) (hr:Ev w A env G1 r q G2) (hop:∀ v u F,p.Is w.params F v→q.Is w.params F u→T w A F (binaryOp op v u) G2 G3 (fun F v=>R.Is w.params F v)) :
    Ev w A env G (.BinOp l op r pos) R G3:=by
  unfold Ev
  rw [arm_eval_BinOp]
  exact T.bind hl fun v F1 l1 pv=>T.bind (T.holding (hr.low (Le.zero _))) fun u F2 l2 pu=>T.at (T.operate ((hop v u F2 (pv.mono l2) pu).low (.refl _)))
theorem Ev.cmp {op:CmpOp} {p q:PV} {b:Bool} (hl:Ev w A env G l p G1) (hr:Ev w A env G1 r q G2) (hop:∀ v u F,p.Is w.params F v→q.Is w.params F u→T w A F (compareOp op v u) G2 G3 (fun F v=>(PV.bool b).Is w.params F v))
    (hm:behindInMarks op r=false):Ev w A env G (.Compare l [op] [r] pos) (.bool b) G3:=by
  unfold Ev
  rw [eval_Compare1,markedBehindIn_of_false hm]
  exact T.bind hl fun v F1 l1 pv=>T.bind (T.holding (hr.low (Le.zero _))) fun u F2 l2 pu=>T.at (T.operate (hop v u F2 (pv.mono l2) pu))
theorem T.pV {b:Bool}:T w A F (truthy (.bool b)) G G (fun xx v=>v=b):=T.f9 fun F1 s Q E l q=>wpAny_truthy_bool (q _ s.toks rfl)
theorem Tr.cmp {op:CmpOp} {p q:PV} {b:Bool} (hl:Ev w A env G l p G1) (hr:Ev w A env G1 r q G2) (hop:∀ v u F,p.Is w.params F v→q.Is w.params F u→T w A F (compareOp op v u) G2 G3 (fun F v=>(PV.bool b).Is w.params F v))
    (hm:behindInMarks op r=false):Tr w A env G (.Compare l [op] [r] pos) b G3:=by
  unfold Tr
  rw [isTrue_Compare1,markedBehindIn_of_false hm]
  exact T.bind hl fun v F1 l1 pv=>T.bind (T.holding (hr.low (Le.zero _))) fun u F2 l2 pu=>T.at (T.bind (T.operate (hop v u F2 (pv.mono l2) pu)) fun c F3 l3 pc=>by cases pc;exact T.holding T.pV)
theorem Tr.not {b:Bool} (y:Tr w A env G e b G'):Tr w A env G (.UnaryOp .Not e pos) (!b) G':=fun F1 H s h k Q E l S q x =>
  isTrue_not (y F1 H s h k _ E l S (fun a F' h' k' G'' l' S' n=>q _ F' h' k' G'' l' S' ⟨n.1,by rw [n.2]⟩) x)
theorem Tr.of {b:Bool} (y:Ev w A env G e (.bool b) G') (he:isTrue e env (eval e env)=(do let v ← eval e env;standAt e.pos;PySem.holding [v] (truthy v))):Tr w A env G e b G':=by
  unfold Tr
  rw [he]
  exact T.bind y fun v F1 l1 pv=>by cases pv;exact T.at (T.holding T.pV)
theorem Ev.tW {t:Expr} {b:Bool} {p:PV} (ht:Tr w A env G t b G1) (h1:b=true→Ev w A env G1 l p G2) (h2:b=false→Ev w A env G1 r p G2):Ev w A env G (.IfExp t l r pos) p G2:=fun F1 H s h k Q E l S q x =>
  wpAny_IfExp (ht F1 H s h k _ E l S (fun a F' h' k' G'' l' S' n=>by
    obtain⟨rfl,rfl⟩:=n
    cases a with
    | true=>exact h1 rfl F' H s h' k' Q E (Le.zero _) S' (fun a F'' h'' k'' G'' l''=>q a F'' h'' k'' G'' (l'.trans l'')) fun e C c p F'' h'' k'' G'' l''=>x e C c p F'' h'' k'' G'' (l'.trans l'')
    | false=>exact h2 rfl F' H s h' k' Q E (Le.zero _) S' (fun a F'' h'' k'' G'' l''=>q a F'' h'' k'' G'' (l'.trans l'')) fun e C c p F'' h'' k'' G'' l''=>x e C c p F'' h'' k'' G'' (l'.trans l'')) x)
end
section
variable {w:World} {A:Around} {G:Led} {F:FM} {v u:Value} {a b:Int}
theorem HV (hv:(PV.int a).Is w.params F v) (hu:(PV.int b).Is w.params F u):T w A F (binaryOp .Add v u) G G (fun F v=>(PV.int (a+b)).Is w.params F v):=T.f9 fun F1 s Q E l q=>by
  obtain⟨_,rfl⟩:=hv;obtain⟨_,rfl⟩:=hu;exact add_int (q _ _ ⟨_,rfl⟩)
theorem w4 (hv:(PV.int a).Is w.params F v) (hu:(PV.int b).Is w.params F u):T w A F (binaryOp .Sub v u) G G (fun F v=>(PV.int (a - b)).Is w.params F v):=T.f9 fun F1 s Q E l q=>by
  obtain⟨_,rfl⟩:=hv;obtain⟨_,rfl⟩:=hu;exact sub_int (q _ _ ⟨_,rfl⟩)
theorem w0 (ok:IntMulOk a b) (hv:(PV.int a).Is w.params F v) (hu:(PV.int b).Is w.params F u):T w A F (binaryOp .Mult v u) G G (fun F v=>(PV.int (a*b)).Is w.params F v):=T.f9 fun F1 s Q E l q=>by
  obtain⟨_,rfl⟩:=hv;obtain⟨_,rfl⟩:=hu;exact mul_int (q _ _ ⟨_,rfl⟩) ok
theorem MX (hb:b≠0) (hp:Builtin.divisionGoesByPylong a b=false) (hv:(PV.int a).Is w.params F v) (hu:(PV.int b).Is w.params F u):T w A F (binaryOp .FloorDiv v u) G G (fun F v=>(PV.int (a.fdiv b)).Is w.params F v):=T.f9 fun F1 s Q E l q=>by
  obtain⟨_,rfl⟩:=hv;obtain⟨_,rfl⟩:=hu;exact floordiv_int hb (q _ _ ⟨_,rfl⟩) (.inl hp)
theorem H7 (hb:b≠0) (hv:(PV.int a).Is w.params F v) (hu:(PV.int b).Is w.params F u):T w A F (binaryOp .Mod v u) G G (fun F v=>(PV.int (a.fmod b)).Is w.params F v):=T.f9 fun F1 s Q E l q=>by
  obtain⟨_,rfl⟩:=hv;obtain⟨_,rfl⟩:=hu;exact mod_int' hb (q _ _ ⟨_,rfl⟩)
theorem sC (hv:(PV.int a).Is w.params F v) (hu:(PV.int b).Is w.params F u):T w A F (binaryOp .BitAnd v u) G G (fun F v=>(PV.int (Builtin.bitAnd a b)).Is w.params F v):=T.f9 fun F1 s Q E l q=>by
  obtain⟨_,rfl⟩:=hv;obtain⟨_,rfl⟩:=hu;exact and_int (q _ _ ⟨_,rfl⟩)
theorem BY (hv:(PV.int a).Is w.params F v) (hu:(PV.int b).Is w.params F u):T w A F (binaryOp .BitOr v u) G G (fun F v=>(PV.int (Builtin.bitOr a b)).Is w.params F v):=T.f9 fun F1 s Q E l q=>by
  obtain⟨_,rfl⟩:=hv;obtain⟨_,rfl⟩:=hu;exact or_int (q _ _ ⟨_,rfl⟩)
theorem Q8 (h0:0≤b) (h1':b≤1000000) (ha:a.natAbs<2 ^ 64) (hv:(PV.int a).Is w.params F v) (hu:(PV.int b).Is w.params F u):T w A F (binaryOp .LShift v u) G G (fun F v=>(PV.int (a*2 ^ b.toNat)).Is w.params F v):=T.f9 fun F1 s Q E l q=>by
  obtain⟨_,rfl⟩:=hv;obtain⟨_,rfl⟩:=hu;exact lshift_int_small h0 h1' ha (q _ _ ⟨_,rfl⟩)
theorem Q9 (h0:0≤b) (hv:(PV.int a).Is w.params F v) (hu:(PV.int b).Is w.params F u):T w A F (binaryOp .RShift v u) G G (fun F v=>(PV.int (a.fdiv (2 ^ b.toNat))).Is w.params F v):=T.f9 fun F1 s Q E l q=>by
  obtain⟨_,rfl⟩:=hv;obtain⟨_,rfl⟩:=hu;exact rshift_int h0 (q _ _ ⟨_,rfl⟩)
theorem H5 (hv:(PV.int a).Is w.params F v) (hu:(PV.int b).Is w.params F u):T w A F (compareOp .Lt v u) G G (fun F v=>(PV.bool (decide (a<b))).Is w.params F v):=T.f9 fun F1 s Q E l q=>by
  obtain⟨_,rfl⟩:=hv;obtain⟨_,rfl⟩:=hu;exact wpAny_lt_int (q _ s.toks rfl)
theorem OJ (hv:(PV.int a).Is w.params F v) (hu:(PV.int b).Is w.params F u):T w A F (compareOp .Gt v u) G G (fun F v=>(PV.bool (decide (b<a))).Is w.params F v):=T.f9 fun F1 s Q E l q=>by
  obtain⟨_,rfl⟩:=hv;obtain⟨_,rfl⟩:=hu;exact PyProof.Rows.gt_int (q _ s.toks rfl)
theorem OK (hv:(PV.int a).Is w.params F v) (hu:(PV.int b).Is w.params F u):T w A F (compareOp .LtE v u) G G (fun F v=>(PV.bool (decide (a≤b))).Is w.params F v):=T.f9 fun F1 s Q E l q=>by
  obtain⟨_,rfl⟩:=hv;obtain⟨_,rfl⟩:=hu;exact PyProof.Rows.le_int (q _ s.toks rfl)
theorem OI (hv:(PV.int a).Is w.params F v) (hu:(PV.int b).Is w.params F u):T w A F (compareOp .GtE v u) G G (fun F v=>(PV.bool (decide (b≤a))).Is w.params F v):=T.f9 fun F1 s Q E l q=>by
  obtain⟨_,rfl⟩:=hv;obtain⟨_,rfl⟩:=hu;exact PyProof.Rows.ge_int (q _ s.toks rfl)
theorem HX (hv:(PV.int a).Is w.params F v) (hu:(PV.int b).Is w.params F u):T w A F (compareOp .Eq v u) G G (fun F v=>(PV.bool (a == b)).Is w.params F v):=T.f9 fun F1 s Q E l q=>by
  obtain⟨_,rfl⟩:=hv;obtain⟨_,rfl⟩:=hu;exact eq_int (q _ s.toks rfl)
theorem H8 (hv:(PV.int a).Is w.params F v) (hu:(PV.int b).Is w.params F u):T w A F (compareOp .NotEq v u) G G (fun F v=>(PV.bool (a != b)).Is w.params F v):=T.f9 fun F1 s Q E l q=>by
  obtain⟨_,rfl⟩:=hv;obtain⟨_,rfl⟩:=hu;exact PyProof.Rows.ne_int (q _ s.toks rfl)
theorem sF {x y:List UInt8} (hv:(PV.bytes x).Is w.params F v) (hu:(PV.bytes y).Is w.params F u):T w A F (compareOp .NotEq v u) G G (fun F v=>(PV.bool (x != y)).Is w.params F v):=T.f9 fun F1 s Q E l q=>by
  obtain⟨_,rfl⟩:=hv;obtain⟨_,rfl⟩:=hu;exact W.ne_bytes (q _ s.toks rfl)
theorem aH {x y:List UInt8} (hz:x.length+y.length≤16777216) (hv:(PV.bytes x).Is w.params F v) (hu:(PV.bytes y).Is w.params F u):T w A F (binaryOp .Add v u) G G (fun F v=>(PV.bytes (x++y)).Is w.params F v):=T.f9 fun F1 s Q E l q=>by
  obtain⟨_,rfl⟩:=hv;obtain⟨_,rfl⟩:=hu;exact KBy.add_bytes (by simpa using hz) fun t' k=>q _ _ ⟨t',by simp⟩
end
section
variable {w:World} {A:Around} {F:FM} {h h':Heap} {G:Led} {e C:Addr} {c:Value} {p:PV}
theorem PO.sA {p:PO} (z:p.isFrame=true):∃ ρ,p=.frame ρ:=by
  cases p <;> first | exact⟨_,rfl⟩ | exact nomatch z
theorem oE {G:Led} {L:Addr} (hL:L∈bN G):∃ r∈G,r.2.isFrame=true∧r.1=L:=by
  obtain⟨r,hr,er⟩:=List.mem_filterMap.mp hL
  by_cases z:r.2.isFrame=true
  · exact⟨r,hr,z,Option.some.inj ((if_pos z).symm.trans er)⟩
  · exact nomatch (if_neg z).symm.trans er
theorem qB {G:Led} (nd:(G.map (fun xx=>xx.1)).Nodup) {L:Addr} (hL:L∈bN G) {q:Addr×PO} (hq:q∈G) (e:q.1=L):∃ ρ,q.2=.frame ρ:=by
  obtain⟨r,hr,z,er⟩:=oE hL
  have:q=r:=by
    have nd:=List.pairwise_map.mp nd
    refine Classical.byContradiction fun h=>?_
    obtain⟨i,li,rfl⟩:=List.mem_iff_getElem.mp hq
    obtain⟨j,lj,rfl⟩:=List.mem_iff_getElem.mp hr
    rcases Nat.lt_or_gt_of_ne (fun z=>h (by subst z;rfl):i≠j) with lt | lt
    · exact List.pairwise_iff_getElem.mp nd i j li lj lt (e.trans er.symm)
    · exact List.pairwise_iff_getElem.mp nd j i lj li lt (er.trans e.symm)
  subst this
  exact PO.sA z
theorem cO {G:Led} {L:Addr} (hL:L∈bN G):∃ ρ,(L,PO.frame ρ)∈G:=by
  obtain⟨⟨a,q⟩,hr,z,rfl⟩:=oE hL
  exact(PO.sA z).imp fun ρ e=>by rw [← show q=.frame ρ from e];exact hr
theorem Sb.slots {S:List Addr} (hS:∀ a∈S,a∈bN G) (B:Sb w A F h G) (x:Heap.SlotsOnly S h h'):Sb w A F h' G:=by
  refine⟨B.base,fun a o e=>?_,fun q hq=>⟨?_,(B.led q hq).2⟩,B.nd,B.fr⟩
  · refine(x.2.1 a fun z=>?_).trans (B.sub a o e)
    obtain⟨ρ,m⟩:=cO (hS a z)
    have:=(B.led _ m).2
    rw [show F a=some o from e] at this;cases this
  · by_cases z:q.1∈S
    · obtain⟨ρ,e⟩:=qB B.nd (hS _ z) hq rfl
      have Q:=(B.led q hq).1
      rw [e] at Q ⊢
      obtain⟨m,⟨o,es,ep,ho,hd,r⟩,l⟩:=Q
      obtain⟨sl,hs⟩:=x.2.2 _ _ ho
      exact⟨m,⟨_,es,ep,hs,hd,r⟩,l⟩
    · have Q:=(B.led q hq).1
      have e:=x.2.1 _ z
      refine Q.moved (fun o h=>e.trans h) fun T xx t=>t.kept fun o hT n=>(x.2.1 T fun hm=>?_).trans hT
      obtain⟨ρ,m⟩:=cO (hS T hm)
      exact n ((B.led _ m).1.BU hT)
theorem Sb.tbUpd {T:Addr} {oT oT':Obj} {ts ts':Array Value} (B:Sb w A F h G) (hT:h.get? T=some oT) (hc:oT.cls=.type "traceback") (hd:oT.data=.fields ts) (fT:F T=none)
    (hT':h'.get? T=some oT') (hc':oT'.cls=.type "traceback") (hd':oT'.data=.fields ts') (h3:∃ x,ts'[3]?=some x) (sb:Heap.SameBut T h h'):Sb w A F h' G:=by
  have nT:∀ q∈G,q.1≠T:=fun q hq z=>(B.led q hq).1.BU (by rw [z];exact hT) hc ts hd
  refine⟨B.base,fun a o e=>(sb.2 a fun z=>by subst z;rw [fT] at e;cases e).trans (B.sub a o e),fun q hq=>⟨?_,(B.led q hq).2⟩,B.nd,B.fr⟩
  have Q:=(B.led q hq).1
  have e:=sb.2 _ (nT q hq)
  refine Q.moved (fun o h=>e.trans h) fun T2 xx t=>?_
  by_cases z:T2=T
  · subst z;exact h3.elim fun x hx=>⟨oT',ts',x,hT',hc',hd',hx⟩
  · exact t.kept fun o e xx=>(sb.2 T2 z).trans e
inductive n8 (F:FM) (h:Heap) (e:Addr):Prop
  | mk (o:Obj) (vs:Array Value) (T:Addr) (oT:Obj) (ts:Array Value) (x:Value) (q0:h.get? e=some o) (q1:o.data=.fields vs) (q2:vs[1]?=some (Value.ref T)) (q3:F T=none) (q4:h.get? T=some oT) (q5:oT.cls=.type "traceback") (q6:oT.data=.fields ts) (q7:ts[3]?=some x)
inductive TbS (F:FM) (h:Heap) (e:Addr):Prop
  | no (o:Obj) (vs:Array Value) (q0:h.get? e=some o) (q1:o.data=.fields vs) (q2:vs[1]?=some Value.none)
  | yes (o:Obj) (vs:Array Value) (T:Addr) (oT:Obj) (ts:Array Value) (x:Value) (q0:h.get? e=some o) (q1:o.data=.fields vs) (q2:vs[1]?=some (Value.ref T)) (q3:F T=none) (q4:h.get? T=some oT) (q5:oT.cls=.type "traceback") (q6:oT.data=.fields ts) (q7:ts[3]?=some x) (q8:T≠e)
variable {s:Shared} {k:Nat} {Q:Unit→Shared→Prop} {E:Value→Shared→Prop}
theorem OL {o:Obj} {vs ts:Array Value} {T:Addr} {oT:Obj} {x:Value} (B:Sb w A F h G) (he:h.get? e=some o) (hd:o.data=.fields vs) (h1:vs[1]?=some (Value.ref T)) (fT:F T=none)
    (hT:h.get? T=some oT) (hc:oT.cls=.type "traceback") (jU:oT.data=.fields ts) (h3:ts[3]?=some x) {y:Value}
    (q:∀ h',Sb w A F h' G→n8 F h' e→Q () (sh s h' k)) (ne:T≠e):wpAny (MM w) A (setField (.ref T) 3 y) Q E (sh s h k):=by
  have l3:=(Array.getElem?_eq_some_iff.mp h3).1
  have hT':=Heap.get?_update_self (Obj.mapFields (·.setIfInBounds 3 y)) hT (Obj.isFreed_of_fields (Obj.data_mapFields jU _))
  have sb:=Heap.SameBut.update h T (Obj.mapFields (·.setIfInBounds 3 y))
  have h3':(ts.setIfInBounds 3 y)[3]?=some y:=by simp [l3]
  refine wpAny_setField hT jU l3 (q _ (B.tbUpd hT hc jU fT hT' ((Obj.cls_mapFields _ _).trans hc) (Obj.data_mapFields jU _) ⟨y,h3'⟩ sb) ?_)
  exact⟨o,vs,T,_,_,y,(sb.2 e (Ne.symm ne)).trans he,hd,h1,fT,hT',(Obj.cls_mapFields _ _).trans hc,Obj.data_mapFields jU _,h3'⟩
theorem Sb.exc (B:Sb w A F h ((e,.exc C c p)::G)):mV w F h e C c p:=(B.led _ (.head _)).1
theorem tS (B:Sb w A F h ((e,.exc C c p)::G)):TbS F h e:=by
  obtain⟨dx,vs,e1,sz,e2,t,r⟩:=B.exc
  rcases r with r | ⟨T,oT,ts,x,r,fT,hT,hc,hd,h3⟩
  · exact .no _ vs e1 rfl r
  · refine .yes _ vs T oT ts x e1 rfl r fT hT hc hd h3 fun z=>?_
    subst z;rw [e1] at hT;cases hT;cases hc
theorem b7 {fl:Option Addr} (B:Sb w A F h ((e,.exc C c p)::G))
    (q:∀ h',Sb w A F h' ((e,.exc C c p)::G)→(n8 F h e→n8 F h' e)→Q () (sh s h' k)):wpAny (MM w) A (setFlight (.ref e) fl) Q E (sh s h k):=by
  unfold setFlight
  rcases tS B with ⟨o,vs,he,hd,h1⟩ | ⟨o,vs,T,oT,ts,x,he,hd,h1,fT,hT,hc,jU,h3,ne⟩
  · refine wpAny_bind (wpAny_field he hd h1 ?_)
    rw [if_neg (by decide)]
    exact wpAny_pure (q h B id)
  · refine wpAny_bind (wpAny_field he hd h1 ?_)
    rw [if_pos (show(Value.ref T != Value.none)=true from by simp)]
    exact OL B he hd h1 fT hT hc jU h3 (fun h' B' t=>q h' B' fun xx=>t) ne
theorem tT {env:Env} {outer:List Env} {L:Addr} {head:Value} {hn:Bool} (B:Sb w A F h ((e,.exc C c p)::G)) (hfr:A.frames=some (env::outer)) (hf:env.frame=some L)
    (q:∀ h',Sb w A F h' ((e,.exc C c p)::G)→n8 F h' e→Q () (sh s h' k)) :
    wpAny (MM w) A (do let a ← frameOf env;let pl ← entryPlaceOf L hn;let b ← EntryCells.newEntry head a .none (rawInt L) .none pl;setField (.ref e) 1 b) Q E (sh s h k):=by
  have hl:h.FunFrames {} (env::outer):=by
    obtain⟨envs,e1,f⟩:=B.fr
    rw [hfr] at e1;cases e1
    revert f;refine gen (env::outer) fun envs hE=>?_;intro f
    clear hfr hf hE
    induction envs with
    | nil=>trivial
    | cons x r ih =>
      obtain⟨hk,L',hL',hm⟩:=f x (.head _)
      obtain⟨ρ,m⟩:=cO hm
      obtain⟨mm,⟨o,es,ep,ho,hd,_⟩,_⟩:=(B.led _ m).1
      exact⟨hk,⟨L',o,hL',by rfl,ho,fun vs z=>by rw [hd] at z;cases z⟩,ih fun y hy=>f y (.tail _ hy)⟩
  have hS:∀ a∈(env::outer).filterMap (fun xx=>xx.frame),a∈bN ((e,.exc C c p)::G):=fun a ha=>by
    obtain⟨envs,e1,f⟩:=B.fr
    rw [hfr] at e1;cases e1
    obtain⟨x,hx,hxa⟩:=List.mem_filterMap.mp ha
    obtain⟨_,L',hL',hm⟩:=f x hx
    rw [hL'] at hxa;cases hxa;exact hm
  refine wpAny_bind (wpAny_frameOf_fun hfr hl hf fun h₁ hs₁=>?_)
  have B1:=B.slots hS hs₁
  refine wpAny_bind (wpAny_entryPlaceOf fun pl hpl=>?_)
  unfold EntryCells.newEntry newFields
  refine wpAny_bind (wpAny_newObj_type ?_ (hpl.sizeOk5 _ _ _ _ _))
  refine gen (([head,.ref L,.none,rawInt L,.none]++(if pl.isEmpty then List.replicate 6 Value.none else pl)).toArray) fun ts hts=>?_
  have h3:ts[3]?=some (rawInt L):=by rw [← hts];simp
  have B2:=B1.ext (h':=h₁.push { cls:=.type "traceback",dict:=none,data:=.fields ts }) fun xx xx e=>Heap.get?_push_of_some _ e
  obtain⟨dx,vs,e1,sz,e2,t,r⟩:=B2.exc
  have hT:(h₁.push { cls:=.type "traceback",dict:=none,data:=.fields ts }).get? h₁.objs.size=some { cls:=.type "traceback",dict:=none,data:=.fields ts }:=Heap.get?_push_size _ rfl
  have fT:F h₁.objs.size=none:=B1.bE
  have ne:h₁.objs.size≠e:=fun z=>by rw [z] at hT;rw [e1] at hT;cases hT
  have he':=Heap.get?_update_self (Obj.mapFields (·.setIfInBounds 1 (Value.ref h₁.objs.size))) e1 rfl
  have sb:=Heap.SameBut.update (h₁.push { cls:=.type "traceback",dict:=none,data:=.fields ts }) e (Obj.mapFields (·.setIfInBounds 1 (Value.ref h₁.objs.size)))
  have hT':=(sb.2 _ ne).trans hT
  refine wpAny_setField e1 rfl (by omega) (q _ (B2.upd (p':=.exc C c p) sb ?_ rfl) ?_)
  · exact⟨dx,_,he',by simp [sz],by simpa using e2,t,.inr ⟨_,_,_,_,by simp [sz],fT,hT',rfl,rfl,h3⟩⟩
  · exact⟨_,_,_,_,_,_,he',rfl,by simp [sz],fT,hT',rfl,rfl,h3⟩
theorem gG {env:Env} {outer:List Env} {L:Addr} (B:Sb w A F h ((e,.exc C c p)::G)) (hfr:A.frames=some (env::outer)) (hf:env.frame=some L)
    (q:∀ h',Sb w A F h' ((e,.exc C c p)::G)→n8 F h' e→Q () (sh s h' k)):wpAny (MM w) A (noteFrame (.ref e) env) Q E (sh s h k):=by
  unfold noteFrame
  simp only [hf]
  rcases tS B with ⟨o,vs,he,hd,h1⟩ | ⟨o,vs,T,oT,ts,x,he,hd,h1,fT,hT,hc,jU,h3,ne⟩
  · refine wpAny_bind (wpAny_field he hd h1 ?_)
    rw [if_neg (by decide)]
    exact tT B hfr hf q
  · refine wpAny_bind (wpAny_field he hd h1 ?_)
    rw [if_pos (show(Value.ref T != Value.none)=true from by simp)]
    refine wpAny_bind (wpAny_field hT jU h3 ?_)
    split
    · exact wpAny_pure (q h B ⟨o,vs,T,oT,ts,x,he,hd,h1,fT,hT,hc,jU,h3⟩)
    · exact wpAny_bind (OL (Q:=fun xx s'=>wpAny (MM w) A _ Q E s') B he hd h1 fT hT hc jU h3 (fun h' B' t=>tT B' hfr hf q) ne)
theorem iZ {env:Env} {outer:List Env} {L:Addr} (B:Sb w A F h ((e,.exc C c p)::G)) (hfr:A.frames=some (env::outer)) (hf:env.frame=some L)
    (q:∀ h',Sb w A F h' ((e,.exc C c p)::G)→n8 F h' e→Q () (sh s h' k)):wpAny (MM w) A (leaving env (.ref e)) Q E (sh s h k):=by
  unfold leaving
  exact wpAny_bind (gG B hfr hf fun h' B' t=>b7 B' fun h'' B'' t'=>q h'' B'' (t' t))
theorem x7 {env:Env} {EE:Value→Shared→Prop} (B:Sb w A F h ((e,.exc C c p)::G)) (t:n8 F h e) (q:∀ h',Sb w A F h' ((e,.exc C c p)::G)→n8 F h' e→EE (.ref e) (sh s h' k)) :
    cameBackBy (MM w) A env EE (.ref e) (sh s h k):=by
  obtain⟨o,vs,T,oT,ts,x,he,hd,h1,r⟩:=id t
  unfold cameBackBy
  refine wpAny_bind (wpAny_field he hd h1 ?_)
  rw [if_neg (show ¬ ((Value.ref T == Value.none)=true) from by simp)]
  exact b7 B fun h' B' t'=>q h' B' (t' t)
end
section
variable {α β:Type} {w:World} {A:Around} {F F':FM} {G G' G2:Led} {N:Led→FM→α→Prop} {X:Addr→Value→PV→Led→Prop}
theorem TX.DM {t:Sem α} {N':Led→FM→α→Prop} (y:TX w A F t G N X) (i:∀ G' F' a h H,Le F F'→N G' F' a→Sb w A F' h (G'++H)→∃ G'' F'',Le F' F''∧Sb w A F'' h (G''++H)∧N' G'' F'' a):TX w A F t G N' X :=
  fun F1 H s h k Q E l S q x=>y F1 H s h k Q E l S (fun a F' h' k' G' l' S' n=>let ⟨G'',F'',l2,S2,n2⟩:=i G' F' a h' H (l.trans l') n S';q a F'' h' k' G'' (l'.trans l2) S2 n2) x
noncomputable def Drop (G G':Led):Prop:=∀ w A F h H,Sb w A F h (G++H)→Sb w A F h (G'++H)
theorem Drop.refl (G:Led):Drop G G:=fun xx xx xx xx xx S=>S
theorem Drop.perm {G G':Led} (p:G.Perm G'):Drop G G':=fun xx xx xx xx xx S=>S.perm (p.append_right _)
theorem Drop.trans {G G' G'':Led} (a:Drop G G') (b:Drop G' G''):Drop G G'':=fun w A F h H S=>b w A F h H (a w A F h H S)
theorem Drop.snd {q:Addr×PO} {d:Addr} {p:PO} {G:Led} (nf:p.isFrame=false):Drop (q::(d,p)::G) (q::G):=fun w A F h H S =>
  (S.perm (List.Perm.swap (d,p) q (G++H))).drop nf
theorem Drop.fst {d:Addr} {p:PO} {G:Led} (nf:p.isFrame=false):Drop ((d,p)::G) G:=fun w A F h H S=>S.drop nf
theorem Drop.cons {q:Addr×PO} {G G':Led} (x:Drop G G'):Drop (q::G) (q::G'):=fun w A F h H S=>by
  have p1:(q::G++H).Perm (G++(q::H)):=List.perm_middle.symm
  have p2:(q::G'++H).Perm (G'++(q::H)):=List.perm_middle.symm
  exact(x w A F h _ (S.perm p1)).perm p2.symm
theorem Drop.under {e:Addr×PO} {G G':Led} (x:Drop G G') {w:World} {A:Around} {F:FM} {h:Heap} {H:Led} (S:Sb w A F h (e::(G++H))):Sb w A F h (e::(G'++H)):=Drop.cons x w A F h H S
theorem Drop.frame {L:Addr} {ρ ρ':List (Str×PV)} {G:Led} (i:∀ x p,Look ρ' x p→Look ρ x p):Drop ((L,.frame ρ)::G) ((L,.frame ρ')::G):=fun w A F h H S=>by
  refine⟨S.base,S.sub,fun q hq=>?_,S.nd,S.fr⟩
  rcases List.mem_cons.mp hq with rfl | hq
  · obtain⟨⟨m,n,c⟩,f⟩:=S.led _ (.head _)
    exact⟨⟨m,n,fun x p lk=>c x p (i x p lk)⟩,f⟩
  · exact S.led q (List.mem_cons_of_mem _ hq)
end
inductive Out where
  | next (G:Led) | ret (p:PV) (G:Led) | exc (C:Addr) (c:Value) (p:PV) (G:Led)
noncomputable def mW (w:World) (P:Out→Prop) (G:Led) (F:FM):Flow→Prop
  | .next=>P (.next G)
  | .ret v=>∃ p,p.Is w.params F v∧P (.ret p G)
  | _=>False
noncomputable def XS (w:World) (A:Around) (env:Env) (ss:List Stmt) (G:Led) (P:Out→Prop):Prop:=TX w A F0 (execs ss env) G (mW w P) (fun C c p G'=>P (.exc C c p G'))
noncomputable def XT (w:World) (A:Around) (env:Env) (st:Stmt) (G:Led) (P:Out→Prop):Prop:=TX w A F0 (exec st env) G (mW w P) (fun C c p G'=>P (.exc C c p G'))
noncomputable def OP (w:World) (A:Around) (env:Env) (rest:List Stmt) (P:Out→Prop):Out→Prop
  | .next G=>XS w A env rest G P
  | o=>P o
section
variable {w:World} {A:Around} {env:Env} {G G' Γ:Led} {P P':Out→Prop} {st:Stmt} {ss:List Stmt} {pos pos':Pos} {e:Expr} {x:Str} {p:PV} {ρ:List (Str×PV)}
theorem XS.nil (h:P (.next G)):XS w A env [] G P:=fun F1 H s h' k Q E l S q x=>wpAny_execs_nil (q .next F1 h' k G (.refl _) S h)
theorem XS.cons (h:XT w A env st G (OP w A env ss P)):XS w A env (st::ss) G P:=fun F1 H s h' k Q E l S q x =>
  wpAny_execs_cons (h F1 H s h' k _ E l S (fun f F' h'' k' G' l' S' n=>by
    cases f with
    | next=>exact n F' H s h'' k' Q E (Le.zero _) S' (fun a F'' h3 k3 G3 l3=>q a F'' h3 k3 G3 (l'.trans l3)) fun e C c p F'' h3 k3 G3 l3=>x e C c p F'' h3 k3 G3 (l'.trans l3)
    | ret v=>obtain⟨p,pv,pp⟩:=n;exact q (.ret v) F' h'' k' G' l' S' ⟨p,pv,pp⟩
    | _=>exact n.elim) fun e C c p F' h'' k' G' l' S' n=>x e C c p F' h'' k' G' l' S' n)
theorem XS.pre (h:XS w A env ss G' P) (d:Drop G G'):XS w A env ss G P:=TX.pre h fun F h H S=>d w A F h H S
theorem Sb.store {F:FM} {h:Heap} {H:Led} {s:Shared} {k:Nat} {Q:Unit→Shared→Prop} {E:Value→Shared→Prop} {v:Value} (S:Sb w A F h ((env.locals,.frame ρ)::Γ++H)) (pv:p.Is w.params F v)
    (q:∀ h' k',Sb w A F h' ((env.locals,.frame ((x,p)::ρ))::Γ++H)→Q () (sh s h' k'))
    (hk:env.scope.kind=.function) (hl:env.scope.names.lookup x=some .local):wpAny (MM w) A (PySem.storeName env x v) Q E (sh s h k):=by
  obtain⟨⟨m,n,c⟩,f⟩:=S.led _ (.head _)
  refine wpAny_storeName_local hl n (fun h' hn hs=>q h' _ (S.upd hs ⟨_,hn,fun y py ly=>?_⟩ rfl)) (by rw [hk];rfl)
  show ∃ v',(if y=x then some v else m y)=some v'∧_
  cases ly with
  | head=>exact⟨v,if_pos rfl,pv⟩
  | tail ne r=>rw [if_neg ne];exact c y py r
theorem XT.cE (he:TX w A F0 (eval e env) G (fun G' F v=>∃ p ρ Γ,p.Is w.params F v∧G'=(env.locals,.frame ρ)::Γ∧P (.next ((env.locals,.frame ((x,p)::ρ))::Γ))) (fun C c p G'=>P (.exc C c p G')))
    (hk:env.scope.kind=.function) (hl:env.scope.names.lookup x=some .local) (hs:swapsWith e (some (.Name x pos')) pos.line env=pure false):XT w A env (.Assign [.Name x pos'] e pos) G P :=
  fun F1 H s h k Q E l S q y=>wpAny_Assign_Name (he F1 H s h k _ E l S (fun v F' h' k' G' l' S' n=>by
    obtain⟨p,ρ,Γ,pv,rfl,n⟩:=n
    exact S'.store pv (fun h'' k'' S''=>q .next F' h'' k'' _ l' S'' n) hk hl) y) hs
theorem XT.assign (he:Ev w A env G e p ((env.locals,.frame ρ)::Γ)) (n:P (.next ((env.locals,.frame ((x,p)::ρ))::Γ)))
    (hk:env.scope.kind=.function) (hl:env.scope.names.lookup x=some .local) (hs:swapsWith e (some (.Name x pos')) pos.line env=pure false):XT w A env (.Assign [.Name x pos'] e pos) G P :=
  XT.cE (TX.imp he.x (fun G' F' v l h=>⟨p,ρ,Γ,h.2,h.1,n⟩) fun xx xx xx xx h=>h) hk hl hs
theorem XT.D3 (he:TX w A F0 (eval e env) G (fun G' F v=>∃ p,p.Is w.params F v∧P (.ret p G')) (fun C c p G'=>P (.exc C c p G'))):XT w A env (.Return (some e) pos) G P :=
  fun F1 H s h k Q E l S q x=>wpAny_Return_some (he F1 H s h k _ E l S (fun v F' h' k' G' l' S' n=>q (.ret v) F' h' k' G' l' S' n) x)
theorem XT.ret (he:Ev w A env G e p G') (n:P (.ret p G')):XT w A env (.Return (some e) pos) G P:=XT.D3 (TX.imp he.x (fun G' F' v l h=>⟨p,h.2,by rw [h.1];exact n⟩) fun xx xx xx xx h=>h)
theorem XT.ifs {test:Expr} {body orelse:List Stmt} {b:Bool} (ht:Tr w A env G test b G') (hT:b=true→XS w A env body G' P) (hF:b=false→XS w A env orelse G' P):XT w A env (.If test body orelse pos) G P :=
  fun F1 H s h k Q E l S q x=>wpAny_If (ht.x F1 H s h k _ E l S (fun c F' h' k' G'' l' S' n=>by
    obtain⟨rfl,rfl⟩:=n
    cases c with
    | true=>exact hT rfl F' H s h' k' Q E (Le.zero _) S' (fun a F'' h3 k3 G3 l3=>q a F'' h3 k3 G3 (l'.trans l3)) fun e C c p F'' h3 k3 G3 l3=>x e C c p F'' h3 k3 G3 (l'.trans l3)
    | false=>exact hF rfl F' H s h' k' Q E (Le.zero _) S' (fun a F'' h3 k3 G3 l3=>q a F'' h3 k3 G3 (l'.trans l3)) fun e C c p F'' h3 k3 G3 l3=>x e C c p F'' h3 k3 G3 (l'.trans l3)) x)
theorem XT.ifX {test:Expr} {body orelse:List Stmt} (ht:TX w A F0 (isTrue test env (eval test env)) G (fun G' F b=>if b then XS w A env body G' P else XS w A env orelse G' P) (fun C c p G'=>P (.exc C c p G'))):XT w A env (.If test body orelse pos) G P :=
  fun F1 H s h k Q E l S q x=>wpAny_If (ht F1 H s h k _ E l S (fun c F' h' k' G'' l' S' n=>by
    cases c with
    | true=>exact n F' H s h' k' Q E (Le.zero _) S' (fun a F'' h3 k3 G3 l3=>q a F'' h3 k3 G3 (l'.trans l3)) fun e C c p F'' h3 k3 G3 l3=>x e C c p F'' h3 k3 G3 (l'.trans l3)
    | false=>exact n F' H s h' k' Q E (Le.zero _) S' (fun a F'' h3 k3 G3 l3=>q a F'' h3 k3 G3 (l'.trans l3)) fun e C c p F'' h3 k3 G3 l3=>x e C c p F'' h3 k3 G3 (l'.trans l3)) x)
end
structure kZ (A:Around) (n:Nat):Prop where
  depth:A.depth+2*n<600
  units:A.units+8*n<9000
theorem kZ.less {A:Around} {n m:Nat} (R:kZ A n) (h:m≤n:=by first | decide | omega):kZ A m:=⟨by have:=R.depth;omega,by have:=R.units;omega⟩
theorem kZ.deeper {A:Around} {n:Nat} (R:kZ A (n+1)) (env:Env):kZ (A.deeper env) n :=
  ⟨by have:=R.depth;show A.depth+1+_<_;omega,by have:=R.units;show A.units+3+_<_;omega⟩
theorem kZ.room {A:Around} {n:Nat} (R:kZ A n):A.depth<recursionLimit:=by have:=R.depth;show _<1000;omega
noncomputable def aT (st:Stmt) (q:Str) (a:Addr) (cs:Addr→List (Str×Addr)) (cd:Value) (L:Addr):Env :=
  { scope:=aC st,locals:=L,globals:=mainGlobals,cells:=cs L,qual:=q++".<locals>.",func:=some a,code:=cd,frame:=some L,builtins:=builtinsNs }
noncomputable def aN (P:Params) (a:Addr):FuncData:=match (KF P).lookup a with
  | some ⟨_,_,.func f,_⟩=>f
  | _=>default
structure a8 (P:Params) (a:Addr) (st:Stmt) (q:Str) (cd:Value):Prop where
  there:∃ oc od sl,(KF P).lookup a=some ⟨oc,od,.func (aN P a),sl⟩
  body:(aN P a).body=.stmts (cQ st)
  scope:(aN P a).scope=aC st
  env:∀ L,callEnvC (aN P a) L a=aT st q a (fun L=>cellsFrom (L+1) (aC st).names []) cd L
  clo:(aN P a).closure=[]
  code:codeIn (KF P) (aN P a).code (aN P a).qualname=true
  co:(aC st).isCoroutine=false
  gen:(aC st).isGenerator=false
  kind:(aC st).kind=.function
noncomputable def bI (L:Addr) (N:PV→Led→Prop) (X:Addr→Value→PV→Led→Prop):Out→Prop
  | .next G=>∃ ρ G',Drop G ((L,.frame ρ)::G')∧N .none G'
  | .ret p G=>∃ ρ G',Drop G ((L,.frame ρ)::G')∧N p G'
  | .exc C c p G=>∃ ρ G',Drop G ((L,.frame ρ)::G')∧X C c p G'
theorem cB:∀ (n:Nat) (l:List (Str×NameKind)) (acc:List (Str×Addr)),(∀ x∈l,x.2≠.cell)→cellsFrom n l acc=acc
  | _,[],_,_=>rfl
  | n,(x,k)::r,acc,h=>by
    unfold cellsFrom
    rw [if_neg (by simpa using h (x,k) (.head _))]
    exact cB n r acc fun y hy=>h y (.tail _ hy)
theorem yY {P:Params} {F:FM} {xs:List Str} {ps:List PV} {vs:List Value} (h:aS P F ps vs) (x:Str) (p:PV) (l:Look (xs.zip ps) x p):∃ v,(xs.zip vs).lookup x=some v∧p.Is P F v:=by
  induction xs generalizing ps vs with
  | nil=>cases l
  | cons y xs ih=>cases ps with
    | nil=>cases l
    | cons q ps =>
      obtain⟨v,us,rfl,a,b⟩:=h.aZ
      rw [List.zip_cons_cons,List.lookup_cons]
      cases l with
      | head=>exact⟨v,by simp,a⟩
      | tail ne r=>rw [show(x == y)=false from by simpa using ne];exact ih b r
set_option tactic.hygienic true in
theorem jV {α:Type}:∀ {l:List (Str×α)} {x:Str} {v:α},(l.map (·.1)).Nodup→l.lookup x=some v→l.reverse.lookup x=some v
  | [],_,_,_,e=>by cases e
  | (y,u)::l,x,v,nd,e=>by
    rw [List.reverse_cons,List.lookup_append]
    rw [List.lookup_cons] at e
    rw [List.map_cons,List.nodup_cons] at nd
    split at e
    · rename_i q
      cases e
      have q':=beq_iff_eq.mp q
      subst q'
      have:l.reverse.lookup x=none:=by
        cases h:l.reverse.lookup x with
        | none=>rfl
        | some z=>exact absurd (List.mem_map.mpr ⟨_,List.mem_reverse.mp (mem_of_lookup h),rfl⟩) nd.1
      rw [this];simp
    · rw [jV nd.2 e];rfl
theorem NZ {α β:Type}:∀ {xs:List α} (vs:List β) {x:α},x∈(xs.zip vs).map (fun xx=>xx.1)→x∈xs:=fun vs x h=>by
  obtain⟨⟨a,b⟩,hm,rfl⟩:=List.mem_map.mp h
  exact(List.of_mem_zip hm).1
theorem jF {α β:Type}:∀ {xs:List α} (vs:List β),xs.Nodup→((xs.zip vs).map (fun xx=>xx.1)).Nodup
  | [],_,_=>by simp
  | _::_,[],_=>by simp
  | x::xs,v::vs,h=>by
    rw [List.zip_cons_cons,List.map_cons,List.nodup_cons]
    exact⟨fun m=>(List.nodup_cons.mp h).1 (NZ vs m),jF vs (List.nodup_cons.mp h).2⟩
section
variable {w:World} {A:Around} {F:FM} {G:Led} {N:PV→Led→Prop} {X:Addr→Value→PV→Led→Prop}
noncomputable def TC (w:World) (A:Around) (F:FM) (a:Addr) (vs:List Value) (G:Led) (N:Led→FM→Value→Prop) (X:Addr→Value→PV→Led→Prop):Prop :=
  ∀ (F1:FM) (H:Led) (s:Shared) (h:Heap) (k:Nat) (R:Result→Shared→Prop),Le F F1→Sb w A F1 h (G++H) →
    (∀ v F' h' k' G',Le F1 F'→Sb w A F' h' (G'++H)→N G' F' v→R (.ok (.ret v)) (sh s h' k')) →
    (∀ e C c p F' h' k' G',Le F1 F'→Sb w A F' h' ((e,.exc C c p)::(G'++H))→X C c p G'→R (.error (.ref e)) (sh s h' k'))→codeAny (MM w) A (.call (.ref a) ⟨vs,[]⟩) R (sh s h k)
theorem TC.call {a:Addr} {vs:List Value} {N:Led→FM→Value→Prop} (y:TC w A F a vs G N X):TX w A F (PySem.call (.ref a) vs) G N X:=fun F1 H s h k Q E l S q x =>
  wpAny_call (y F1 H s h k _ l S (fun v F' h' k' G' l' S' n=>q v F' h' k' G' l' S' n) fun e C c p F' h' k' G' l' S' n=>x e C c p F' h' k' G' l' S' n)
theorem Sb.up {w:World} {A:Around} {F F':FM} {h h':Heap} {env':Env} {L:Addr} {ρ:List (Str×PV)} {G0 G':Led} (S:Sb w A F h G0) (nL:L∉G0.map (fun xx=>xx.1)) (B':Sb w (A.deeper env') F' h' ((L,.frame ρ)::G')):Sb w A F' h' G':=by
  obtain⟨envs,he,hf⟩:=S.fr
  refine⟨B'.base,B'.sub,fun q hq=>B'.led q (List.mem_cons_of_mem _ hq),(List.nodup_cons.mp B'.nd).2,envs,he,fun env hm=>?_⟩
  obtain⟨h1,L',h2,h3⟩:=hf env hm
  refine⟨h1,L',h2,?_⟩
  obtain⟨envs',e1,f'⟩:=B'.fr
  rw [show(A.deeper env').frames=some (env'::envs) from by show A.frames.map _=_;rw [he];rfl] at e1
  cases e1
  obtain⟨_,L'',h2',h3'⟩:=f' env (.tail _ hm)
  rw [h2] at h2';cases h2'
  rcases List.mem_cons.mp (show L'∈L::bN G' from h3') with z | z
  · subst z
    exact(cO h3).elim fun ρ' m=>absurd (List.mem_map.mpr ⟨_,m,rfl⟩) nL
  · exact z
theorem Sb.into {w:World} {A:Around} {F:FM} {h:Heap} {env':Env} {L:Addr} {ρ:List (Str×PV)} {G0 X:Led} (S:Sb w A F h G0) (hk:env'.scope.kind≠.module) (hL:env'.frame=some L) (hp:(PO.frame ρ).At w F h L) (fL:F L=none) (hx:∀ q∈X,q.2.At w F h q.1∧F q.1=none)
    (nL:L∉(X++G0).map (fun xx=>xx.1)) (nd:((X++G0).map (fun xx=>xx.1)).Nodup):Sb w (A.deeper env') F h ((L,.frame ρ)::(X++G0)):=by
  obtain⟨envs,he,hf⟩:=S.fr
  refine⟨S.base,S.sub,fun q' hq=>?_,List.nodup_cons.mpr ⟨nL,nd⟩,env'::envs,by show A.frames.map _=_;rw [he];rfl,fun env hm=>?_⟩
  · rcases List.mem_cons.mp hq with rfl | hq
    · exact⟨hp,fL⟩
    · exact(List.mem_append.mp hq).elim (hx q') (S.led q')
  · rcases List.mem_cons.mp hm with rfl | hm
    · exact⟨hk,L,hL,List.mem_cons_self⟩
    · exact(hf env hm).imp id fun r=>r.imp fun xx r=>⟨r.1,cP (fun q hq=>List.mem_cons_of_mem _ (List.mem_append_right _ hq)) r.2⟩
theorem TC.fn {a:Addr} {st:Stmt} {q:Str} {cd:Value} {vs vs':List Value} {ps:List PV} {xs:List Str} (I:a8 w.params a st q cd) (hroom:A.depth<recursionLimit)
    (hbind:∀ s:Shared,(KF w.params).In s.heap→BindsTo s (aN w.params a) ⟨vs,[]⟩ (xs.zip vs')) (pv:aS w.params F ps vs') (hnd:xs.Nodup) (hloc:∀ x∈xs,(aC st).names.lookup x=some .local)
    (hcell:∀ x∈(aC st).names,x.2≠.cell)
    (h:∀ L,XS w (A.deeper (aT st q a (fun xx=>[]) cd L)) (aT st q a (fun xx=>[]) cd L) (cQ st) ((L,.frame (xs.zip ps))::G) (bI L N X)) :
    TC w A F a vs G (fun G' F' v=>∃ p,p.Is w.params F' v∧N p G') X:=fun F1 H s hh k R l S q0 x0=>by
  obtain⟨oc,od,sl,ho⟩:=I.there
  have henv:∀ L,callEnv (aN w.params a) L a=aT st q a (fun xx=>[]) cd L:=fun L=>by
    have this:_=aT st q a (fun xx=>cellsFrom (L+1) (aC st).names []) cd L:=I.env L
    unfold callEnvC at this
    rw [cB _ _ _ (by rw [I.scope];exact hcell),cB _ _ _ hcell] at this
    rw [← this];unfold callEnv;rw [I.clo]
  refine codeAny_call_def (fd:=aN w.params a) (body:=cQ st) hroom (S.kf _ _ ho) rfl S.nolimit (codeRec_of S.kf I.code) I.body (hbind _ S.kf) (by rw [I.scope];exact hcell) (fun y hy=>?_) (fun h₀ hns hk=>?_)
    (by rw [I.scope];exact I.co) (by rw [I.scope];exact I.gen) (by rw [I.scope];exact I.kind)
  · rw [I.scope];exact hloc _ (List.of_mem_zip hy).1
  rw [henv]
  dsimp only at hns hk ⊢
  generalize hL:hh.objs.size=L at hns ⊢
  obtain⟨envs,he,hf⟩:=S.fr
  have nL:L∉(G++H).map (fun xx=>xx.1):=hL ▸ S.ne_size
  have fL:F1 L=none:=hL ▸ S.bE
  have S1:=S.ext hk
  have B:Sb w (A.deeper (aT st q a (fun xx=>[]) cd L)) F1 h₀ ((L,.frame (xs.zip ps))::G++H) :=
    S1.into (X:=[]) (by show(aC st).kind≠_;rw [I.kind];decide) rfl ⟨_,hns,fun x p lk=>(yY (pv.mono l) x p lk).imp fun v r=>⟨jV (jF vs' hnd) r.1,r.2⟩⟩ fL (fun xx hq=>nomatch hq) nL S.nd
  refine h L F1 H s h₀ (k+(xs.zip vs').length) _ _ (Le.zero _) B (fun f F' h' k' G' l' S' n=>?_) (fun e C c p F' h' k' G' l' S' n=>?_)
  · cases f with
    | next =>
      obtain⟨ρ,G'',d,nn⟩:=n
      exact q0 _ F' h' k' G'' l' (S.up nL (d _ _ _ _ _ S')) ⟨.none,rfl,nn⟩
    | ret v =>
      obtain⟨p,pv,ρ,G'',d,nn⟩:=n
      exact q0 v F' h' k' G'' l' (S.up nL (d _ _ _ _ _ S')) ⟨p,pv,nn⟩
    | _=>exact n.elim
  · obtain⟨ρ,G'',d,nn⟩:=n
    refine iZ S' (outer:=envs) (by show A.frames.map _=_;rw [he];rfl) rfl fun h'' S'' xx=>?_
    exact x0 e C c p F' h'' k' G'' l' (S.up nL ((d.under S'').perm (List.Perm.swap _ _ _))) nn
theorem TX.fn {a:Addr} {st:Stmt} {q:Str} {cd:Value} {vs vs':List Value} {ps:List PV} {xs:List Str} (I:a8 w.params a st q cd) (hroom:A.depth<recursionLimit)
    (hbind:∀ s:Shared,(KF w.params).In s.heap→BindsTo s (aN w.params a) ⟨vs,[]⟩ (xs.zip vs')) (pv:aS w.params F ps vs') (hnd:xs.Nodup) (hloc:∀ x∈xs,(aC st).names.lookup x=some .local)
    (hcell:∀ x∈(aC st).names,x.2≠.cell)
    (h:∀ L,XS w (A.deeper (aT st q a (fun xx=>[]) cd L)) (aT st q a (fun xx=>[]) cd L) (cQ st) ((L,.frame (xs.zip ps))::G) (bI L N X)) :
    TX w A F (PySem.call (.ref a) vs) G (fun G' F' v=>∃ p,p.Is w.params F' v∧N p G') X:=(TC.fn I hroom hbind pv hnd hloc hcell h).call
end
theorem fn29 (P:Params):a8 P 29 (aW 1 0) "GitError.__init__" (.ref 28):=⟨⟨.type "function",none,#[],by kernel_rfl⟩,by kernel_rfl,by kernel_rfl,fun L=>by kernel_rfl,by kernel_rfl,by kernel_rfl,by kernel_rfl,by kernel_rfl,by kernel_rfl⟩
noncomputable def NX:List Str:=[Str.ofString "self",Str.ofString "told"]
theorem OX {w:World} {s:Shared} (X:(KF w.params).In s.heap) (v0 v1:Value):BindsTo s (aN w.params 29) ⟨[v0,v1],[]⟩ (NX.zip [v0,v1]):=kp_binds X fun S=>by kernel_rfl
theorem nd29:NX.Nodup:=by decide +kernel
theorem lc29:∀ x∈NX,(aC (aW 1 0)).names.lookup x=some .local:=by decide +kernel
theorem nc29:∀ x∈(aC (aW 1 0)).names,x.2≠.cell:=by decide +kernel
theorem fn88 (P:Params):a8 P 88 (aK 6) "big_endian" (.ref 87):=⟨⟨.type "function",none,#[],by kernel_rfl⟩,by kernel_rfl,by kernel_rfl,fun L=>by kernel_rfl,by kernel_rfl,by kernel_rfl,by kernel_rfl,by kernel_rfl,by kernel_rfl⟩
noncomputable def xs88:List Str:=[Str.ofString "number",Str.ofString "many"]
theorem O0 (P:Params) (v0 v1:Value):bindArgs (aN P 88) ⟨[v0,v1],[]⟩=pure (xs88.zip [v0,v1]):=by kernel_rfl
theorem fn95 (P:Params):a8 P 95 (aK 7) "be32" (.ref 94):=⟨⟨.type "function",none,#[],by kernel_rfl⟩,by kernel_rfl,by kernel_rfl,fun L=>by kernel_rfl,by kernel_rfl,by kernel_rfl,by kernel_rfl,by kernel_rfl,by kernel_rfl⟩
noncomputable def NY:List Str:=[Str.ofString "number"]
theorem O1 (P:Params) (v0:Value):bindArgs (aN P 95) ⟨[v0],[]⟩=pure (NY.zip [v0]):=by kernel_rfl
theorem OY {w:World} {s:Shared} (X:(KF w.params).In s.heap) (v0:Value):BindsTo s (aN w.params 95) ⟨[v0],[]⟩ (NY.zip [v0]):=fun M A E Q q=>O1 w.params v0 ▸ wpAny_pure q
theorem nd95:NY.Nodup:=by decide +kernel
theorem lc95:∀ x∈NY,(aC (aK 7)).names.lookup x=some .local:=by decide +kernel
theorem nc95:∀ x∈(aC (aK 7)).names,x.2≠.cell:=by decide +kernel
theorem fn102 (P:Params):a8 P 102 (aK 8) "at_big_endian" (.ref 101):=⟨⟨.type "function",none,#[],by kernel_rfl⟩,by kernel_rfl,by kernel_rfl,fun L=>by kernel_rfl,by kernel_rfl,by kernel_rfl,by kernel_rfl,by kernel_rfl,by kernel_rfl⟩
noncomputable def CC:List Str:=[Str.ofString "octets",Str.ofString "at",Str.ofString "many"]
theorem KN (P:Params) (v0 v1 v2:Value):bindArgs (aN P 102) ⟨[v0,v1,v2],[]⟩=pure (CC.zip [v0,v1,v2]):=by kernel_rfl
theorem JI {w:World} {s:Shared} (X:(KF w.params).In s.heap) (v0 v1 v2:Value):BindsTo s (aN w.params 102) ⟨[v0,v1,v2],[]⟩ (CC.zip [v0,v1,v2]):=fun M A E Q q=>KN w.params v0 v1 v2 ▸ wpAny_pure q
theorem nd102:CC.Nodup:=by decide +kernel
theorem lc102:∀ x∈CC,(aC (aK 8)).names.lookup x=some .local:=by decide +kernel
theorem nc102:∀ x∈(aC (aK 8)).names,x.2≠.cell:=by decide +kernel
theorem fn109 (P:Params):a8 P 109 (aK 9) "at_be32" (.ref 108):=⟨⟨.type "function",none,#[],by kernel_rfl⟩,by kernel_rfl,by kernel_rfl,fun L=>by kernel_rfl,by kernel_rfl,by kernel_rfl,by kernel_rfl,by kernel_rfl,by kernel_rfl⟩
noncomputable def CD:List Str:=[Str.ofString "octets",Str.ofString "at"]
theorem KO (P:Params) (v0 v1:Value):bindArgs (aN P 109) ⟨[v0,v1],[]⟩=pure (CD.zip [v0,v1]):=by kernel_rfl
theorem JJ {w:World} {s:Shared} (X:(KF w.params).In s.heap) (v0 v1:Value):BindsTo s (aN w.params 109) ⟨[v0,v1],[]⟩ (CD.zip [v0,v1]):=fun M A E Q q=>KO w.params v0 v1 ▸ wpAny_pure q
theorem nd109:CD.Nodup:=by decide +kernel
theorem lc109:∀ x∈CD,(aC (aK 9)).names.lookup x=some .local:=by decide +kernel
theorem nc109:∀ x∈(aC (aK 9)).names,x.2≠.cell:=by decide +kernel
theorem fn116 (P:Params):a8 P 116 (aK 10) "put_size" (.ref 115):=⟨⟨.type "function",none,#[],by kernel_rfl⟩,by kernel_rfl,by kernel_rfl,fun L=>by kernel_rfl,by kernel_rfl,by kernel_rfl,by kernel_rfl,by kernel_rfl,by kernel_rfl⟩
noncomputable def CE:List Str:=[Str.ofString "number"]
theorem KP (P:Params) (v0:Value):bindArgs (aN P 116) ⟨[v0],[]⟩=pure (CE.zip [v0]):=by kernel_rfl
theorem JK {w:World} {s:Shared} (X:(KF w.params).In s.heap) (v0:Value):BindsTo s (aN w.params 116) ⟨[v0],[]⟩ (CE.zip [v0]):=fun M A E Q q=>KP w.params v0 ▸ wpAny_pure q
theorem nd116:CE.Nodup:=by decide +kernel
theorem lc116:∀ x∈CE,(aC (aK 10)).names.lookup x=some .local:=by decide +kernel
theorem nc116:∀ x∈(aC (aK 10)).names,x.2≠.cell:=by decide +kernel
theorem fn123 (P:Params):a8 P 123 (aK 11) "at_size" (.ref 122):=⟨⟨.type "function",none,#[],by kernel_rfl⟩,by kernel_rfl,by kernel_rfl,fun L=>by kernel_rfl,by kernel_rfl,by kernel_rfl,by kernel_rfl,by kernel_rfl,by kernel_rfl⟩
noncomputable def CF:List Str:=[Str.ofString "octets",Str.ofString "at"]
theorem KQ (P:Params) (v0 v1:Value):bindArgs (aN P 123) ⟨[v0,v1],[]⟩=pure (CF.zip [v0,v1]):=by kernel_rfl
theorem JL {w:World} {s:Shared} (X:(KF w.params).In s.heap) (v0 v1:Value):BindsTo s (aN w.params 123) ⟨[v0,v1],[]⟩ (CF.zip [v0,v1]):=fun M A E Q q=>KQ w.params v0 v1 ▸ wpAny_pure q
theorem nd123:CF.Nodup:=by decide +kernel
theorem lc123:∀ x∈CF,(aC (aK 11)).names.lookup x=some .local:=by decide +kernel
theorem nc123:∀ x∈(aC (aK 11)).names,x.2≠.cell:=by decide +kernel
theorem fn130 (P:Params):a8 P 130 (aK 12) "put_offset" (.ref 129):=⟨⟨.type "function",none,#[],by kernel_rfl⟩,by kernel_rfl,by kernel_rfl,fun L=>by kernel_rfl,by kernel_rfl,by kernel_rfl,by kernel_rfl,by kernel_rfl,by kernel_rfl⟩
noncomputable def CG:List Str:=[Str.ofString "number"]
theorem KR (P:Params) (v0:Value):bindArgs (aN P 130) ⟨[v0],[]⟩=pure (CG.zip [v0]):=by kernel_rfl
theorem JM {w:World} {s:Shared} (X:(KF w.params).In s.heap) (v0:Value):BindsTo s (aN w.params 130) ⟨[v0],[]⟩ (CG.zip [v0]):=fun M A E Q q=>KR w.params v0 ▸ wpAny_pure q
theorem nd130:CG.Nodup:=by decide +kernel
theorem lc130:∀ x∈CG,(aC (aK 12)).names.lookup x=some .local:=by decide +kernel
theorem nc130:∀ x∈(aC (aK 12)).names,x.2≠.cell:=by decide +kernel
theorem fn137 (P:Params):a8 P 137 (aK 13) "at_offset" (.ref 136):=⟨⟨.type "function",none,#[],by kernel_rfl⟩,by kernel_rfl,by kernel_rfl,fun L=>by kernel_rfl,by kernel_rfl,by kernel_rfl,by kernel_rfl,by kernel_rfl,by kernel_rfl⟩
noncomputable def CH:List Str:=[Str.ofString "octets",Str.ofString "at"]
theorem KS (P:Params) (v0 v1:Value):bindArgs (aN P 137) ⟨[v0,v1],[]⟩=pure (CH.zip [v0,v1]):=by kernel_rfl
theorem JN {w:World} {s:Shared} (X:(KF w.params).In s.heap) (v0 v1:Value):BindsTo s (aN w.params 137) ⟨[v0,v1],[]⟩ (CH.zip [v0,v1]):=fun M A E Q q=>KS w.params v0 v1 ▸ wpAny_pure q
theorem nd137:CH.Nodup:=by decide +kernel
theorem lc137:∀ x∈CH,(aC (aK 13)).names.lookup x=some .local:=by decide +kernel
theorem nc137:∀ x∈(aC (aK 13)).names,x.2≠.cell:=by decide +kernel
theorem fn152 (P:Params):a8 P 152 (aW 14 0) "CountingHasher.__init__" (.ref 151):=⟨⟨.type "function",none,#[],by kernel_rfl⟩,by kernel_rfl,by kernel_rfl,fun L=>by kernel_rfl,by kernel_rfl,by kernel_rfl,by kernel_rfl,by kernel_rfl,by kernel_rfl⟩
noncomputable def I5:List Str:=[Str.ofString "self",Str.ofString "size"]
theorem JO {w:World} {s:Shared} (X:(KF w.params).In s.heap) (v0 v1:Value):BindsTo s (aN w.params 152) ⟨[v0,v1],[]⟩ (I5.zip [v0,v1]):=kp_binds X fun S=>by kernel_rfl
theorem nd152:I5.Nodup:=by decide +kernel
theorem lc152:∀ x∈I5,(aC (aW 14 0)).names.lookup x=some .local:=by decide +kernel
theorem nc152:∀ x∈(aC (aW 14 0)).names,x.2≠.cell:=by decide +kernel
theorem fn159 (P:Params):a8 P 159 (aW 14 1) "CountingHasher.digest" (.ref 158):=⟨⟨.type "function",none,#[],by kernel_rfl⟩,by kernel_rfl,by kernel_rfl,fun L=>by kernel_rfl,by kernel_rfl,by kernel_rfl,by kernel_rfl,by kernel_rfl,by kernel_rfl⟩
noncomputable def CI:List Str:=[Str.ofString "self",Str.ofString "octets"]
theorem KU (P:Params) (v0 v1:Value):bindArgs (aN P 159) ⟨[v0,v1],[]⟩=pure (CI.zip [v0,v1]):=by kernel_rfl
theorem JP {w:World} {s:Shared} (X:(KF w.params).In s.heap) (v0 v1:Value):BindsTo s (aN w.params 159) ⟨[v0,v1],[]⟩ (CI.zip [v0,v1]):=fun M A E Q q=>KU w.params v0 v1 ▸ wpAny_pure q
theorem nd159:CI.Nodup:=by decide +kernel
theorem lc159:∀ x∈CI,(aC (aW 14 1)).names.lookup x=some .local:=by decide +kernel
theorem nc159:∀ x∈(aC (aW 14 1)).names,x.2≠.cell:=by decide +kernel
theorem fn176 (P:Params):a8 P 176 (aK 24) "entry_head" (.ref 175):=⟨⟨.type "function",none,#[],by kernel_rfl⟩,by kernel_rfl,by kernel_rfl,fun L=>by kernel_rfl,by kernel_rfl,by kernel_rfl,by kernel_rfl,by kernel_rfl,by kernel_rfl⟩
noncomputable def CJ:List Str:=[Str.ofString "number",Str.ofString "size"]
theorem KV (P:Params) (v0 v1:Value):bindArgs (aN P 176) ⟨[v0,v1],[]⟩=pure (CJ.zip [v0,v1]):=by kernel_rfl
theorem JQ {w:World} {s:Shared} (X:(KF w.params).In s.heap) (v0 v1:Value):BindsTo s (aN w.params 176) ⟨[v0,v1],[]⟩ (CJ.zip [v0,v1]):=fun M A E Q q=>KV w.params v0 v1 ▸ wpAny_pure q
theorem nd176:CJ.Nodup:=by decide +kernel
theorem lc176:∀ x∈CJ,(aC (aK 24)).names.lookup x=some .local:=by decide +kernel
theorem nc176:∀ x∈(aC (aK 24)).names,x.2≠.cell:=by decide +kernel
theorem fn183 (P:Params):a8 P 183 (aK 25) "at_entry_head" (.ref 182):=⟨⟨.type "function",none,#[],by kernel_rfl⟩,by kernel_rfl,by kernel_rfl,fun L=>by kernel_rfl,by kernel_rfl,by kernel_rfl,by kernel_rfl,by kernel_rfl,by kernel_rfl⟩
noncomputable def CK:List Str:=[Str.ofString "octets",Str.ofString "at"]
theorem KW (P:Params) (v0 v1:Value):bindArgs (aN P 183) ⟨[v0,v1],[]⟩=pure (CK.zip [v0,v1]):=by kernel_rfl
theorem JR {w:World} {s:Shared} (X:(KF w.params).In s.heap) (v0 v1:Value):BindsTo s (aN w.params 183) ⟨[v0,v1],[]⟩ (CK.zip [v0,v1]):=fun M A E Q q=>KW w.params v0 v1 ▸ wpAny_pure q
theorem nd183:CK.Nodup:=by decide +kernel
theorem lc183:∀ x∈CK,(aC (aK 25)).names.lookup x=some .local:=by decide +kernel
theorem nc183:∀ x∈(aC (aK 25)).names,x.2≠.cell:=by decide +kernel
theorem N7 (P:Params):a8 P 198 (aW 26 0) "PackEntry.__init__" (.ref 197):=⟨⟨.type "function",none,#[],by kernel_rfl⟩,by kernel_rfl,by kernel_rfl,fun L=>by kernel_rfl,by kernel_rfl,by kernel_rfl,by kernel_rfl,by kernel_rfl,by kernel_rfl⟩
noncomputable def CL:List Str:=[Str.ofString "self",Str.ofString "oid",Str.ofString "kind",Str.ofString "content",Str.ofString "base",Str.ofString "delta"]
theorem JS {w:World} {s:Shared} (X:(KF w.params).In s.heap) (v0 v1 v2 v3:Value):BindsTo s (aN w.params 198) ⟨[v0,v1,v2,v3],[]⟩ (CL.zip [v0,v1,v2,v3,.none,.none]):=kp_binds X fun S=>by kernel_rfl
theorem JT {w:World} {s:Shared} (X:(KF w.params).In s.heap) (v0 v1 v2 v3 v4 v5:Value):BindsTo s (aN w.params 198) ⟨[v0,v1,v2,v3,v4,v5],[]⟩ (CL.zip [v0,v1,v2,v3,v4,v5]):=kp_binds X fun S=>by kernel_rfl
theorem OE:CL.Nodup:=by decide +kernel
theorem OB:∀ x∈CL,(aC (aW 26 0)).names.lookup x=some .local:=by decide +kernel
theorem OD:∀ x∈(aC (aW 26 0)).names,x.2≠.cell:=by decide +kernel
theorem fn205 (P:Params):a8 P 205 (aW 26 1) "PackEntry.is_delta" (.ref 204):=⟨⟨.type "function",none,#[],by kernel_rfl⟩,by kernel_rfl,by kernel_rfl,fun L=>by kernel_rfl,by kernel_rfl,by kernel_rfl,by kernel_rfl,by kernel_rfl,by kernel_rfl⟩
noncomputable def CM:List Str:=[Str.ofString "self"]
theorem KX (P:Params) (v0:Value):bindArgs (aN P 205) ⟨[v0],[]⟩=pure (CM.zip [v0]):=by kernel_rfl
theorem JU {w:World} {s:Shared} (X:(KF w.params).In s.heap) (v0:Value):BindsTo s (aN w.params 205) ⟨[v0],[]⟩ (CM.zip [v0]):=fun M A E Q q=>KX w.params v0 ▸ wpAny_pure q
theorem nd205:CM.Nodup:=by decide +kernel
theorem lc205:∀ x∈CM,(aC (aW 26 1)).names.lookup x=some .local:=by decide +kernel
theorem nc205:∀ x∈(aC (aW 26 1)).names,x.2≠.cell:=by decide +kernel
theorem fn227 (P:Params):a8 P 227 (aW 27 0) "PackBuilder.__init__" (.ref 226):=⟨⟨.type "function",none,#[],by kernel_rfl⟩,by kernel_rfl,by kernel_rfl,fun L=>by kernel_rfl,by kernel_rfl,by kernel_rfl,by kernel_rfl,by kernel_rfl,by kernel_rfl⟩
noncomputable def I6:List Str:=[Str.ofString "self",Str.ofString "hasher",Str.ofString "codec",Str.ofString "by_offset"]
theorem JV {w:World} {s:Shared} (X:(KF w.params).In s.heap) (v0 v1 v2 v3:Value):BindsTo s (aN w.params 227) ⟨[v0,v1,v2,v3],[]⟩ (I6.zip [v0,v1,v2,v3]):=kp_binds X fun S=>by kernel_rfl
theorem nd227:I6.Nodup:=by decide +kernel
theorem lc227:∀ x∈I6,(aC (aW 27 0)).names.lookup x=some .local:=by decide +kernel
theorem nc227:∀ x∈(aC (aW 27 0)).names,x.2≠.cell:=by decide +kernel
theorem fn234 (P:Params):a8 P 234 (aW 27 1) "PackBuilder.piece_of" (.ref 233):=⟨⟨.type "function",none,#[],by kernel_rfl⟩,by kernel_rfl,by kernel_rfl,fun L=>by kernel_rfl,by kernel_rfl,by kernel_rfl,by kernel_rfl,by kernel_rfl,by kernel_rfl⟩
noncomputable def CN:List Str:=[Str.ofString "self",Str.ofString "entry"]
theorem KY (P:Params) (v0 v1:Value):bindArgs (aN P 234) ⟨[v0,v1],[]⟩=pure (CN.zip [v0,v1]):=by kernel_rfl
theorem JW {w:World} {s:Shared} (X:(KF w.params).In s.heap) (v0 v1:Value):BindsTo s (aN w.params 234) ⟨[v0,v1],[]⟩ (CN.zip [v0,v1]):=fun M A E Q q=>KY w.params v0 v1 ▸ wpAny_pure q
theorem nd234:CN.Nodup:=by decide +kernel
theorem lc234:∀ x∈CN,(aC (aW 27 1)).names.lookup x=some .local:=by decide +kernel
theorem nc234:∀ x∈(aC (aW 27 1)).names,x.2≠.cell:=by decide +kernel
theorem fn241 (P:Params):a8 P 241 (aW 27 2) "PackBuilder.add" (.ref 240):=⟨⟨.type "function",none,#[],by kernel_rfl⟩,by kernel_rfl,by kernel_rfl,fun L=>by kernel_rfl,by kernel_rfl,by kernel_rfl,by kernel_rfl,by kernel_rfl,by kernel_rfl⟩
noncomputable def yX:List Str:=[Str.ofString "self",Str.ofString "entry"]
theorem KZ (P:Params) (v0 v1:Value):bindArgs (aN P 241) ⟨[v0,v1],[]⟩=pure (yX.zip [v0,v1]):=by kernel_rfl
theorem JX {w:World} {s:Shared} (X:(KF w.params).In s.heap) (v0 v1:Value):BindsTo s (aN w.params 241) ⟨[v0,v1],[]⟩ (yX.zip [v0,v1]):=fun M A E Q q=>KZ w.params v0 v1 ▸ wpAny_pure q
theorem nd241:yX.Nodup:=by decide +kernel
theorem lc241:∀ x∈yX,(aC (aW 27 2)).names.lookup x=some .local:=by decide +kernel
theorem nc241:∀ x∈(aC (aW 27 2)).names,x.2≠.cell:=by decide +kernel
theorem fn248 (P:Params):a8 P 248 (aW 27 3) "PackBuilder.close" (.ref 247):=⟨⟨.type "function",none,#[],by kernel_rfl⟩,by kernel_rfl,by kernel_rfl,fun L=>by kernel_rfl,by kernel_rfl,by kernel_rfl,by kernel_rfl,by kernel_rfl,by kernel_rfl⟩
noncomputable def CO:List Str:=[Str.ofString "self"]
theorem K0 (P:Params) (v0:Value):bindArgs (aN P 248) ⟨[v0],[]⟩=pure (CO.zip [v0]):=by kernel_rfl
theorem JY {w:World} {s:Shared} (X:(KF w.params).In s.heap) (v0:Value):BindsTo s (aN w.params 248) ⟨[v0],[]⟩ (CO.zip [v0]):=fun M A E Q q=>K0 w.params v0 ▸ wpAny_pure q
theorem nd248:CO.Nodup:=by decide +kernel
theorem lc248:∀ x∈CO,(aC (aW 27 3)).names.lookup x=some .local:=by decide +kernel
theorem nc248:∀ x∈(aC (aW 27 3)).names,x.2≠.cell:=by decide +kernel
theorem fn262 (P:Params):a8 P 262 (aK 28) "pack_closed" (.ref 261):=⟨⟨.type "function",none,#[],by kernel_rfl⟩,by kernel_rfl,by kernel_rfl,fun L=>by kernel_rfl,by kernel_rfl,by kernel_rfl,by kernel_rfl,by kernel_rfl,by kernel_rfl⟩
noncomputable def CP:List Str:=[Str.ofString "count",Str.ofString "body",Str.ofString "hasher"]
theorem K1 (P:Params) (v0 v1 v2:Value):bindArgs (aN P 262) ⟨[v0,v1,v2],[]⟩=pure (CP.zip [v0,v1,v2]):=by kernel_rfl
theorem JZ {w:World} {s:Shared} (X:(KF w.params).In s.heap) (v0 v1 v2:Value):BindsTo s (aN w.params 262) ⟨[v0,v1,v2],[]⟩ (CP.zip [v0,v1,v2]):=fun M A E Q q=>K1 w.params v0 v1 v2 ▸ wpAny_pure q
theorem nd262:CP.Nodup:=by decide +kernel
theorem lc262:∀ x∈CP,(aC (aK 28)).names.lookup x=some .local:=by decide +kernel
theorem nc262:∀ x∈(aC (aK 28)).names,x.2≠.cell:=by decide +kernel
theorem fn270 (P:Params):a8 P 270 (aK 29) "write_pack" (.ref 269):=⟨⟨.type "function",none,#[],by kernel_rfl⟩,by kernel_rfl,by kernel_rfl,fun L=>by kernel_rfl,by kernel_rfl,by kernel_rfl,by kernel_rfl,by kernel_rfl,by kernel_rfl⟩
noncomputable def CQ:List Str:=[Str.ofString "entries",Str.ofString "hasher",Str.ofString "codec",Str.ofString "by_offset"]
theorem J0 {w:World} {s:Shared} (X:(KF w.params).In s.heap) (v0 v1 v2 v3:Value):BindsTo s (aN w.params 270) ⟨[v0,v1,v2,v3],[]⟩ (CQ.zip [v0,v1,v2,v3]):=kp_binds X fun S=>by kernel_rfl
theorem nd270:CQ.Nodup:=by decide +kernel
theorem lc270:∀ x∈CQ,(aC (aK 29)).names.lookup x=some .local:=by decide +kernel
theorem nc270:∀ x∈(aC (aK 29)).names,x.2≠.cell:=by decide +kernel
theorem fn284 (P:Params):a8 P 284 (aW 30 0) "Scanned.__init__" (.ref 283):=⟨⟨.type "function",none,#[],by kernel_rfl⟩,by kernel_rfl,by kernel_rfl,fun L=>by kernel_rfl,by kernel_rfl,by kernel_rfl,by kernel_rfl,by kernel_rfl,by kernel_rfl⟩
noncomputable def CR:List Str:=[Str.ofString "self",Str.ofString "at",Str.ofString "number",Str.ofString "size",Str.ofString "base_at",Str.ofString "base_id",Str.ofString "data",Str.ofString "behind"]
theorem K2 (P:Params) (v0 v1 v2 v3 v4 v5 v6 v7:Value):bindArgs (aN P 284) ⟨[v0,v1,v2,v3,v4,v5,v6,v7],[]⟩=pure (CR.zip [v0,v1,v2,v3,v4,v5,v6,v7]):=by kernel_rfl
theorem J1 {w:World} {s:Shared} (X:(KF w.params).In s.heap) (v0 v1 v2 v3 v4 v5 v6 v7:Value):BindsTo s (aN w.params 284) ⟨[v0,v1,v2,v3,v4,v5,v6,v7],[]⟩ (CR.zip [v0,v1,v2,v3,v4,v5,v6,v7]):=fun M A E Q q=>K2 w.params v0 v1 v2 v3 v4 v5 v6 v7 ▸ wpAny_pure q
theorem nd284:CR.Nodup:=by decide +kernel
theorem lc284:∀ x∈CR,(aC (aW 30 0)).names.lookup x=some .local:=by decide +kernel
theorem nc284:∀ x∈(aC (aW 30 0)).names,x.2≠.cell:=by decide +kernel
theorem fn305 (P:Params):a8 P 305 (aK 31) "pack_count" (.ref 304):=⟨⟨.type "function",none,#[],by kernel_rfl⟩,by kernel_rfl,by kernel_rfl,fun L=>by kernel_rfl,by kernel_rfl,by kernel_rfl,by kernel_rfl,by kernel_rfl,by kernel_rfl⟩
noncomputable def CS:List Str:=[Str.ofString "octets",Str.ofString "hasher"]
theorem K5 (P:Params) (v0 v1:Value):bindArgs (aN P 305) ⟨[v0,v1],[]⟩=pure (CS.zip [v0,v1]):=by kernel_rfl
theorem J2 {w:World} {s:Shared} (X:(KF w.params).In s.heap) (v0 v1:Value):BindsTo s (aN w.params 305) ⟨[v0,v1],[]⟩ (CS.zip [v0,v1]):=fun M A E Q q=>K5 w.params v0 v1 ▸ wpAny_pure q
theorem nd305:CS.Nodup:=by decide +kernel
theorem lc305:∀ x∈CS,(aC (aK 31)).names.lookup x=some .local:=by decide +kernel
theorem nc305:∀ x∈(aC (aK 31)).names,x.2≠.cell:=by decide +kernel
theorem fn312 (P:Params):a8 P 312 (aK 32) "pack_unpacked" (.ref 311):=⟨⟨.type "function",none,#[],by kernel_rfl⟩,by kernel_rfl,by kernel_rfl,fun L=>by kernel_rfl,by kernel_rfl,by kernel_rfl,by kernel_rfl,by kernel_rfl,by kernel_rfl⟩
noncomputable def CT:List Str:=[Str.ofString "codec",Str.ofString "octets",Str.ofString "at"]
theorem K6 (P:Params) (v0 v1 v2:Value):bindArgs (aN P 312) ⟨[v0,v1,v2],[]⟩=pure (CT.zip [v0,v1,v2]):=by kernel_rfl
theorem J3 {w:World} {s:Shared} (X:(KF w.params).In s.heap) (v0 v1 v2:Value):BindsTo s (aN w.params 312) ⟨[v0,v1,v2],[]⟩ (CT.zip [v0,v1,v2]):=fun M A E Q q=>K6 w.params v0 v1 v2 ▸ wpAny_pure q
theorem nd312:CT.Nodup:=by decide +kernel
theorem lc312:∀ x∈CT,(aC (aK 32)).names.lookup x=some .local:=by decide +kernel
theorem nc312:∀ x∈(aC (aK 32)).names,x.2≠.cell:=by decide +kernel
theorem fn319 (P:Params):a8 P 319 (aK 33) "scan_entry" (.ref 318):=⟨⟨.type "function",none,#[],by kernel_rfl⟩,by kernel_rfl,by kernel_rfl,fun L=>by kernel_rfl,by kernel_rfl,by kernel_rfl,by kernel_rfl,by kernel_rfl,by kernel_rfl⟩
noncomputable def CU:List Str:=[Str.ofString "body",Str.ofString "at",Str.ofString "hasher",Str.ofString "codec",Str.ofString "starts"]
theorem K7 (P:Params) (v0 v1 v2 v3 v4:Value):bindArgs (aN P 319) ⟨[v0,v1,v2,v3,v4],[]⟩=pure (CU.zip [v0,v1,v2,v3,v4]):=by kernel_rfl
theorem J4 {w:World} {s:Shared} (X:(KF w.params).In s.heap) (v0 v1 v2 v3 v4:Value):BindsTo s (aN w.params 319) ⟨[v0,v1,v2,v3,v4],[]⟩ (CU.zip [v0,v1,v2,v3,v4]):=fun M A E Q q=>K7 w.params v0 v1 v2 v3 v4 ▸ wpAny_pure q
theorem nd319:CU.Nodup:=by decide +kernel
theorem lc319:∀ x∈CU,(aC (aK 33)).names.lookup x=some .local:=by decide +kernel
theorem nc319:∀ x∈(aC (aK 33)).names,x.2≠.cell:=by decide +kernel
theorem fn326 (P:Params):a8 P 326 (aK 34) "scan_pack" (.ref 325):=⟨⟨.type "function",none,#[],by kernel_rfl⟩,by kernel_rfl,by kernel_rfl,fun L=>by kernel_rfl,by kernel_rfl,by kernel_rfl,by kernel_rfl,by kernel_rfl,by kernel_rfl⟩
noncomputable def CV:List Str:=[Str.ofString "octets",Str.ofString "hasher",Str.ofString "codec"]
theorem K8 (P:Params) (v0 v1 v2:Value):bindArgs (aN P 326) ⟨[v0,v1,v2],[]⟩=pure (CV.zip [v0,v1,v2]):=by kernel_rfl
theorem J5 {w:World} {s:Shared} (X:(KF w.params).In s.heap) (v0 v1 v2:Value):BindsTo s (aN w.params 326) ⟨[v0,v1,v2],[]⟩ (CV.zip [v0,v1,v2]):=fun M A E Q q=>K8 w.params v0 v1 v2 ▸ wpAny_pure q
theorem nd326:CV.Nodup:=by decide +kernel
theorem lc326:∀ x∈CV,(aC (aK 34)).names.lookup x=some .local:=by decide +kernel
theorem nc326:∀ x∈(aC (aK 34)).names,x.2≠.cell:=by decide +kernel
theorem fn340 (P:Params):a8 P 340 (aW 36 0) "StoredCodec.pack" (.ref 339):=⟨⟨.type "function",none,#[],by kernel_rfl⟩,by kernel_rfl,by kernel_rfl,fun L=>by kernel_rfl,by kernel_rfl,by kernel_rfl,by kernel_rfl,by kernel_rfl,by kernel_rfl⟩
noncomputable def CW:List Str:=[Str.ofString "self",Str.ofString "octets"]
theorem K9 (P:Params) (v0 v1:Value):bindArgs (aN P 340) ⟨[v0,v1],[]⟩=pure (CW.zip [v0,v1]):=by kernel_rfl
theorem J6 {w:World} {s:Shared} (X:(KF w.params).In s.heap) (v0 v1:Value):BindsTo s (aN w.params 340) ⟨[v0,v1],[]⟩ (CW.zip [v0,v1]):=fun M A E Q q=>K9 w.params v0 v1 ▸ wpAny_pure q
theorem nd340:CW.Nodup:=by decide +kernel
theorem lc340:∀ x∈CW,(aC (aW 36 0)).names.lookup x=some .local:=by decide +kernel
theorem nc340:∀ x∈(aC (aW 36 0)).names,x.2≠.cell:=by decide +kernel
theorem fn348 (P:Params):a8 P 348 (aW 36 1) "StoredCodec.unpack" (.ref 347):=⟨⟨.type "function",none,#[],by kernel_rfl⟩,by kernel_rfl,by kernel_rfl,fun L=>by kernel_rfl,by kernel_rfl,by kernel_rfl,by kernel_rfl,by kernel_rfl,by kernel_rfl⟩
noncomputable def I7:List Str:=[Str.ofString "self",Str.ofString "octets",Str.ofString "at"]
theorem J7 {w:World} {s:Shared} (X:(KF w.params).In s.heap) (v0 v1 v2:Value):BindsTo s (aN w.params 348) ⟨[v0,v1,v2],[]⟩ (I7.zip [v0,v1,v2]):=kp_binds X fun S=>by kernel_rfl
theorem nd348:I7.Nodup:=by decide +kernel
theorem lc348:∀ x∈I7,(aC (aW 36 1)).names.lookup x=some .local:=by decide +kernel
theorem nc348:∀ x∈(aC (aW 36 1)).names,x.2≠.cell:=by decide +kernel
theorem fn362 (P:Params):a8 P 362 (aK 38) "_law_draw" (.ref 361):=⟨⟨.type "function",none,#[],by kernel_rfl⟩,by kernel_rfl,by kernel_rfl,fun L=>by kernel_rfl,by kernel_rfl,by kernel_rfl,by kernel_rfl,by kernel_rfl,by kernel_rfl⟩
noncomputable def CX:List Str:=[Str.ofString "deck",Str.ofString "below"]
theorem LA (P:Params) (v0 v1:Value):bindArgs (aN P 362) ⟨[v0,v1],[]⟩=pure (CX.zip [v0,v1]):=by kernel_rfl
theorem J8 {w:World} {s:Shared} (X:(KF w.params).In s.heap) (v0 v1:Value):BindsTo s (aN w.params 362) ⟨[v0,v1],[]⟩ (CX.zip [v0,v1]):=fun M A E Q q=>LA w.params v0 v1 ▸ wpAny_pure q
theorem nd362:CX.Nodup:=by decide +kernel
theorem lc362:∀ x∈CX,(aC (aK 38)).names.lookup x=some .local:=by decide +kernel
theorem nc362:∀ x∈(aC (aK 38)).names,x.2≠.cell:=by decide +kernel
theorem fn369 (P:Params):a8 P 369 (aK 39) "_law_head" (.ref 368):=⟨⟨.type "function",none,#[],by kernel_rfl⟩,by kernel_rfl,by kernel_rfl,fun L=>by kernel_rfl,by kernel_rfl,by kernel_rfl,by kernel_rfl,by kernel_rfl,by kernel_rfl⟩
noncomputable def CY:List Str:=[Str.ofString "number",Str.ofString "size"]
theorem LB (P:Params) (v0 v1:Value):bindArgs (aN P 369) ⟨[v0,v1],[]⟩=pure (CY.zip [v0,v1]):=by kernel_rfl
theorem J9 {w:World} {s:Shared} (X:(KF w.params).In s.heap) (v0 v1:Value):BindsTo s (aN w.params 369) ⟨[v0,v1],[]⟩ (CY.zip [v0,v1]):=fun M A E Q q=>LB w.params v0 v1 ▸ wpAny_pure q
theorem nd369:CY.Nodup:=by decide +kernel
theorem lc369:∀ x∈CY,(aC (aK 39)).names.lookup x=some .local:=by decide +kernel
theorem nc369:∀ x∈(aC (aK 39)).names,x.2≠.cell:=by decide +kernel
theorem fn376 (P:Params):a8 P 376 (aK 40) "_law_back" (.ref 375):=⟨⟨.type "function",none,#[],by kernel_rfl⟩,by kernel_rfl,by kernel_rfl,fun L=>by kernel_rfl,by kernel_rfl,by kernel_rfl,by kernel_rfl,by kernel_rfl,by kernel_rfl⟩
noncomputable def CZ:List Str:=[Str.ofString "number"]
theorem LC (P:Params) (v0:Value):bindArgs (aN P 376) ⟨[v0],[]⟩=pure (CZ.zip [v0]):=by kernel_rfl
theorem KA {w:World} {s:Shared} (X:(KF w.params).In s.heap) (v0:Value):BindsTo s (aN w.params 376) ⟨[v0],[]⟩ (CZ.zip [v0]):=fun M A E Q q=>LC w.params v0 ▸ wpAny_pure q
theorem nd376:CZ.Nodup:=by decide +kernel
theorem lc376:∀ x∈CZ,(aC (aK 40)).names.lookup x=some .local:=by decide +kernel
theorem nc376:∀ x∈(aC (aK 40)).names,x.2≠.cell:=by decide +kernel
theorem fn383 (P:Params):a8 P 383 (aK 41) "_law_stored" (.ref 382):=⟨⟨.type "function",none,#[],by kernel_rfl⟩,by kernel_rfl,by kernel_rfl,fun L=>by kernel_rfl,by kernel_rfl,by kernel_rfl,by kernel_rfl,by kernel_rfl,by kernel_rfl⟩
noncomputable def C3:List Str:=[Str.ofString "octets"]
theorem LD (P:Params) (v0:Value):bindArgs (aN P 383) ⟨[v0],[]⟩=pure (C3.zip [v0]):=by kernel_rfl
theorem KC {w:World} {s:Shared} (X:(KF w.params).In s.heap) (v0:Value):BindsTo s (aN w.params 383) ⟨[v0],[]⟩ (C3.zip [v0]):=fun M A E Q q=>LD w.params v0 ▸ wpAny_pure q
theorem nd383:C3.Nodup:=by decide +kernel
theorem lc383:∀ x∈C3,(aC (aK 41)).names.lookup x=some .local:=by decide +kernel
theorem nc383:∀ x∈(aC (aK 41)).names,x.2≠.cell:=by decide +kernel
theorem fn390 (P:Params):a8 P 390 (aK 42) "_law_four" (.ref 389):=⟨⟨.type "function",none,#[],by kernel_rfl⟩,by kernel_rfl,by kernel_rfl,fun L=>by kernel_rfl,by kernel_rfl,by kernel_rfl,by kernel_rfl,by kernel_rfl,by kernel_rfl⟩
noncomputable def C4:List Str:=[Str.ofString "number"]
theorem LF (P:Params) (v0:Value):bindArgs (aN P 390) ⟨[v0],[]⟩=pure (C4.zip [v0]):=by kernel_rfl
theorem KD {w:World} {s:Shared} (X:(KF w.params).In s.heap) (v0:Value):BindsTo s (aN w.params 390) ⟨[v0],[]⟩ (C4.zip [v0]):=fun M A E Q q=>LF w.params v0 ▸ wpAny_pure q
theorem nd390:C4.Nodup:=by decide +kernel
theorem lc390:∀ x∈C4,(aC (aK 42)).names.lookup x=some .local:=by decide +kernel
theorem nc390:∀ x∈(aC (aK 42)).names,x.2≠.cell:=by decide +kernel
theorem fn395 (P:Params):a8 P 395 (aK 43) "_law_octets" (.ref 394):=⟨⟨.type "function",none,#[],by kernel_rfl⟩,by kernel_rfl,by kernel_rfl,fun L=>by kernel_rfl,by kernel_rfl,by kernel_rfl,by kernel_rfl,by kernel_rfl,by kernel_rfl⟩
noncomputable def xs395:List Str:=[Str.ofString "deck",Str.ofString "most"]
theorem LG (P:Params) (v0 v1:Value):bindArgs (aN P 395) ⟨[v0,v1],[]⟩=pure (xs395.zip [v0,v1]):=by kernel_rfl
theorem fn402 (P:Params):a8 P 402 (aK 44) "_law_rows" (.ref 401):=⟨⟨.type "function",none,#[],by kernel_rfl⟩,by kernel_rfl,by kernel_rfl,fun L=>by kernel_rfl,by kernel_rfl,by kernel_rfl,by kernel_rfl,by kernel_rfl,by kernel_rfl⟩
noncomputable def C5:List Str:=[Str.ofString "deck"]
theorem LH (P:Params) (v0:Value):bindArgs (aN P 402) ⟨[v0],[]⟩=pure (C5.zip [v0]):=by kernel_rfl
theorem KG {w:World} {s:Shared} (X:(KF w.params).In s.heap) (v0:Value):BindsTo s (aN w.params 402) ⟨[v0],[]⟩ (C5.zip [v0]):=fun M A E Q q=>LH w.params v0 ▸ wpAny_pure q
theorem nd402:C5.Nodup:=by decide +kernel
theorem lc402:∀ x∈C5,(aC (aK 44)).names.lookup x=some .local:=by decide +kernel
theorem nc402:∀ x∈(aC (aK 44)).names,x.2≠.cell:=by decide +kernel
theorem fn409 (P:Params):a8 P 409 (aK 45) "_law_plain" (.ref 408):=⟨⟨.type "function",none,#[],by kernel_rfl⟩,by kernel_rfl,by kernel_rfl,fun L=>by kernel_rfl,by kernel_rfl,by kernel_rfl,by kernel_rfl,by kernel_rfl,by kernel_rfl⟩
noncomputable def C6:List Str:=[Str.ofString "rows",Str.ofString "is_placed"]
theorem LI (P:Params) (v0 v1:Value):bindArgs (aN P 409) ⟨[v0,v1],[]⟩=pure (C6.zip [v0,v1]):=by kernel_rfl
theorem KH {w:World} {s:Shared} (X:(KF w.params).In s.heap) (v0 v1:Value):BindsTo s (aN w.params 409) ⟨[v0,v1],[]⟩ (C6.zip [v0,v1]):=fun M A E Q q=>LI w.params v0 v1 ▸ wpAny_pure q
theorem nd409:C6.Nodup:=by decide +kernel
theorem lc409:∀ x∈C6,(aC (aK 45)).names.lookup x=some .local:=by decide +kernel
theorem nc409:∀ x∈(aC (aK 45)).names,x.2≠.cell:=by decide +kernel
theorem fn416 (P:Params):a8 P 416 (aK 46) "_law_signed" (.ref 415):=⟨⟨.type "function",none,#[],by kernel_rfl⟩,by kernel_rfl,by kernel_rfl,fun L=>by kernel_rfl,by kernel_rfl,by kernel_rfl,by kernel_rfl,by kernel_rfl,by kernel_rfl⟩
noncomputable def C7:List Str:=[Str.ofString "hasher",Str.ofString "body"]
theorem LJ (P:Params) (v0 v1:Value):bindArgs (aN P 416) ⟨[v0,v1],[]⟩=pure (C7.zip [v0,v1]):=by kernel_rfl
theorem KI {w:World} {s:Shared} (X:(KF w.params).In s.heap) (v0 v1:Value):BindsTo s (aN w.params 416) ⟨[v0,v1],[]⟩ (C7.zip [v0,v1]):=fun M A E Q q=>LJ w.params v0 v1 ▸ wpAny_pure q
theorem nd416:C7.Nodup:=by decide +kernel
theorem lc416:∀ x∈C7,(aC (aK 46)).names.lookup x=some .local:=by decide +kernel
theorem nc416:∀ x∈(aC (aK 46)).names,x.2≠.cell:=by decide +kernel
theorem fn423 (P:Params):a8 P 423 (aK 47) "_law_is_refused" (.ref 422):=⟨⟨.type "function",none,#[],by kernel_rfl⟩,by kernel_rfl,by kernel_rfl,fun L=>by kernel_rfl,by kernel_rfl,by kernel_rfl,by kernel_rfl,by kernel_rfl,by kernel_rfl⟩
noncomputable def C8:List Str:=[Str.ofString "octets",Str.ofString "hasher"]
theorem LK (P:Params) (v0 v1:Value):bindArgs (aN P 423) ⟨[v0,v1],[]⟩=pure (C8.zip [v0,v1]):=by kernel_rfl
theorem KJ {w:World} {s:Shared} (X:(KF w.params).In s.heap) (v0 v1:Value):BindsTo s (aN w.params 423) ⟨[v0,v1],[]⟩ (C8.zip [v0,v1]):=fun M A E Q q=>LK w.params v0 v1 ▸ wpAny_pure q
theorem nd423:C8.Nodup:=by decide +kernel
theorem lc423:∀ x∈C8,(aC (aK 47)).names.lookup x=some .local:=by decide +kernel
theorem nc423:∀ x∈(aC (aK 47)).names,x.2≠.cell:=by decide +kernel
theorem fn430 (P:Params):a8 P 430 (aK 48) "_law_scanned" (.ref 429):=⟨⟨.type "function",none,#[],by kernel_rfl⟩,by kernel_rfl,by kernel_rfl,fun L=>by kernel_rfl,by kernel_rfl,by kernel_rfl,by kernel_rfl,by kernel_rfl,by kernel_rfl⟩
noncomputable def C9:List Str:=[Str.ofString "octets",Str.ofString "hasher"]
theorem LL (P:Params) (v0 v1:Value):bindArgs (aN P 430) ⟨[v0,v1],[]⟩=pure (C9.zip [v0,v1]):=by kernel_rfl
theorem KL {w:World} {s:Shared} (X:(KF w.params).In s.heap) (v0 v1:Value):BindsTo s (aN w.params 430) ⟨[v0,v1],[]⟩ (C9.zip [v0,v1]):=fun M A E Q q=>LL w.params v0 v1 ▸ wpAny_pure q
theorem nd430:C9.Nodup:=by decide +kernel
theorem lc430:∀ x∈C9,(aC (aK 48)).names.lookup x=some .local:=by decide +kernel
theorem nc430:∀ x∈(aC (aK 48)).names,x.2≠.cell:=by decide +kernel
theorem fn435 (P:Params):a8 P 435 (aK 49) "_law_wrong_ones" (.ref 434):=⟨⟨.type "function",none,#[],by kernel_rfl⟩,by kernel_rfl,by kernel_rfl,fun L=>by kernel_rfl,by kernel_rfl,by kernel_rfl,by kernel_rfl,by kernel_rfl,by kernel_rfl⟩
noncomputable def xs435:List Str:=[Str.ofString "deck",Str.ofString "hasher",Str.ofString "whole",Str.ofString "told"]
theorem LM (P:Params) (v0 v1 v2 v3:Value):bindArgs (aN P 435) ⟨[v0,v1,v2,v3],[]⟩=pure (xs435.zip [v0,v1,v2,v3]):=by kernel_rfl
theorem fn440 (P:Params):a8 P 440 (aK 50) "law" (.ref 439):=⟨⟨.type "function",none,#[],by kernel_rfl⟩,by kernel_rfl,by kernel_rfl,fun L=>by kernel_rfl,by kernel_rfl,by kernel_rfl,by kernel_rfl,by kernel_rfl,by kernel_rfl⟩
noncomputable def xs440:List Str:=[Str.ofString "script"]
theorem LN (P:Params) (v0:Value):bindArgs (aN P 440) ⟨[v0],[]⟩=pure (xs440.zip [v0]):=by kernel_rfl
noncomputable abbrev aU (w:World) (A:Around) (env:Env) (G:Led) (pos:Pos) (es:List Expr) (ps:List PV) (G':Led):Prop:=T w A F0 (spliced (backTo pos (starEach es env))) G G' (fun F vs=>aS w.params F ps vs)
section
variable {w:World} {A:Around} {env:Env} {G G' G1 G2 G3:Led} {e:Expr} {es:List Expr} {pos np:Pos} {F:FM} {p q:PV} {ps:List PV} {f:Value} {first:List Value} {x:Str}
theorem aU.nil:aU w A env G pos [] [] G:=T.f9 fun F1 s Q E l q=>Calls.spliced_nil (q _ s.toks .nil)
theorem aU.cons (h:Ev w A env G e p G1) (hs:aU w A env G1 pos es ps G2) (he:starEach (e::es) env=(false,eval e env)::starEach es env):aU w A env G pos (e::es) (p::ps) G2:=by
  unfold aU
  rw [he]
  show T w A F0 (spliced ((false,eval e env)::backTo pos (starEach es env))) _ _ _
  rw [spliced]
  refine T.bind h fun v F1 l1 pv=>?_
  simp only [Bool.false_eq_true,if_false]
  refine T.bind (T.pure (P:=fun xx a=>a=[v]) fun xx xx=>rfl) fun a F2 l2 ea=>?_
  subst ea
  exact T.bind (T.holding (hs.low (Le.zero _))) fun vs F3 l3 pvs=>T.pure fun F4 l4=>.cons (pv.mono (l2.trans (l3.trans l4))) (pvs.mono l4)
noncomputable def cU (w:World) (f:Value):Prop:=∀ h,(KF w.params).In h→∃ k,(k=Keeper.frame∨k=Keeper.machine∨k=Keeper.boundFrame)∧Looks (MM w) h (keeperOf f) k
theorem aV {T:String}:cU w (.type T):=fun h X=>⟨.machine,.inr (.inl rfl),Looks.of_pure rfl⟩
theorem dM {T:String}:cU w (.builtin T):=fun h X=>⟨.machine,.inr (.inl rfl),Looks.of_pure rfl⟩
theorem aB {a:Addr} (h:keepIn (KF w.params) (.ref a)=true):cU w (.ref a):=fun hh X=>keeps_K h hh X
theorem cN {M:Model} {E:Value→Shared→Prop} {s:Shared}:∀ {args:List (Bool×Sem Value)} {Q:Args→Shared→Prop},args.any (fun xx=>xx.1)=false→wpAny M A (spliced args) (fun vs s'=>Q ⟨vs,[]⟩ s') E s→wpAny M A (evalArgs f true args []) Q E s
  | [],Q,_,h=>by
    unfold evalArgs
    show wpAny M A (spliced [] >>= _) Q E s
    refine wpAny_bind (wpAny_mono h (fun vs s' h'=>?_) fun xx xx x=>x)
    refine wpAny_bind (wpAny_pure (wpAny_holding ?_))
    exact wpAny_bind (wpAny_pure (wpAny_bind (wpAny_pure (wpAny_pure h'))))
  | (b,x)::r,Q,hp,h=>by
    obtain⟨h1,h2⟩:=Bool.or_eq_false_iff.mp (List.any_cons ▸ hp)
    cases (show b=false from h1)
    exact evalArgs_plain h
theorem TX.callWith {N:Led→FM→Value→Prop} {X:Addr→Value→PV→Led→Prop} (hk:cU w f) (ha:aU w A env G pos es ps G1) (hp:(backTo pos (starEach es env)).any (fun xx=>xx.1)=false)
    (hc:∀ vs F',Le F F'→aS w.params F' ps vs→TX w A F' (call f (first++vs)) G1 N X):TX w A F (callWith pos f first (backTo pos (starEach es env)) []) G N X:=fun F1 H s h k Q E l S q x=>by
  refine callWith_of (P:=fun h=>(KF w.params).In h) (by rw [hp];rfl) hk ?_
  refine cN hp (ha F1 H s h k _ E (Le.zero _) S (fun vs F' h' k' G' l' S' n=>?_) fun e C c p F' h' k' G' l' S' n=>n.elim)
  obtain⟨rfl,pv⟩:=n
  exact⟨S'.kf,hc vs F' (l.trans l') pv F' H s h' k' Q E (.refl _) S' (fun a F'' h'' k'' G'' l''=>q a F'' h'' k'' G'' (l'.trans l'')) fun e C c p F'' h'' k'' G'' l''=>x e C c p F'' h'' k'' G'' (l'.trans l'')⟩
theorem TX.call {N:Led→FM→Value→Prop} {X:Addr→Value→PV→Led→Prop} (hf:Ev w A env G (.Name x np) (.val f) G) (hk:cU w f) (ha:aU w A env G pos es ps G1) (hp:(backTo pos (starEach es env)).any (fun xx=>xx.1)=false)
    (hc:∀ vs F',aS w.params F' ps vs→TX w A F' (call f vs) G1 N X):TX w A F0 (eval (.Call (.Name x np) es [] pos) env) G N X:=fun F1 H s h k Q E l S q y =>
  wpAny_Call_ofName (hf F1 H s h k _ E l S (fun v F' h' k' G' l' S' n=>by
    obtain⟨rfl,pv⟩:=n
    cases pv
    exact TX.callWith (F:=F') (first:=[]) hk ha hp (fun vs F'' l'' pvs=>hc vs F'' pvs) F' H s h' k' Q E (.refl _) S' (fun a F'' h'' k'' G'' l''=>q a F'' h'' k'' G'' (l'.trans l'')) fun e C c p F'' h'' k'' G'' l''=>y e C c p F'' h'' k'' G'' (l'.trans l'')) fun e C c p F' h' k' G' l' S' n=>n.elim)
theorem Ev.call (hf:Ev w A env G (.Name x np) (.val f) G) (hk:cU w f) (ha:aU w A env G pos es ps G1) (hp:(backTo pos (starEach es env)).any (fun xx=>xx.1)=false)
    (hc:∀ vs F',aS w.params F' ps vs→T w A F' (call f vs) G1 G2 (fun F v=>p.Is w.params F v)):Ev w A env G (.Call (.Name x np) es [] pos) p G2:=TX.call hf hk ha hp hc
theorem T.fn {a:Addr} {st:Stmt} {q:Str} {cd:Value} {vs vs':List Value} {xs:List Str} (I:a8 w.params a st q cd) (hroom:A.depth<recursionLimit)
    (hbind:∀ s:Shared,(KF w.params).In s.heap→BindsTo s (aN w.params a) ⟨vs,[]⟩ (xs.zip vs')) (pv:aS w.params F ps vs') (hnd:xs.Nodup) (hloc:∀ x∈xs,(aC st).names.lookup x=some .local)
    (hcell:∀ x∈(aC st).names,x.2≠.cell)
    (h:∀ L,XS w (A.deeper (aT st q a (fun xx=>[]) cd L)) (aT st q a (fun xx=>[]) cd L) (cQ st) ((L,.frame (xs.zip ps))::G) (bI L (fun p' G'=>p'=p∧G'=G2) bG)) :
    T w A F (call (.ref a) vs) G G2 (fun F v=>p.Is w.params F v) :=
  TX.imp (TX.fn I hroom hbind pv hnd hloc hcell h) (fun G' F' v l n=>by obtain⟨p',pv,rfl,rfl⟩:=n;exact⟨rfl,pv⟩) fun xx xx xx xx h=>h
theorem bI.next {L:Addr} {N:PV→Led→Prop} {X:Addr→Value→PV→Led→Prop} {ρ:List (Str×PV)} (h:N .none G):bI L N X (.next ((L,.frame ρ)::G)):=⟨ρ,G,Drop.refl _,h⟩
theorem bI.ret {L:Addr} {N:PV→Led→Prop} {X:Addr→Value→PV→Led→Prop} {ρ:List (Str×PV)} (h:N p G):bI L N X (.ret p ((L,.frame ρ)::G)):=⟨ρ,G,Drop.refl _,h⟩
theorem aS.bH {P:Params} {vs:List Value} (h:aS P F [p] vs):∃ v,vs=[v]∧p.Is P F v:=by obtain⟨v,us,rfl,a,b⟩:=h.aZ;exact⟨v,by rw [b.cT],a⟩
theorem aS.two {P:Params} {vs:List Value} (h:aS P F [p,q] vs):∃ v u,vs=[v,u]∧p.Is P F v∧q.Is P F u:=by obtain⟨v,us,rfl,a,b⟩:=h.aZ;obtain⟨u,rfl,c⟩:=b.bH;exact⟨v,u,rfl,a,c⟩
theorem Ev.tuple {k:Nat} (ha:aU w A env G pos es ps G1) (hz:ps.length≤1000):Ev w A env G (.Tuple es k pos) (.tup ps) G1:=fun F1 H s h k Q E l S q x=>by
  refine wpAny_Tuple_spliced (ha F1 H s h k _ E l S (fun vs F' h' k' G' l' S' n=>?_) fun e C c p F' h' k' G' l' S' n=>n.elim)
  obtain⟨rfl,pv⟩:=n
  have l2:Le F' (F'.put h'.objs.size (seqObj "tuple" vs 0)):=Le.put S'.bE
  refine⟨by rw [pv.length,sizeLine_eq];omega,q _ _ _ _ _ (l'.trans l2) (S'.fix rfl) ⟨rfl,?_⟩⟩
  exact⟨_,vs,0,rfl,FM.bO,pv.mono l2⟩
theorem T.newList {vs:List Value} (pv:aS w.params F ps vs) (hz:ps.length≤16777216):T w A F (PySem.newList vs) G G (fun F v=>(PV.lst ps).Is w.params F v):=fun F1 H s h k Q E l S q x=>by
  refine wpAny_newObj_type ?_ (by show vs.toArray.size≤sizeLine;rw [List.size_toArray,pv.length,sizeLine_eq];exact hz)
  have l2:Le F1 (F1.put h.objs.size (seqObj "list" vs 0)):=Le.put S.bE
  exact q _ _ _ _ G l2 (S.fix rfl) ⟨rfl,_,vs,0,rfl,FM.bO,pv.mono (l.trans l2)⟩
theorem Ev.list (ha:aU w A env G pos es ps G1) (hz:ps.length≤1000):Ev w A env G (.List es pos) (.lst ps) G1:=by
  show T w A F0 (do standAt pos;newList (← spliced (backTo pos (starEach es env)))) _ _ _
  exact T.at (T.bind ha fun vs F' l pv=>T.newList pv (by omega))
theorem T.yD {vs:List Value} (pv:aS w.params F ps vs) (hz:ps.length≤16777216):TX w A F (PySem.newList vs) G (fun G' F' v=>∃ a,v=.ref a∧G'=(a,.list ps)::G) bG:=fun F1 H s h k Q E l S q x=>by
  refine wpAny_newObj_type ?_ (by show vs.toArray.size≤sizeLine;rw [List.size_toArray,pv.length,sizeLine_eq];exact hz)
  exact q _ F1 _ k ((h.objs.size,.list ps)::G) (.refl _) (S.push rfl ⟨vs,0,Heap.get?_push_size _ rfl,pv.mono l⟩) ⟨_,rfl,rfl⟩
theorem MZ {x:List UInt8} {v:Value} (hz:x.length≤1099511627776) (hv:(PV.bytes x).Is w.params F v):T w A F (call (.builtin "len") [v]) G G (fun F v=>(PV.int x.length).Is w.params F v):=T.f9 fun F1 s Q E l q=>by
  obtain⟨t,rfl⟩:=hv
  exact W.len_bytes (by simpa using hz) (by simpa using q _ _ ⟨_,rfl⟩)
theorem M1 {v:Value} (hz:ps.length≤1099511627776) (hv:(PV.lst ps).Is w.params F v):T w A F (call (.builtin "len") [v]) G G (fun F v=>(PV.int ps.length).Is w.params F v):=T.of fun F1 s h k Q E H l S q=>by
  obtain⟨a,vs,n,rfl,fa,pv⟩:=PV.Is.mono l hv
  have hl:h.IsList a vs.toArray:=⟨_,S.sub _ _ fa,rfl,n,rfl⟩
  exact len_list hl (by rw [List.size_toArray,pv.length];omega) (q _ h _ (.refl _) ⟨_,by rw [List.size_toArray,pv.length]⟩)
end
section
variable {w:World} {A:Around} {env:Env} {G G' G1 G2 G3:Led} {e value slice:Expr} {es:List Expr} {pos np sp:Pos} {F:FM} {p q:PV} {ps:List PV} {f:Value} {x:Str}
theorem CB {M:Model} {E:Value→Shared→Prop} {s:Shared} {o i:Value} {Ty id:String} {ops:List Value} {Q:Value→Shared→Prop} (hT:s.TypeIs o Ty)
    (hl:typeLookup (.type Ty) "__getitem__"=pure (some (.builtin id))) (h:wpAny (MM w) A (getItem o i) Q E s)
    (hs:subscripted slice false o i=operate ops (getItem o i)):wpAny (MM w) A (subscriptTail value slice o i) Q E s:=by
  unfold subscriptTail
  refine wpAny_bind ?_
  rw [getitemInPython_of_ne hT.not_modules]
  refine wpAny_bind (wpAny_specialOf hT hl ?_)
  refine wpAny_pure (wpAny_bind ?_)
  rw [hs]
  exact wpAny_operating (wpAny_mono h (fun r s₃ h₃=>wpAny_bind (wpAny_letTemporaryGo (wpAny_pure h₃))) fun xx xx x=>x)
theorem cS {Ty id:String} {N:Led→FM→Value→Prop} {X:Addr→Value→PV→Led→Prop} (ho:Ev w A env G value p G1) (hi:Ev w A env G1 slice q G2)
    (hT:∀ v F1 h H,p.Is w.params F1 v→Sb w A F1 h (G2++H)→∀ s:Shared,s.heap=h→s.TypeIs v Ty) (hl:typeLookup (.type Ty) "__getitem__"=pure (some (.builtin id)))
    (hg:∀ v u F',p.Is w.params F' v→q.Is w.params F' u→TX w A F' (getItem v u) G2 N X) (hs:∀ o i,subscripted slice false o i=operate [o,i] (getItem o i)) :
    TX w A F0 (eval (.Subscript value slice pos) env) G N X:=fun F1 H s h k Q E l S q0 y=>by
  refine Subscript_ (ho F1 H s h k _ E (Le.zero _) S (fun v F' h' k' G' l' S' n=>?_) fun e C c p F' h' k' G' l' S' n=>n.elim)
  obtain⟨rfl,pv⟩:=n
  refine hi F' H s h' k' _ E (Le.zero _) S' (fun u F'' h'' k'' G' l'' S'' n=>?_) fun e C c p F' h' k' G' l' S' n=>n.elim
  obtain⟨rfl,pu⟩:=n
  refine CB (M:=MM w) (hT v F'' h'' H (pv.mono l'') S'' _ rfl) hl (hg v u F'' (pv.mono l'') pu F'' H s h'' k'' Q E (.refl _) S'' (fun a F3 h3 k3 G3 l3=>q0 a F3 h3 k3 G3 ((l'.trans l'').trans l3)) fun e C c p F3 h3 k3 G3 l3=>y e C c p F3 h3 k3 G3 ((l'.trans l'').trans l3)) (hs v u)
theorem DN {x:List UInt8} {v:Value} (h:(PV.bytes x).Is w.params F v) (s:Shared):s.TypeIs v "bytes":=by obtain⟨t,rfl⟩:=h;exact typeIs_bytes _ _ _
theorem Ev.itemB {x:List UInt8} {i:Int} (ho:Ev w A env G value (.bytes x) G1) (hi:Ev w A env G1 slice (.int i) G2) (h0:0≤i) (h1:i<x.length) (hz:x.length≤1099511627776)
    (hs:∀ o i,subscripted slice false o i=operate [o,i] (getItem o i)):Ev w A env G (.Subscript value slice pos) (.int (x.getD i.toNat 0).toNat) G2 :=
  cS ho hi (fun v F1 h H pv xx s xx=>DN pv s) FB.slot_bytes_getitem.lookup (fun v u F' pv pu=>T.f9 fun F1 s Q E l q=>by
    obtain⟨t,rfl⟩:=pv;obtain⟨t',rfl⟩:=pu
    exact W.getItem_bytes hz h0 h1 (q _ _ ⟨_,rfl⟩)) hs
theorem Ev.tX {i:Int} (ho:Ev w A env G value (.lst ps) G1) (hi:Ev w A env G1 slice (.int i) G2) (h0:0≤i) (hp:ps[i.toNat]?=some p) (hz:i<2 ^ 63)
    (hs:∀ o i,subscripted slice false o i=operate [o,i] (getItem o i)):Ev w A env G (.Subscript value slice pos) p G2 :=
  cS (Ty:="list") ho hi (fun v F1 h H pv S s hs=>by
    obtain⟨a,vs,n,rfl,fa,_⟩:=pv
    exact⟨_,by rw [hs];exact S.sub _ _ fa,rfl⟩) slot_list_getitem.lookup (fun v u F' pv pu=>T.of fun F1 s h k Q E H l S q=>by
    obtain⟨a,vs,n,rfl,fa,pvs⟩:=PV.Is.mono l pv;obtain⟨t',rfl⟩:=pu
    obtain⟨v,hv,hpv⟩:=pvs.get hp
    exact wpAny_getItem_list ⟨_,S.sub _ _ fa,rfl,n,rfl⟩ h0 hz (by simpa using hv) (q v h k (.refl _) hpv)) hs
theorem Ev.x8 {i:Int} {j:Nat} {a:Addr} (ho:Ev w A env G value (.val (.ref a)) G1) (hi:Ev w A env G1 slice (.int i) G2) (hj:G2[j]?=some (a,.list ps)) (h0:0≤i) (hp:ps[i.toNat]?=some p) (hz:i<2 ^ 63)
    (hs:∀ o i,subscripted slice false o i=operate [o,i] (getItem o i)):Ev w A env G (.Subscript value slice pos) p G2 :=
  cS (Ty:="list") ho hi (fun v F1 h H pv S s hs=>by
    cases pv
    obtain⟨vs,n,ha,_⟩:=(S.led _ (List.mem_append_left _ (List.mem_of_getElem? hj))).1
    exact⟨_,by rw [hs];exact ha,rfl⟩) slot_list_getitem.lookup (fun v u F' pv pu F1 H s h k Q E l S q x=>by
    cases pv;obtain⟨t',rfl⟩:=pu
    obtain⟨vs,n,ha,pvs⟩:=(S.led _ (List.mem_append_left _ (List.mem_of_getElem? hj))).1
    obtain⟨v,hv,hpv⟩:=pvs.get hp
    exact wpAny_getItem_list ⟨_,ha,rfl,n,rfl⟩ h0 hz (by simpa using hv) (q v F1 h k _ (.refl _) S ⟨rfl,hpv⟩)) hs
theorem Ev.DO {i:Int} {j:Nat} {a:Addr} (ho:Ev w A env G value (.val (.ref a)) G1) (hi:Ev w A env G1 slice (.int i) G2) (hj:G2[j]?=some (a,.list ps)) (h0:i<0) (h1:-(ps.length:Int)≤i) (hp:ps[(i+ps.length).toNat]?=some p) (hz:-(2 ^ 63)≤i)
    (hs:∀ o i,subscripted slice false o i=operate [o,i] (getItem o i)):Ev w A env G (.Subscript value slice pos) p G2 :=
  cS (Ty:="list") ho hi (fun v F1 h H pv S s hs=>by
    cases pv
    obtain⟨vs,n,ha,_⟩:=(S.led _ (List.mem_append_left _ (List.mem_of_getElem? hj))).1
    exact⟨_,by rw [hs];exact ha,rfl⟩) slot_list_getitem.lookup (fun v u F' pv pu F1 H s h k Q E l S q x=>by
    cases pv;obtain⟨t',rfl⟩:=pu
    obtain⟨vs,n,ha,pvs⟩:=(S.led _ (List.mem_append_left _ (List.mem_of_getElem? hj))).1
    obtain⟨v,hv,hpv⟩:=pvs.get hp
    have e:vs.toArray.size=ps.length:=by rw [List.size_toArray,pvs.length]
    exact wpAny_getItem_list_neg ⟨_,ha,rfl,n,rfl⟩ h0 (by rw [e];exact h1) hz (by rw [e];simpa using hv) (q v F1 h k _ (.refl _) S ⟨rfl,hpv⟩)) hs
noncomputable def xM (w:World) (A:Around) (env:Env) (G:Led) (e:Option Expr) (i:Option Int) (G':Led):Prop:=T w A F0 (evalPart e env) G G' (fun F v=>IsPart v i)
theorem xM.none:xM w A env G Option.none Option.none G:=T.f9 fun F1 s Q E l q=>by rw [evalPart_none];exact wpAny_pure (q _ s.toks .none)
theorem xM.some {i:Int} (h:Ev w A env G e (.int i) G'):xM w A env G (Option.some e) (Option.some i) G':=T.imp h fun F' v l pv=>by obtain⟨t,rfl⟩:=pv;exact .int i t
noncomputable def uH (x:List UInt8) (lo hi:Option Int):List UInt8:=(x.drop (lo.elim 0 (clipAt x.length))).take (hi.elim x.length (clipAt x.length) - lo.elim 0 (clipAt x.length))
theorem Ev.xA {x:List UInt8} {lower upper:Option Expr} {lo hi:Option Int} (ho:Ev w A env G value (.bytes x) G1) (hl:xM w A env G1 lower lo G2) (hu:xM w A env G2 upper hi G3) (hz:x.length≤16777216)
    (ht:∀ o r,letTemporaryGo value o r=pure ()):Ev w A env G (.Subscript value (.Slice lower upper Option.none sp) pos) (.bytes (uH x lo hi)) G3:=fun F1 H s h k Q E l S q y=>by
  refine wpAny_Subscript_Slice (T:="bytes") FB.slot_bytes_getitem.lookup (ho F1 H s h k _ E (Le.zero _) S (fun v F' h' k' G' l' S' n=>?_) fun e C c p F' h' k' G' l' S' n=>n.elim) ht
  obtain⟨rfl,t,rfl⟩:=n
  refine wpAny_Slice (hl F' H s h' k' _ E (Le.zero _) S' (fun vl F2 h2 k2 G' l2 S2 n=>?_) fun e C c p F' h' k' G' l' S' n=>n.elim)
  obtain⟨rfl,pl⟩:=n
  refine hu F2 H s h2 k2 _ E (Le.zero _) S2 (fun vu F3 h3 k3 G' l3 S3 n=>?_) fun e C c p F' h' k' G' l' S' n=>n.elim
  obtain⟨rfl,pu⟩:=n
  rw [evalPart_none]
  refine wpAny_pure ⟨typeIs_bytes _ _ _,getItem_meets (typeIs_bytes _ _ _) (by decide) FB.slot_bytes_getitem FB.entry_bytes_getitem (FB.args_bytes_getitem_2 _ _) (KBc.meets_slice2 _ t _ pl pu)
    ⟨Heap.IsSliceOf.new _ _ _ _,Nat.le_trans (KBc.size_picked_le _ lo hi) (by rw [List.size_toArray,sizeLine_eq];exact hz),fun t' k=>?_⟩⟩
  refine q _ F3 _ k _ ((l'.trans l2).trans l3) (S3.ext fun xx xx e=>Heap.get?_push_of_some _ e) ⟨rfl,t',?_⟩
  rw [KBc.picked_eq];simp [uH]
theorem Ev.RI {lower upper:Option Expr} {lo hi:Option Int} (ho:Ev w A env G value (.lst ps) G1) (hl:xM w A env G1 lower lo G2) (hu:xM w A env G2 upper hi G3) (hz:ps.length≤16777216)
    (ht:∀ o r,letTemporaryGo value o r=pure ()):Ev w A env G (.Subscript value (.Slice lower upper Option.none sp) pos) (.lst ((ps.drop (lo.elim 0 (clipAt ps.length))).take (hi.elim ps.length (clipAt ps.length) - lo.elim 0 (clipAt ps.length)))) G3:=fun F1 H s h k Q E l S q y=>by
  refine wpAny_Subscript_Slice (T:="list") slot_list_getitem.lookup (ho F1 H s h k _ E (Le.zero _) S (fun v F' h' k' G' l' S' n=>?_) fun e C c p F' h' k' G' l' S' n=>n.elim) ht
  obtain⟨rfl,pv⟩:=n
  refine wpAny_Slice (hl F' H s h' k' _ E (Le.zero _) S' (fun vl F2 h2 k2 G' l2 S2 n=>?_) fun e C c p F' h' k' G' l' S' n=>n.elim)
  obtain⟨rfl,pl⟩:=n
  refine hu F2 H s h2 k2 _ E (Le.zero _) S2 (fun vu F3 h3 k3 G' l3 S3 n=>?_) fun e C c p F' h' k' G' l' S' n=>n.elim
  obtain⟨rfl,pu⟩:=n
  rw [evalPart_none]
  obtain⟨a,vs,n,rfl,fa,pvs⟩:=PV.Is.mono (l2.trans l3) pv
  have hla:h3.IsList a vs.toArray:=⟨_,S3.sub _ _ fa,rfl,n,rfl⟩
  have S4:=S3.ext (h':=h3.push { cls:=.type "slice",data:=.fields #[vl,vu,.none] }) fun xx xx e=>Heap.get?_push_of_some _ e
  refine wpAny_pure ⟨(hla.push _).typeIs,wpAny_getItem_list_slice (hla.push _) (Heap.IsSliceOf.new ..) pl pu .none (by simp) ?_ (by rw [List.size_toArray,pvs.length,sizeLine_eq];exact hz)⟩
  have l4:=Le.put (o:=seqObj "list" (slicePick vs.toArray lo hi Option.none).toList 0) S4.bE
  have S5:=S4.fix (o:=seqObj "list" (slicePick vs.toArray lo hi Option.none).toList 0) rfl
  refine q _ _ _ k3 _ (((l'.trans l2).trans l3).trans l4) S5 ⟨rfl,_,_,0,rfl,FM.bO,?_⟩
  have e:(slicePick vs.toArray lo hi Option.none).toList=(vs.drop (lo.elim 0 (clipAt ps.length))).take (hi.elim ps.length (clipAt ps.length) - lo.elim 0 (clipAt ps.length)):=by
    rw [slicePick_plain];simp only [List.size_toArray,pvs.length]
  have:=((pvs.mono l4).drop (lo.elim 0 (clipAt ps.length))).take (hi.elim ps.length (clipAt ps.length) - lo.elim 0 (clipAt ps.length))
  rwa [← e] at this
theorem oD {st:Expr} {j:Nat} {a:Addr} (ho:Ev w A env G value (.val (.ref a)) G1) (hst:Ev w A env G1 st (.int (-1)) G2) (hj:G2[j]?=Option.some (a,.list ps)) (hz:ps.length≤16777216)
    (ht:∀ o r,letTemporaryGo value o r=pure ()):Ev w A env G (.Subscript value (.Slice Option.none Option.none (Option.some st) sp) pos) (.lst ps.reverse) G2:=fun F1 H s h k Q E l S q y=>by
  refine wpAny_Subscript_Slice_step (T:="list") slot_list_getitem.lookup (ho F1 H s h k _ E (Le.zero _) S (fun v F' h' k' G' l' S' n=>?_) fun e C c p F' h' k' G' l' S' n=>n.elim) ht
  obtain⟨rfl,pv⟩:=n
  cases pv
  refine wpAny_Slice ?_
  rw [evalPart_none]
  refine wpAny_pure (wpAny_pure ?_)
  show wpAny (MM w) A (eval st env) _ E _
  refine hst F' H s h' k' _ E (Le.zero _) S' (fun vu F3 h3 k3 G' l3 S3 n=>?_) fun e C c p F' h' k' G' l' S' n=>n.elim
  obtain⟨rfl,tk,rfl⟩:=n
  obtain⟨vs,n,ha,pvs⟩:=(S3.led _ (List.mem_append_left _ (List.mem_of_getElem? hj))).1
  have hla:h3.IsList a vs.toArray:=⟨_,ha,rfl,n,rfl⟩
  have S4:=S3.ext (h':=h3.push { cls:=.type "slice",data:=.fields #[.none,.none,.int (-1) tk] }) fun xx xx e=>Heap.get?_push_of_some _ e
  refine⟨(hla.push _).typeIs,wpAny_getItem_list_slice (hla.push _) (Heap.IsSliceOf.new ..) .none .none (.int (-1) tk) (by simp) ?_ (by rw [List.size_toArray,pvs.length,sizeLine_eq];exact hz)⟩
  have l4:=Le.put (o:=seqObj "list" (slicePick vs.toArray Option.none Option.none (Option.some (-1))).toList 0) S4.bE
  have S5:=S4.fix (o:=seqObj "list" (slicePick vs.toArray Option.none Option.none (Option.some (-1))).toList 0) rfl
  refine q _ _ _ k3 _ ((l'.trans l3).trans l4) S5 ⟨rfl,_,_,0,rfl,FM.bO,?_⟩
  have e:(slicePick vs.toArray Option.none Option.none (Option.some (-1))).toList=vs.reverse:=by rw [krv_pick]
  have:=(pvs.mono l4).reverse
  rwa [← e] at this
theorem lP:∀ {ns:List Int} {vs:List Value},aS w.params F (ns.map .int) vs→IntsAre vs ns
  | [],_,h=>by rw [aS.cT h];exact .nil
  | n::ns,_,h=>by
    rw [List.map_cons] at h
    obtain⟨v,us,rfl,⟨t,rfl⟩,b⟩:=h.aZ
    exact .cons n t (lP b)
noncomputable def toB (ns:List Int):List UInt8:=ns.map fun n=>n.toNat.toUInt8
theorem tZ {ns:List Int} {v:Value} (hh:A.handled=Option.none) (hr:∀ n∈ns,0≤n∧n<256) (hz:ns.length≤16777216) (hv:(PV.lst (ns.map .int)).Is w.params F v) :
    T w A F (PySem.call (.type "bytes") [v]) G G (fun F v=>(PV.bytes (toB ns)).Is w.params F v):=T.of fun F1 s h k Q E H l S q=>by
  obtain⟨a,vs,n,rfl,fa,pvs⟩:=PV.Is.mono l hv
  have hi:=lP pvs
  exact call_bytes_ints ⟨_,S.sub _ _ fa,rfl,n,rfl⟩ hi hr (by rw [hi.length,sizeLine_eq];exact hz) hh fun h' t k' kp=>q _ h' k' kp ⟨t,rfl⟩
theorem DV {ns:List Int} {i:Nat} {a:Addr} (hi:G[i]?=Option.some (a,.list (ns.map .int))) (hh:A.handled=Option.none) (hr:∀ n∈ns,0≤n∧n<256) (hz:ns.length≤16777216) :
    T w A F (PySem.call (.type "bytes") [.ref a]) G G (fun F v=>(PV.bytes (toB ns)).Is w.params F v):=fun F1 H s h k Q E l S q x=>by
  obtain⟨vs,n,ha,pvs⟩:=(S.led _ (List.mem_append_left _ (List.mem_of_getElem? hi))).1
  have hi:=lP pvs
  exact call_bytes_ints ⟨_,ha,rfl,n,rfl⟩ hi hr (by rw [hi.length,sizeLine_eq];exact hz) hh fun h' t k' kp=>q _ F1 h' k' _ (.refl _) (S.ext kp) ⟨rfl,t,rfl⟩
theorem M3 {i:Nat} {a:Addr} (hi:G[i]?=Option.some (a,.list ps)) (hz:ps.length≤1099511627776):T w A F (PySem.call (.builtin "len") [.ref a]) G G (fun F v=>(PV.int ps.length).Is w.params F v):=fun F1 H s h k Q E l S q x=>by
  obtain⟨vs,n,ha,pvs⟩:=(S.led _ (List.mem_append_left _ (List.mem_of_getElem? hi))).1
  exact len_list ⟨_,ha,rfl,n,rfl⟩ (by rw [List.size_toArray,pvs.length];omega) (q _ F1 h _ _ (.refl _) S ⟨rfl,_,by rw [List.size_toArray,pvs.length]⟩)
theorem nW {i:Nat} {a:Addr} {v:Value} (hi:G[i]?=Option.some (a,.list ps)) (hz:ps.length≤1000000) (hv:p.Is w.params F v) :
    T w A F (PySem.call (.builtin "list.append") [.ref a,v]) G (G.set i (a,.list (ps++[p]))) (fun F v=>v=.none):=T.use hi fun F1 H s h k Q E l S q x=>by
  obtain⟨vs,n,ha,pvs⟩:=(S.led _ (.head _)).1
  refine wpAny_list_append_plain ⟨n,ha⟩ (fun h' ⟨n',ha'⟩ sb=>q _ F1 h' k [(a,.list (ps++[p]))] (.refl _) (S.upd sb ⟨vs++[v],n',by rw [ha'];simp [seqObj],pvs.append (.one (hv.mono l))⟩ rfl) ⟨rfl,rfl⟩) (by rw [List.size_toArray,pvs.length,sizeLine_eq];omega)
theorem M8 {i:Nat} {a:Addr} {j:Int} {u v:Value} (hi:G[i]?=Option.some (a,.list ps)) (h0:0≤j) (h1:j<ps.length) (hz:j<2 ^ 63) (hu:(PV.int j).Is w.params F u) (hv:p.Is w.params F v) :
    T w A F (setItem (.ref a) u v) G (G.set i (a,.list (ps.set j.toNat p))) (fun F xx=>True):=T.use hi fun F1 H s h k Q E l S q x=>by
  obtain⟨vs,n,ha,pvs⟩:=(S.led _ (.head _)).1
  obtain⟨t,rfl⟩:=hu
  have hl:(sh s h k).heap.IsList a vs.toArray:=⟨_,ha,rfl,n,rfl⟩
  unfold setItem
  refine wpAny_holding (wpAny_bind (wpAny_sequenceKey hl.typeIs (by decide) (wpAny_bind (wpAny_callSpecial?_slot (name:=Str.ofString "__setitem__") hl.typeIs slot_list_setitem
    (wpAny_call_entry slot_list_setitem hl.typeIs entry_list_setitem ?_ (args_list_setitem _ _ _))))))
  show wpAny _ _ (Builtin.List.listSubscript? (.int j t) >>= _) _ _ _
  refine wpAny_bind (wpAny_listSubscript_int (fitsIndex_of h0 hz) ?_)
  clear hz
  obtain⟨m,rfl⟩:=Int.eq_ofNat_of_zero_le h0
  have hm:m<vs.toArray.size:=by rw [List.size_toArray,pvs.length];omega
  have hx':vs.toArray[m]?=Option.some vs.toArray[m]:=Array.getElem?_eq_getElem hm
  show wpAny _ _ ((seqItemAt a m >>= fun r=>pure (r.map (m,·))) >>= _) _ _ _
  refine wpAny_bind (wpAny_bind (wpAny_seqItemAt ha rfl (wpAny_pure ?_)))
  rw [hx']
  show wpAny _ _ (setSeqItemAt a m v >>= _) _ _ _
  have e:Obj.mapSeq (·.setIfInBounds m v) (seqObj "list" vs n)=seqObj "list" (vs.set m v) n:=by simp [Obj.mapSeq,seqObj]
  have fin:Q () (sh s (h.update a (Obj.mapSeq (·.setIfInBounds m v))) k):=by
    refine q () F1 _ k [(a,.list (ps.set m p))] (.refl _) (S.upd (Heap.SameBut.update ..) ⟨vs.set m v,n,?_,pvs.set (hv.mono l) m⟩ rfl) ⟨rfl,trivial⟩
    rw [Heap.get?_update_self _ ha (by rw [e];rfl),e]
  refine wpAny_bind (wpAny_setSeqItemAt ha rfl ?_)
  first
    | exact wpAny_bind (wpAny_pure (wpAny_pure ⟨.none,rfl,wpAny_pure fin⟩))
    | exact wpAny_pure ⟨.none,rfl,wpAny_pure fin⟩
end
noncomputable def bJ {K:Type} [DecidableEq K] (kvs:List (K×PV)) (k:K):Option PV:=(kvs.find? fun kv=>kv.1=k).map (fun xx=>xx.2)
theorem eI {K:Type} [DecidableEq K] {P:Params} {F:FM} {k:K} {kvs:List (K×PV)} {kw:List (K×Value)} (e:kw.map (fun xx=>xx.1)=kvs.map (fun xx=>xx.1)) (h:aS P F (kvs.map (fun xx=>xx.2)) (kw.map (fun xx=>xx.2))) :
    (valueAt kw k).isSome=(bJ kvs k).isSome∧∀ p,bJ kvs k=some p→∃ v,valueAt kw k=some v∧p.Is P F v:=by
  induction kvs generalizing kw with
  | nil=>cases kw with
    | nil=>exact⟨rfl,fun p e=>nomatch e⟩
    | cons _ _=>cases e
  | cons x kvs ih=>cases kw with
    | nil=>cases e
    | cons y kw =>
      obtain⟨v',us,e',i,h⟩:=h.aZ
      have i:x.2.Is P F y.2:=by rw [show y.2=v' from(List.cons.inj e').1];exact i
      have ih:=ih (List.cons.inj e).2 (by rw [show kw.map (fun xx=>xx.2)=us from(List.cons.inj e').2];exact h)
      have z1:x.1=y.1:=(List.cons.inj e).1.symm
      have hv:valueAt (y::kw) k=if y.1=k then some y.2 else valueAt kw k:=by
        unfold valueAt;rw [List.find?_cons];by_cases z:y.1=k <;> simp only [z,decide_true,decide_false,if_true,if_false,Option.map]
      have hk:bJ (x::kvs) k=if y.1=k then some x.2 else bJ kvs k:=by
        rw [← z1];unfold bJ;rw [List.find?_cons];by_cases z:x.1=k <;> simp only [z,decide_true,decide_false,if_true,if_false,Option.map]
      rw [hv,hk]
      by_cases z:y.1=k
      · rw [if_pos z,if_pos z];exact⟨rfl,fun q e=>⟨_,rfl,Option.some.inj e ▸ i⟩⟩
      · rw [if_neg z,if_neg z];exact ih
section
variable {w:World} {A:Around} {env:Env} {G G' G1 G2 G3:Led} {e value slice:Expr} {es:List Expr} {pos np sp:Pos} {F:FM} {p q:PV} {ps:List PV} {f:Value} {x:Str} {K:Type} [DecidableEq K] {knd:KeyKind pw w K} {d:Addr} {k:K} {key:Value} {kvs:List (K×PV)}
noncomputable def DB (w:World) (knd:KeyKind pw w K) (kvs:List (K×PV)) (F:FM) (h:Heap) (d:Addr):Prop:=(d == sysModules)=false∧∃ kw:List (K×Value),h.DictOf knd d kw∧kw.map (fun xx=>xx.1)=kvs.map (fun xx=>xx.1)∧aS w.params F (kvs.map (fun xx=>xx.2)) (kw.map (fun xx=>xx.2))
theorem Sb.BS {F:FM} {h:Heap} (S:Sb w A F h G) (e:F d=none):(d == sysModules)=false:=by
  cases z:d == sysModules with
  | false=>rfl
  | true =>
    have z:=beq_iff_eq.mp z
    subst z
    rw [S.base sysModules (kW w.params) (pW (by decide) (by kernel_rfl) (by kernel_rfl))] at e
    cases e
theorem Sb.hasB {F:FM} {h:Heap} {H:Led} {i:Nat} {kvs:List (List UInt8×PV)} (S:Sb w A F h (G++H)) (hi:G[i]?=some (d,.dB kvs)):DB w (bytesKind pw w) kvs F h d :=
  have D:=S.led _ (List.mem_append_left _ (List.mem_of_getElem? hi));⟨S.BS D.2,D.1⟩
theorem Sb.hasI {F:FM} {h:Heap} {H:Led} {i:Nat} {kvs:List (Int×PV)} (S:Sb w A F h (G++H)) (hi:G[i]?=some (d,.dI kvs)):DB w (intKind pw w) kvs F h d :=
  have D:=S.led _ (List.mem_append_left _ (List.mem_of_getElem? hi));⟨S.BS D.2,D.1⟩
theorem wp_in {E:Value→Shared→Prop} {s:Shared} {h:Heap} {kk:Nat} {Q:Value→Shared→Prop} (D:DB w knd kvs F h d) (hk:knd.is k key=true) (q:Q (.bool (bJ kvs k).isSome) (sh s h (kk+1))):wpAny (MM w) A (compareOp .In key (.ref d)) Q E (sh s h kk):=by
  obtain⟨n,kw,D,e,pv⟩:=D
  exact wpAny_in_of hk n D.mapOf (by rw [(eI (k:=k) e pv).1];exact q)
theorem sT {E:Value→Shared→Prop} {s:Shared} {h:Heap} {kk:Nat} {Q:Value→Shared→Prop} (D:DB w knd kvs F h d) (hk:knd.is k key=true) (q:Q (.bool (!(bJ kvs k).isSome)) (sh s h (kk+1))):wpAny (MM w) A (compareOp .NotIn key (.ref d)) Q E (sh s h kk):=by
  obtain⟨n,kw,D,e,pv⟩:=D
  exact wpAny_notIn_of hk n D.mapOf (by rw [(eI (k:=k) e pv).1];exact q)
theorem wY {i:Nat} {k:List UInt8} {kvs:List (List UInt8×PV)} {v u:Value} (hi:G[i]?=some (d,.dB kvs)) (hv:(PV.bytes k).Is w.params F v) (hu:(PV.val (.ref d)).Is w.params F u) :
    T w A F (compareOp .In v u) G G (fun F v=>(PV.bool (bJ kvs k).isSome).Is w.params F v):=fun F1 H s h kk Q E l S q x=>by
  obtain⟨t,rfl⟩:=hv;cases hu
  exact wp_in (S.hasB hi) (bytesKind_is _ _ _ _) (q _ F1 h _ G (.refl _) S ⟨rfl,rfl⟩)
theorem t5 {i:Nat} {k:List UInt8} {kvs:List (List UInt8×PV)} {v u:Value} (hi:G[i]?=some (d,.dB kvs)) (hv:(PV.bytes k).Is w.params F v) (hu:(PV.val (.ref d)).Is w.params F u) :
    T w A F (compareOp .NotIn v u) G G (fun F v=>(PV.bool (!(bJ kvs k).isSome)).Is w.params F v):=fun F1 H s h kk Q E l S q x=>by
  obtain⟨t,rfl⟩:=hv;cases hu
  exact sT (S.hasB hi) (bytesKind_is _ _ _ _) (q _ F1 h _ G (.refl _) S ⟨rfl,rfl⟩)
theorem t6 {i:Nat} {k:Int} {kvs:List (Int×PV)} {v u:Value} (hi:G[i]?=some (d,.dI kvs)) (hv:(PV.int k).Is w.params F v) (hu:(PV.val (.ref d)).Is w.params F u) :
    T w A F (compareOp .NotIn v u) G G (fun F v=>(PV.bool (!(bJ kvs k).isSome)).Is w.params F v):=fun F1 H s h kk Q E l S q x=>by
  obtain⟨t,rfl⟩:=hv;cases hu
  exact sT (S.hasI hi) (intKind_is _ _ _ _) (q _ F1 h _ G (.refl _) S ⟨rfl,rfl⟩)
theorem lM {i:Nat} {kb:List UInt8} {kvs:List (List UInt8×PV)} (ho:Ev w A env G value (.val (.ref d)) G1) (hk:Ev w A env G1 slice (.bytes kb) G2) (hi:G2[i]?=some (d,.dB kvs)) (hf:bJ kvs kb=some p)
    (hs:∀ o i,subscripted slice false o i=operate [o,i] (getItem o i)):Ev w A env G (.Subscript value slice pos) p G2 :=
  cS (Ty:="dict") ho hk (fun v F1 h H pv S s hs=>by
    cases pv
    obtain⟨n,kw,D,e,pvs⟩:=S.hasB hi
    rw [← hs] at D;exact D.mapOf.typeIs) slot_dict_getitem.lookup (fun v u F' pv pu F1 H s h kk Q E l S q x=>by
    cases pv;obtain⟨t,rfl⟩:=pu
    obtain⟨n,kw,D,e,pvs⟩:=S.hasB hi
    obtain⟨v,hv,hp⟩:=(eI (k:=kb) e pvs).2 p hf
    exact wpAny_getItem_of (bytesKind_is _ _ _ _) D.mapOf hv (q v F1 h _ _ (.refl _) S ⟨rfl,hp⟩)) hs
theorem yO {P:Params} {v:Value}:∀ {ps:List PV} {vs:List Value},aS P F ps vs→p.Is P F v→aS P F (ps++[p]) (vs++[v]):=fun h i=>h.append (.one i)
theorem stored_new {kw:List (K×Value)} {v:Value} (h:(valueAt kw k).isSome=false):stored kw k v=kw++[(k,v)]:=by
  unfold stored
  rw [if_neg]
  intro z
  obtain⟨kv,m,e⟩:=List.any_eq_true.mp z
  unfold valueAt at h
  rw [Option.isSome_map] at h
  have:(List.find? (fun kv:K×Value=>decide (kv.1=k)) kw).isSome=true:=List.find?_isSome.mpr ⟨kv,m,e⟩
  rw [h] at this;cases this
theorem w1 {i:Nat} {kb:List UInt8} {kvs:List (List UInt8×PV)} {v u:Value} (hi:G[i]?=some (d,.dB kvs)) (hn:bJ kvs kb=none) (hz:kvs.length≤1000000) (hu:(PV.bytes kb).Is w.params F u) (hv:p.Is w.params F v) :
    T w A F (setItem (.ref d) u v) G (G.set i (d,.dB (kvs++[(kb,p)]))) (fun F xx=>True):=T.use hi fun F1 H s h k Q E l S q x=>by
  obtain⟨kw,D,e,pvs⟩:=(S.led _ (.head _)).1
  obtain⟨t,rfl⟩:=hu
  have hl:kw.length=kvs.length:=by have:=congrArg List.length e;simpa using this
  refine wpAny_setItem_pairs (bytesKind_is _ _ _ _) D (fun h' D' sb=>q _ F1 h' _ [(d,.dB (kvs++[(kb,p)]))] (.refl _) (S.upd sb ⟨_,D',?_,?_⟩ rfl) ⟨rfl,trivial⟩) (by rw [hl,sizeLine_eq];omega)
  all_goals rw [stored_new (by rw [(eI (k:=kb) e pvs).1,hn];rfl)]
  · simp [e]
  · simp only [List.map_append,List.map_cons,List.map_nil];exact yO pvs (hv.mono l)
theorem M7 {i:Nat} {kb:Int} {kvs:List (Int×PV)} {v u:Value} (hi:G[i]?=some (d,.dI kvs)) (hn:bJ kvs kb=none) (hz:kvs.length≤1000000) (hu:(PV.int kb).Is w.params F u) (hv:p.Is w.params F v) :
    T w A F (setItem (.ref d) u v) G (G.set i (d,.dI (kvs++[(kb,p)]))) (fun F xx=>True):=T.use hi fun F1 H s h k Q E l S q x=>by
  obtain⟨kw,D,e,pvs⟩:=(S.led _ (.head _)).1
  obtain⟨t,rfl⟩:=hu
  have hl:kw.length=kvs.length:=by have:=congrArg List.length e;simpa using this
  refine wpAny_setItem_pairs (intKind_is _ _ _ _) D (fun h' D' sb=>q _ F1 h' _ [(d,.dI (kvs++[(kb,p)]))] (.refl _) (S.upd sb ⟨_,D',?_,?_⟩ rfl) ⟨rfl,trivial⟩) (by rw [hl,sizeLine_eq];omega)
  all_goals rw [stored_new (by rw [(eI (k:=kb) e pvs).1,hn];rfl)]
  · simp [e]
  · simp only [List.map_append,List.map_cons,List.map_nil];exact yO pvs (hv.mono l)
theorem M0 {i:Nat} {kvs:List (List UInt8×PV)} (hi:G[i]?=some (d,.dB kvs)) (hz:kvs.length≤1000000):T w A F (PySem.call (.builtin "len") [.ref d]) G G (fun F v=>(PV.int kvs.length).Is w.params F v):=fun F1 H s h k Q E l S q x=>by
  obtain⟨n,kw,D,e,pvs⟩:=S.hasB hi
  have hl:kw.length=kvs.length:=by have:=congrArg List.length e;simpa using this
  exact call_len_dict n D (by rw [hl];omega) (q _ F1 h _ _ (.refl _) S ⟨rfl,_,by rw [hl]⟩)
theorem mU {E:Value→Shared→Prop} {s:Shared} {Q:Value→Shared→Prop} (q:Q (.ref s.heap.objs.size) { s with heap:=s.heap.push { cls:=.type "dict",data:=.dict #[] } }):wpAny (MM w) A (eval (.Dict [] [] pos) env) Q E s:=by
  show wpAny _ A (standAt pos >>= fun xx=>dictDisplay []) Q E s
  refine wpAny_bind (wpAny_standAt ?_)
  rw [show dictDisplay []=newDict from rfl]
  exact wpAny_newObj_type q
theorem sL:TX w A F (eval (.Dict [] [] pos) env) G (fun G' F v=>∃ a,v=.ref a∧G'=(a,.dB [])::G) bG:=fun F1 H s h k Q E l S q x =>
  mU (q _ F1 _ k ((h.objs.size,.dB [])::G) (.refl _) (S.push rfl ⟨[],Heap.DictOf.new h,rfl,.nil⟩) ⟨_,rfl,rfl⟩)
theorem IV:TX w A F (eval (.Dict [] [] pos) env) G (fun G' F v=>∃ a,v=.ref a∧G'=(a,.dI [])::G) bG:=fun F1 H s h k Q E l S q x =>
  mU (q _ F1 _ k ((h.objs.size,.dI [])::G) (.refl _) (S.push rfl ⟨[],Heap.DictOf.new h,rfl,.nil⟩) ⟨_,rfl,rfl⟩)
end
noncomputable def EM:List Str→Str→List Str
  | [],n=>[n]
  | x::xs,n=>if x=n then x::xs else x::EM xs n
noncomputable def EG {α:Type}:List Str→List α→Str→α→List α
  | x::xs,q::qs,n,p=>if x=n then p::qs else q::EG xs qs n p
  | _,_,_,p=>[p]
noncomputable def dG {α:Type}:List Str→List α→Str→Option α
  | x::xs,q::qs,n=>if x=n then some q else dG xs qs n
  | _,_,_=>none
theorem D2 {name x:Str} {H hsh:Int} {t:Tok} {key u v:Value} {r:List DictEntry}:putL name hsh key v (⟨H,.str x t,u⟩::r)=if x=name then ⟨H,.str x t,v⟩::r else ⟨H,.str x t,u⟩::putL name hsh key v r:=by
  show(if (x == name)=true then _ else _)=_
  by_cases e:x=name
  · rw [if_pos e,if_pos (by simpa using e)]
  · rw [if_neg e,if_neg (by simpa using e)]
theorem tV {name x:Str} {H:Int} {t:Tok} {u:Value} {r:List DictEntry}:getL name (⟨H,.str x t,u⟩::r)=if x=name then some (some u) else getL name r:=by
  by_cases e:x=name
  · subst e;rw [if_pos rfl];unfold getL;rw [List.find?_cons_of_pos (by show(x == x)=true;simp)]
  · rw [if_neg e];unfold getL;rw [List.find?_cons_of_neg (by show ¬ ((x == name)=true);simpa using e)];rfl
section
variable {P:Params} {F:FM}
theorem N3 {x n:Str} {xs:List Str}:EM (x::xs) n=if x=n then x::xs else x::EM xs n:=rfl
theorem EK {α:Type} {x n:Str} {xs:List Str} {q p:α} {qs:List α}:EG (x::xs) (q::qs) n p=if x=n then p::qs else q::EG xs qs n p:=rfl
theorem uC {α:Type} {x n:Str} {xs:List Str} {q:α} {qs:List α}:dG (x::xs) (q::qs) n=if x=n then some q else dG xs qs n:=rfl
theorem Ent.put {name:Str} {t:Tok} {v:Value} {xs:List Str} {vs:List Value} {es:List DictEntry} (h:Ent P xs vs es):Ent P (EM xs name) (EG xs vs name v) (putL name (PyData.keyHash P name) (.str name t) v es):=by
  induction h with
  | nil=>exact .cons .nil
  | cons h ih =>
    rw [N3,EK,D2]
    split
    · exact .cons h
    · exact .cons ih
theorem Ent.length {xs:List Str} {vs:List Value} {es:List DictEntry} (h:Ent P xs vs es):es.length=xs.length:=by
  induction h with
  | nil=>rfl
  | cons _ ih=>simp [ih]
theorem y1 (n:Str) (xs:List Str):(EM xs n).length≤xs.length+1:=by
  induction xs with
  | nil=>exact Nat.le_refl _
  | cons x xs ih=>rw [N3];split <;> simp <;> exact ih
theorem Ent.get {name:Str} {xs:List Str} {vs:List Value} {es:List DictEntry} (h:Ent P xs vs es):getL name es=some (dG xs vs name):=by
  induction h with
  | nil=>rfl
  | cons h ih =>
    rw [tV,uC]
    split
    · rfl
    · exact ih
theorem NI {n:Str} {p:PV} {v:Value} (h:p.Is P F v) {xs:List Str} {ps:List PV} {vs:List Value} (hp:aS P F ps vs):aS P F (EG xs ps n p) (EG xs vs n v):=by
  induction xs generalizing ps vs with
  | nil=>exact .one h
  | cons x xs ih=>cases ps with
    | nil=>rw [hp.cT];exact .one h
    | cons q ps =>
      obtain⟨u,us,rfl,a,b⟩:=hp.aZ
      rw [EK,EK]
      split
      · exact .cons h b
      · exact .cons a (ih b)
theorem IH {n:Str} {p:PV} {xs:List Str} {ps:List PV} {vs:List Value} (hp:aS P F ps vs) (e:dG xs ps n=some p):∃ v,dG xs vs n=some v∧p.Is P F v:=by
  induction xs generalizing ps vs with
  | nil=>cases e
  | cons x xs ih=>cases ps with
    | nil=>cases e
    | cons q ps =>
      obtain⟨u,us,rfl,a,b⟩:=hp.aZ
      rw [uC] at e ⊢
      by_cases z:x=n
      · rw [if_pos z] at e ⊢;cases e;exact⟨u,rfl,a⟩
      · rw [if_neg z] at e ⊢;exact ih b e
theorem yN {n:Str} {xs:List Str} {ps:List PV} {vs:List Value} (hp:aS P F ps vs) (e:dG xs ps n=none):dG xs vs n=none:=by
  induction xs generalizing ps vs with
  | nil=>rfl
  | cons x xs ih=>cases ps with
    | nil=>rw [hp.cT];rfl
    | cons q ps =>
      obtain⟨u,us,rfl,a,b⟩:=hp.aZ
      rw [uC] at e ⊢
      by_cases z:x=n
      · rw [if_pos z] at e;cases e
      · rw [if_neg z] at e ⊢;exact ih b e
noncomputable def PV.plain:PV→Bool
  | .val (.builtin _)=>false
  | _=>true
theorem PV.Is.handed {p:PV} {v:Value} (h:p.Is P F v) (e:p.plain=true):handedIn v=true:=by
  cases p with
  | none=>cases h;rfl
  | bool b=>cases h;rfl
  | int i=>obtain⟨_,rfl⟩:=h;rfl
  | bytes b=>obtain⟨_,rfl⟩:=h;rfl
  | str b=>obtain⟨_,rfl⟩:=h;rfl
  | val u=>obtain rfl:v=u:=h;cases v <;> first | rfl | cases e
  | pO a C dx=>cases h.1;rfl
  | tup ps=>obtain⟨_,_,_,rfl,_⟩:=h;rfl
  | lst ps=>obtain⟨_,_,_,rfl,_⟩:=h;rfl
  | inst C xs ps=>obtain⟨_,_,_,_,_,rfl,_⟩:=h;rfl
end
noncomputable def attrOk (K:Frag) (C:Addr) (name:Str):Bool:=plainGet K C name && hasDictIn K C && (findIn K (.ref C) name == some none)
noncomputable def nE (K:Frag) (C:Addr) (name:Str) (f:Addr):Bool:=plainGet K C name && (findIn K (.ref C) name == some (some (.ref f))) && (typeIn K (.ref f) == some (.type "function")) && keepIn K (.ref f)
noncomputable def storeOk (K:Frag) (C:Addr) (name:Str):Bool:=(findIn K (.ref C) "__setattr__" == some (some (.builtin "object.__setattr__"))) && plainOver K C && (takerIn K C name == some none) && hasDictIn K C
section
variable {w:World} {A:Around} {env:Env} {G G' G1 G2 G3:Led} {e value slice:Expr} {es:List Expr} {pos np sp apos:Pos} {F:FM} {p q:PV} {ps:List PV} {f a C dx:Addr} {x name:Str} {xs:List Str}
inductive OO (w:World) (F:FM) (h:Heap) (v:Value) (C:Addr) (xs:List Str) (ps:List PV):Prop
  | mk (a dx:Addr) (vs:List Value) (es:List DictEntry) (n:Nat) (q0:v=.ref a) (q1:h.get? a=some (instObj C dx)) (q2:h.get? dx=some (dictOf es n)) (q3:Ent w.params xs vs es) (q4:aS w.params F ps vs)
inductive InA (w:World) (F:FM) (h:Heap) (v:Value) (C:Addr) (xs:List Str) (ps:List PV):Prop
  | mk (a dx:Addr) (vs:List Value) (es:List DictEntry) (n:Nat) (q0:v=.ref a) (q1:InstAt h a (instObj C dx) C (some (dictOf es n))) (q2:Ent w.params xs vs es) (q3:aS w.params F ps vs)
noncomputable def sV (w:World) (G:Led) (p:PV) (C:Addr) (xs:List Str) (ps:List PV):Prop:=∀ v A F h H,p.Is w.params F v→Sb w A F h (G++H)→OO w F h v C xs ps
theorem sV.inst:sV w G (.inst C xs ps) C xs ps:=fun v A F h H pv S=>by
  obtain⟨a,dx,vs,es,n,rfl,fa,fd,t,q⟩:=pv
  exact⟨a,dx,vs,es,n,rfl,S.sub _ _ fa,S.sub _ _ fd,t,q⟩
theorem sV.pO {i:Nat} (hi:G[i]?=some (dx,.ns xs ps)):sV w G (.pO a C dx) C xs ps:=fun v A F h H pv S=>by
  obtain⟨rfl,fa⟩:=pv
  obtain⟨vs,es,n,e,t,q⟩:=(S.led _ (List.mem_append_left _ (List.mem_of_getElem? hi))).1
  exact⟨a,dx,vs,es,n,rfl,S.sub _ _ fa,e,t,q⟩
theorem OO.at {h:Heap} {v:Value} (x:OO w F h v C xs ps):InA w F h v C xs ps:=by
  obtain⟨a,dx,vs,es,n,rfl,ha,hd,t,q⟩:=x
  exact⟨a,dx,vs,es,n,rfl,⟨ha,rfl,rfl,hd⟩,t,q⟩
theorem BK (ho:Ev w A env G value p G1) (hA:sV w G1 p C xs ps) (ok:attrOk (KF w.params) C name=true) (hl:dG xs ps name=some q) (hq:q.plain=true)
    (he:eval (.Attribute value name pos) env=(do
      let o ← eval value env
      standAt pos.atName
      let r ← holding [o] (getAttr o name true)
      letTemporaryGo value o r
      pure r)):Ev w A env G (.Attribute value name pos) q G1:=fun F1 H s h k Q E l S q0 y=>by
  refine Attribute_any_ (ho F1 H s h k _ E l S (fun v F' h' k' G' l' S' n=>?_) fun e C c p F' h' k' G' l' S' n=>n.elim) he
  obtain⟨rfl,pv⟩:=n
  obtain⟨a,dx,vs,es,n,rfl,I,t,qv⟩:=(hA _ _ _ _ _ pv S').at
  unfold attrOk at ok
  simp only [Bool.and_eq_true,beq_iff_eq] at ok
  obtain⟨⟨o1,o2⟩,o3⟩:=ok
  obtain⟨u,hu,iu⟩:=IH qv hl
  exact get_value S'.kf I (plainGet_of o1).1 (findObj_own (attr:=none) o2 o3 rfl (by rw [lookIn_dict,t.get,hu])) (iu.handed hq) (q0 u F' h' _ _ l' S' ⟨rfl,iu⟩)
theorem t8 {N:Led→FM→Value→Prop} {X:Addr→Value→PV→Led→Prop} (ho:Ev w A env G value p G1) (hA:sV w G1 p C xs ps) (ok:nE (KF w.params) C name f=true) (hl:dG xs ps name=none)
    {as:List PV} (ha:aU w A env G1 pos es as G2) (hp:(backTo pos (starEach es env)).any (fun xx=>xx.1)=false) {pl:Sem Bool}
    (hc:∀ vs F',aS w.params F' (p::as) vs→TX w A F' (call (.ref f) vs) G2 N X)
    (he:eval (.Call (.Attribute value name apos) es [] pos) env=(do
      let ov ← eval value env
      standAt apos.atName
      let (f,first) ← holding [ov] (getMethod ov name pl)
      callWith pos f first (backTo pos (starEach es env)) (backToKw pos (keywordEach [] env)))):TX w A F0 (eval (.Call (.Attribute value name apos) es [] pos) env) G N X:=fun F1 H s h k Q E l S q0 y=>by
  refine methodCall_KW (pl:=pl) (ho F1 H s h k _ E l S (fun v F' h' k' G' l' S' n=>?_) fun e C c p F' h' k' G' l' S' n=>n.elim) he
  obtain⟨rfl,pv⟩:=n
  obtain⟨a,dx,vs,es',n,rfl,I,t,qv⟩:=(hA _ _ _ _ _ pv S').at
  unfold nE at ok
  simp only [Bool.and_eq_true,beq_iff_eq] at ok
  obtain⟨⟨⟨o1,o2⟩,o3⟩,o4⟩:=ok
  refine method_fn S'.kf I (plainGet_of o1).1 (plainGet_of o1).2 o2 o3 (by show(lookIn name (dictOf es' n)).map _=_;rw [lookIn_dict,t.get,yN qv hl];rfl) ?_
  exact TX.callWith (F:=F') (first:=[.ref a]) (aB o4) ha hp (fun vs F'' l'' pvs=>hc _ F'' (.cons (pv.mono l'') pvs)) F' H s h' k' Q E (.refl _) S' (fun a F'' h'' k'' G'' l''=>q0 a F'' h'' k'' G'' (l'.trans l'')) fun e C c p F'' h'' k'' G'' l''=>y e C c p F'' h'' k'' G'' (l'.trans l'')
theorem fG {N:Led→FM→Value→Prop} {X:Addr→Value→PV→Led→Prop} {Ty id:String} (ho:Ev w A env G value p G1) (pa:PlainAttrs Ty) (slot:Slot Ty name id) (hty:typeOf (.builtin id)=pure (.type "method_descriptor"))
    (hT:∀ v F1 h H,p.Is w.params F1 v→Sb w A F1 h (G1++H)→(∀ s:Shared,s.heap=h→s.TypeIs v Ty)∧∀ a,v=.ref a→∃ o,h.get? a=some o∧o.dict=none)
    {as:List PV} (ha:aU w A env G1 pos es as G2) (hp:(backTo pos (starEach es env)).any (fun xx=>xx.1)=false) {pl:Sem Bool}
    (hc:∀ v vs F',p.Is w.params F' v→aS w.params F' as vs→TX w A F' (call (.builtin id) (v::vs)) G2 N X)
    (he:eval (.Call (.Attribute value name apos) es [] pos) env=(do
      let ov ← eval value env
      standAt apos.atName
      let (f,first) ← holding [ov] (getMethod ov name pl)
      callWith pos f first (backTo pos (starEach es env)) (backToKw pos (keywordEach [] env)))):TX w A F0 (eval (.Call (.Attribute value name apos) es [] pos) env) G N X:=fun F1 H s h k Q E l S q0 y=>by
  refine methodCall_KW (pl:=pl) (ho F1 H s h k _ E l S (fun v F' h' k' G' l' S' n=>?_) fun e C c p F' h' k' G' l' S' n=>n.elim) he
  obtain⟨rfl,pv⟩:=n
  obtain⟨h1,h2⟩:=hT v F' h' H pv S'
  refine getMethod_builtin (h1 _ rfl) pa slot hty h2 ?_
  exact TX.callWith (F:=F') (first:=[v]) dM ha hp (fun vs F'' l'' pvs=>hc v vs F'' (pv.mono l'') pvs) F' H s h' k' Q E (.refl _) S' (fun a F'' h'' k'' G'' l''=>q0 a F'' h'' k'' G'' (l'.trans l'')) fun e C c p F'' h'' k'' G'' l''=>y e C c p F'' h'' k'' G'' (l'.trans l'')
set_option tactic.hygienic true in
theorem T.setAttr {v:Value} {i:Nat} (hi:G[i]?=some (dx,.ns xs ps)) (ok:storeOk (KF w.params) C name=true) (hz:xs.length≤100) (hm:F a=some (instObj C dx)) (hv:p.Is w.params F v) :
    T w A F (PySem.setAttr (.ref a) name v) G (G.set i (dx,.ns (EM xs name) (EG xs ps name p))) (fun _ _=>True):=T.use hi fun F1 H s h k Q E l S q x=>by
  obtain⟨vs,es,n,D,t,qv⟩:=(S.led _ (.head _)).1
  unfold storeOk at ok
  simp only [Bool.and_eq_true,beq_iff_eq] at ok
  obtain⟨⟨⟨o1,o2⟩,o3⟩,o4⟩:=ok
  have hx:=S.sub _ _ (l _ _ hm)
  have I:InstAt h a (instObj C dx) C (some (dictOf es n)):=⟨hx,rfl,rfl,D⟩
  obtain⟨cd,hc,hd'⟩:=any_some o4
  have e1:Obj.putName name (PyData.keyHash w.params name) (.str name (k+1)) v (dictOf es n)=dictOf (putL name (PyData.keyHash w.params name) (.str name (k+1)) v es) (putN name es n):=putName_dict ..
  have D':(h.update dx (Obj.putName name (PyData.keyHash w.params name) (.str name (k+1)) v)).get? dx=some (dictOf (putL name (PyData.keyHash w.params name) (.str name (k+1)) v es) (putN name es n)):=by
    rw [Heap.get?_update_self _ D (by rw [e1];rfl),e1]
  have t':=t.put (name:=name) (t:=k+1) (v:=v)
  have S':=S.upd (p':=.ns (EM xs name) (EG xs ps name p)) (Heap.SameBut.update h dx (Obj.putName name (PyData.keyHash w.params name) (.str name (k+1)) v)) ⟨_,_,_,D',t',NI (hv.mono l) qv⟩ rfl
  refine set_plain S.kf I o1 (osa_open (s:=sh s h (k+1)) S.kf I o2 o3 fun b=>?_)
  refine wpAny_bind (wpAny_pure (wpAny_bind (wpAny_bind (wpAny_loadPart hx (wpAny_bind ((looks_clsIn S.kf hc).here ?_))))))
  rw [hd']
  refine wpAny_pure (a:=some dx) (wpAny_bind (wpAny_pure (wpAny_bind ?_)))
  unfold nsSet
  refine wpAny_bind (wpAny_bind (wpAny_askSetting (wpAny_pure (wpAny_bind (wpAny_mkText (wpAny_bind (wpAny_loadPart D ?_)))))))
  have c:(!(es.toArray.any (·.key.isStr name)) && es.toArray.any (·.refKey))=false:=by
    have hl:(getL name es).isSome=true:=by rw [t.get];rfl
    unfold getL at hl
    rw [← Array.any_toList,← Array.any_toList]
    split at hl
    · rename_i en he
      rw [List.any_eq_true.mpr ⟨en,List.mem_of_find?_eq_some he,List.find?_some he⟩];rfl
    · split at hl
      · cases hl
      · rename_i z;rw [Bool.not_eq_true] at z;rw [z,Bool.and_false]
  dsimp only
  rw [aRefKeyMayBeTheName_at,c]
  refine wpAny_updatePart D ?_
  refine wpAny_bind (wpAny_lookBehind D' (pastItsLine_dict (by rw [List.size_toArray,t'.length,sizeLine_eq];have:=y1 name xs;omega)) ?_)
  exact wpAny_pure (q () F1 _ _ [(dx,.ns (EM xs name) (EG xs ps name p))] (.refl _) S' ⟨rfl,trivial⟩)
theorem xH {vs:List Value} {N:Addr→Addr→Led→Prop} {X:Addr→Value→PV→Led→Prop} {fI:Addr} (hm:makesIn (KF w.params) C=true) (hi:findIn (KF w.params) (.ref C) "__init__"=some (some (.ref fI)))
    (hf:typeIn (KF w.params) (.ref fI)=some (.type "function"))
    (h:∀ x dx F',Le F F'→F' x=some (instObj C dx)→TC w (A.under (.builtin "type.__call__" ⟨.ref C::vs,[]⟩)) F' fI (.ref x::vs) ((dx,.ns [] [])::G) (fun G' F'' v=>v=.none∧N x dx G') X) :
    TX w A F (call (.ref C) vs) G (fun G' F' v=>∃ x dx,v=.ref x∧F' x=some (instObj C dx)∧N x dx G') X:=fun F1 H s hh k Q E l S q0 y=>by
  refine wpAny_call (make_core (makes_of S.kf hm) (looks_findIn S.kf hi) (fun self=>bind_fn S.kf self hf) (.inl rfl) ?_)
  have S1:Sb w A F1 (hh.push emptyDict) ((hh.objs.size,.ns [] [])::(G++H)):=S.push (o:=emptyDict) rfl ⟨[],[],0,Heap.get?_push_size _ rfl,.nil,.nil⟩
  have S2:=S1.fix (o:=instObj C hh.objs.size) rfl
  have l2:Le F1 (F1.put (hh.push emptyDict).objs.size (instObj C hh.objs.size)):=Le.put S1.bE
  have f2:F1.put (hh.push emptyDict).objs.size (instObj C hh.objs.size) (hh.objs.size+1)=some (instObj C hh.objs.size):=by rw [Heap.size_push];exact FM.bO
  have S3:=S2.frames (A':=A.under (.builtin "type.__call__" ⟨.ref C::vs,[]⟩)) rfl
  refine h (hh.objs.size+1) hh.objs.size _ (l.trans l2) f2 _ H s _ k _ (.refl _) S3 (fun v F' h' k' G' l' S' n=>?_) fun e C' c p F' h' k' G' l' S' n=>?_
  · obtain⟨rfl,n⟩:=n
    exact⟨rfl,q0 _ F' h' k' G' (l2.trans l') (S'.frames rfl) ⟨_,_,rfl,l' _ _ f2,n⟩⟩
  · exact y e C' c p F' h' k' G' (l2.trans l') (S'.frames rfl) n
end
inductive eT:List Expr→List Str→Prop
  | nil:eT [] []
  | cons {n p es ns}:eT es ns→eT (.Name n p::es) (n::ns)
noncomputable def binds:List Str→List PV→List (Str×PV)→List (Str×PV)
  | n::ns,p::ps,ρ=>binds ns ps ((n,p)::ρ)
  | _,_,ρ=>ρ
noncomputable def cF (A:Around) (env:Env):Prop:=∀ envs,A.frames=some envs→∃ outer,envs=env::outer
theorem cF.deeper {A:Around} {env:Env}:cF (A.deeper env) env:=fun envs e=>by
  have e:A.frames.map (env::·)=some envs:=e
  cases q:A.frames with
  | none=>rw [q] at e;cases e
  | some l=>rw [q] at e;cases e;exact⟨l,rfl⟩
section
variable {w:World} {A:Around} {env:Env} {G G' G1 G2 G3 Γ:Led} {e value slice:Expr} {es elts:List Expr} {pos np sp apos tpos px:Pos} {F:FM} {p q:PV} {ps:List PV} {ρ:List (Str×PV)} {x:Str} {ns:List Str} {P:Out→Prop} {v:Value}
theorem cD (pv:p.Is w.params F v) (hk:env.scope.kind=.function) (hl:env.scope.names.lookup x=some .local) :
    TX w A F (assign (.Name x px) env v) ((env.locals,.frame ρ)::Γ) (fun G' xx xx=>G'=(env.locals,.frame ((x,p)::ρ))::Γ) bG:=fun F1 H s h k Q E l S q0 y =>
  wpAny_assign_Name (S.store (pv.mono l) (fun h' k' S'=>q0 () F1 h' k' _ (.refl _) S' rfl) hk hl)
theorem sM (hk:env.scope.kind=.function):∀ {ns:List Str} {elts:List Expr} {ps:List PV} {vs:List Value} {ρ:List (Str×PV)},eT elts ns→(∀ n∈ns,env.scope.names.lookup n=some .local)→aS w.params F ps vs→ps.length=ns.length →
    TX w A F (assignInOrder ((assignEach elts env).map (fun xx=>xx.2)) vs) ((env.locals,.frame ρ)::Γ) (fun G' xx xx=>G'=(env.locals,.frame (binds ns ps ρ))::Γ) bG
  | _,_,[],_,ρ,.nil,_,pv,_=>fun F1 H s h k Q E l S q0 y=>by
    rw [pv.cT]
    exact assignInOrder_nil (q0 () F1 h k _ (.refl _) S rfl)
  | _,_,_::_,_,ρ,.nil,_,pv,e=>by cases e
  | _,_,[],_,ρ,.cons _,_,pv,e=>by cases e
  | n::ns,.Name _ px::elts,p::ps,_,ρ,.cons h,hl,pv,e=>fun F1 H s hh k Q E l S q0 y=>by
    obtain⟨v,us,rfl,a,b⟩:=pv.aZ
    show wpAny (MM w) A (assignInOrder (assign (.Name n px) env::(assignEach elts env).map (fun xx=>xx.2)) (v::us)) Q E _
    refine assignInOrder_cons (cD a hk (hl n (.head _)) F1 H s hh k _ E l S (fun xx F' h' k' G' l' S' n=>?_) y)
    subst n
    exact sM hk h (fun n hn=>hl n (.tail _ hn)) b (by simpa using e) F' H s h' k' Q E (l.trans l') S' (fun a F'' h'' k'' G'' l''=>q0 a F'' h'' k'' G'' (l'.trans l'')) fun e C c p F'' h'' k'' G'' l''=>y e C c p F'' h'' k'' G'' (l'.trans l'')
theorem eB:∀ {elts:List Expr} {ns:List Str},eT elts ns→(assignEach elts env).length=ns.length∧(assignEach elts env).findIdx? (fun xx=>xx.1)=none
  | _,_,.nil=>⟨rfl,rfl⟩
  | _,_,.cons (n:=n) (p:=p) (es:=es) h=>by
    obtain⟨a,b⟩:=eB h
    have e:assignEach (.Name n p::es) env=(false,assign (.Name n p) env)::assignEach es env:=rfl
    rw [e]
    exact⟨by simp [a],by simp [List.findIdx?_cons,b]⟩
theorem dS {k:Nat} (hh:A.handled=none) (hn:eT elts ns) (hk:env.scope.kind=.function) (hl:∀ n∈ns,env.scope.names.lookup n=some .local) (pv:(PV.tup ps).Is w.params F v) (el:ps.length=ns.length) :
    TX w A F (assign (.Tuple elts k tpos) env v) ((env.locals,.frame ρ)::Γ) (fun G' xx xx=>G'=(env.locals,.frame (binds ns ps ρ))::Γ) bG:=fun F1 H s h kk Q E l S q0 y=>by
  obtain⟨a,vs,n,rfl,fa,pvs⟩:=PV.Is.mono l pv
  obtain⟨h1,h2⟩:=eB (env:=env) hn
  refine assign_Tuple_tuple hh ⟨_,S.sub _ _ fa,rfl,n,rfl⟩ (by rw [h1,List.size_toArray,pvs.length,el]) h2 fun h' hb=>?_
  have S':=S.ext (h':=h') fun b o e=>hb b o (Nat.ne_of_lt (Heap.lt_size e)) e
  exact sM hk hn hl pvs el F1 H s h' kk Q E (.refl _) S' q0 y
theorem DA:∀ {ns:List Str} {ps:List PV},ps.length=ns.length→(ns.reverse.zip ps.reverse).reverse=ns.zip ps
  | [],[],_=>rfl
  | [],_::_,e=>by cases e
  | _::_,[],e=>by cases e
  | n::ns,p::ps,e=>by
    have e':ps.length=ns.length:=by simpa using e
    rw [List.reverse_cons,List.reverse_cons,List.zip_append (by simp [e']),List.reverse_append,DA e']
    simp
theorem uI (ns:List Str):∀ (ps:List PV) (ρ:List (Str×PV)),binds ns ps ρ=(ns.zip ps).reverse++ρ:=by
  induction ns with
  | nil=>intro ps ρ;simp [binds]
  | cons n ns ih=>intro ps ρ;cases ps with
    | nil=>simp [binds]
    | cons p ps=>simp [binds,ih]
theorem XT.jE {k:Nat} (he:TX w A F0 (eval value env) G (fun G' F v=>∃ ps ρ Γ,(PV.tup ps).Is w.params F v∧ps.length=ns.length∧G'=(env.locals,.frame ρ)::Γ∧P (.next ((env.locals,.frame (binds ns ps ρ))::Γ))) (fun C c p G'=>P (.exc C c p G')))
    (hh:A.handled=none) (hn:eT elts ns) (hk:env.scope.kind=.function) (hl:∀ n∈ns,env.scope.names.lookup n=some .local)
    (hs:swapsWithSole [.Tuple elts k tpos] value pos.line env=pure false) (hw:swappedStores [.Tuple elts k tpos] value env=pure none):XT w A env (.Assign [.Tuple elts k tpos] value pos) G P:=fun F1 H s h kk Q E l S q0 y =>
  Assign_Tuple (he F1 H s h kk _ E l S (fun v F' h' k' G' l' S' n=>by
    obtain⟨ps,ρ,Γ,pv,el,rfl,n⟩:=n
    exact dS hh hn hk hl pv el F' H s h' k' _ E (.refl _) S' (fun xx F'' h'' k'' G'' l'' S'' e=>by subst e;exact q0 .next F'' h'' k'' _ (l'.trans l'') S'' n) fun xx xx xx xx xx xx xx xx xx xx n=>n.elim) y) hs hw
theorem DQ {ρ ρ':List (Str×PV)} (nd:(ρ.map (fun xx=>xx.1)).Nodup) (pm:ρ.Perm ρ') {σ:List (Str×PV)} {x:Str} {p:PV} (h:Look (ρ'++σ) x p):Look (ρ++σ) x p:=by
  have mem:∀ {ρ:List (Str×PV)} {x p},(ρ.map (fun xx=>xx.1)).Nodup→Look (ρ++σ) x p→((x,p)∈ρ∨(x∉ρ.map (fun xx=>xx.1)∧Look σ x p)):=fun {ρ}=>by
    induction ρ with
    | nil=>intro x p _ h;exact .inr ⟨by simp,h⟩
    | cons a r ih =>
      intro x p nd h
      obtain⟨b,c⟩:=a
      rw [List.cons_append] at h
      cases h with
      | head=>exact .inl (.head _)
      | tail ne h =>
        rcases ih (List.nodup_cons.mp nd).2 h with h | ⟨h1,h2⟩
        · exact .inl (.tail _ h)
        · exact .inr ⟨by rw [List.map_cons,List.mem_cons];rintro (z | z);exact ne z;exact h1 z,h2⟩
  have back:∀ {ρ:List (Str×PV)} {x p},(ρ.map (fun xx=>xx.1)).Nodup→((x,p)∈ρ∨(x∉ρ.map (fun xx=>xx.1)∧Look σ x p))→Look (ρ++σ) x p:=fun {ρ}=>by
    induction ρ with
    | nil=>intro x p _ h;rcases h with h | h;cases h;exact h.2
    | cons a r ih =>
      intro x p nd h
      obtain⟨b,c⟩:=a
      obtain⟨nd1,nd2⟩:=List.nodup_cons.mp nd
      rw [List.cons_append]
      rcases h with h | ⟨h1,h2⟩
      · cases h with
        | head=>exact .head
        | tail _ h=>exact .tail (fun z=>nd1 (List.mem_map.mpr ⟨_,h,z⟩)) (ih nd2 (.inl h))
      · rw [List.map_cons,List.mem_cons,not_or] at h1
        exact .tail h1.1 (ih nd2 (.inr ⟨h1.2,h2⟩))
  refine back nd ?_
  rcases mem ((pm.map _).nodup_iff.mp nd) h with h | ⟨h1,h2⟩
  · exact .inl (pm.mem_iff.mpr h)
  · exact .inr ⟨fun z=>h1 ((pm.map _).mem_iff.mp z),h2⟩
theorem yT (hk:env.scope.kind=.function) {ns:List Str} {ps:List PV} {vs:List Value} {ρ:List (Str×PV)} (hl:∀ n∈ns,env.scope.names.lookup n=some .local) (pv:aS w.params F ps vs) (e:ps.length=ns.length) :
    TX w A F (assignInOrder (ns.map fun n=>bindName env n) vs) ((env.locals,.frame ρ)::Γ) (fun G' xx xx=>G'=(env.locals,.frame (binds ns ps ρ))::Γ) bG:=by
  induction ns generalizing ps vs ρ with
  | nil=>cases ps with
    | nil=>rw [pv.cT];exact fun F1 H s h k Q E l S q0 y=>assignInOrder_nil (q0 () F1 h k _ (.refl _) S rfl)
    | cons _ _=>cases e
  | cons n ns ih=>cases ps with
    | nil=>cases e
    | cons p ps =>
      obtain⟨v,us,rfl,a,b⟩:=pv.aZ
      refine fun F1 H s hh k Q E l S q0 y=>?_
      show wpAny (MM w) A (assignInOrder (bindName env n::ns.map fun n=>bindName env n) (v::us)) Q E _
      refine assignInOrder_cons (wpAny_bindName (S.store (a.mono l) (fun h' k' S'=>?_) hk (hl n (.head _))))
      exact ih (fun n hn=>hl n (.tail _ hn)) b (by simpa using e) F1 H s h' k' Q E l S' q0 y
theorem XT.CA {k:Nat} (he:TX w A F0 (eval value env) G (fun G' F v=>∃ ps ρ Γ,(PV.tup ps).Is w.params F v∧ps.length=ns.length∧G'=(env.locals,.frame ρ)::Γ∧P (.next ((env.locals,.frame (binds ns ps ρ))::Γ))) (fun C c p G'=>P (.exc C c p G')))
    (hh:A.handled=none) (hk:env.scope.kind=.function) (hl:∀ n∈ns,env.scope.names.lookup n=some .local) (nd:ns.Nodup)
    (hs:swapsWithSole [.Tuple elts k tpos] value pos.line env=pure false) (hw:swappedStores [.Tuple elts k tpos] value env=pure (some ns)):XT w A env (.Assign [.Tuple elts k tpos] value pos) G P:=fun F1 H s h kk Q E l S q0 y =>
  Assign_Tuple_swapped (names:=ns) (he F1 H s h kk _ E l S (fun v F' h' k' G' l' S' n=>by
    obtain⟨ps,ρ,Γ,pv,el,rfl,n⟩:=n
    obtain⟨a,vs,m,rfl,fa,pvs⟩:=pv
    have hl':vs.toArray.size=ns.length:=by rw [List.size_toArray,pvs.length,el]
    rw [← hl']
    refine unpackItems_tuple hh ⟨_,S'.sub _ _ fa,rfl,m,rfl⟩ fun h2 hb=>?_
    have S2:=S'.ext (h':=h2) fun b o e=>hb b o (Nat.ne_of_lt (Heap.lt_size e)) e
    refine yT hk (ns:=ns.reverse) (fun n hn=>hl n (List.mem_reverse.mp hn)) (by simpa using pvs.reverse) (by simp [el]) F' H s h2 k' _ E (.refl _) S2 (fun xx F'' h'' k'' G'' l'' S'' e=>?_) fun xx xx xx xx xx xx xx xx xx xx n=>n.elim
    subst e
    refine q0 .next F'' h'' k'' _ (l'.trans l'') (Drop.frame (fun x p lk=>?_) w A F'' h'' H S'') n
    rw [uI] at lk ⊢
    rw [DA el]
    exact DQ (jF ps nd) (List.reverse_perm _).symm lk) y) hs hw
end
theorem eK {o:Obj} {n:String} (hc:o.cls=.type n) (h:(n == "traceback")=false):gD o:=fun z=>by
  rw [hc] at z;cases z;simp at h
theorem Sb.ext' {w:World} {A:Around} {F:FM} {h h':Heap} {G:Led} {d:Addr} (S:Sb w A F h G) (x:Heap.ExtBut d h h') (nd:d∉G.map (fun xx=>xx.1)) (fd:F d=none) (nt:∀ o,h.get? d=some o→gD o):Sb w A F h' G :=
  ⟨S.base,fun a o e=>x a o (fun z=>by subst z;rw [fd] at e;cases e) (S.sub a o e),fun q hq=>⟨(S.led q hq).1.extBut (fun z=>nd (List.mem_map.mpr ⟨q,hq,z⟩)) x nt,(S.led q hq).2⟩,S.nd,S.fr⟩
section
variable {w:World} {A:Around} {env:Env} {G G' G1 G2 G3 Γ:Led} {e value slice o i:Expr} {es elts:List Expr} {pos np sp apos tpos px:Pos} {F:FM} {p q:PV} {ps:List PV} {ρ:List (Str×PV)} {x attr:Str} {ns:List Str} {P:Out→Prop} {v:Value} {xs:List Str} {a C dx:Addr}
theorem XT.IP {qo qi:PV} (hv:Ev w A env G value p G1) (ho:Ev w A env G1 o qo G2) (hi:Ev w A env G2 i qi G3) (hs:swapsWith value (some (.Subscript o i tpos)) pos.line env=pure false)
    (hst:∀ v u t F,p.Is w.params F v→qo.Is w.params F u→qi.Is w.params F t→T w A F (setItem u t v) G3 G' (fun xx xx=>True)) (n:P (.next G')):XT w A env (.Assign [.Subscript o i tpos] value pos) G P:=fun F1 H s h k Q E l S q0 y =>
  wpAny_Assign_Subscript (hv F1 H s h k _ E l S (fun v F' h' k' G'' l' S' e=>by
    obtain⟨rfl,pv⟩:=e
    refine ho F' H s h' k' _ E (Le.zero _) S' (fun u F2 h2 k2 G'' l2 S2 e=>?_) fun xx xx xx xx xx xx xx xx xx xx n=>n.elim
    obtain⟨rfl,pu⟩:=e
    refine hi F2 H s h2 k2 _ E (Le.zero _) S2 (fun t F3 h3 k3 G'' l3 S3 e=>?_) fun xx xx xx xx xx xx xx xx xx xx n=>n.elim
    obtain⟨rfl,pt⟩:=e
    refine hst v u t F3 (pv.mono (l2.trans l3)) (pu.mono l3) pt F3 H s h3 k3 _ E (.refl _) S3 (fun xx F4 h4 k4 G'' l4 S4 e=>?_) fun xx xx xx xx xx xx xx xx xx xx n=>n.elim
    obtain⟨rfl,-⟩:=e
    exact q0 .next F4 h4 k4 _ (((l'.trans l2).trans l3).trans l4) S4 n) fun xx xx xx xx xx xx xx xx xx xx n=>n.elim) hs
theorem XT.setAttr {j:Nat} (hv:Ev w A env G value p G1) (ho:Ev w A env G1 o (.pO a C dx) G2) (hi:G2[j]?=some (dx,.ns xs ps)) (ok:storeOk (KF w.params) C attr=true) (hz:xs.length≤100)
    (hs:swapsWith value (some (.Attribute o attr tpos)) pos.line env=pure false) (n:P (.next (G2.set j (dx,.ns (EM xs attr) (EG xs ps attr p))))):XT w A env (.Assign [.Attribute o attr tpos] value pos) G P:=fun F1 H s h k Q E l S q0 y =>
  plainObj_wpAny_Assign_Attribute (hv F1 H s h k _ E l S (fun v F' h' k' G'' l' S' e=>by
    obtain⟨rfl,pv⟩:=e
    refine ho F' H s h' k' _ E (Le.zero _) S' (fun u F2 h2 k2 G'' l2 S2 e=>?_) fun xx xx xx xx xx xx xx xx xx xx n=>n.elim
    obtain⟨rfl,rfl,fu⟩:=e
    refine T.setAttr hi ok hz fu (pv.mono l2) F2 H s h2 k2 _ E (.refl _) S2 (fun xx F4 h4 k4 G'' l4 S4 e=>?_) fun xx xx xx xx xx xx xx xx xx xx n=>n.elim
    obtain⟨rfl,-⟩:=e
    exact q0 .next F4 h4 k4 _ ((l'.trans l2).trans l4) S4 n) fun xx xx xx xx xx xx xx xx xx xx n=>n.elim) hs
theorem XT.tU (he:TX w A F0 (eval e env) G (fun G' F v=>(∀ a,v≠.ref a)∧P (.next G')) (fun C c p G'=>P (.exc C c p G'))) (hi:interactive env=false) (hs:swapsWith e none pos.line env=pure false):XT w A env (.Expr e pos) G P:=fun F1 H s h k Q E l S q0 y =>
  wpAny_Expr (he F1 H s h k _ E l S (fun v F' h' k' G' l' S' n=>by
    have z:=q0 .next F' h' k' G' l' S' n.2
    cases v <;> first | exact z | exact(n.1 _ rfl).elim) y) hi hs
noncomputable def tO (I:Led→Prop) (P:Out→Prop):Out→Prop
  | .next G=>I G
  | o=>P o
theorem dN {h:Heap} {s:Shared} {k:Nat} {E:Value→Shared→Prop} {c:Addr} {cv:Value} {pv:PV} {eA:Addr} (hA:cF A env) (hf:env.frame=some a) (S:Sb w A F h ((eA,.exc c cv pv)::G))
    (q:∀ h',Sb w A F h' ((eA,.exc c cv pv)::G)→E (.ref eA) (sh s h' k)):notedBy (MM w) A env (fun e s'=>cameBackBy (MM w) A env E e s') (.ref eA) (sh s h k):=by
  obtain⟨envs,e,_⟩:=id S.fr
  obtain⟨outer,rfl⟩:=hA envs e
  exact gG S e hf fun h' S' t=>x7 S' t fun h'' S'' xx=>q h'' S''
inductive WhI (w:World) (A:Around) (s:Shared) (H:Led) (F1:FM) (Inv:Nat→Led→Prop) (n:Nat) (s':Shared):Prop
  | mk (F':FM) (h':Heap) (k':Nat) (G':Led) (q0:s'=sh s h' k') (q1:Le F1 F') (q2:Sb w A F' h' (G'++H)) (q3:Inv n G')
theorem XT.RR {test:Expr} {body:List Stmt} (Inv:Nat→Led→Prop) (n:Nat) (h0:Inv n G) (hA:cF A env) (hf:env.frame=some a)
    (turn:∀ n G,Inv n G→TX w A F0 (isTrue test env (eval test env)) G (fun G' F b=>if b then XS w A env body G' (tO (fun G''=>∃ m,m<n∧Inv m G'') P) else P (.next G')) (fun C c p G'=>P (.exc C c p G'))) :
    XT w A env (.While test body [] pos) G P:=fun F1 H s h k Q E l S q0 y=>by
  refine wpAny_While (codeAny_whileLoop (WhI w A s H F1 Inv) (fun n s' I=>?_) n ⟨F1,h,k,G,rfl,.refl _,S,h0⟩)
  obtain⟨F',h',k',G',rfl,l',S',I⟩:=I
  refine turn n G' I F' H s h' k' _ _ (Le.zero _) S' (fun b F2 h2 k2 G2 l2 S2 hb=>?_) fun e C c p F2 h2 k2 G2 l2 S2 n=>dN hA hf S2 fun h3 S3=>y e C c p F2 h3 k2 G2 (l'.trans l2) S3 n
  cases b with
  | false =>
    simp only [Bool.false_eq_true,if_false] at hb ⊢
    exact wpAny_execs_nil (q0 .next F2 h2 k2 G2 (l'.trans l2) S2 hb)
  | true =>
    simp only [if_true] at hb ⊢
    refine hb F2 H s h2 k2 _ _ (Le.zero _) S2 (fun f F3 h3 k3 G3 l3 S3 n3=>?_) fun e C c p F3 h3 k3 G3 l3 S3 n=>dN hA hf S3 fun h4 S4=>y e C c p F3 h4 k3 G3 ((l'.trans l2).trans l3) S4 n
    cases f with
    | next=>obtain⟨m,hm,I⟩:=n3;exact⟨m,hm,F3,h3,k3,G3,rfl,(l'.trans l2).trans l3,S3,I⟩
    | ret v=>obtain⟨p,pv,pp⟩:=n3;exact q0 (.ret v) F3 h3 k3 G3 ((l'.trans l2).trans l3) S3 ⟨p,pv,pp⟩
    | _=>exact n3.elim
theorem yI {h:Heap} {s:Shared} {k:Nat} {Q:Unit→Shared→Prop} {E:Value→Shared→Prop} {target:Expr} {it:Addr} {v:Value} {o:Obj} {n:String} (ho:h.get? it=some o) (hc:o.cls=.type n)
    (hn:["enumerate","zip","dict_itemiterator","dict_reverseitemiterator","odict_iterator","itertools.zip_longest","itertools.pairwise"].contains n=false) (q:Q () (sh s h k)):wpAny (MM w) A (letOwnedTupleGo target (.ref it) v) Q E (sh s h k):=by
  unfold letOwnedTupleGo
  split
  · cases v with
    | ref a =>
      refine wpAny_bind (wpAny_load ho ?_)
      rw [hc]
      cases o.data <;> first | exact wpAny_pure q | (dsimp only;rw [hn];exact wpAny_pure q)
    | _=>exact wpAny_pure q
  · cases v with
    | ref a =>
      refine wpAny_bind (wpAny_load ho ?_)
      rw [hc]
      cases o.data <;> first | exact wpAny_pure q | (dsimp only;rw [hn];exact wpAny_pure q)
    | _=>exact wpAny_pure q
  · exact wpAny_pure q
end
noncomputable def zD (n:String):Bool:=!(["enumerate","zip","dict_itemiterator","dict_reverseitemiterator","odict_iterator","itertools.zip_longest","itertools.pairwise"].contains n) && !(n == "traceback")
structure It (w:World) (A:Around) (F:FM) (I:Addr) (ps:List PV) (St:Nat→Obj→Prop):Prop where
  plain:∀ j o,St j o→∃ n,o.cls=.type n∧zD n=true
  next:∀ (F1:FM) (h:Heap) (G:Led) (s:Shared) (k:Nat) (Q:Option Value→Shared→Prop) (E:Value→Shared→Prop) (j:Nat) (o:Obj) (p:PV),Le F F1→ps[j]?=some p→St j o→Sb w A F1 h ((I,.raw o)::G) →
    (∀ v o' h' k',p.Is w.params F1 v→St (j+1) o'→Sb w A F1 h' ((I,.raw o')::G)→Q (some v) (sh s h' k'))→wpAny (MM w) A (pyNext (.ref I)) Q E (sh s h k)
  stop:∀ (F1:FM) (h:Heap) (G:Led) (s:Shared) (k:Nat) (Q:Option Value→Shared→Prop) (E:Value→Shared→Prop) (o:Obj),Le F F1→St ps.length o→Sb w A F1 h ((I,.raw o)::G) →
    (∀ h',Sb w A F1 h' G→Q none (sh s h' k))→wpAny (MM w) A (pyNext (.ref I)) Q E (sh s h k)
  self:∀ (F1:FM) (h:Heap) (G:Led) (s:Shared) (k:Nat) (Q:Value→Shared→Prop) (E:Value→Shared→Prop) (o:Obj),Le F F1→St 0 o→Sb w A F1 h ((I,.raw o)::G)→Q (.ref I) (sh s h k)→wpAny (MM w) A (pyIter (.ref I)) Q E (sh s h k)
noncomputable def gC (w:World) (A:Around) (F:FM) (v:Value) (ps:List PV):Prop:=∀ G,TX w A F (pyIter v) G (fun G' F' it=>∃ I o St,it=.ref I∧G'=(I,.raw o)::G∧St 0 o∧It w A F' I ps St) bG
section
variable {w:World} {A:Around} {F:FM} {G:Led} {ps:List PV} {v:Value}
theorem Sb.E7 {h h':Heap} {I:Addr} {o:Obj} (S:Sb w A F h ((I,.raw o)::G)) (x:Heap.ExtBut I h h'):Sb w A F h' G :=
  have L:=S.led _ (.head _)
  (S.drop rfl).ext' x (fun z=>by have:=S.nd;rw [List.map_cons,List.nodup_cons] at this;exact this.1 z) L.2 (fun o' ho=>by rw [L.1.1] at ho;cases ho;exact L.1.2)
theorem cV (hh:A.handled=none) (hv:(PV.lst ps).Is w.params F v):gC w A F v ps:=fun G F1 H s h k Q E l S q0 y=>by
  obtain⟨la,vs,nn,rfl,fl,pvs⟩:=PV.Is.mono l hv
  refine wpAny_pyIter_list ⟨_,S.sub _ _ fl,rfl,nn,rfl⟩ ?_
  have Sp:=S.push (o:={ cls:=.type "list_iterator",data:=.fields #[.ref la,.int 0 0] }) (p:=.raw { cls:=.type "list_iterator",data:=.fields #[.ref la,.int 0 0] }) rfl ⟨Heap.get?_push_size _ rfl,eK rfl (by decide)⟩
  generalize hit:h.objs.size=it at Sp ⊢
  have hle:la≠it:=fun z=>by
    subst z;have:=S.sub _ _ fl;rw [← hit] at this;exact absurd (Heap.lt_size this) (Nat.lt_irrefl _)
  refine q0 _ F1 _ k _ (.refl _) Sp ⟨it,_,fun j o=>o.cls=.type "list_iterator"∧o.data=.fields #[.ref la,.int (j:Nat) 0],rfl,rfl,⟨rfl,rfl⟩,⟨fun j o h=>⟨_,h.1,by decide⟩,?_,?_,?_⟩⟩
  · intro F2 h2 G2 s2 k2 Q2 E2 j o p l2 hp hst S2 q2
    obtain⟨hoi,-⟩:=(S2.led _ (.head _)).1
    obtain⟨v,hv,pv⟩:=pvs.get hp
    refine wpAny_pyNext_list_item (l:=la) (items:=vs.toArray) ⟨o,hoi,hst.1,hst.2⟩ ⟨_,S2.sub _ _ (l2 _ _ fl),rfl,nn,rfl⟩ (by simpa using hv) fun h3 it3 sb=>?_
    obtain⟨o3,ho3,hc3,hd3⟩:=it3
    exact q2 v o3 h3 k2 (pv.mono l2) ⟨hc3,hd3⟩ (S2.upd (p':=.raw o3) sb ⟨ho3,eK hc3 (by decide)⟩ rfl)
  · intro F2 h2 G2 s2 k2 Q2 E2 o l2 hst S2 q2
    obtain⟨hoi,-⟩:=(S2.led _ (.head _)).1
    exact wpAny_pyNext_list_end hh (l:=la) (items:=vs.toArray) ⟨o,hoi,hst.1,hst.2⟩ ⟨_,S2.sub _ _ (l2 _ _ fl),rfl,nn,rfl⟩ (by simp [pvs.length]) fun h3 x3=>q2 h3 (S2.E7 x3)
  · intro F2 h2 G2 s2 k2 Q2 E2 o l2 hst S2 q2
    obtain⟨hoi,-⟩:=(S2.led _ (.head _)).1
    exact wpAny_pyIter_listiter (l:=la) (i:=0) ⟨o,hoi,hst.1,hst.2⟩ q2
noncomputable def AZ (x:List UInt8):List PV:=x.map fun c=>.int c.toNat
theorem x9 {x:List UInt8} (hh:A.handled=none) (hv:(PV.bytes x).Is w.params F v):gC w A F v (AZ x):=fun G F1 H s h k Q E l S q0 y=>by
  obtain⟨t,rfl⟩:=hv
  refine KBw.pyIter_bytes ?_
  have Sp:=S.push (o:={ cls:=.type "bytes_iterator",data:=.fields #[.bytes x.toArray t,.int 0 0] }) (p:=.raw { cls:=.type "bytes_iterator",data:=.fields #[.bytes x.toArray t,.int 0 0] }) rfl ⟨Heap.get?_push_size _ rfl,eK rfl (by decide)⟩
  refine q0 _ F1 _ k _ (.refl _) Sp ⟨_,_,fun j o=>o.cls=.type "bytes_iterator"∧o.data=.fields #[.bytes x.toArray t,.int (j:Nat) 0],rfl,rfl,⟨rfl,rfl⟩,⟨fun j o h=>⟨_,h.1,by decide⟩,?_,?_,?_⟩⟩
  · intro F2 h2 G2 s2 k2 Q2 E2 j o p l2 hp hst S2 q2
    obtain⟨hoi,-⟩:=(S2.led _ (.head _)).1
    unfold AZ at hp
    rw [List.getElem?_map,Option.map_eq_some_iff] at hp
    obtain⟨c,hc,rfl⟩:=hp
    refine KBw.next_item (b:=x.toArray) (t:=t) (i:=j) (c:=c) ⟨o,hoi,hst.1,hst.2⟩ (by simpa using hc) fun h3 it3 sb=>?_
    obtain⟨o3,ho3,hc3,hd3⟩:=it3
    exact q2 _ o3 h3 _ ⟨_,rfl⟩ ⟨hc3,hd3⟩ (S2.upd (p':=.raw o3) sb ⟨ho3,eK hc3 (by decide)⟩ rfl)
  · intro F2 h2 G2 s2 k2 Q2 E2 o l2 hst S2 q2
    obtain⟨hoi,-⟩:=(S2.led _ (.head _)).1
    exact KBw.next_end hh (b:=x.toArray) (t:=t) (i:=(AZ x).length) ⟨o,hoi,hst.1,hst.2⟩ (by simp [AZ]) fun h3 x3=>q2 h3 (S2.E7 x3)
  · intro F2 h2 G2 s2 k2 Q2 E2 o l2 hst S2 q2
    obtain⟨hoi,-⟩:=(S2.led _ (.head _)).1
    exact KBw.pyIter_self (b:=x.toArray) (t:=t) (i:=0) ⟨o,hoi,hst.1,hst.2⟩ q2
noncomputable def upTo (n:Nat):List PV:=(List.range n).map fun i=>.int (i:Nat)
theorem yA {r:Addr} {n:Nat} {t u z:Tok} (hh:A.handled=none) (hr:F r=some { cls:=.type "range",dict:=none,data:=.fields #[.int 0 t,.int n u,.int 1 z],slots:=#[] }) (hz:n≤1000000):gC w A F (.ref r) (upTo n):=fun G F1 H s h k Q E l S q0 y=>by
  have hR:IsRange h r 0 n 1 t u z:=S.sub _ _ (l _ _ hr)
  refine wpAny_pyIter_range hR (small_one (by omega) (by omega) (by omega) (by omega)) ?_
  rw [rangeSize_nat,show(((n:Int) - 0).toNat:Int)=n by omega]
  have Sp:=S.push (o:={ cls:=.type "range_iterator",dict:=none,data:=.fields #[rawInt 0,rawInt n,rawInt 1],slots:=#[] }) (p:=.raw { cls:=.type "range_iterator",dict:=none,data:=.fields #[rawInt 0,rawInt n,rawInt 1],slots:=#[] }) rfl ⟨Heap.get?_push_size _ rfl,eK rfl (by decide)⟩
  refine q0 _ F1 _ k _ (.refl _) Sp ⟨_,_,fun j o=>j≤n∧o={ cls:=.type "range_iterator",dict:=none,data:=.fields #[rawInt (j:Nat),rawInt ((n:Int) - (j:Nat)),rawInt 1],slots:=#[] },rfl,rfl,⟨Nat.zero_le _,by simp⟩,⟨fun j o h=>⟨"range_iterator",by rw [h.2],by decide⟩,?_,?_,?_⟩⟩
  · intro F2 h2 G2 s2 k2 Q2 E2 j o p l2 hp hst S2 q2
    obtain⟨hoi,-⟩:=(S2.led _ (.head _)).1
    unfold upTo at hp
    rw [List.getElem?_map,Option.map_eq_some_iff] at hp
    obtain⟨i,hi,rfl⟩:=hp
    obtain⟨li,ei⟩:=List.getElem?_eq_some_iff.mp hi
    rw [List.getElem_range] at ei
    subst ei
    rw [List.length_range] at li
    obtain⟨hj,rfl⟩:=hst
    refine wpAny_pyNext_range_item (x:=(j:Nat)) (left:=(n:Int) - (j:Nat)) (step:=1) hoi (by omega) fun h3 it3 sb=>?_
    have e1:(((j+1:Nat)):Int)=(j:Int)+1:=by omega
    have e2:(n:Int) - (((j+1:Nat)):Int)=(n:Int) - (j:Int) - 1:=by omega
    have it3:h3.get? h.objs.size=some { cls:=.type "range_iterator",dict:=none,data:=.fields #[rawInt (((j+1:Nat)):Int),rawInt ((n:Int) - (((j+1:Nat)):Int)),rawInt 1],slots:=#[] }:=by rw [e2,e1];exact it3
    exact q2 _ _ h3 _ ⟨_,rfl⟩ ⟨li,rfl⟩ (S2.upd sb ⟨it3,eK rfl (by decide)⟩ rfl)
  · intro F2 h2 G2 s2 k2 Q2 E2 o l2 hst S2 q2
    obtain⟨hoi,-⟩:=(S2.led _ (.head _)).1
    obtain⟨hj,rfl⟩:=hst
    exact wpAny_pyNext_range_end hh (left:=(n:Int) - ((upTo n).length:Nat)) hoi (by simp [upTo]) fun h3 x3=>q2 h3 (S2.E7 x3)
  · intro F2 h2 G2 s2 k2 Q2 E2 o l2 hst S2 q2
    obtain⟨hoi,-⟩:=(S2.led _ (.head _)).1
    obtain⟨hj,rfl⟩:=hst
    exact wpAny_pyIter_rangeiter hoi q2
end
theorem Sb.off {w:World} {A:Around} {F:FM} {h:Heap} {G:Led} {C:Addr} (S:Sb w A F h G) (n:C∉G.map (fun xx=>xx.1)):∀ envs,A.frames=some envs→∀ env∈envs,env.frame≠some C:=fun envs e env m z=>by
  obtain⟨envs',e',f⟩:=S.fr
  rw [e] at e';cases e'
  obtain⟨_,L,hL,hm⟩:=f env m
  rw [z] at hL;cases hL
  obtain⟨ρ,hm⟩:=cO hm
  exact n (List.mem_map.mpr ⟨_,hm,rfl⟩)
set_option tactic.hygienic true in
theorem Sb.dropF {w:World} {A:Around} {F:FM} {h:Heap} {G:Led} {C:Addr} {p:PO} (S:Sb w A F h ((C,p)::G)) (n:∀ envs,A.frames=some envs→∀ env∈envs,env.frame≠some C):Sb w A F h G:=by
  refine⟨S.base,S.sub,fun q hq=>S.led q (List.mem_cons_of_mem _ hq),(List.nodup_cons.mp S.nd).2,?_⟩
  obtain⟨envs,e,f⟩:=S.fr
  refine⟨envs,e,fun env m=>?_⟩
  obtain⟨h1,L,hL,hm⟩:=f env m
  refine⟨h1,L,hL,?_⟩
  unfold bN at hm
  rw [List.filterMap_cons] at hm
  split at hm
  · exact hm
  · rename_i y hy
    split at hy
    · cases hy
      rcases List.mem_cons.mp hm with z | z
      · subst z;exact absurd hL (n envs e env m)
      · exact z
    · cases hy
section
variable {w:World} {A:Around} {env:Env} {G G' G1 G2 G3 Γ:Led} {e:Expr} {es elts:List Expr} {pos tpos px cpos:Pos} {F:FM} {p q:PV} {ps:List PV} {x:Str} {P:Out→Prop} {v:Value} {a:Addr}
inductive FwI (w:World) (A:Around) (s:Shared) (H:Led) (F0':FM) (It0:Addr) (St:Nat→Obj→Prop) (ps:List PV) (Inv:List PV→Led→Prop) (n:Nat) (s':Shared):Prop
  | mk (F2:FM) (h2:Heap) (k2:Nat) (G2:Led) (j:Nat) (oi:Obj) (q0:s'=sh s h2 k2) (q1:Le F0' F2) (q2:Sb w A F2 h2 (G2++((It0,.raw oi)::H))) (q3:St j oi) (q4:j+n=ps.length) (q5:Inv (ps.drop j) G2)
theorem XT.N8 {target iter:Expr} {body:List Stmt} (Inv:List PV→Led→Prop) (hi:TX w A F0 (eval iter env) G (fun G1 F v=>∃ ps,gC w A F v ps∧Inv ps G1) (fun C c p G'=>P (.exc C c p G'))) (hA:cF A env) (hf:env.frame=some a)
    (hs:∀ x,foldedSetIterable iter env x=pure x)
    (turn:∀ p rest G,Inv (p::rest) G→∀ v F,p.Is w.params F v→TX w A F (PySem.assign target env v) G (fun G' xx xx=>XS w A env body G' (tO (Inv rest) P)) bG)
    (fin:∀ G,Inv [] G→P (.next G)):XT w A env (.For target iter body [] pos) G P:=fun F1 H s h k Q E l S q0 y=>by
  refine wpAny_For (hi F1 H s h k _ E l S (fun v F' h' k' G' l' S' n=>?_) y) hs
  obtain⟨ps,n,h0⟩:=n
  refine n G' F' H s h' k' _ E (.refl _) S' (fun it F0' h1 k1 G1' l1 Sp n1=>?_) fun xx xx xx xx xx xx xx xx xx xx n=>n.elim
  obtain⟨It0,oI,St,rfl,rfl,D5,I0⟩:=n1
  have Sq:Sb w A F0' h1 (G'++((It0,.raw oI)::H)):=Sp.perm List.perm_middle.symm
  refine codeAny_forLoop_any (FwI w A s H F0' It0 St ps Inv) (fun n s' X=>?_) ps.length
    ⟨F0',_,_,G',0,_,rfl,.refl _,Sq,D5,by omega,h0⟩
  obtain⟨F2,h2,k2,G2,j,oi,rfl,l2,S2,hst,hj,I⟩:=X
  have Sr:=S2.perm List.perm_middle
  cases n with
  | zero =>
    have ej:j=ps.length:=by omega
    subst ej
    refine I0.stop F2 h2 _ s k2 _ _ oi l2 hst Sr fun h3 S3=>?_
    rw [List.drop_length] at I
    exact wpAny_execs_nil (q0 .next F2 h3 k2 G2 ((l'.trans l1).trans l2) S3 (fin _ I))
  | succ n =>
    have lj:j<ps.length:=by omega
    rw [List.drop_eq_getElem_cons lj] at I
    refine I0.next F2 h2 _ s k2 _ _ j oi _ l2 (List.getElem?_eq_getElem lj) hst Sr fun v o3 h3 k3 pv st3 S3=>?_
    have S3':Sb w A F2 h3 (G2++((It0,.raw o3)::H)):=S3.perm List.perm_middle.symm
    obtain⟨nm,hc,hg⟩:=I0.plain _ _ st3
    have hg':["enumerate","zip","dict_itemiterator","dict_reverseitemiterator","odict_iterator","itertools.zip_longest","itertools.pairwise"].contains nm=false:=by
      unfold zD at hg
      simp only [Bool.and_eq_true,Bool.not_eq_true'] at hg
      exact hg.1
    refine yI (w:=w) (S3.led _ (.head _)).1.1 hc hg' ?_
    refine turn _ _ _ I v F2 pv F2 _ s h3 k3 _ _ (.refl _) S3' (fun xx F4 h4 k4 G4 l4 S4 n4=>?_) fun xx xx xx xx xx xx xx xx xx xx n=>n.elim
    refine n4 F4 _ s h4 k4 _ _ (Le.zero _) S4 (fun f F5 h5 k5 G5 l5 S5 n5=>?_) fun e C c p F5 h5 k5 G5 l5 S5 n5=>dN hA hf S5 fun h6 S6=>y e C c p F5 h6 k5 G5 ((((l'.trans l1).trans l2).trans l4).trans l5) ?_ n5
    · cases f with
      | next=>exact⟨n,Nat.lt_succ_self _,F5,h5,k5,G5,j+1,o3,rfl,(l2.trans l4).trans l5,S5,st3,by omega,n5⟩
      | ret v=>obtain⟨p,pv,pp⟩:=n5;exact q0 (.ret v) F5 h5 k5 G5 ((((l'.trans l1).trans l2).trans l4).trans l5) ((S5.perm List.perm_middle).drop rfl) ⟨p,pv,pp⟩
      | _=>exact n5.elim
    · have pm:((e,PO.exc C c p)::(G5++(It0,PO.raw o3)::H)).Perm ((It0,PO.raw o3)::((e,PO.exc C c p)::(G5++H))):=(List.perm_middle.cons _).trans (List.Perm.swap _ _ _)
      exact(S6.perm pm).drop rfl
theorem XT.DJ {target iter:Expr} {body:List Stmt} (Inv:List PV→Led→Prop) (hi:TX w A F0 (eval iter env) G (fun G1 F v=>gC w A F v ps∧Inv ps G1) (fun C c p G'=>P (.exc C c p G'))) (hA:cF A env) (hf:env.frame=some a)
    (hs:∀ x,foldedSetIterable iter env x=pure x)
    (turn:∀ p rest G,Inv (p::rest) G→∀ v F,p.Is w.params F v→TX w A F (PySem.assign target env v) G (fun G' xx xx=>XS w A env body G' (tO (Inv rest) P)) bG)
    (fin:∀ G,Inv [] G→P (.next G)):XT w A env (.For target iter body [] pos) G P :=
  XT.N8 Inv (TX.imp hi (fun xx xx xx xx n=>⟨ps,n⟩) fun xx xx xx xx n=>n) hA hf hs turn fin
noncomputable def Elt (w:World) (A:Around) (cenv:Env) (elt:Expr) (C:Addr) (rest acc:List PV) (Inv:List PV→List PV→Led→Prop) (G:Led):Prop :=
  TX w A F0 (eval elt cenv) G (fun G' F v=>∃ q ρ Γ,q.Is w.params F v∧G'=(C,.frame ρ)::Γ∧Inv rest (acc++[q]) Γ) bG
noncomputable def tests (ifs:List Expr) (cenv:Env):Sem Bool:=forIn ifs true fun c r=>if r=true then do let ok ← isTrue c cenv (eval c cenv);pure (ForInStep.yield ok) else pure (ForInStep.yield r)
noncomputable def uB (w:World) (A:Around) (cenv:Env) (elt:Expr) (C:Addr) (rest acc:List PV) (Inv:List PV→List PV→Led→Prop) (G':Led) (b:Bool):Prop :=
  if b then Elt w A cenv elt C rest acc Inv G' else ∃ ρ Γ,G'=(C,.frame ρ)::Γ∧Inv rest acc Γ
inductive CpI (w:World) (A:Around) (s:Shared) (H:Led) (F2:FM) (I C D:Addr) (St:Nat→Obj→Prop) (ps:List PV) (Inv:List PV→List PV→Led→Prop) (n:Nat) (s':Shared):Prop
  | mk (F5:FM) (h5:Heap) (k5:Nat) (Γ:Led) (ρ:List (Str×PV)) (j:Nat) (oi:Obj) (acc:List PV) (q0:s'=sh s h5 k5) (q1:Le F2 F5) (q2:Sb w A F5 h5 ((C,.frame ρ)::(D,.list acc)::(((I,.raw oi)::Γ)++H))) (q3:St j oi) (q4:j+n=ps.length) (q5:acc.length≤j) (q6:Inv (ps.drop j) acc Γ)
theorem mQ {elt iter:Expr} {ifs:List Expr} {scope:Scope} {cl:List (Str×Addr)} (Inv:List PV→List PV→Led→Prop)
    (hi:TX w A F0 (eval iter env) G (fun G1 F v=>∃ ps,ps.length≤1000000∧gC w A F v ps∧Inv ps [] G1) bG)
    (hs:∀ x,foldedSetIterable iter env x=pure x) (hclos:closureFor scope env=pure cl) (hkind:scope.kind=.function) (hnames:∀ x∈scope.names,x.2=.local→scope.names.lookup x.1=some .local)
    (hcell:∀ y∈scope.names,y.2≠.cell) (hx:scope.names.lookup x=some .local)
    (turn:∀ p rest acc Γ C,acc.length≤1000000→Inv (p::rest) acc Γ→TX w A F0 (tests ifs (compEnvC scope cl C env)) ((C,.frame [(x,p)])::Γ) (fun G' F b=>uB w A (compEnvC scope cl C env) elt C rest acc Inv G' b) bG) :
    TX w A F0 (eval (.ListComp elt [⟨.Name x px,iter,ifs,0⟩] scope cpos) env) G (fun G' F v=>∃ acc,Inv [] acc G'∧(PV.lst acc).Is w.params F v) bG:=fun F1 H s h k Q E l S q0 y=>by
  rw [eval_ListComp]
  refine wpAny_comprehension_free (use:=none) rfl hs hclos hkind hnames ?_
  refine hi F1 H s h k _ E l S (fun v F' h' k' G' l' S' n=>?_) y
  obtain⟨ps,hz,n,h0⟩:=n
  refine n G' F' H s h' k' _ E (.refl _) S' (fun it F2 h2 k2 G2 l2 S2 n2=>?_) fun xx xx xx xx xx xx xx xx xx xx n=>n.elim
  obtain⟨I,oI,St,rfl,rfl,D5,I0⟩:=n2
  refine wpAny_newObj_type (wpAny_newFunctionEnv hcell (by intro y hy;simp at hy) (fun h3 hns hsb=>?_) hkind)
  have S3:Sb w A F2 (h2.push (seqObj "list" [] 0)) ((h2.objs.size,.list [])::(((I,.raw oI)::G')++H)):=S2.push rfl ⟨[],0,Heap.get?_push_size _ rfl,.nil⟩
  dsimp only at hns hsb ⊢
  generalize hH3:h2.push (seqObj "list" [] 0)=H3 at S3
  have hH3':h2.push { cls:=.type "list",dict:=none,data:=.seq ([]:List Value).toArray }=H3:=hH3
  try rw [hH3'] at hns
  try rw [hH3'] at hsb
  try rw [hH3']
  generalize hD:h2.objs.size=D at S3 ⊢
  generalize hC:H3.objs.size=C at hns hsb ⊢
  have nC:C∉((D,PO.list [])::(((I,.raw oI)::G')++H)).map (fun xx=>xx.1):=hC ▸ S3.ne_size
  have offC:=S3.off nC
  have S4:Sb w A F2 h3 ((C,.frame [])::(D,.list [])::(((I,.raw oI)::G')++H)):=by
    have k3:Kp H3 h3:=fun b o e=>by
      have hb:b≠C:=fun z=>by subst z;rw [← hC] at e;exact absurd (Heap.lt_size e) (Nat.lt_irrefl _)
      exact(hsb.2 b hb).trans (Heap.get?_push_of_some _ e)
    have Sx:=S3.ext k3
    refine⟨Sx.base,Sx.sub,fun q hq=>?_,?_,?_⟩
    · rcases List.mem_cons.mp hq with rfl | hq
      · exact⟨⟨_,hns,fun x p lk=>by cases lk⟩,hC ▸ S3.bE⟩
      · exact Sx.led q hq
    · rw [List.map_cons,List.nodup_cons];exact⟨nC,S3.nd⟩
    · obtain⟨envs,e,f⟩:=Sx.fr
      exact⟨envs,e,fun env he=>⟨(f env he).1,let ⟨L,a,b⟩:=(f env he).2;⟨L,a,cP (fun q hq=>List.mem_cons_of_mem _ hq) b⟩⟩⟩
  clear hns hsb
  have eCE:({ (newEnv scope C env.globals cl env.qual none .none (some env) env.builtins) with scope:=relabel scope env }:Env)=compEnvC scope cl C env:=rfl
  have loop:∀ kk,codeAny (MM w) A (.compLoop (.ListComp elt [⟨.Name x px,iter,ifs,0⟩] scope cpos) 0 (.ref I) (.ref D) (compEnvC scope cl C env)) (compPost (MM w) A E none Q (.ref D) C) (sh s h3 kk):=fun kk=>by
    refine codeAny_compLoop_tests (CpI w A s H F2 I C D St ps Inv) (fun n s' X=>?_) ps.length
      ⟨F2,h3,kk,G',[],0,oI,[],rfl,.refl _,S4,D5,by omega,Nat.le_refl _,h0⟩
    obtain⟨F5,h5,k5,Γ,ρ,j,oi,acc,rfl,l5,S5,hst,hj,hacc,Iv⟩:=X
    have Sr:Sb w A F5 h5 ((I,.raw oi)::((C,.frame ρ)::(D,.list acc)::(Γ++H))):=S5.perm (((List.Perm.swap _ _ _).cons _).trans (List.Perm.swap _ _ _))
    cases n with
    | zero =>
      have ej:j=ps.length:=by omega
      subst ej
      refine I0.stop F5 h5 _ s k5 _ _ oi l5 hst Sr fun h6 S6=>?_
      rw [List.drop_length] at Iv
      obtain⟨⟨m,hm,_⟩,fC⟩:=S6.led _ (.head _)
      refine⟨m,hm,fun h7 sb=>?_⟩
      have S7:=S6.dropF offC
      have nC7:=(List.nodup_cons.mp S6.nd).1
      have S8:=S7.ext' (d:=C) (h':=h7) sb.extBut nC7 fC fun o ho=>by
        obtain⟨o',es,ep,e',d',_⟩:=hm
        rw [show h6.get? C=some o from ho] at e';cases e'
        intro _ ts z;rw [d'] at z;cases z
      obtain⟨⟨vs,nn,hl,pvs⟩,fD⟩:=S8.led _ (.head _)
      have l9:Le F5 (F5.put D (seqObj "list" vs nn)):=Le.put fD
      have S9:=S8.freeze (o:=seqObj "list" vs nn) rfl hl
      exact q0 (.ref D) _ h7 k5 Γ (((l'.trans l2).trans l5).trans l9) S9 ⟨acc,Iv,D,vs,nn,rfl,FM.bO,pvs.mono l9⟩
    | succ n =>
      have lj:j<ps.length:=by omega
      rw [List.drop_eq_getElem_cons lj] at Iv
      refine I0.next F5 h5 _ s k5 _ _ j oi _ l5 (List.getElem?_eq_getElem lj) hst Sr fun v o6 h6 k6 pv st6 S6=>?_
      have S7:Sb w A F5 h6 ((C,.frame ρ)::Γ++((D,.list acc)::(I,.raw o6)::H)):=S6.perm (by
        refine(List.Perm.swap _ _ _).trans (List.Perm.cons _ ?_)
        refine(List.Perm.swap _ _ _).trans ?_
        refine(List.Perm.cons _ List.perm_middle.symm).trans ?_
        exact List.perm_middle.symm)
      have S7':Sb w A F5 h6 ((C,.frame [])::Γ++((D,.list acc)::(I,.raw o6)::H)):=Drop.frame (fun x p lk=>by cases lk) w A F5 h6 _ S7
      refine wpAny_assign_Name (Sb.store (env:=compEnvC scope cl C env) (x:=x) (ρ:=[]) S7' pv (fun h8 k8 S8=>?_) hkind (lookup_relabel_local hx))
      refine turn _ _ acc Γ C (by omega) Iv F5 _ s h8 k8 _ _ (Le.zero _) S8 (fun b F9 h9 k9 G9 l9 S9 n9=>?_) fun xx xx xx xx xx xx xx xx xx xx n=>n.elim
      cases b with
      | false =>
        simp only [uB,Bool.false_eq_true,if_false] at n9 ⊢
        obtain⟨ρ9,Γ9,rfl,i9⟩:=n9
        refine⟨n,Nat.lt_succ_self _,F9,h9,k9,Γ9,ρ9,j+1,o6,acc,rfl,l5.trans l9,S9.perm ?_,st6,by omega,by omega,i9⟩
        refine List.Perm.cons _ ?_
        refine List.perm_middle.trans (List.Perm.cons _ ?_)
        exact List.perm_middle
      | true =>
        simp only [uB,if_true] at n9 ⊢
        refine n9 F9 _ s h9 k9 _ _ (Le.zero _) S9 (fun u F10 h10 k10 G10 l10 S10 n10=>?_) fun xx xx xx xx xx xx xx xx xx xx n=>n.elim
        obtain⟨q,ρ10,Γ10,pq,rfl,i10⟩:=n10
        have S11:Sb w A F10 h10 ([(D,.list acc)]++((C,.frame ρ10)::(I,.raw o6)::(Γ10++H))):=S10.perm (by
          refine List.Perm.trans (l₂:=(C,PO.frame ρ10)::((D,.list acc)::(Γ10++(I,.raw o6)::H))) (List.Perm.cons _ List.perm_middle) ?_
          refine(List.Perm.swap _ _ _).trans (List.Perm.cons _ (List.Perm.cons _ ?_))
          exact List.perm_middle)
        refine nW (i:=0) (F:=F10) rfl (by omega) pq F10 _ s h10 k10 _ _ (.refl _) S11 (fun xx F12 h12 k12 G12 l12 S12 n12=>?_) fun xx xx xx xx xx xx xx xx xx xx n=>n.elim
        obtain⟨rfl,-⟩:=n12
        refine⟨n,Nat.lt_succ_self _,F12,h12,k12,Γ10,ρ10,j+1,o6,acc++[q],rfl,((l5.trans l9).trans l10).trans l12,S12.perm ?_,st6,by omega,by simp;omega,i10⟩
        exact List.Perm.swap _ _ _
  refine codeAny_compStart_list (loop _) ?_
  refine I0.self F2 h3 ((C,.frame [])::(D,.list [])::(G'++H)) s _ _ _ oI (.refl _) D5 (S4.perm (((List.Perm.swap _ _ _).cons _).trans (List.Perm.swap _ _ _))) (loop _)
theorem NS {elt iter:Expr} {ifs:List Expr} {scope:Scope} {cl:List (Str×Addr)} (Inv:List PV→List PV→Led→Prop)
    (hi:TX w A F0 (eval iter env) G (fun G1 F v=>gC w A F v ps∧Inv ps [] G1) bG) (hz:ps.length≤1000000)
    (hs:∀ x,foldedSetIterable iter env x=pure x) (hclos:closureFor scope env=pure cl) (hkind:scope.kind=.function) (hnames:∀ x∈scope.names,x.2=.local→scope.names.lookup x.1=some .local)
    (hcell:∀ y∈scope.names,y.2≠.cell) (hx:scope.names.lookup x=some .local)
    (turn:∀ p rest acc Γ C,acc.length≤1000000→Inv (p::rest) acc Γ→TX w A F0 (tests ifs (compEnvC scope cl C env)) ((C,.frame [(x,p)])::Γ) (fun G' F b=>uB w A (compEnvC scope cl C env) elt C rest acc Inv G' b) bG) :
    TX w A F0 (eval (.ListComp elt [⟨.Name x px,iter,ifs,0⟩] scope cpos) env) G (fun G' F v=>∃ acc,Inv [] acc G'∧(PV.lst acc).Is w.params F v) bG :=
  mQ Inv (TX.imp hi (fun xx xx xx xx n=>⟨ps,hz,n⟩) fun xx xx xx xx n=>n) hs hclos hkind hnames hcell hx turn
theorem nZ {cenv:Env} {N:Led→FM→Bool→Prop} {X:Addr→Value→PV→Led→Prop} (h:∀ F',Le F F'→N G F' true):TX w A F (tests [] cenv) G N X:=fun F1 H s hh k Q E l S q0 y=>by
  refine wpAny_tests_nil (q0 true F1 hh k G (.refl _) S (h F1 l))
theorem EB {cenv:Env} {c:Expr} {N:Led→FM→Bool→Prop} {X:Addr→Value→PV→Led→Prop} (h:TX w A F (isTrue c cenv (eval c cenv)) G N X):TX w A F (tests [c] cenv) G N X:=fun F1 H s hh k Q E l S q0 y =>
  wpAny_tests_one (h F1 H s hh k Q E l S q0 y)
end
section
variable {w:World} {A:Around} {env:Env} {G G' G1 G2 G3 Γ:Led} {e:Expr} {es elts:List Expr} {pos tpos px cpos:Pos} {F:FM} {p q:PV} {ps:List PV} {x:Str} {P:Out→Prop} {v:Value} {a:Addr}
theorem Ev.cell {i:Nat} {c:Addr} {x:Str} {p:PV} (e:G[i]?=some (c,.cell p)) (hk:env.scope.kind=.function) (hl:env.scope.names.lookup x=some .cell) (hc:env.cells.lookup x=some c)
    (hd:(x == ("__debug__":Str))=false:=by decide):Ev w A env G (.Name x pos) p G:=fun F1 H s h k Q E l S q x=>by
  obtain⟨o,v,ho,hd',pv⟩:=(S.led _ (List.mem_append_left _ (List.mem_of_getElem? e))).1
  exact wpAny_Name (wpAny_loadName_cell hk hl hc ⟨o,ho,hd'⟩ (q v F1 h k G (.refl _) S ⟨rfl,pv⟩)) hd
theorem Sb.D6 {h:Heap} {s:Shared} {k:Nat} {Q:Unit→Shared→Prop} {E:Value→Shared→Prop} {c:Addr} {p0:PO} (S:Sb w A F h ((c,p0)::G)) (h0:(∃ q,p0=.cell q)∨∃ o,p0=.raw o∧o.data=.cell none) (pv:p.Is w.params F v)
    (q:∀ h' k',Sb w A F h' ((c,.cell p)::G)→Q () (sh s h' k')) (hk:env.scope.kind=.function) (hl:env.scope.names.lookup x=some .cell) (hc:env.cells.lookup x=some c):wpAny (MM w) A (PySem.storeName env x v) Q E (sh s h k):=by
  have D:=S.led _ (.head _)
  rcases h0 with ⟨q0,rfl⟩ | ⟨o,rfl,hd⟩
  · obtain⟨o,v0,ho,hd,_⟩:=D.1
    exact wpAny_storeName_cell hk hl hc ⟨o,ho,hd⟩ fun h' ⟨o',ho',hd'⟩ sb=>q h' k (S.upd sb ⟨o',v,ho',hd',pv⟩ rfl)
  · exact wpAny_storeName_cell hk hl hc ⟨o,D.1.1,hd⟩ fun h' ⟨o',ho',hd'⟩ sb=>q h' k (S.upd sb ⟨o',v,ho',hd',pv⟩ rfl)
noncomputable def iY (cp:Str→Option PV) (oc:Str→Obj) (cs:List (Str×Addr)):Led:=cs.map fun nc=>(nc.2,match cp nc.1 with | some p=>PO.cell p | none=>PO.raw (oc nc.1))
theorem Sb.OA {w:World} {A:Around} {F F1:FM} {hh h₀:Heap} {env':Env} {L:Addr} {ρ:List (Str×PV)} {G H:Led} {csL:List (Str×Addr)} {cp:Str→Option PV} {mm cc:Str→Option Value} (S:Sb w A F1 hh (G++H)) (l:Le F F1) (kO:Kp hh h₀) (hL:hh.objs.size=L)
    (hk:env'.scope.kind≠.module) (hf:env'.frame=some L) (hns:h₀.Ns L mm) (hce:∀ n c,csL.lookup n=some c→h₀.IsCell c (cc n)) (hap:csL.Pairwise fun x y=>x.2≠y.2) (hab:∀ n c,(n,c)∈csL→L<c)
    (hloc:∀ x p,Look ρ x p→∃ v,mm x=some v∧p.Is w.params F v)
    (hcell:∀ nc∈csL,csL.lookup nc.1=some nc.2∧match cp nc.1 with | some p=>∃ v,cc nc.1=some v∧p.Is w.params F v | none=>cc nc.1=none) :
    ∃ oc:Str→Obj,(∀ n,(oc n).data=.cell none)∧Sb w (A.deeper env') F1 h₀ ((L,.frame ρ)::(iY cp oc csL++G)++H):=by
  have nL:L∉(G++H).map (fun xx=>xx.1):=hL ▸ S.ne_size
  have fL:F1 L=none:=hL ▸ S.bE
  have S1:=S.ext kO
  have old:∀ c,L≤c→F1 c=none∧c∉(G++H).map (fun xx=>xx.1):=fun c hc=>by
    subst hL
    refine⟨?_,fun z=>?_⟩
    · cases e:F1 c with
      | none=>rfl
      | some o=>exact absurd (Heap.lt_size (S.sub _ _ e)) (Nat.not_lt.mpr hc)
    · obtain⟨q,hq,rfl⟩:=List.mem_map.mp z
      exact absurd (S.lt hq) (Nat.not_lt.mpr hc)
  have hoc:∀ n:Str,∃ o:Obj,o.data=.cell none∧∀ c,(n,c)∈csL→cp n=none→h₀.get? c=some o:=fun n=>by
    by_cases z:∃ c,(n,c)∈csL∧cp n=none
    · obtain⟨c,hm,e⟩:=z
      have h1:=hcell _ hm
      rw [e] at h1
      obtain⟨h1,h2⟩:=h1
      obtain⟨o,ho,hd⟩:=hce _ _ h1
      rw [h2] at hd
      refine⟨o,hd,fun c' hm' xx=>?_⟩
      have:=(hcell _ hm').1
      rw [h1] at this
      cases this
      exact ho
    · exact⟨{ cls:=.none,data:=.cell none },rfl,fun c hm e=>absurd ⟨c,hm,e⟩ z⟩
  obtain⟨ocs,ho⟩:=Classical.axiomOfChoice hoc
  refine⟨ocs,fun n=>(ho n).1,?_⟩
  rw [List.cons_append,List.append_assoc]
  have nd1:((iY cp ocs csL).map (fun xx=>xx.1)).Nodup:=by
    unfold iY
    rw [List.map_map]
    exact List.pairwise_map.mpr (hap.imp fun h=>h)
  have mem:∀ c,c∈(iY cp ocs csL).map (fun xx=>xx.1)→∃ n,(n,c)∈csL:=fun c hc=>by
    obtain⟨q',hq,rfl⟩:=List.mem_map.mp hc
    obtain⟨nc,hm,rfl⟩:=List.mem_map.mp hq
    exact⟨nc.1,hm⟩
  refine S1.into hk hf ⟨_,hns,fun x p lk=>(hloc x p lk).imp fun v r=>⟨r.1,r.2.mono l⟩⟩ fL (fun q' hq=>?_) (fun z=>?_) ?_
  · obtain⟨nc,hm,rfl⟩:=List.mem_map.mp hq
    refine⟨?_,(old _ (Nat.le_of_lt (hab _ _ hm))).1⟩
    have h1:=hcell _ hm
    cases e:cp nc.1 with
    | none=>exact⟨(ho nc.1).2 _ hm e,fun xx ts z=>by rw [(ho nc.1).1] at z;cases z⟩
    | some p =>
      rw [e] at h1
      obtain⟨h1,v,hb,pv⟩:=h1
      obtain⟨o,ho,hd⟩:=hce _ _ h1
      rw [hb] at hd
      exact⟨o,v,ho,hd,pv.mono l⟩
  · rw [List.map_append] at z
    exact(List.mem_append.mp z).elim (fun z=>(mem _ z).elim fun n m=>absurd (hab _ _ m) (Nat.lt_irrefl _)) nL
  · rw [List.map_append]
    exact List.nodup_append.mpr ⟨nd1,S.nd,fun a' ha b hb z=>(mem _ ha).elim fun n m=>(old _ (Nat.le_of_lt (hab _ _ m))).2 (z ▸ hb)⟩
theorem TC.fnC {N:PV→Led→Prop} {X:Addr→Value→PV→Led→Prop} {a:Addr} {st:Stmt} {q:Str} {cd:Value} {vs:List Value} {bs:List (Str×Value)} {ρ:List (Str×PV)} {cs:Addr→List (Str×Addr)} (cp:Str→Option PV) (I:a8 w.params a st q cd) (hroom:A.depth<recursionLimit)
    (hbind:bindArgs (aN w.params a) ⟨vs,[]⟩=pure bs)
    (hkind:∀ n,∀ x∈bs,(aC st).names.lookup x.1=some .local∨((aC st).names.lookup x.1=some .cell∧((cs n).lookup x.1).isSome=true))
    (hcs:∀ n,cellsFrom (n+1) (aC st).names []=cs n)
    (hloc:∀ x p,Look ρ x p→∃ v,bindL (fun n=>(aC st).names.lookup n) bs (fun xx=>none) x=some v∧p.Is w.params F v)
    (hcell:∀ L,∀ nc∈cs L,(cs L).lookup nc.1=some nc.2∧match cp nc.1 with | some p=>∃ v,bindC (fun n=>(aC st).names.lookup n) bs (fun xx=>none) nc.1=some v∧p.Is w.params F v | none=>bindC (fun n=>(aC st).names.lookup n) bs (fun xx=>none) nc.1=none)
    (h:∀ L oc,(∀ n,(oc n).data=.cell none)→XS w (A.deeper (aT st q a cs cd L)) (aT st q a cs cd L) (cQ st) ((L,.frame ρ)::(iY cp oc (cs L)++G)) (bI L N X)) :
    TC w A F a vs G (fun G' F' v=>∃ p,p.Is w.params F' v∧N p G') X:=fun F1 H s hh k R l S q0 x0=>by
  obtain⟨oc,od,sl,ho⟩:=I.there
  have henv:callEnvC (aN w.params a) hh.objs.size a=aT st q a cs cd hh.objs.size:=by rw [I.env,show(fun L=>cellsFrom (L+1) (aC st).names [])=cs from funext hcs]
  refine codeAny_call_cells (fd:=aN w.params a) (body:=cQ st) hroom (S.kf _ _ ho) rfl S.nolimit (codeRec_of S.kf I.code) I.body hbind I.clo ?_ (fun s₁ hi=>?_)
    (by rw [I.scope];exact I.co) (by rw [I.scope];exact I.gen) (by rw [I.scope];exact I.kind)
  · rw [I.scope];show ∀ x∈bs,_∨(_∧(List.lookup x.1 (cellsFrom (hh.objs.size+1) _ [])).isSome=true);rw [hcs];exact hkind _
  rw [show(sh s hh k).heap.objs.size=hh.objs.size from rfl,henv] at hi ⊢
  have kO:∀ b o,hh.get? b=some o→s₁.heap.get? b=some o:=hi.toInCall.keep
  obtain⟨h₀,tk,rfl⟩:=hi.toInCall.same
  have hns:h₀.Ns hh.objs.size (bindL (fun n=>(aC st).names.lookup n) bs (fun xx=>none)):=hi.toInCall.ns
  have hce:∀ n c,(cs hh.objs.size).lookup n=some c→h₀.IsCell c (bindC (fun n=>(aC st).names.lookup n) bs (fun xx=>none) n):=hi.cell
  have hap:(cs hh.objs.size).Pairwise fun x y=>x.2≠y.2:=hi.apart
  have hab:∀ n c,(n,c)∈cs hh.objs.size→hh.objs.size<c:=hi.above
  clear hi
  generalize hL:hh.objs.size=L at hns hce hap hab ⊢
  obtain⟨envs,he,hf⟩:=S.fr
  have nL:L∉(G++H).map (fun xx=>xx.1):=hL ▸ S.ne_size
  obtain⟨ocs,ho1,B⟩:=S.OA (env':=aT st q a cs cd L) l kO hL (by show(aC st).kind≠_;rw [I.kind];decide) rfl hns hce hap hab hloc (hcell L)
  refine h L ocs ho1 F1 H s h₀ tk _ _ (Le.zero _) B (fun f F' h' k' G' l' S' n=>?_) (fun e C c p F' h' k' G' l' S' n=>?_)
  · cases f with
    | next =>
      obtain⟨ρ,G'',d,nn⟩:=n
      exact q0 _ F' h' k' G'' l' (S.up nL (d _ _ _ _ _ S')) ⟨.none,rfl,nn⟩
    | ret v =>
      obtain⟨p,pv,ρ,G'',d,nn⟩:=n
      exact q0 v F' h' k' G'' l' (S.up nL (d _ _ _ _ _ S')) ⟨p,pv,nn⟩
    | _=>exact n.elim
  · obtain⟨ρ,G'',d,nn⟩:=n
    refine iZ S' (outer:=envs) (by show A.frames.map _=_;rw [he];rfl) rfl fun h'' S'' xx=>?_
    exact x0 e C c p F' h'' k' G'' l' (S.up nL ((d.under S'').perm (List.Perm.swap _ _ _))) nn
end
set_option hygiene false in
local macro_rules
  | `(tactic| walk_at "look")=>`(tactic| first | assumption | exact Look.head | ((apply Look.tail);decide;walk_at "look"))
  | `(tactic| walk_at "size")=>`(tactic| first | assumption | omega | decide | (simp only [List.length_map,List.length_append,List.length_cons,List.length_nil];omega))
  | `(tactic| walk_at "evs")=>`(tactic| first
    | exact aU.nil
    | ((with_reducible apply aU.cons);walk_at "ev";walk_at "evs";rfl))
  | `(tactic| walk_at "tr")=>`(tactic| first
    | ((with_reducible apply Tr.cmp);walk_at "ev";walk_at "ev";walk_at "op";rfl)
    | ((with_reducible apply Tr.not);walk_at "tr"))
  | `(tactic| walk_at "op")=>do
    let rows ← ("OPS:binaryOp Operator.Add 0MN 0MO 0MP 0op_addLL 0bF 1aH 0HV;binaryOp Operator.Sub 1NF 1fB 0w4;binaryOp Operator.Mult 1M5 1yH;binaryOp Operator.FloorDiv 1MU;binaryOp Operator.Mod 1BW;binaryOp Operator.RShift 0NC 0NB 0w3;binaryOp Operator.LShift 1M9 1NA 2w2;binaryOp Operator.BitAnd 0DT 0DR 0HW 0MR 1DS;binaryOp Operator.BitOr 1IA 1Q7 1Q6;compareOp CmpOp.Eq 0op_eqL 0d7 0op_eqB 0HX;compareOp CmpOp.NotEq 0Q5 0sG 0sF 0BX 0H8;compareOp CmpOp.Lt 0H6 0Q4 0sE 0H5;compareOp CmpOp.Gt 0Q1 0H0 0op_gtL 0sD 0OJ;compareOp CmpOp.LtE 0A0 0OK;compareOp CmpOp.GtE 0HY 0OI;compareOp CmpOp.Is 0Q3;compareOp CmpOp.IsNot 0DW".splitOn ";").toArray.mapM fun r=>do
      let ws:=((r.splitOn ":").getLast!).splitOn " "
      let alts ← (ws.drop 2).toArray.mapM fun x=>do
        let n:=Lean.mkIdent (String.ofList (x.toList.drop 1)).toName
        `(tactic| ((with_reducible refine $n $(Array.replicate (x.toList.head!.toNat - 48) (← `(?_)))* hv hu) <;> walk_at "size"))
      `(tactic| ((with_reducible show T _ _ _ ($(Lean.mkIdent ws[0]!.toName) $(Lean.mkIdent ws[1]!.toName) _ _) _ _ _);first $[| $alts:tactic]*))
    `(tactic| (intro v u F hv hu;first $[| $rows:tactic]*))
  | `(tactic| walk_at "ev")=>do
    let ts:=#[← `(tactic| rfl),← `(tactic| decide),← `(tactic| kernel_rfl),← `(tactic| walk_at "look"),← `(tactic| walk_at "ev"),← `(tactic| walk_at "evs"),← `(tactic| walk_at "size"),← `(tactic| walk_at "op"),← `(tactic| exact Nat.le_of_ble_eq_true rfl),← `(tactic| exact fun o i=>rfl)]
    let alts ← ("OPS:Ev.int;Ev.lit _ 0;Ev.bytes;Ev.str;Ev.none;Ev.bool;L8 0 00301;uS 1 00001;uS 2 00001;uS 3 00001;L6 _ 00001;O7 _ 000001;Ev.tuple _ 58;bA _ 42000;lL 1 402000;lL 2 402000;lL 3 402000;lL 4 402000;lN _ 4506;uT _ 4506;FC _ 44669;tR _ 44469;gF _ 4469;tF _ 4469;Ev.bin _ 447".splitOn ";").toArray.mapM fun r=>do
      let ws:=((r.splitOn ":").getLast!).splitOn " "
      let n:=Lean.mkIdent ws[0]!.toName
      if ws.length == 1 then `(tactic| with_reducible exact $n) else
      let todo:=(ws.getD 2 "").toList.toArray.map fun c=>ts[c.toNat - 48]!
      let e:Lean.TSyntax `term ← if ws[1]! == "_" then pure ⟨n.raw⟩ else `($n (i:=$(Lean.quote ws[1]!.toNat!)))
      `(tactic| ((with_reducible apply $e);$[$todo:tactic];*))
    `(tactic| ((fail_if_success (with_reducible show Ev _ _ _ _ (Expr.Name (Str.ofString "??") default) _ _));first $[| $alts:tactic]*))
structure Rm (A:Around) (n:Nat):Prop where
  room:kZ A n
  quiet:A.handled=none
theorem Rm.less {A:Around} {n m:Nat} (R:Rm A n) (h:m≤n:=by first | decide | omega):Rm A m:=⟨R.room.less h,R.quiet⟩
theorem Rm.deeper {A:Around} {n:Nat} (R:Rm A (n+1)) (env:Env):Rm (A.deeper env) n:=⟨R.room.deeper env,R.quiet⟩
theorem dZ (n k:Nat):Builtin.bitAnd (n:Int) ((2 ^ k - 1:Nat):Int)=((n % 2 ^ k:Nat):Int):=by
  rw [bitAnd_pp (by omega) (by omega)]
  rw [Int.toNat_natCast,Int.toNat_natCast,Nat.and_two_pow_sub_one_eq_mod]
theorem fdiv_pow (n k:Nat):(n:Int).fdiv (2 ^ k)=((n / 2 ^ k:Nat):Int):=by
  rw [Int.fdiv_eq_ediv_of_nonneg _ (by exact_mod_cast Nat.zero_le _)]
  norm_cast
section
variable {w:World} {A:Around} {env:Env} {G:Led} {F:FM} {a b:Int} {n m:Nat} {v u:Value}
theorem w3 (hv:(PV.int n).Is w.params F v) (hu:(PV.int m).Is w.params F u):T w A F (binaryOp .RShift v u) G G (fun F v=>(PV.int (n / 2 ^ m:Nat)).Is w.params F v) :=
  T.imp (Q9 (by omega) hv hu) fun F' v l h=>by rw [Int.toNat_natCast,fdiv_pow] at h;exact h
theorem DT (hv:(PV.int n).Is w.params F v) (hu:(PV.int 255).Is w.params F u):T w A F (binaryOp .BitAnd v u) G G (fun F v=>(PV.int (n % 256:Nat)).Is w.params F v) :=
  T.imp (sC hv hu) fun F' v l h=>by rw [show(255:Int)=((2 ^ 8 - 1:Nat):Int) from rfl,dZ] at h;exact h
theorem mulOk {a b:Int} (ha:a.natAbs<2 ^ 64) (hb:b.natAbs<2 ^ 64):IntMulOk a b:=IntMulOk.of_le (intBits_le_iff.mpr ha) (intBits_le_iff.mpr hb) (by decide)
theorem xD (hh:A.handled=none) (hz:n≤1000000) (hu:(PV.int n).Is w.params F u):TX w A F (call (.type "range") [u]) G (fun G' F v=>G'=G∧gC w A F v (upTo n)) bG:=fun F1 H s h k Q E l S q y=>by
  obtain⟨t,rfl⟩:=hu
  refine call_range_1 ?_
  refine q _ _ _ _ _ (Le.put S.bE) (S.fix rfl) ⟨rfl,?_⟩
  exact yA (F:=F1.put h.objs.size _) hh FM.bO hz
end
section
variable {w:World} {A:Around} {env:Env} {G G0:Led} {F:FM} {x:Str} {px cpos:Pos}
theorem zB {ι:Type} {elt iter:Expr} {scope:Scope} {cl:List (Str×Addr)} {is:List ι} {g f:ι→PV}
    (hi:TX w A F0 (eval iter env) G (fun G1 F v=>G1=G0∧gC w A F v (is.map g)) bG) (hz:is.length≤1000000)
    (hs:∀ x,foldedSetIterable iter env x=pure x) (hclos:closureFor scope env=pure cl) (hkind:scope.kind=.function) (hnames:∀ x∈scope.names,x.2=.local→scope.names.lookup x.1=some .local)
    (hcell:∀ y∈scope.names,y.2≠.cell) (hx:scope.names.lookup x=some .local)
    (turn:∀ i∈is,∀ C,Ev w A (compEnvC scope cl C env) ((C,.frame [(x,g i)])::G0) elt (f i) ((C,.frame [(x,g i)])::G0)) :
    Ev w A env G (.ListComp elt [⟨.Name x px,iter,[],0⟩] scope cpos) (.lst (is.map f)) G0:=by
  refine TX.imp (NS (ps:=is.map g) (fun rest acc Γ=>Γ=G0∧∃ d r,is=d++r∧rest=r.map g∧acc=d.map f) (TX.imp hi (fun G' F' v l h=>⟨h.2,h.1,[],is,rfl,rfl,rfl⟩) fun xx xx xx xx h=>h) (by simpa using hz) hs hclos hkind hnames hcell hx
    (fun p rest acc Γ C xx I=>?_)) (fun G' F' v l h=>?_) fun xx xx xx xx h=>h
  · obtain⟨rfl,d,r,e,er,rfl⟩:=I
    cases r with
    | nil=>cases er
    | cons i r =>
      simp only [List.map_cons,List.cons.injEq] at er
      obtain⟨rfl,rfl⟩:=er
      refine nZ fun F' l=>?_
      refine TX.imp (turn i (by rw [e];simp) C) (fun G' F' v l h=>?_) fun xx xx xx xx h=>h
      exact⟨f i,_,_,h.2,h.1,rfl,d++[i],r,by simp [e],rfl,by simp⟩
  · obtain⟨acc,⟨rfl,d,r,e,er,rfl⟩,pv⟩:=h
    have:r=[]:=by cases r with | nil=>rfl | cons i r=>cases er
    subst this
    rw [List.append_nil] at e
    subst e
    exact⟨rfl,pv⟩
end
noncomputable def be (n m:Nat):List UInt8:=(List.range m).map fun i=>(n / 2 ^ (8*(m - 1 - i))).toUInt8
section
variable {w:World} {A:Around} {env:Env} {G G':Led} {e:Expr} {pos:Pos} {x:Str} {p q:PV} {F:FM} {v u:Value} {n m:Nat}
theorem L8 {i:Nat} {ρ:List (Str×PV)} (hl:env.scope.names.lookup x=some .local) (e:G[i]?=some (env.locals,.frame ρ)) (lk:Look ρ x p) (hk:env.scope.kind=.function) (hd:(x == ("__debug__":Str))=false):Ev w A env G (.Name x pos) p G:=Ev.name e lk hk hl hd
theorem uS {i:Nat} {c:Addr} (hl:env.scope.names.lookup x=some .cell) (hc:env.cells.lookup x=some c) (e:G[i]?=some (c,.cell p)) (hk:env.scope.kind=.function) (hd:(x == ("__debug__":Str))=false):Ev w A env G (.Name x pos) p G:=Ev.cell e hk hl hc hd
theorem L6 (hl:env.scope.names.lookup x=some .globalImplicit) (hp:yM.lookup x=some p) (hk:env.scope.kind=.function) (hg:env.globals=mainGlobals) (hd:(x == ("__debug__":Str))=false):Ev w A env G (.Name x pos) p G:=Ev.glob hp hk hl hg hd
theorem O7 (hl:env.scope.names.lookup x=some .globalImplicit) (hp:uK.lookup x=some v) (hk:env.scope.kind=.function) (hg:env.globals=mainGlobals) (hb:env.builtins=builtinsNs) (hd:(x == ("__debug__":Str))=false):Ev w A env G (.Name x pos) (.val v) G:=Ev.blt hp hk hl hg hb hd
theorem cC (h:Ev w A env G e p G') (i:p=q):Ev w A env G e q G':=i ▸ h
theorem pU (hn:n<2 ^ 62) (hm:m<2 ^ 62) (hv:(PV.int n).Is w.params F v) (hu:(PV.int m).Is w.params F u):T w A F (binaryOp .Mult v u) G G (fun F v=>(PV.int (n*m:Nat)).Is w.params F v):=T.imp (w0 (mulOk (by omega) (by omega)) hv hu) fun F v l h=>by rw [Int.natCast_mul];exact h
theorem bF (hv:(PV.int n).Is w.params F v) (hu:(PV.int m).Is w.params F u):T w A F (binaryOp .Add v u) G G (fun F v=>(PV.int (n+m:Nat)).Is w.params F v):=T.imp (HV hv hu) fun F v l h=>by rw [Int.natCast_add];exact h
end
section
variable {w:World} {A:Around} {G:Led} {F:FM} {n m:Nat} {vs:List Value}
theorem toUInt8_mod (n:Nat):(n % 256).toUInt8=n.toUInt8:=UInt8.toNat_inj.mp (by simp)
theorem NR {l:List Nat} {f:Nat→Nat}:toB (l.map fun i=>((f i % 256:Nat):Int))=l.map fun i=>(f i).toUInt8:=by
  unfold toB;rw [List.map_map];exact List.map_congr_left fun i xx=>by
    show((f i % 256:Nat):Int).toNat.toUInt8=_
    rw [Int.toNat_natCast,toUInt8_mod]
set_option maxHeartbeats 4000000 in
theorem c_be (R:Rm A 1) (hm:m≤8) (pv:aS w.params F [.int n,.int m] vs):T w A F (call (.ref 88) vs) G G (fun F v=>(PV.bytes (be n m)).Is w.params F v):=by
  obtain⟨v0,v1,rfl,p0,p1⟩:=pv.two
  refine TX.imp (TC.fnC (ρ:=[]) (N:=fun p G'=>p=.bytes (be n m)∧G'=G) (X:=bG) (cs:=fun n=>[(Str.ofString "many",n+2),(Str.ofString "number",n+1)])
    (fun x=>if x=Str.ofString "many" then some (.int m) else some (.int n)) (fn88 _) R.room.room (O0 _ _ _) (fun n=>?_) (fun n=>by rfl) (fun x p lk=>by cases lk) (fun L nc hm=>?_) fun L oc hoc=>?_).call (fun G' F' v l h=>?_) fun xx xx xx xx h=>h
  · intro x hx
    rcases List.mem_cons.mp hx with rfl | hx
    · exact .inr ⟨by rfl,by rfl⟩
    · rcases List.mem_cons.mp hx with rfl | hx
      · exact .inr ⟨by rfl,by rfl⟩
      · cases hx
  · rcases List.mem_cons.mp hm with rfl | hm
    · exact⟨by rfl,v1,by rfl,p1⟩
    · rcases List.mem_cons.mp hm with rfl | hm
      · exact⟨by rfl,v0,by rfl,p0⟩
      · cases hm
  · have R':=R.deeper (aT (aK 6) "big_endian" 88 (fun n=>[(Str.ofString "many",n+2),(Str.ofString "number",n+1)]) (.ref 87) L)
    exact XS.cons (XT.ret (Ev.call (by walk_at "ev") aV (aU.cons (zB (is:=List.range m) (g:=fun i=>.int (i:Nat)) (f:=fun i=>.int (n / 2 ^ (8*(m - 1 - i)) % 256:Nat))
      (TX.call (by walk_at "ev") aV (by walk_at "evs") (by rfl) fun vs F' pvs=>by
        obtain⟨v,rfl,hv⟩:=pvs.bH
        exact xD R'.quiet (by omega +splitMinMax) hv) (by simp;omega +splitMinMax) (fun xx=>rfl) (by rfl) (by rfl) (by decide) (by decide) (by rfl) (fun i hi C=>by
          have hi:=List.mem_range.mp hi
          apply Ev.bin
          · apply Ev.bin
            · walk_at "ev"
            · apply Ev.bin
              · walk_at "ev"
              · apply cC (q:=.int (m - 1 - i:Nat))
                · walk_at "ev"
                · exact congrArg PV.int (by omega +splitMinMax)
              · exact fun v u F hv hu=>pU (n:=8) (by decide) (by omega +splitMinMax) hv hu
            · walk_at "op"
          · walk_at "ev"
          · walk_at "op")) aU.nil (by rfl)) (by rfl) fun vs F' pvs=>by
      obtain⟨v,rfl,hv⟩:=pvs.bH
      refine tZ (ns:=(List.range m).map fun i=>((n / 2 ^ (8*(m - 1 - i)) % 256:Nat):Int)) R'.quiet ?_ (by simp;omega +splitMinMax) ?_
      · intro n hn
        obtain⟨i,_,rfl⟩:=List.mem_map.mp hn
        omega +splitMinMax
      · rw [List.map_map];exact hv) ⟨_,_,(Drop.snd rfl).trans (Drop.snd rfl),by rw [NR];rfl,rfl⟩)
  · obtain⟨p,pv,rfl,rfl⟩:=h
    exact⟨rfl,pv⟩
end
section
open Builtin Builtin.ObjectAttr
theorem A6 (self:Value):refuseLoop self "__setattr__" [.type "Exception",.type "BaseException",.type "object"]=pure ():=by kernel_rfl
noncomputable abbrev I8:List Value:=[.ref 32,.type "Exception",.type "BaseException",.type "object"]
inductive ON (P:Params) (C:Addr):Prop
  | mk (nm q:Str) (N:Addr) (bs:List Value) (sn:List Str) (sub:List Value) (ab:Bool) (col:Option Bool) (dd:Option Addr) (k0 k1 k2 k3 k5:Option Value) (h:(KF P).lookup C=some (excClassObj nm q C N bs I8 true sn sub ab col dd k0 k1 k2 k3 k5 "Exception.__new__"))
structure dD (P:Params) (C:Addr):Prop where
  obj:ON P C
  init:findIn (KF P) (.ref C) "__init__"=some (some (.ref 29))
  keep:keepIn (KF P) (.ref C)=true
  store:findIn (KF P) (.ref C) "__setattr__"=some (some (.builtin "object.__setattr__"))
  taker:takerIn (KF P) C "told"=some none
  hasD:hasDictIn (KF P) C=true
theorem eH (P:Params):dD P 81:=⟨⟨_,_,_,_,_,_,_,_,_,_,_,_,_,_,by rfl⟩,by kernel_rfl,by kernel_rfl,by kernel_rfl,by kernel_rfl,by kernel_rfl⟩
theorem x6 (P:Params):dD P 57:=⟨⟨_,_,_,_,_,_,_,_,_,_,_,_,_,_,by rfl⟩,by kernel_rfl,by kernel_rfl,by kernel_rfl,by kernel_rfl,by kernel_rfl⟩
theorem N6 (P:Params):dD P 69:=⟨⟨_,_,_,_,_,_,_,_,_,_,_,_,_,_,by rfl⟩,by kernel_rfl,by kernel_rfl,by kernel_rfl,by kernel_rfl,by kernel_rfl⟩
noncomputable abbrev dK (C t:Addr):Obj:={ cls:=.ref C,data:=.fields #[.ref t,.none,.none,.none,.bool false,.none] }
section
variable {w:World} {A:Around} {F:FM} {G:Led} {C e t:Addr} {v:Value} {p:PV}
theorem NG {R:Result→Shared→Prop} {s:Shared} {ox:Obj} {od:Option Obj} {tk:Tok} (X:(KF w.params).In s.heap) (Y:dD w.params C) (I:InstAt s.heap e ox C od)
    (h:∀ b,wpAny (MM w) A.in1 (storeInOwnDict (.ref e) (.ref C) (.str "told" tk) "told" v b)
      (fun fin s'=>match fin with | .done f=>R (.ok f) s' | .again c'=>c'.quiet=true∧codeAny (MM w) A c' R s') (fun e s'=>R (.error e) s') s) :
    codeAny (MM w) A (.call (.builtin "object.__setattr__") ⟨[.ref e,.str "told" tk,v],[]⟩) R s:=by
  have SF:=PySem.F.store_object
  obtain⟨nm,q,N,bs,sn,sub,ab,col,dd,k0,k1,k2,k3,k5,hC⟩:=Y.obj
  have hm:Looks (MM w) s.heap (mroOf (.ref C)) (.ref C::I8):=((Looks.ld (part:=none) (X _ _ hC)).andThen .now).andThen .now
  have sub:Looks (MM w) s.heap (isInstance (.ref e) (.type "object")) true:=I.type.andThen (looks_mroIn X (by unfold mroIn clsIn;rw [hC];rfl))
  refine codeAny_call_builtin SF.slot.plain SF.entry (@check_slot (MM w) _ _ s "object.__setattr__" "object" "__setattr__" (.ref e) [.str "told" tk,v] [] _ SF.kind SF.split sub (SF.args (.ref e) (.str "told" tk) v) ?_)
  have ht:=Y.taker
  unfold takerIn at ht
  obtain⟨attr,ha,hr⟩:=Option.bind_eq_some_iff.mp ht
  have L3:Looks (MM w) s.heap (storeTaker? attr) none:=by
    cases attr with
    | none=>exact .now
    | some a =>
      obtain⟨b,hb,hr⟩:=Option.map_eq_some_iff.mp hr
      refine(looks_takesIn X hb).andThen ?_
      cases b <;> first | exact .now | cases hr
  rw [osa_eq,refuse_eq]
  refine wpAny_bind (wpAny_bind (I.type.here (wpAny_bind (hm.here ?_))))
  rw [refuseLoop_ref,refuseLoop_ref,A6]
  refine wpAny_pure (wpAny_bind (I.type.here (wpAny_bind ((looks_findIn X ha).here (wpAny_bind (L3.here ?_))))))
  exact h _
theorem RN (Y:dD w.params C) (hv:p.Is w.params F v):TX w A F (PySem.setAttr (.ref e) "told" v) [(e,.raw (dK C t))] (fun G' F' xx=>G'=[(e,.exc C .none p)]) bG:=fun F1 H s h k Q E l S q x=>by
  have he:=(S.led _ (.head _)).1.1
  have I:InstAt h e (dK C t) C none:=⟨he,rfl,rfl,trivial⟩
  refine set_plain S.kf I Y.store (NG (s:=sh s h (k+1)) S.kf Y I fun b=>?_)
  obtain⟨nm,q',N,bs,sn,sub,ab,col,dd,k0,k1,k2,k3,k5,hC⟩:=Y.obj
  refine wpAny_bind (wpAny_pure (wpAny_bind (wpAny_bind (wpAny_loadPart he (wpAny_bind (wpAny_bind (wpAny_load (S.kf _ _ hC) (wpAny_pure ?_))))))))
  rw [if_neg (show ¬ ((!true)=true) by decide)]
  show wpAny (MM w) A.in1 (do
      let d ← alloc { cls:=Value.type "dict",data:=Data.dict #[] }
      update e fun o=>{ cls:=o.cls,dict:=some d,data:=o.data,slots:=o.slots }
      pure (some d)) _ _ _
  refine wpAny_bind (wpAny_alloc ?_)
  have S1:=S.push (o:=emptyDict) (p:=.ns [] []) rfl ⟨[],[],0,Heap.get?_push_size _ rfl,.nil,.nil⟩
  have he1:(h.push emptyDict).get? e=some (dK C t):=Heap.get?_push_of_some _ he
  generalize hD:h.objs.size=D at S1
  refine wpAny_bind (wpAny_update he1 (wpAny_pure ?_))
  have he2:((h.push emptyDict).update e fun o=>{ cls:=o.cls,dict:=some D,data:=o.data,slots:=o.slots }).get? e=some ⟨.ref C,some D,.fields #[.ref t,.none,.none,.none,.bool false,.none],#[]⟩:=Heap.get?_update_self _ he1 rfl
  have S2:Sb w A F1 _ ((e,.raw ⟨.ref C,some D,.fields #[.ref t,.none,.none,.none,.bool false,.none],#[]⟩)::(D,.ns [] [])::([]++H)):=(S1.perm (List.Perm.swap _ _ _)).upd (Heap.SameBut.update (h.push emptyDict) e fun o=>{ cls:=o.cls,dict:=some D,data:=o.data,slots:=o.slots }) ⟨he2,fun z=>by cases z⟩ rfl
  have hD2:((h.push emptyDict).update e fun o=>{ cls:=o.cls,dict:=some D,data:=o.data,slots:=o.slots }).get? D=some (dictOf [] 0):=by
    have ne:D≠e:=fun z=>by subst z;rw [← hD] at he;exact absurd (Heap.lt_size he) (Nat.lt_irrefl _)
    rw [Heap.get?_update_other _ _ (Ne.symm ne),← hD];exact Heap.get?_push_size _ rfl
  generalize ((h.push emptyDict).update e fun o=>{ cls:=o.cls,dict:=some D,data:=o.data,slots:=o.slots })=h2 at S2 hD2 he2
  show wpAny (MM w) A.in1 (newKeyGuard D "told" (.str "told" k) >>= fun xx=>nsSet D "told" v >>= fun xx=>lookBehind D (some (.str "told" 0)) >>= fun xx=>ret .none) _ _ (sh s h2 (k+1))
  refine wpAny_bind (wpAny_pure (wpAny_bind ?_))
  unfold nsSet
  refine wpAny_bind (wpAny_bind (wpAny_askSetting (wpAny_pure (wpAny_bind (wpAny_mkText (wpAny_bind (wpAny_loadPart hD2 ?_)))))))
  have e1:Obj.putName "told" (PyData.keyHash w.params "told") (.str "told" (k+1)) v (dictOf [] 0)=dictOf (putL "told" (PyData.keyHash w.params "told") (.str "told" (k+1)) v []) (putN "told" [] 0):=putName_dict ..
  have hD3:(h2.update D (Obj.putName "told" (PyData.keyHash w.params "told") (.str "told" (k+1)) v)).get? D=some (dictOf (putL "told" (PyData.keyHash w.params "told") (.str "told" (k+1)) v []) (putN "told" [] 0)):=by
    rw [Heap.get?_update_self _ hD2 (by rw [e1];rfl),e1]
  have S3:Sb w A F1 _ ((D,.ns ["told"] [p])::(e,.raw ⟨.ref C,some D,.fields #[.ref t,.none,.none,.none,.bool false,.none],#[]⟩)::([]++H)):=(S2.perm (List.Perm.swap _ _ _)).upd (Heap.SameBut.update h2 D (Obj.putName "told" (PyData.keyHash w.params "told") (.str "told" (k+1)) v))
    ⟨[v],_,_,hD3,.cons .nil,.one (hv.mono l)⟩ rfl
  dsimp only
  rw [aRefKeyMayBeTheName_at,show(!(#[]:Array DictEntry).any (·.key.isStr "told") && (#[]:Array DictEntry).any (fun xx=>xx.refKey))=false from by simp]
  refine wpAny_updatePart hD2 ?_
  refine wpAny_bind (wpAny_lookBehind hD3 (pastItsLine_dict (by rw [sizeLine_eq];show(1:Nat)≤_;omega)) ?_)
  have fD:=(S3.led _ (.head _)).2
  have lD:Le F1 (F1.put D (dictOf (putL "told" (PyData.keyHash w.params "told") (.str "told" (k+1)) v []) (putN "told" [] 0))):=Le.put fD
  have S4:=S3.freeze rfl hD3
  have he4:=(S4.led _ (.head _)).1.1
  refine wpAny_pure (q () _ _ _ [(e,.exc C .none p)] lD (S4.upd (p':=.exc C .none p) (Heap.SameBut.refl ..) ?_ rfl) rfl)
  exact⟨D,_,he4,rfl,rfl,⟨v,k+1,_,FM.bO,(hv.mono l).mono lD⟩,.inl rfl⟩
theorem E3 {told:Value} (hroom:A.depth<recursionLimit) (Y:dD w.params C) (hv:p.Is w.params F told):TC w A F 29 [.ref e,told] [(e,.raw (dK C t))] (fun G' F' v=>v=.none∧G'=[(e,.exc C .none p)]) bG:=by
  have h:=TC.fn (w:=w) (A:=A) (F:=F) (G:=[(e,.raw (dK C t))]) (N:=fun q G'=>q=.none∧G'=[(e,.exc C .none p)]) (X:=bG) (ps:=[.val (.ref e),p]) (vs':=[.ref e,told]) (fn29 _) hroom (fun s X=>@OX w s X (.ref e) told)
    (.cons rfl (.one hv)) nd29 lc29 nc29 (fun L=>?_)
  · exact fun F1 H s hh k R l S q x=>h F1 H s hh k R l S (fun v F' h' k' G' l' S' n=>q v F' h' k' G' l' S' (by obtain⟨q',pv,rfl,rfl⟩:=n;exact⟨pv,rfl⟩)) x
  · refine XS.cons fun F1 H s h k Q E l S q0 y=>?_
    refine plainObj_wpAny_Assign_Attribute ((Ev.name (i:=0) rfl (Look.tail (by decide) Look.head) rfl rfl) F1 H s h k _ E l S (fun v F' h' k' G'' l' S' eq=>by
      obtain⟨rfl,pv⟩:=eq
      refine(Ev.name (i:=0) rfl Look.head rfl rfl) F' H s h' k' _ E (Le.zero _) S' (fun u F2 h2 k2 G'' l2 S2 eq=>?_) fun xx xx xx xx xx xx xx xx xx xx n=>n.elim
      obtain⟨rfl,rfl⟩:=eq
      have:=(RN (w:=w) (A:=A.deeper (aT (aW 1 0) "GitError.__init__" 29 (fun xx=>[]) (.ref 28) L)) (t:=t) (e:=e) (F:=F2) Y (pv.mono l2)).frame [(L,.frame (NX.zip [.val (.ref e),p]))]
      refine this F2 H s h2 k2 _ E (.refl _) (S2.perm (List.Perm.swap _ _ _)) (fun xx F4 h4 k4 G'' l4 S4 eq=>?_) fun xx xx xx xx xx xx xx xx xx xx n=>let ⟨_,_,n⟩:=n;n.elim
      obtain⟨G1,rfl,rfl⟩:=eq
      exact q0 .next F4 h4 k4 _ ((l'.trans l2).trans l4) S4 (XS.nil ⟨_,_,Drop.perm (List.Perm.swap _ _ _),rfl,rfl⟩)) fun xx xx xx xx xx xx xx xx xx xx n=>n.elim) (by rfl)
theorem i8 (C:Addr):(Value.ref C::I8).contains (.type "Exception")=true∧(Value.ref C::I8).contains (.type "AttributeError")=false∧(Value.ref C::I8).contains (.type "NameError")=false∧(Value.ref C::I8).contains (.ref C)=true∧(Value.ref C::I8).contains (.type "BaseException")=true:=by
  simp [I8]
end
section
variable {w:World} {A:Around} {h:Heap} {g:Array GenState} {d:Drawn} {t:Nat} {os:OsState} {R:Result→Shared→Prop}
  {nm q:Str} {C N:Addr} {bs:List Value} {hdct:Bool} {sn:List Str} {sub:List Value} {ab:Bool} {col:Option Bool} {dd:Option Addr} {k0 k1 k2 k3 k5:Option Value}
theorem tG {M:Model} {E:Value→Shared→Prop} {rest:List Value} {Q:Unit→Shared→Prop} (hC:h.get? C=some (excClassObj nm q C N bs I8 hdct sn sub ab col dd k0 k1 k2 k3 k5 "Exception.__new__"))
    (hq:Q () ⟨h,g,d,t,os⟩):wpAny M A (checkBuiltinCall "Exception.__new__" ⟨.ref C::rest,[]⟩) Q E ⟨h,g,d,t,os⟩:=by
  have Fn:=PySem.F.excBase_Exception
  have hcont:=(i8 C).1
  have hstar:=Fn.noStar
  unfold checkBuiltinCall
  rw [Fn.newKind]
  dsimp only
  rw [Fn.newSplit]
  dsimp only
  rw [Fn.newRow]
  dsimp only
  repeat (first | refine wpAny_loadPart_at hC ?_ | (refine wpAny_isSubtype_exc hC ?_;rw [hcont]) | refine wpAny_staticBase_exc hC ?_ | refine wpAny_madeBy_exc hC ?_ | simp only [bne_self_eq_false,Bool.false_eq_true,if_false] | wp_step)
  exact hq
theorem uV {rest:List Value} (hC:h.get? C=some (excClassObj nm q C N bs I8 hdct sn sub ab col dd k0 k1 k2 k3 k5 "Exception.__new__"))
    (hq:R (.ok (.ret (.ref (h.objs.size+1)))) ⟨(h.push { cls:=.type "tuple",data:=.seq rest.toArray }).push (dK C h.objs.size),g,d,t,os⟩) (hrest:rest.length≤sizeLine:=by size_fits) :
    codeAny (MM w) A (.builtin "Exception.__new__" ⟨.ref C::rest,[]⟩) R ⟨h,g,d,t,os⟩:=by
  have Fn:=PySem.F.excBase_Exception
  have hends:=Fn.ends
  obtain⟨hcB,hcA,hcN,-,-⟩:=i8 C
  refine codeAny_builtinAt Fn.entry ?_
  unfold Builtin.«BaseException.__new__»
  refine PySem.wpAt_bind ?_
  show PySem.wpAt _ _ _ (stack >>= _) _ _ _
  refine PySem.wpAt_bind (PySem.wpAt_stack fun p below=>PySem.wpAt_of_wpAny ?_)
  wp_walk
  refine PySem.wpAt_of_wpAny ?_
  rw [Fn.owner]
  repeat (first | with_reducible refine wpAny_madeHere_exc Fn.canon hC ?_ | with_reducible refine wpAny_loadPart_at hC ?_ | (with_reducible refine wpAny_isSubtype_exc hC ?_;first | rw [hcB] | rw [hcA] | rw [hcN]) | wp_step)
  show R _ _
  rw [Heap.size_push]
  exact hq
end
section
variable {w:World} {A:Around} {F:FM} {G:Led} {C:Addr} {p:PV}
theorem pH {told:Value} (R:kZ A 2) (Y:dD w.params C) (hv:p.Is w.params F told):TX w A F (PySem.call (.ref C) [told]) G (fun G' F' v=>∃ e,v=.ref e∧G'=(e,.exc C .none p)::G) bG:=fun F1 H s h k Q E l S q0 y=>by
  obtain⟨nm,q,N,bs,sn,sub,ab,col,dd,k0,k1,k2,k3,k5,hK⟩:=Y.obj
  have hC:=S.kf _ _ hK
  have f1:=tc_lookup
  have f2:=tc_bind (.ref C)
  have hst:=(sh s h k).heap
  obtain⟨_,g,d,_,os⟩:=s
  show wpAny (MM w) A (PySem.call (.ref C) [told]) Q E ⟨h,g,d,k,os⟩
  have hT:(⟨h,g,d,k,os⟩:Shared).TypeIs (.ref C) "type":=⟨_,hC,rfl⟩
  refine wpAny_call (codeAny_of_tree ?_)
  show wpAny _ _ (callAny (.ref C) _) _ _ _
  repeat (any_goals (first | assumption | with_reducible refine wpAny_loadPart_at hC ?_ | wp_step))
  refine⟨rfl,?_⟩
  refine codeAny_call_builtin_at (Code.quiet_builtin _ (by decide +kernel)) entry_typeCall (wpAny_check_type_call_sub hC ?_)
  repeat (first | with_reducible refine wpAny_loadPart_at hC ?_ | with_reducible refine wpAny_madeBy_exc hC ?_ | wp_step)
  refine codeAny_call_builtin_code (Code.quiet_builtin _ PySem.F.excBase_Exception.quiet) (tG hC ?_)
  refine uV (rest:=[told]) hC ?_ (by rw [sizeLine_eq];show(1:Nat)≤_;omega)
  show wpAny _ _ _ _ _ _
  have S1:Sb w A F1 (h.push { cls:=.type "tuple",data:=.seq [told].toArray }) (G++H):=S.ext fun xx xx e=>Heap.get?_push_of_some _ e
  have S2:=S1.push (o:=dK C h.objs.size) (p:=.raw (dK C h.objs.size)) rfl ⟨Heap.get?_push_size _ rfl,fun z=>by cases z⟩
  rw [Heap.size_push] at S2
  show wpAny _ _ _ _ _ ⟨(h.push { cls:=.type "tuple",data:=.seq [told].toArray }).push (dK C h.objs.size),g,d,k,os⟩
  generalize (h.push { cls:=.type "tuple",data:=.seq [told].toArray }).push (dK C h.objs.size)=h2 at S2 ⊢
  generalize h.objs.size+1=e at S2 ⊢
  generalize h.objs.size=t at S2
  have I:InstAt h2 e (dK C t) C none:=⟨(S2.led _ (.head _)).1.1,rfl,rfl,trivial⟩
  have L1:Looks (MM w) h2 (isInstance (.ref e) (.ref C)) true:=I.type.andThen (looks_mroIn S2.kf (by unfold mroIn clsIn;rw [hK];exact congrArg some (i8 C).2.2.2.1))
  refine wpAny_bind (L1.here ?_)
  simp only [Bool.not_true,Bool.false_eq_true,if_false]
  refine wpAny_bind (wpAny_holding (special_fn (s:=⟨h2,g,d,k,os⟩) S2.kf I Y.init (by kernel_rfl) ?_))
  refine(E3 (w:=w) (t:=t) (F:=F1) ?_ Y (hv.mono l)).call F1 (G++H) ⟨h2,g,d,k,os⟩ h2 k _ _ (.refl _) (S2.frames rfl) (fun v F' h' k' G' l' S' n=>?_) fun xx xx xx xx xx xx xx xx xx xx n=>n.elim
  · show A.depth+1<1000;have:=R.depth;omega
  · obtain⟨rfl,rfl⟩:=n
    exact wpAny_pure (q0 _ F' h' k' ((e,.exc C .none p)::G) l' (S'.frames rfl) ⟨e,rfl,rfl⟩)
theorem A8 {told:Value} (R:Rm A 2) (Y:dD w.params C) (hv:p.Is w.params F told):TX w A F (PySem.call (.ref C) [told]) G (fun G' F' v=>∃ e,v=.ref e∧G'=(e,.exc C .none p)::G) bG:=pH R.room Y hv
theorem Rm.make {n:Nat} {vals:List Value} (R:Rm A (n+1)):Rm (A.under (.builtin "type.__call__" ⟨.ref C::vals,[]⟩)) n :=
  ⟨⟨by have:=R.room.depth;show A.depth+1+_<_;omega,by have:=R.room.units;show A.units+1+_<_;omega⟩,R.quiet⟩
theorem IX {env:Env} {x:Sem Value} {P:Out→Prop} (hh:A.handled=none)
    (h:TX w A F0 x G (fun G' F v=>∃ e C p Γ,v=.ref e∧dD w.params C∧G'=(e,.exc C .none p)::Γ∧P (.exc C .none p Γ)) (fun C c p G'=>P (.exc C c p G'))) :
    TX w A F0 (raiseStmt env (some x) none) G (mW w P) (fun C c p G'=>P (.exc C c p G')):=fun F1 H s h0 k Q E l S q0 y=>by
  unfold raiseStmt
  refine wpAny_bind (h F1 H s h0 k _ E l S (fun v F' h' k' G' l' S' n=>?_) y)
  obtain⟨e,C,p,Γ,rfl,Y,rfl,n⟩:=n
  obtain⟨nm,q,N,bs,sn,sub,ab,col,dd,k0,k1,k2,k3,k5,hK⟩:=Y.obj
  have hC:=S'.kf _ _ hK
  obtain⟨dx,vs,he,sz,e2,t,r⟩:=Sb.exc (G:=Γ++H) S'
  have hcB:=(i8 C).2.2.2.2
  obtain⟨_,g,d,_,os⟩:=s
  show wpAny (MM w) A _ _ E ⟨h',g,d,k',os⟩
  have S2:Sb w A F' h' ((e,.exc C .none p)::(Γ++H)):=S'
  repeat (first | (with_reducible refine wpAny_bind (b7 (s:=⟨h',g,d,k',os⟩) S2 fun h2 S3 xx=>wpAny_raiseNew_none hh (y e C .none p F' h2 k' Γ l' S3 n))) | with_reducible refine wpAny_loadPart_at he ?_ | with_reducible refine wpAny_loadPart_at hC ?_ | (with_reducible refine wpAny_isSubtype_exc hC ?_;rw [hcB]) | wp_step)
theorem XT.raise {env:Env} {x:Str} {np cpos pos:Pos} {arg:Expr} {G1:Led} {P:Out→Prop} (R:Rm A 2) (Y:dD w.params C) (hf:Ev w A env G (.Name x np) (.val (.ref C)) G) (ha:aU w A env G cpos [arg] [p] G1) (hp:(backTo cpos (starEach [arg] env)).any (fun xx=>xx.1)=false)
    (n:P (.exc C .none p G1)):XT w A env (.Raise (some (.Call (.Name x np) [arg] [] cpos)) none pos) G P:=by
  unfold XT
  rw [arm_exec_Raise]
  refine TX.at (IX R.quiet ?_)
  refine TX.bind (N:=fun G' F v=>∃ e,v=.ref e∧G'=(e,.exc C .none p)::G1) (TX.imp (TX.call (N:=fun G' F v=>∃ e,v=.ref e∧G'=(e,.exc C .none p)::G1) (X:=bG) hf (aB Y.keep) ha hp fun vs F' pvs=>?_) (fun xx xx xx xx h=>h) fun xx xx xx xx h=>h.elim) fun v F' G' l h=>?_
  · obtain⟨v,rfl,hv⟩:=pvs.bH
    exact A8 R Y hv
  · obtain⟨e,rfl,rfl⟩:=h
    exact TX.at (TX.pure fun F' l=>⟨e,C,p,G1,rfl,Y,rfl,n⟩)
end
end
theorem eV {a b i:Nat} (hb:b<2 ^ i):Builtin.bitOr ((2 ^ i*a:Nat):Int) (b:Int)=((2 ^ i*a+b:Nat):Int):=by
  rw [bitOr_and,bitAnd_pp (by omega) (by omega),Int.toNat_natCast,Int.toNat_natCast]
  have:2 ^ i*a &&& b=0:=by
    refine Nat.eq_of_testBit_eq fun j=>?_
    rw [Nat.testBit_and,Nat.zero_testBit]
    by_cases h:i≤j
    · rw [Nat.testBit_lt_two_pow (Nat.lt_of_lt_of_le hb (Nat.pow_le_pow_right (by decide) h)),Bool.and_false]
    · rw [Nat.testBit_two_pow_mul];simp [h]
  rw [this];omega
section
variable {w:World} {A:Around} {env:Env} {G:Led} {F:FM} {a b:Int} {n m:Nat} {v u:Value}
theorem DR (hv:(PV.int n).Is w.params F v) (hu:(PV.int 127).Is w.params F u):T w A F (binaryOp .BitAnd v u) G G (fun F v=>(PV.int (n % 128:Nat)).Is w.params F v) :=
  T.imp (sC hv hu) fun F' v l h=>by rw [show(127:Int)=((2 ^ 7 - 1:Nat):Int) from rfl,dZ] at h;exact h
theorem HW (hv:(PV.int n).Is w.params F v) (hu:(PV.int 15).Is w.params F u):T w A F (binaryOp .BitAnd v u) G G (fun F v=>(PV.int (n % 16:Nat)).Is w.params F v) :=
  T.imp (sC hv hu) fun F' v l h=>by rw [show(15:Int)=((2 ^ 4 - 1:Nat):Int) from rfl,dZ] at h;exact h
theorem MR (hv:(PV.int n).Is w.params F v) (hu:(PV.int 7).Is w.params F u):T w A F (binaryOp .BitAnd v u) G G (fun F v=>(PV.int (n % 8:Nat)).Is w.params F v) :=
  T.imp (sC hv hu) fun F' v l h=>by rw [show(7:Int)=((2 ^ 3 - 1:Nat):Int) from rfl,dZ] at h;exact h
theorem IA (hn:n<128) (hv:(PV.int 128).Is w.params F v) (hu:(PV.int n).Is w.params F u):T w A F (binaryOp .BitOr v u) G G (fun F v=>(PV.int (128+n:Nat)).Is w.params F v) :=
  T.imp (BY hv hu) fun F' v l h=>by rw [show(128:Int)=((2 ^ 7*1:Nat):Int) from rfl,eV hn] at h;exact h
theorem Q7 (hn:n<128) (hv:(PV.int n).Is w.params F v) (hu:(PV.int 128).Is w.params F u):T w A F (binaryOp .BitOr v u) G G (fun F v=>(PV.int (128+n:Nat)).Is w.params F v) :=
  T.imp (BY hv hu) fun F' v l h=>by rw [bitOr_comm,show(128:Int)=((2 ^ 7*1:Nat):Int) from rfl,eV hn] at h;exact h
theorem Q6 {x k:Nat} (hx:x<2 ^ k) (hv:(PV.int x).Is w.params F v) (hu:(PV.int ((n*2 ^ k:Nat))).Is w.params F u):T w A F (binaryOp .BitOr v u) G G (fun F v=>(PV.int (x+n*2 ^ k:Nat)).Is w.params F v) :=
  T.imp (BY hv hu) fun F' v l h=>by rw [bitOr_comm,show n*2 ^ k=2 ^ k*n from Nat.mul_comm ..,eV hx] at h;rw [Nat.mul_comm n,Nat.add_comm];exact h
theorem IB {x k:Nat} (hx:x<2 ^ k) (hv:(PV.int ((n*2 ^ k:Nat))).Is w.params F v) (hu:(PV.int x).Is w.params F u):T w A F (binaryOp .BitOr v u) G G (fun F v=>(PV.int (n*2 ^ k+x:Nat)).Is w.params F v) :=
  T.imp (BY hv hu) fun F' v l h=>by rw [show n*2 ^ k=2 ^ k*n from Nat.mul_comm ..,eV hx] at h;rw [Nat.mul_comm n];exact h
theorem w2 (hm:m≤1000000) (hn:n<2 ^ 63) (hv:(PV.int n).Is w.params F v) (hu:(PV.int m).Is w.params F u):T w A F (binaryOp .LShift v u) G G (fun F v=>(PV.int (n*2 ^ m:Nat)).Is w.params F v) :=
  T.imp (Q8 (by omega) (by omega) (by omega) hv hu) fun F' v l h=>by rw [Int.toNat_natCast] at h;exact_mod_cast h
theorem MV (hm:0<m) (hz:Builtin.divisionGoesByPylong n m=false) (hv:(PV.int n).Is w.params F v) (hu:(PV.int m).Is w.params F u):T w A F (binaryOp .FloorDiv v u) G G (fun F v=>(PV.int (n / m:Nat)).Is w.params F v) :=
  T.imp (MX (by omega) hz hv hu) fun F' v l h=>by
    rw [Int.fdiv_eq_ediv_of_nonneg _ (by omega)] at h;exact_mod_cast h
theorem wZ (hm:0<m) (hv:(PV.int n).Is w.params F v) (hu:(PV.int m).Is w.params F u):T w A F (binaryOp .Mod v u) G G (fun F v=>(PV.int (n % m:Nat)).Is w.params F v) :=
  T.imp (H7 (by omega) hv hu) fun F' v l h=>by
    rw [Int.fmod_eq_emod_of_nonneg _ (by omega)] at h;exact_mod_cast h
theorem sD (hv:(PV.int n).Is w.params F v) (hu:(PV.int m).Is w.params F u):T w A F (compareOp .Gt v u) G G (fun F v=>(PV.bool (decide (m<n))).Is w.params F v) :=
  T.imp (OJ hv hu) fun F' v l h=>by rw [show decide ((m:Int)<n)=decide (m<n) from by simp] at h;exact h
theorem sE (hv:(PV.int n).Is w.params F v) (hu:(PV.int m).Is w.params F u):T w A F (compareOp .Lt v u) G G (fun F v=>(PV.bool (decide (n<m))).Is w.params F v) :=
  T.imp (H5 hv hu) fun F' v l h=>by rw [show decide ((n:Int)<m)=decide (n<m) from by simp] at h;exact h
theorem HY (hv:(PV.int n).Is w.params F v) (hu:(PV.int m).Is w.params F u):T w A F (compareOp .GtE v u) G G (fun F v=>(PV.bool (decide (m≤n))).Is w.params F v) :=
  T.imp (OI hv hu) fun F' v l h=>by rw [show decide ((m:Int)≤n)=decide (m≤n) from by simp] at h;exact h
theorem A0 (hv:(PV.int n).Is w.params F v) (hu:(PV.int m).Is w.params F u):T w A F (compareOp .LtE v u) G G (fun F v=>(PV.bool (decide (n≤m))).Is w.params F v) :=
  T.imp (OK hv hu) fun F' v l h=>by rw [show decide ((n:Int)≤m)=decide (n≤m) from by simp] at h;exact h
end
section
variable {w:World} {A:Around} {env:Env} {G G' G1 G2 Γ:Led} {P:Out→Prop} {st:Stmt} {ss:List Stmt} {pos pos' apos cpos np:Pos} {e arg value test:Expr} {es:List Expr} {body:List Stmt} {x:Str} {p q:PV} {ρ:List (Str×PV)} {ps:List PV} {a:Addr} {F:FM}
theorem Ev.lit {i:Int} {k:Nat} {n:Nat} (h:i=n):Ev w A env G (.Constant (.int i) k pos) (.int n) G:=h ▸ Ev.int
theorem cR (ha:aU w A env G pos es ps G1) (hz:ps.length≤1000):TX w A F0 (eval (.List es pos) env) G (fun G' F v=>∃ a,v=.ref a∧G'=(a,.list ps)::G1) bG:=by
  show TX w A F0 (do standAt pos;newList (← spliced (backTo pos (starEach es env)))) _ _ _
  exact TX.at (T.N4 ha fun vs F' l pv=>T.yD pv (by omega))
theorem XT.dY {o:PO} (he:TX w A F0 (eval e env) ((env.locals,.frame ρ)::Γ) (fun G' F v=>∃ a,v=.ref a∧G'=(a,o)::(env.locals,.frame ρ)::Γ) bG) (n:∀ a,P (.next ((env.locals,.frame ((x,.val (.ref a))::ρ))::(a,o)::Γ)))
    (hk:env.scope.kind=.function) (hl:env.scope.names.lookup x=some .local) (hs:swapsWith e (some (.Name x pos')) pos.line env=pure false):XT w A env (.Assign [.Name x pos'] e pos) ((env.locals,.frame ρ)::Γ) P :=
  XT.cE (TX.gH he (fun G' F' v l h=>by
    obtain⟨a,rfl,rfl⟩:=h
    exact⟨_,⟨.val (.ref a),ρ,(a,o)::Γ,rfl,rfl,n a⟩,fun F2 h H S=>S.perm (List.Perm.swap _ _ _)⟩) fun xx xx xx xx h=>h.elim) hk hl hs
theorem XT.append {i:Nat} (hf:Ev w A env G value (.val (.ref a)) G1) (ha:aU w A env G1 cpos [arg] [p] G2) (hi:G1[i]?=some (a,.list qs)) (hi2:G2[j]?=some (a,.list ps)) (hz:ps.length≤1000000) (n:P (.next (G2.set j (a,.list (ps++[p])))))
    (hp:(backTo cpos (starEach [arg] env)).any (fun xx=>xx.1)=false) {pl:Sem Bool}
    (hc:eval (.Call (.Attribute value "append" apos) [arg] [] cpos) env=(do
      let ov ← eval value env
      standAt apos.atName
      let (f,first) ← holding [ov] (getMethod ov "append" pl)
      callWith cpos f first (backTo cpos (starEach [arg] env)) (backToKw cpos (keywordEach [] env))))
    (hin:interactive env=false) (hs:swapsWith (.Call (.Attribute value "append" apos) [arg] [] cpos) none pos.line env=pure false):XT w A env (.Expr (.Call (.Attribute value "append" apos) [arg] [] cpos) pos) G P :=
  XT.tU (TX.imp (fG (Ty:="list") (id:="list.append") hf PySem.F.plainAttrs_list slot_list_append PySem.F.type_list_append (fun v F1 h H pv S=>by
      cases pv
      obtain⟨vs,n,ha,_⟩:=(S.led _ (List.mem_append_left _ (List.mem_of_getElem? hi))).1
      exact⟨fun s hs=>⟨_,by rw [hs];exact ha,rfl⟩,fun b e=>by cases e;exact⟨_,ha,rfl⟩⟩) ha hp (fun v vs F' pv pvs=>by
        cases pv
        obtain⟨u,rfl,hu⟩:=pvs.bH
        exact(nW hi2 hz hu).x) hc) (fun G' F' v l h=>by
          obtain⟨rfl,rfl⟩:=h
          exact⟨fun a e=>(by cases e),n⟩) fun xx xx xx xx h=>h) hin hs
theorem XT.dU (Inv:Nat→Led→Prop) (n:Nat) (h0:Inv n G) (hA:cF A env) (hf:env.frame=some a)
    (turn:∀ n G,Inv n G→∃ b,Tr w A env G test b G∧(b=true→XS w A env body G (tO (fun G''=>∃ m,m<n∧Inv m G'') P))∧(b=false→P (.next G))):XT w A env (.While test body [] pos) G P :=
  XT.RR Inv n h0 hA hf fun n G I=>by
    obtain⟨b,ht,h1,h2⟩:=turn n G I
    refine TX.imp ht.x (fun G' F v l h=>?_) fun xx xx xx xx h=>h
    obtain⟨rfl,rfl⟩:=h
    cases v with
    | true=>exact h1 rfl
    | false=>exact h2 rfl
end
noncomputable def bb (l:List Nat):List UInt8:=l.map Nat.toUInt8
noncomputable def nums (l:List Nat):List PV:=l.map fun n=>.int (n:Nat)
theorem cA (l:List Nat) (n:Nat):nums l++[.int (n:Nat)]=nums (l++[n]):=by simp [nums]
theorem dO (l:List Nat):(nums l).length=l.length:=by simp [nums]
section
variable {w:World} {A:Around} {G:Led} {F:FM} {n:Nat} {v u:Value}
theorem NC (hv:(PV.int n).Is w.params F v) (hu:(PV.int 7).Is w.params F u):T w A F (binaryOp .RShift v u) G G (fun F v=>(PV.int (n / 128:Nat)).Is w.params F v):=w3 (m:=7) hv hu
theorem NB (hv:(PV.int n).Is w.params F v) (hu:(PV.int 4).Is w.params F u):T w A F (binaryOp .RShift v u) G G (fun F v=>(PV.int (n / 16:Nat)).Is w.params F v):=w3 (m:=4) hv hu
theorem M9 (hn:n<2 ^ 63) (hv:(PV.int n).Is w.params F v) (hu:(PV.int 4).Is w.params F u):T w A F (binaryOp .LShift v u) G G (fun F v=>(PV.int (n*16:Nat)).Is w.params F v):=w2 (m:=4) (by decide) hn hv hu
theorem NA (hn:n<2 ^ 63) (hv:(PV.int n).Is w.params F v) (hu:(PV.int 7).Is w.params F u):T w A F (binaryOp .LShift v u) G G (fun F v=>(PV.int (n*128:Nat)).Is w.params F v):=w2 (m:=7) (by decide) hn hv hu
end
section
variable {w:World} {A:Around} {G:Led} {F:FM} {ns:List Nat} {a:Addr}
theorem yF (ns:List Nat):nums ns=(ns.map fun n:Nat=>(n:Int)).map .int:=by simp [nums]
theorem B7 (ns:List Nat):toB (ns.map fun n:Nat=>(n:Int))=bb ns:=by simp [toB,bb]
theorem t4 {i:Nat} (hi:G[i]?=some (a,.list (nums ns))) (hh:A.handled=none) (hr:∀ n∈ns,n<256) (hz:ns.length≤16777216) :
    T w A F (PySem.call (.type "bytes") [.ref a]) G G (fun F v=>(PV.bytes (bb ns)).Is w.params F v):=by
  rw [← B7]
  refine DV (by rw [hi,yF]) hh (fun n hn=>?_) (by simpa using hz)
  obtain⟨m,hm,rfl⟩:=List.mem_map.mp hn
  have:=hr m hm;omega
theorem bV {v:Value} (hh:A.handled=none) (hr:∀ n∈ns,n<256) (hz:ns.length≤16777216) (hv:(PV.lst (nums ns)).Is w.params F v) :
    T w A F (PySem.call (.type "bytes") [v]) G G (fun F v=>(PV.bytes (bb ns)).Is w.params F v):=by
  rw [← B7]
  refine tZ hh (fun n hn=>?_) (by simpa using hz) (by rw [← yF];exact hv)
  obtain⟨m,hm,rfl⟩:=List.mem_map.mp hn
  have:=hr m hm;omega
end
section
variable {w:World} {A:Around} {env:Env} {G G' G1 G2 Γ:Led} {P:Out→Prop} {st:Stmt} {ss:List Stmt} {pos pos' cpos np:Pos} {e arg value test:Expr} {x:Str} {p q:PV} {ρ:List (Str×PV)} {C:Addr}
theorem Ev.aQ {f:Value} {ps:List PV} {es:List Expr} (hf:Ev w A env G (.Name x np) (.val f) G) (hk:cU w f) (ha:aU w A env G pos es ps G1) (hp:(backTo pos (starEach es env)).any (fun xx=>xx.1)=false)
    (hc:∀ vs F',aS w.params F' ps vs→T w A F' (PySem.call f vs) G1 G1 (fun F v=>p.Is w.params F v)):Ev w A env G (.Call (.Name x np) es [] pos) p G1:=Ev.call hf hk ha hp hc
theorem XS.ret (he:Ev w A env G e p G') (n:P (.ret p G')):XS w A env (.Return (some e) pos::ss) G P:=XS.cons (XT.ret he n)
theorem XS.raise (R:Rm A 2) (Y:dD w.params C) (hf:Ev w A env G (.Name x np) (.val (.ref C)) G) (ha:aU w A env G cpos [arg] [p] G1) (hp:(backTo cpos (starEach [arg] env)).any (fun xx=>xx.1)=false) (n:P (.exc C .none p G1)) :
    XS w A env (.Raise (some (.Call (.Name x np) [arg] [] cpos)) none pos::ss) G P:=XS.cons (XT.raise R Y hf ha hp n)
theorem XS.assign (he:Ev w A env G e p G') (hG:G'=(env.locals,.frame ρ)::Γ) (hk:env.scope.kind=.function) (hl:env.scope.names.lookup x=some .local) (hs:swapsWith e (some (.Name x pos')) pos.line env=pure false)
    (n:XS w A env ss ((env.locals,.frame ((x,p)::ρ))::Γ) P):XS w A env (.Assign [.Name x pos'] e pos::ss) G P:=XS.cons (XT.assign (hG ▸ he) n hk hl hs)
theorem XS.ifs {body orelse:List Stmt} {b:Bool} (ht:Tr w A env G test b G') (hT:b=true→XS w A env body G' (OP w A env ss P)) (hF:b=false→XS w A env orelse G' (OP w A env ss P)):XS w A env (.If test body orelse pos::ss) G P:=XS.cons (XT.ifs ht hT hF)
end
noncomputable def d9 (n:Nat):List Nat:=if n<128 then [n] else (n % 128+128)::d9 (n / 128)
termination_by n
decreasing_by omega
theorem I2:∀ n:Nat,∀ x∈d9 n,x<256:=fun n=>by
  induction n using Nat.strongRecOn with
  | _ n ih =>
    intro x hx
    rw [d9] at hx
    split at hx
    · simp at hx;omega
    · rcases List.mem_cons.mp hx with rfl | hx
      · omega
      · exact ih (n / 128) (by omega) x hx
theorem xI:∀ (k n:Nat),n<2 ^ (7*k)→0<k→(d9 n).length≤k
  | 0,_,_,h=>absurd h (by decide)
  | 1,n,h,_=>by rw [d9,if_pos (by simpa using h)];simp
  | k+2,n,h,_=>by
    rw [d9]
    split
    · simp
    · rw [List.length_cons]
      have:=xI (k+1) (n / 128) (by
        rw [Nat.div_lt_iff_lt_mul (by decide)]
        calc n<2 ^ (7*(k+2)):=h
          _=2 ^ (7*(k+1))*128:=by rw [show 7*(k+2)=7*(k+1)+7 by omega,Nat.pow_add]) (by omega)
      omega
inductive PsI (n:Nat) (L a:Addr) (G:Led) (m:Nat) (G':Led):Prop
  | mk (ρ:List (Str×PV)) (d:List Nat) (q0:G'=(L,.frame ρ)::(a,.list (nums d))::G) (q1:Look ρ "number" (.int m)) (q2:Look ρ "found" (.val (.ref a))) (q3:d9 n=d++d9 m)
section
variable {w:World} {A:Around} {G:Led} {F:FM} {n m:Nat} {vs:List Value}
set_option maxHeartbeats 4000000 in
theorem E1 (R:Rm A 2) (pv:aS w.params F [.int n] vs):T w A F (call (.ref 95) vs) G G (fun F v=>(PV.bytes (be n 4)).Is w.params F v):=by
  obtain⟨v0,rfl,p0⟩:=pv.bH
  refine T.fn (fn95 _) R.room.room (fun s X=>@OY w s X v0) (.one p0) nd95 lc95 nc95 fun L=>?_
  have R':=R.deeper (aT (aK 7) "be32" 95 (fun xx=>[]) (.ref 94) L)
  exact XS.ret (Ev.call (by walk_at "ev") (aB (by kernel_rfl)) (by walk_at "evs") (by rfl) fun vs F' pvs=>c_be (m:=4) R' (by decide) pvs) (bI.ret ⟨rfl,rfl⟩)
set_option maxHeartbeats 4000000 in
theorem y8 (R:Rm A 1) (hn:n<2 ^ 56) (pv:aS w.params F [.int n] vs):T w A F (call (.ref 116) vs) G G (fun F v=>(PV.bytes (bb (d9 n))).Is w.params F v):=by
  obtain⟨v0,rfl,p0⟩:=pv.bH
  refine T.fn (fn116 _) R.room.room (fun s X=>@JK w s X v0) (.one p0) nd116 lc116 nc116 fun L=>?_
  have R':=R.deeper (aT (aK 10) "put_size" 116 (fun xx=>[]) (.ref 115) L)
  refine XS.cons (XT.dY (cR (by walk_at "evs") (by decide)) (fun a=>?_) rfl rfl rfl)
  refine XS.cons (XT.dU (PsI n L a G) n ⟨_,[],rfl,.tail (by decide) .head,.head,rfl⟩ cF.deeper rfl (fun m G' I=>?_))
  obtain⟨ρ,d,rfl,l1,l2,e⟩:=I
  have hd:d.length≤8:=by have:=xI 8 n hn (by decide);rw [e,List.length_append] at this;omega
  refine⟨_,by walk_at "tr",fun h=>?_,fun h=>?_⟩
  · have h:127<m:=of_decide_eq_true h
    refine XS.cons (XT.append (by walk_at "ev") (by walk_at "evs") (i:=1) rfl (j:=1) rfl (by rw [dO];omega) ?_ rfl rfl rfl rfl)
    show XS _ _ _ _ (_::_::_) _
    refine XS.assign (by walk_at "ev") (by rfl) rfl rfl rfl (XS.nil ⟨m / 128,by omega,_,d++[128+m % 128],?_,.head,.tail (by decide) l2,?_⟩)
    · rw [← cA];rfl
    · rw [e,d9,if_neg (by omega),Nat.add_comm];simp
  · have h:¬ 127<m:=of_decide_eq_false h
    show XS _ _ _ _ _ _
    refine XS.cons (XT.append (by walk_at "ev") (by walk_at "evs") (i:=1) rfl (j:=1) rfl (by rw [dO];omega) ?_ rfl rfl rfl rfl)
    show XS _ _ _ _ (_::_::_) _
    refine XS.ret (p:=.bytes (bb (d9 n))) (Ev.aQ (by walk_at "ev") aV (by walk_at "evs") (by rfl) fun vs F' pvs=>?_) (by exact⟨_,G,Drop.snd (by rfl),rfl,rfl⟩)
    obtain⟨v,rfl,hv⟩:=pvs.bH
    cases hv
    have e2:d9 n=d++[m]:=by rw [e,d9.eq_1 m,if_pos (by omega)]
    refine t4 (ns:=d9 n) (i:=1) (by rw [e2,← cA];rfl) R'.quiet (I2 n) ?_
    rw [e2];simp;omega
end
section
variable {w:World} {A:Around} {env:Env} {G G' G1 G2 G3 Γ:Led} {P:Out→Prop} {pos pos' cpos np sp:Pos} {e x arg value test:Expr} {rest:List Expr} {p q:PV} {a b:Int} {n m:Nat} {F:FM} {v u:Value} {c:List UInt8} {ps:List PV} {lower upper:Option Expr} {lo hi:Option Int}
theorem lN (hf:Ev w A env G (.Name "len" np) (.val (.builtin "len")) G) (ha:aU w A env G pos [arg] [.bytes c] G1) (hp:(backTo pos (starEach [arg] env)).any (fun xx=>xx.1)=false) (hz:c.length≤16777216) :
    Ev w A env G (.Call (.Name "len" np) [arg] [] pos) (.int (c.length:Nat)) G1:=Ev.aQ hf dM ha hp fun vs F' pvs=>by
  obtain⟨v,rfl,hv⟩:=pvs.bH
  exact MZ (by omega) hv
theorem uT (hf:Ev w A env G (.Name "len" np) (.val (.builtin "len")) G) (ha:aU w A env G pos [arg] [.lst ps] G1) (hp:(backTo pos (starEach [arg] env)).any (fun xx=>xx.1)=false) (hz:ps.length≤16777216) :
    Ev w A env G (.Call (.Name "len" np) [arg] [] pos) (.int (ps.length:Nat)) G1:=Ev.aQ hf dM ha hp fun vs F' pvs=>by
  obtain⟨v,rfl,hv⟩:=pvs.bH
  exact M1 (by omega) hv
theorem uU {i:Nat} {a:Addr} (hf:Ev w A env G (.Name "len" np) (.val (.builtin "len")) G) (ha:aU w A env G pos [arg] [.val (.ref a)] G1) (hp:(backTo pos (starEach [arg] env)).any (fun xx=>xx.1)=false) (hi:G1[i]?=some (a,.list ps)) (hz:ps.length≤16777216) :
    Ev w A env G (.Call (.Name "len" np) [arg] [] pos) (.int (ps.length:Nat)) G1:=Ev.aQ hf dM ha hp fun vs F' pvs=>by
  obtain⟨v,rfl,hv⟩:=pvs.bH
  cases hv
  exact M3 hi (by omega)
theorem FC (ho:Ev w A env G value (.bytes c) G1) (hi:Ev w A env G1 x (.int n) G2) (h1:n<c.length) (hz:c.length≤16777216)
    (hs:∀ o i,subscripted x false o i=operate [o,i] (getItem o i)):Ev w A env G (.Subscript value x pos) (.int (c.getD n 0).toNat) G2 :=
  cC (Ev.itemB ho hi (by omega) (by omega) (by omega) hs) (by rw [Int.toNat_natCast])
theorem JH (hz:a=n) (hb:b=m):uH c (some a) (some b)=(c.drop n).take (m - n):=by
  subst hz hb
  unfold uH
  simp only [Option.elim,clipAt_nat]
  by_cases h:n≤c.length
  · rw [Nat.min_eq_left h]
    by_cases h2:m≤c.length
    · rw [Nat.min_eq_left h2]
    · rw [Nat.min_eq_right (show c.length≤m by omega)]
      rw [List.take_of_length_le (by simp),List.take_of_length_le (by simp;omega)]
  · rw [Nat.min_eq_right (show c.length≤n by omega),List.drop_eq_nil_of_le (Nat.le_refl _),List.drop_eq_nil_of_le (show c.length≤n by omega)];simp
theorem OW (hb:b=m):uH c none (some b)=c.take m:=by
  subst hb
  unfold uH
  simp only [Option.elim,clipAt_nat,List.drop_zero,Nat.sub_zero]
  by_cases h2:m≤c.length
  · rw [Nat.min_eq_left h2]
  · rw [Nat.min_eq_right (show c.length≤m by omega),List.take_of_length_le (Nat.le_refl _),List.take_of_length_le (by omega)]
theorem OV (hb:a=n):uH c (some a) none=c.drop n:=by
  subst hb
  unfold uH
  simp only [Option.elim,clipAt_nat]
  by_cases h:n≤c.length
  · rw [Nat.min_eq_left h,List.take_of_length_le (by simp)]
  · rw [Nat.min_eq_right (show c.length≤n by omega),List.drop_eq_nil_of_le (Nat.le_refl _),List.drop_eq_nil_of_le (show c.length≤n by omega)];simp
theorem tR (ho:Ev w A env G value (.bytes c) G1) (hl:Ev w A env G1 e (.int n) G2) (hu:Ev w A env G2 x (.int m) G3) (hz:c.length≤16777216) (ht:∀ o r,letTemporaryGo value o r=pure ()) :
    Ev w A env G (.Subscript value (.Slice (some e) (some x) none sp) pos) (.bytes ((c.drop n).take (m - n))) G3:=cC (Ev.xA ho (xM.some hl) (xM.some hu) hz ht) (by rw [JH rfl rfl])
theorem gF (ho:Ev w A env G value (.bytes c) G1) (hu:Ev w A env G1 x (.int m) G2) (hz:c.length≤16777216) (ht:∀ o r,letTemporaryGo value o r=pure ()) :
    Ev w A env G (.Subscript value (.Slice none (some x) none sp) pos) (.bytes (c.take m)) G2:=cC (Ev.xA ho xM.none (xM.some hu) hz ht) (by rw [OW rfl])
theorem tF (ho:Ev w A env G value (.bytes c) G1) (hu:Ev w A env G1 x (.int m) G2) (hz:c.length≤16777216) (ht:∀ o r,letTemporaryGo value o r=pure ()) :
    Ev w A env G (.Subscript value (.Slice (some x) none none sp) pos) (.bytes (c.drop m)) G2:=cC (Ev.xA ho (xM.some hu) xM.none hz ht) (by rw [OV rfl])
theorem XS.aE {ρ:List (Str×PV)} {ss:List Stmt} {y:Str} (hG:G=(env.locals,.frame ρ)::Γ) (hk:env.scope.kind=.function) (hl:env.scope.names.lookup y=some .local) (hs:swapsWith e (some (.Name y pos')) pos.line env=pure false)
    (he:Ev w A env G e p G) (n:XS w A env ss ((env.locals,.frame ((y,p)::ρ))::Γ) P):XS w A env (.Assign [.Name y pos'] e pos::ss) G P:=XS.assign he hG hk hl hs n
theorem XS.kX {ss:List Stmt} (he:Ev w A env G e p G) (n:P (.ret p G)):XS w A env (.Return (some e) pos::ss) G P:=XS.ret he n
theorem fB (h:m≤n) (hv:(PV.int n).Is w.params F v) (hu:(PV.int m).Is w.params F u):T w A F (binaryOp .Sub v u) G G (fun F v=>(PV.int (n - m:Nat)).Is w.params F v):=T.imp (w4 hv hu) fun F v l h'=>by rw [Int.natCast_sub h];exact h'
theorem MN (hv:(PV.int n).Is w.params F v) (hu:(PV.int 1).Is w.params F u):T w A F (binaryOp .Add v u) G G (fun F v=>(PV.int (n+1:Nat)).Is w.params F v):=bF (m:=1) hv hu
theorem MO (hv:(PV.int n).Is w.params F v) (hu:(PV.int 7).Is w.params F u):T w A F (binaryOp .Add v u) G G (fun F v=>(PV.int (n+7:Nat)).Is w.params F v):=bF (m:=7) hv hu
theorem H6 (hv:(PV.int n).Is w.params F v) (hu:(PV.int 128).Is w.params F u):T w A F (compareOp .Lt v u) G G (fun F v=>(PV.bool (decide (n<128))).Is w.params F v):=sE (m:=128) hv hu
theorem Q1 (hv:(PV.int n).Is w.params F v) (hu:(PV.int 0).Is w.params F u):T w A F (compareOp .Gt v u) G G (fun F v=>(PV.bool (decide (0<n))).Is w.params F v):=sD (m:=0) hv hu
theorem H0 (hv:(PV.int n).Is w.params F v) (hu:(PV.int 127).Is w.params F u):T w A F (compareOp .Gt v u) G G (fun F v=>(PV.bool (decide (127<n))).Is w.params F v):=sD (m:=127) hv hu
theorem NF (h:1≤n) (hv:(PV.int n).Is w.params F v) (hu:(PV.int 1).Is w.params F u):T w A F (binaryOp .Sub v u) G G (fun F v=>(PV.int (n - 1:Nat)).Is w.params F v):=fB (m:=1) h hv hu
end
section
variable {w:World} {A:Around} {env:Env} {G G' G1 G2 Γ:Led} {P:Out→Prop} {pos pos' cpos np:Pos} {e x arg value test:Expr} {rest:List Expr} {p q:PV} {a b:Int} {n m:Nat} {F:FM} {v u:Value}
theorem xG:Tr w A env G (.BoolOp .And [] pos) true G:=T.f9 fun F1 s Q E l q=>by
  rw [arm_isTrue_BoolOp];exact wpAny_allTrue_And_nil (q _ s.toks rfl)
theorem kY:Tr w A env G (.BoolOp .Or [] pos) false G:=T.f9 fun F1 s Q E l q=>by
  rw [arm_isTrue_BoolOp];exact wpAny_allTrue_Or_nil (q _ s.toks rfl)
theorem c8 {c d:Bool} (h1:Tr w A env G x c G) (h2:c=true→Tr w A env G (.BoolOp .And rest pos) d G):Tr w A env G (.BoolOp .And (x::rest) pos) (c && d) G:=fun F1 H s h k Q E l S q0 y=>by
  rw [arm_isTrue_BoolOp]
  refine wpAny_allTrue_And_cons (h1 F1 H s h k _ E l S (fun v F' h' k' G' l' S' n=>?_) y)
  obtain⟨rfl,rfl⟩:=n
  cases v with
  | false=>exact q0 _ F' h' k' _ l' S' ⟨rfl,rfl⟩
  | true =>
    have:=h2 rfl F' H s h' k' Q E (Le.zero _) S' (fun v F'' h'' k'' G'' l'' S'' n=>q0 v F'' h'' k'' G'' (l'.trans l'') S'' (by rw [n.2];exact⟨n.1,by simp⟩)) fun xx xx xx xx xx xx xx xx xx xx n=>n.elim
    rw [arm_isTrue_BoolOp] at this
    exact this
theorem dR {c d:Bool} (h1:Tr w A env G x c G) (h2:c=false→Tr w A env G (.BoolOp .Or rest pos) d G):Tr w A env G (.BoolOp .Or (x::rest) pos) (c || d) G:=fun F1 H s h k Q E l S q0 y=>by
  rw [arm_isTrue_BoolOp]
  refine wpAny_allTrue_Or_cons (h1 F1 H s h k _ E l S (fun v F' h' k' G' l' S' n=>?_) y)
  obtain⟨rfl,rfl⟩:=n
  cases v with
  | true=>exact q0 _ F' h' k' _ l' S' ⟨rfl,rfl⟩
  | false =>
    have:=h2 rfl F' H s h' k' Q E (Le.zero _) S' (fun v F'' h'' k'' G'' l'' S'' n=>q0 v F'' h'' k'' G'' (l'.trans l'') S'' (by rw [n.2];exact⟨n.1,by simp⟩)) fun xx xx xx xx xx xx xx xx xx xx n=>n.elim
    rw [arm_isTrue_BoolOp] at this
    exact this
theorem a3 {c d:Bool} (h:Tr w A env G e c G') (i:c=d):Tr w A env G e d G':=i ▸ h
theorem RP (y:Ev w A env G e (.int a) G') (he:isTrue e env (eval e env)=(do let v ← eval e env;standAt e.pos;PySem.holding [v] (truthy v))):Tr w A env G e (a != 0) G':=by
  unfold Tr
  rw [he]
  exact T.bind y fun v F1 l1 pv=>by obtain⟨t,rfl⟩:=pv;exact T.at (T.holding (T.f9 fun F1 s Q E l q=>PyProof.Rows.truthy_int (q _ s.toks rfl)))
noncomputable def PV.I9:PV→Bool
  | .none=>true
  | .val v=>v == Value.none
  | _=>false
theorem PV.Is.I9 {P:Params} {F:FM}:∀ {p:PV} {v:Value},p.Is P F v→(v == Value.none)=p.I9
  | .none,_,h=>by cases h;rfl
  | .bool b,_,h=>by cases h;rfl
  | .int i,_,h=>by obtain⟨_,rfl⟩:=h;rfl
  | .bytes i,_,h=>by obtain⟨_,rfl⟩:=h;rfl
  | .str i,_,h=>by obtain⟨_,rfl⟩:=h;rfl
  | .val u,_,h=>by obtain rfl:_=u:=h;rfl
  | .pO _ _ _,_,h=>by cases h.1;rfl
  | .tup _,_,h=>by obtain⟨_,_,_,rfl,_⟩:=h;rfl
  | .lst _,_,h=>by obtain⟨_,_,_,rfl,_⟩:=h;rfl
  | .inst _ _ _,_,h=>by obtain⟨_,_,_,_,_,rfl,_⟩:=h;rfl
theorem Q3 (hv:p.Is w.params F v) (hu:PV.none.Is w.params F u):T w A F (compareOp .Is v u) G G (fun F v=>(PV.bool p.I9).Is w.params F v):=T.f9 fun F1 s Q E l q=>by
  cases hu;exact is_none (q _ s.toks (by rw [hv.I9];rfl))
theorem DW (hv:p.Is w.params F v) (hu:PV.none.Is w.params F u):T w A F (compareOp .IsNot v u) G G (fun F v=>(PV.bool (!p.I9)).Is w.params F v):=T.f9 fun F1 s Q E l q=>by
  cases hu;exact isNot_none (q _ s.toks (by rw [hv.I9];rfl))
end
section
variable {w:World} {A:Around} {G:Led} {F:FM} {n:Nat} {v u:Value}
theorem DX (hv:(PV.int 256).Is w.params F v) (hu:(PV.int n).Is w.params F u):T w A F (binaryOp .Mult v u) G G (fun F v=>(PV.int (256*n:Nat)).Is w.params F v):=T.imp (w0 (IntMulOk.of_left (intBits_le_iff.mpr (by decide))) hv hu) fun F v l h=>by rw [Int.natCast_mul];exact h
end
noncomputable def c7 (l:List UInt8) (n:Nat):Nat:=l.foldl (fun n c=>256*n+c.toNat) n
inductive AbI (x:List UInt8) (at' m:Nat) (L:Addr) (G:Led) (rest:List PV) (G':Led):Prop
  | mk (d:List UInt8) (l:List UInt8) (ρ:List (Str×PV)) (q0:(x.drop at').take m=d++l) (q1:rest=AZ l) (q2:G'=(L,.frame ρ)::G) (q3:Look ρ "number" (.int (c7 d 0)))
section
variable {w:World} {A:Around} {G:Led} {F:FM} {n m at':Nat} {vs:List Value} {x:List UInt8}
set_option maxHeartbeats 4000000 in
theorem LW (R:Rm A 1) (hz:x.length≤16777216) (hm:m≤8) (hat:at'+m≤x.length) (pv:aS w.params F [.bytes x,.int at',.int m] vs):T w A F (call (.ref 102) vs) G G (fun F v=>(PV.int (c7 ((x.drop at').take m) 0)).Is w.params F v):=by
  obtain⟨v0,us,rfl,p0,pv'⟩:=pv.aZ
  obtain⟨v1,v2,rfl,p1,p2⟩:=pv'.two
  refine T.fn (fn102 _) R.room.room (fun s X=>@JI w s X v0 v1 v2) pv nd102 lc102 nc102 fun L=>?_
  have R':=R.deeper (aT (aK 8) "at_big_endian" 102 (fun xx=>[]) (.ref 101) L)
  refine XS.ifs (b:=false) (a3 (dR (by walk_at "tr") fun xx=>dR (by walk_at "tr") fun xx=>kY) ?_) (fun h=>by cases h) fun xx=>XS.nil ?_
  · simp;omega
  show XS _ _ _ _ _ _
  refine XS.assign (p:=.int (0:Nat)) (by walk_at "ev") (by rfl) rfl rfl rfl ?_
  refine XS.cons (XT.DJ (ps:=AZ ((x.drop at').take m)) (AbI x at' m L G) ?_ cF.deeper rfl (fun xx=>rfl) (fun p rest G' I v F' hv=>?_) fun G' I=>?_)
  · refine TX.imp (T.x (P:=fun F v=>PV.Is w.params F (.bytes ((x.drop at').take (at'+m - at'))) v) (by walk_at "ev")) (fun G' F v l h=>?_) fun xx xx xx xx h=>h
    obtain⟨rfl,h⟩:=h
    rw [Nat.add_sub_cancel_left] at h
    exact⟨x9 R'.quiet h,[],_,_,rfl,rfl,rfl,.head⟩
  · obtain⟨d,l,ρ,e,er,rfl,lk⟩:=I
    cases l with
    | nil=>cases er
    | cons c l0 =>
      simp only [AZ,List.map_cons,List.cons.injEq] at er
      obtain⟨rfl,rfl⟩:=er
      refine TX.imp (cD (env:=aT (aK 8) "at_big_endian" 102 (fun xx=>[]) (.ref 101) L) hv rfl rfl) (fun G' F v l h=>?_) fun xx xx xx xx h=>h
      subst h
      refine XS.aE (p:=.int (256*c7 d 0+c.toNat:Nat)) rfl rfl rfl rfl ?_ (XS.nil ⟨d++[c],l0,_,by rw [e];simp,rfl,rfl,?_⟩)
      · exact Ev.bin (Ev.bin (by walk_at "ev") (by walk_at "ev") fun v u F hv hu=>DX (n:=c7 d 0) hv hu) (by walk_at "ev") (by walk_at "op")
      · unfold c7;rw [List.foldl_append];exact .head
  · obtain⟨d,l,ρ,e,er,rfl,lk⟩:=I
    cases l with
    | cons c l=>cases er
    | nil =>
      rw [List.append_nil] at e
      subst e
      show XS _ _ _ _ _ _
      exact XS.ret (by walk_at "ev") (bI.ret ⟨rfl,rfl⟩)
end
noncomputable def A5:List UInt8→Nat→Nat→Nat→Option (Nat×Nat)
  | [],_,_,_=>none
  | c::l,i,k,x=>if c.toNat<128 then some (x+c.toNat % 128*2 ^ k,i+1) else A5 l (i+1) (k+7) (x+c.toNat % 128*2 ^ k)
theorem dP (c:UInt8) (l:List UInt8) (i k x:Nat):A5 (c::l) i k x=if c.toNat<128 then some (x+c.toNat % 128*2 ^ k,i+1) else A5 l (i+1) (k+7) (x+c.toNat % 128*2 ^ k):=rfl
inductive AsI (x:List UInt8) (at':Nat) (L:Addr) (G:Led) (n:Nat) (G':Led):Prop
  | mk (i:Nat) (k:Nat) (X:Nat) (ρ:List (Str×PV)) (q0:G'=(L,.frame ρ)::G) (q1:Look ρ "octets" (.bytes x)) (q2:Look ρ "at" (.int (i:Nat))) (q3:Look ρ "number" (.int (X:Nat))) (q4:Look ρ "shift" (.int (k:Nat))) (q5:X<2 ^ k) (q6:k≤7*i) (q7:n=x.length - i) (q8:(i≤x.length∨i=at')) (q9:A5 (x.drop at') at' 0 0=A5 (x.drop i) i k X)
section
variable {w:World} {A:Around} {G:Led} {F:FM} {n m at':Nat} {vs:List Value} {x:List UInt8}
set_option maxHeartbeats 4000000 in
theorem tP (R:Rm A 2) (hz:x.length≤16777216) (hat:at'+4≤x.length) (pv:aS w.params F [.bytes x,.int at'] vs):T w A F (call (.ref 109) vs) G G (fun F v=>(PV.int (c7 ((x.drop at').take 4) 0)).Is w.params F v):=by
  obtain⟨v0,v1,rfl,p0,p1⟩:=pv.two
  refine T.fn (fn109 _) R.room.room (fun s X=>@JJ w s X v0 v1) pv nd109 lc109 nc109 fun L=>?_
  have R':=R.deeper (aT (aK 9) "at_be32" 109 (fun xx=>[]) (.ref 108) L)
  exact XS.ret (Ev.call (by walk_at "ev") (aB (by kernel_rfl)) (by walk_at "evs") (by rfl) fun vs F' pvs=>LW (m:=4) R' hz (by decide) hat pvs) (bI.ret ⟨rfl,rfl⟩)
set_option maxHeartbeats 4000000 in
theorem DH (R:Rm A 3) (hz:x.length≤100000) (pv:aS w.params F [.bytes x,.int at'] vs) :
    TX w A F (call (.ref 123) vs) G (fun G' F v=>∃ p:PV,p.Is w.params F v∧G'=G∧∃ r,A5 (x.drop at') at' 0 0=some r∧p=.tup [.int r.1,.int r.2]) (fun C c p G'=>C=69∧c=.none∧G'=G∧A5 (x.drop at') at' 0 0=none):=by
  obtain⟨v0,v1,rfl,p0,p1⟩:=pv.two
  refine TX.fn (N:=fun p G'=>G'=G∧∃ r,A5 (x.drop at') at' 0 0=some r∧p=.tup [.int r.1,.int r.2]) (fn123 _) R.room.room (fun s X=>@JL w s X v0 v1) pv nd123 lc123 nc123 fun L=>?_
  have R':=R.deeper (aT (aK 11) "at_size" 123 (fun xx=>[]) (.ref 122) L)
  refine XS.aE (p:=.int (0:Nat)) rfl rfl rfl rfl (by walk_at "ev") (XS.aE (p:=.int (0:Nat)) rfl rfl rfl rfl (by walk_at "ev") ?_)
  refine XS.cons (XT.dU (AsI x at' L G)
    (x.length - at') ⟨at',0,0,_,rfl,.tail (by decide) (.tail (by decide) .head),.tail (by decide) (.tail (by decide) (.tail (by decide) .head)),.tail (by decide) .head,.head,by decide,by omega,rfl,.inr rfl,rfl⟩ cF.deeper rfl (fun n G' I=>?_))
  obtain⟨i,k,X,ρ,rfl,l1,l2,l3,l4,hX,hk,rfl,hi,e⟩:=I
  refine⟨true,Tr.of Ev.bool rfl,fun xx=>?_,fun h=>by cases h⟩
  refine XS.ifs (b:=decide (x.length≤i)) (by walk_at "tr") (fun h=>?_) fun h=>XS.nil ?_
  · have h:x.length≤i:=of_decide_eq_true h
    refine XS.raise R'.less (N6 _) (by walk_at "ev") (by walk_at "evs") (by rfl) ⟨_,_,Drop.refl _,rfl,rfl,rfl,?_⟩
    rw [e,List.drop_eq_nil_of_le h];rfl
  · have h:¬ x.length≤i:=of_decide_eq_false h
    have hi':i<x.length:=by omega
    have hg:x.drop i=x.getD i 0::x.drop (i+1):=by
      rw [List.drop_eq_getElem_cons hi',List.getD_eq_getElem?_getD,List.getElem?_eq_getElem hi'];rfl
    rw [hg,dP] at e
    generalize hc:(x.getD i 0).toNat=c at e
    show XS _ _ _ _ _ _
    refine XS.aE (p:=.int c) rfl rfl rfl rfl (by rw [← hc];walk_at "ev") ?_
    refine XS.aE (p:=.int (i+1:Nat)) rfl rfl rfl rfl (by walk_at "ev") ?_
    refine XS.aE (p:=.int (X+c % 128*2 ^ k:Nat)) rfl rfl rfl rfl (by walk_at "ev") ?_
    refine XS.aE (p:=.int (k+7:Nat)) rfl rfl rfl rfl (by walk_at "ev") ?_
    refine XS.ifs (b:=decide (c<128)) (by walk_at "tr") (fun h=>?_) fun h=>XS.nil (XS.nil ?_)
    · rw [if_pos (of_decide_eq_true h)] at e
      exact XS.kX (by walk_at "ev") (by exact⟨_,_,Drop.refl _,rfl,_,e,rfl⟩)
    · have h:¬ c<128:=of_decide_eq_false h
      rw [if_neg h] at e
      refine⟨x.length - (i+1),by omega,i+1,k+7,X+c % 128*2 ^ k,_,rfl,by walk_at "look",by walk_at "look",by walk_at "look",by walk_at "look",?_,by omega,rfl,.inl hi',e⟩
      rw [Nat.pow_add]
      have:c % 128*2 ^ k≤127*2 ^ k:=Nat.mul_le_mul_right _ (by omega)
      omega
end
noncomputable def PE:List (List UInt8×PV):=[([99,111,109,109,105,116],.int 1),([116,114,101,101],.int 2),([98,108,111,98],.int 3),([116,97,103],.int 4)]
noncomputable def BR:List (Int×PV):=[(1,.bytes [99,111,109,109,105,116]),(2,.bytes [116,114,101,101]),(3,.bytes [98,108,111,98]),(4,.bytes [116,97,103])]
section
variable {w:World} {A:Around} {F:FM} {h:Heap} {G:Led}
theorem N9 (S:Sb w A F h G):DB w (bytesKind pw w) PE F h 168:=by
  refine⟨by decide,[([99,111,109,109,105,116],.int 1 408),([116,114,101,101],.int 2 410),([98,108,111,98],.int 3 412),([116,97,103],.int 4 414)],⟨iD w.params,_,_,S.hp _ _ (pW (by decide) (by kernel_rfl) (by kernel_rfl)),⟨rfl,rfl,rfl⟩,rfl,?_,?_,by decide⟩,rfl,?_⟩
  · intro e he
    simp only [List.mem_toArray,List.mem_cons,List.not_mem_nil,or_false] at he
    rcases he with rfl | rfl | rfl | rfl <;> exact⟨_,bytesKind_is _ _ _ _,rfl⟩
  · exact .cons (bytesKind_is _ _ _ _) rfl (.cons (bytesKind_is _ _ _ _) rfl (.cons (bytesKind_is _ _ _ _) rfl (.cons (bytesKind_is _ _ _ _) rfl .nil)))
  · exact .cons ⟨_,rfl⟩ (.cons ⟨_,rfl⟩ (.cons ⟨_,rfl⟩ (.cons ⟨_,rfl⟩ .nil)))
theorem hasNK (S:Sb w A F h G):DB w (intKind pw w) BR F h 169:=by
  refine⟨by decide,[(1,.bytes #[99,111,109,109,105,116] 421),(2,.bytes #[116,114,101,101] 423),(3,.bytes #[98,108,111,98] 425),(4,.bytes #[116,97,103] 427)],⟨kV w.params,_,_,S.hp _ _ (pW (by decide) (by kernel_rfl) (by kernel_rfl)),⟨rfl,rfl,rfl⟩,rfl,?_,?_,by decide⟩,rfl,?_⟩
  · intro e he
    simp only [List.mem_toArray,List.mem_cons,List.not_mem_nil,or_false] at he
    rcases he with rfl | rfl | rfl | rfl <;> exact⟨_,intKind_is _ _ _ _,rfl⟩
  · exact .cons (intKind_is _ _ _ _) rfl (.cons (intKind_is _ _ _ _) rfl (.cons (intKind_is _ _ _ _) rfl (.cons (intKind_is _ _ _ _) rfl .nil)))
  · exact .cons ⟨_,rfl⟩ (.cons ⟨_,rfl⟩ (.cons ⟨_,rfl⟩ (.cons ⟨_,rfl⟩ .nil)))
end
section
variable {w:World} {A:Around} {env:Env} {G G' G1 G2:Led} {e:Expr} {pos:Pos} {F:FM} {v u:Value} {i:Int} {n:Nat}
theorem A1 (hv:(PV.int i).Is w.params F v) (hu:(PV.val (.ref 169)).Is w.params F u):T w A F (compareOp .NotIn v u) G G (fun F v=>(PV.bool (!(bJ BR i).isSome)).Is w.params F v):=fun F1 H s h kk Q E l S q x=>by
  obtain⟨t,rfl⟩:=hv;cases hu
  exact sT (hasNK S) (intKind_is _ _ _ _) (q _ F1 h _ G (.refl _) S ⟨rfl,rfl⟩)
theorem nD (h:Ev w A env G e (.int i) G'):Ev w A env G (.UnaryOp .USub e pos) (.int (-i)) G':=by
  unfold Ev
  rw [arm_eval_UnaryOp]
  exact T.bind h fun v F1 l1 pv=>T.at (T.holding (T.f9 fun F2 s Q E l q=>by obtain⟨t,rfl⟩:=pv;exact PyProof.Rows.neg_int (q _ _ ⟨_,rfl⟩)))
theorem OR:∀ n<256,n &&& 128=n / 128*128:=by decide +kernel
theorem DS (hn:n<256) (hv:(PV.int n).Is w.params F v) (hu:(PV.int 128).Is w.params F u):T w A F (binaryOp .BitAnd v u) G G (fun F v=>(PV.int (n / 128*128:Nat)).Is w.params F v) :=
  T.imp (sC hv hu) fun F' v l h=>by
    rw [show(128:Int)=((128:Nat):Int) from rfl,bitAnd_pp (by omega) (by omega),Int.toNat_natCast,Int.toNat_natCast,OR n hn] at h;exact h
end
noncomputable def pR (n:Nat):List Nat:=if n=0 then [] else (128+(n - 1) % 128)::pR ((n - 1) / 128)
termination_by n
decreasing_by omega
noncomputable def bk (n:Nat):List Nat:=(n % 128::pR (n / 128)).reverse
theorem O3:∀ n:Nat,∀ x∈pR n,x<256:=fun n=>by
  induction n using Nat.strongRecOn with
  | _ n ih =>
    intro x hx
    rw [pR] at hx
    split at hx
    · cases hx
    · rcases List.mem_cons.mp hx with rfl | hx
      · omega +splitMinMax
      · exact ih ((n - 1) / 128) (by omega +splitMinMax) x hx
theorem uJ:∀ (k n:Nat),n<2 ^ (7*k)→(pR n).length≤k
  | 0,n,h=>by
                  have:n=0:=by simpa using h
                  subst this;rw [pR];simp
  | k+1,n,h=>by
    rw [pR]
    split
    · simp
    · rw [List.length_cons]
      have:=uJ k ((n - 1) / 128) (by
        rw [Nat.div_lt_iff_lt_mul (by decide)]
        have:2 ^ (7*(k+1))=2 ^ (7*k)*128:=by rw [show 7*(k+1)=7*k+7 by omega,Nat.pow_add]
        omega)
      omega
theorem N5 (n:Nat):∀ x∈bk n,x<256:=fun x hx=>by
  rw [bk,List.mem_reverse] at hx
  rcases List.mem_cons.mp hx with rfl | hx
  · omega
  · exact O3 _ x hx
theorem mZ {n:Nat} (h:n<2 ^ 56):(bk n).length≤8:=by
  have:=uJ 7 (n / 128) (by rw [Nat.div_lt_iff_lt_mul (by decide)];omega)
  simp [bk];omega
inductive PoI (n:Nat) (L a:Addr) (G:Led) (m:Nat) (G':Led):Prop
  | mk (ρ:List (Str×PV)) (d:List Nat) (q0:G'=(L,.frame ρ)::(a,.list (nums d))::G) (q1:Look ρ "number" (.int m)) (q2:Look ρ "found" (.val (.ref a))) (q3:n % 128::pR (n / 128)=d++pR m)
section
variable {w:World} {A:Around} {G:Led} {F:FM} {n m at':Nat} {vs:List Value} {x:List UInt8}
theorem yG (l:List Nat):(nums l).reverse=nums l.reverse:=by simp [nums]
set_option maxHeartbeats 4000000 in
theorem uN (R:Rm A 1) (hn:n<2 ^ 56) (pv:aS w.params F [.int n] vs):T w A F (call (.ref 130) vs) G G (fun F v=>(PV.bytes (bb (bk n))).Is w.params F v):=by
  obtain⟨v0,rfl,p0⟩:=pv.bH
  refine T.fn (fn130 _) R.room.room (fun s X=>@JM w s X v0) (.one p0) nd130 lc130 nc130 fun L=>?_
  have R':=R.deeper (aT (aK 12) "put_offset" 130 (fun xx=>[]) (.ref 129) L)
  refine XS.cons (XT.dY (o:=.list [.int (n % 128:Nat)]) (cR (by walk_at "evs") (by simp)) (fun a=>?_) rfl rfl rfl)
  refine XS.aE (p:=.int (n / 128:Nat)) rfl rfl rfl rfl (by walk_at "ev") ?_
  refine XS.cons (XT.dU (PoI n L a G) (n / 128) ⟨_,[n % 128],rfl,.head,.tail (by decide) .head,rfl⟩ cF.deeper rfl (fun m G' I=>?_))
  obtain⟨ρ,d,rfl,l1,l2,e⟩:=I
  have hd:d.length≤8:=by
    have:=mZ hn
    rw [bk,e] at this;simp at this;omega
  refine⟨decide (0<m),by walk_at "tr",fun h=>?_,fun h=>?_⟩
  · have h:0<m:=of_decide_eq_true h
    refine XS.aE (p:=.int (m - 1:Nat)) rfl rfl rfl rfl (by walk_at "ev") ?_
    refine XS.cons (XT.append (by walk_at "ev") (by walk_at "evs") (i:=1) rfl (j:=1) rfl (by rw [dO];omega) ?_ rfl rfl rfl rfl)
    show XS _ _ _ _ (_::_::_) _
    refine XS.aE (p:=.int ((m - 1) / 128:Nat)) rfl rfl rfl rfl (by walk_at "ev") (XS.nil ⟨(m - 1) / 128,by omega,_,d++[128+(m - 1) % 128],by rw [← cA];rfl,by walk_at "look",by walk_at "look",?_⟩)
    · rw [e,pR,if_neg (by omega)];simp
  · have h:¬ 0<m:=of_decide_eq_false h
    have hm:m=0:=by omega
    subst hm
    rw [show pR 0=[] by rw [pR];rfl,List.append_nil] at e
    show XS _ _ _ _ (_::_::_) _
    refine XS.ret (p:=.bytes (bb (bk n))) (Ev.aQ (by walk_at "ev") aV (aU.cons (oD (j:=1) (by walk_at "ev") (nD Ev.int) rfl (by rw [dO];omega) (fun xx xx=>rfl)) aU.nil (by rfl)) (by rfl) fun vs F' pvs=>?_) (by exact⟨_,G,Drop.snd (by rfl),rfl,rfl⟩)
    obtain⟨v,rfl,hv⟩:=pvs.bH
    rw [yG] at hv
    refine bV (ns:=bk n) R'.quiet (N5 n) (by have:=mZ hn;omega) (by rw [bk,e];exact hv)
end
noncomputable def aL (w:World) (A:Around) (env:Env) (G:Led) (pos:Pos) (es:List Expr) (N:List PV→Led→Prop):Prop :=
  TX w A F0 (spliced (backTo pos (starEach es env))) G (fun G' F vs=>∃ ps,aS w.params F ps vs∧N ps G') bG
section
variable {w:World} {A:Around} {env:Env} {G G' G1 G2 Γ:Led} {P:Out→Prop} {pos cpos vp tpos:Pos} {e:Expr} {es elts:List Expr} {ss:List Stmt} {p q:PV} {ps:List PV} {ρ:List (Str×PV)} {ns:List Str} {F:FM} {N:List PV→Led→Prop}
theorem aL.nil (h:N [] G):aL w A env G pos [] N:=TX.imp (T.x (aU.nil (pos:=pos))) (fun G' F v l h'=>⟨[],h'.2,by rw [h'.1];exact h⟩) fun xx xx xx xx h=>h
theorem aL.cons (h:TX w A F0 (eval e env) G (fun G1 F v=>∃ p:PV,p.Is w.params F v∧aL w A env G1 pos es (fun ps=>N (p::ps))) bG) (he:starEach (e::es) env=(false,eval e env)::starEach es env):aL w A env G pos (e::es) N:=by
  unfold aL
  rw [he]
  show TX w A F0 (spliced ((false,eval e env)::backTo pos (starEach es env))) _ _ _
  rw [spliced]
  refine TX.bind h fun v F1 G1 l1 n=>?_
  obtain⟨p,pv,n⟩:=n
  simp only [Bool.false_eq_true,if_false]
  refine T.N4 (T.pure (P:=fun xx a=>a=[v]) fun xx xx=>rfl) fun a F2 l2 ea=>?_
  subst ea
  refine TX.bind (TX.holding (n.low (Le.zero _))) fun vs F3 G3 l3 n3=>?_
  obtain⟨ps,pvs,n3⟩:=n3
  exact TX.pure fun F4 l4=>⟨p::ps,.cons (pv.mono (l2.trans (l3.trans l4))) (pvs.mono l4),n3⟩
theorem aL.ev (h:Ev w A env G e p G) (hs:aL w A env G pos es (fun ps=>N (p::ps))) (he:starEach (e::es) env=(false,eval e env)::starEach es env):aL w A env G pos (e::es) N :=
  aL.cons (TX.imp h (fun G' F v l n=>⟨p,n.2,by rw [n.1];exact hs⟩) fun xx xx xx xx h=>h) he
theorem aL.list {q:Addr×PO} {es':List Expr} {lp:Pos} (h:aU w A env (q::Γ) lp es' ps (q::Γ)) (hz:ps.length≤1000) (hs:∀ a,aL w A env (q::(a,.list ps)::Γ) pos es (fun ps=>N (.val (.ref a)::ps))) (he:starEach (.List es' lp::es) env=(false,eval (.List es' lp) env)::starEach es env):aL w A env (q::Γ) pos (.List es' lp::es) N :=
  aL.cons (TX.gH (cR h hz) (fun G' F v l n=>by
    obtain⟨a,rfl,rfl⟩:=n
    exact⟨_,⟨.val (.ref a),rfl,hs a⟩,fun F2 h H S=>S.perm (List.Perm.swap _ _ _)⟩) fun xx xx xx xx h=>h.elim) he
theorem n6 {k:Nat} (ha:aL w A env G pos es (fun ps G'=>ps.length≤1000∧N ps G')):TX w A F0 (eval (.Tuple es k pos) env) G (fun G' F v=>∃ ps,(PV.tup ps).Is w.params F v∧N ps G') bG:=fun F1 H s h k Q E l S q x=>by
  refine wpAny_Tuple_spliced (ha F1 H s h k _ E l S (fun vs F' h' k' G' l' S' n=>?_) fun e C c p F' h' k' G' l' S' n=>n.elim)
  obtain⟨ps,pv,hz,n⟩:=n
  have l2:Le F' (F'.put h'.objs.size (seqObj "tuple" vs 0)):=Le.put S'.bE
  refine⟨by rw [pv.length,sizeLine_eq];omega,q _ _ _ _ _ (l'.trans l2) (S'.fix rfl) ⟨ps,?_,n⟩⟩
  exact⟨_,vs,0,rfl,FM.bO,pv.mono l2⟩
theorem XS.cY {k k2:Nat} (hh:A.handled=none) (hk:env.scope.kind=.function) (hl:(ns.all fun n=>decide (env.scope.names.lookup n=some .local))=true) (nd:ns.Nodup)
    (hs:swapsWithSole [.Tuple elts k tpos] (.Tuple es k2 vp) pos.line env=pure false) (hw:swappedStores [.Tuple elts k tpos] (.Tuple es k2 vp) env=pure (some ns)) (hz:ns.length≤1000)
    (he:aL w A env G vp es (fun ps G'=>ps.length=ns.length∧∃ ρ Γ,G'=(env.locals,.frame ρ)::Γ∧XS w A env ss ((env.locals,.frame (binds ns ps ρ))::Γ) P)):XS w A env (.Assign [.Tuple elts k tpos] (.Tuple es k2 vp) pos::ss) G P:=by
  refine XS.cons (XT.CA (TX.imp (n6 (N:=fun ps G'=>ps.length=ns.length∧∃ ρ Γ,G'=(env.locals,.frame ρ)::Γ∧XS w A env ss ((env.locals,.frame (binds ns ps ρ))::Γ) P) (TX.imp he (fun G' F v l h=>?_) fun xx xx xx xx h=>h)) (fun G' F v l h=>?_) fun xx xx xx xx h=>h.elim) hh hk (fun n hn=>of_decide_eq_true (List.all_eq_true.mp hl n hn)) nd hs hw)
  · obtain⟨ps,pv,e,n⟩:=h
    exact⟨ps,pv,by omega,e,n⟩
  · obtain⟨ps,pv,e,ρ,Γ,e2,n⟩:=h
    exact⟨ps,ρ,Γ,pv,e,e2,n⟩
end
noncomputable def yZ:List UInt8→Nat→Nat→Option (Nat×Nat)
  | [],_,_=>none
  | c::l,i,m=>if c.toNat<128 then some (m*128+c.toNat % 128,i+1) else yZ l (i+1) (m*128+c.toNat % 128+1)
theorem iQ (c:UInt8) (l:List UInt8) (i m:Nat):yZ (c::l) i m=if c.toNat<128 then some (m*128+c.toNat % 128,i+1) else yZ l (i+1) (m*128+c.toNat % 128+1):=rfl
theorem w7:∀ {l:List UInt8} {i m:Nat} {r:Nat×Nat},yZ l i m=some r→i<r.2∧r.2≤i+l.length
  | [],_,_,_,e=>by cases e
  | c::l,i,m,r,e=>by
    rw [iQ] at e
    split at e
    · cases e;simp
    · have:=w7 e;simp;omega
inductive AoI (x:List UInt8) (at':Nat) (r:Nat×Nat) (L:Addr) (G:Led) (n:Nat) (G':Led):Prop
  | mk (i:Nat) (m:Nat) (ρ:List (Str×PV)) (q0:G'=(L,.frame ρ)::G) (q1:Look ρ "octets" (.bytes x)) (q2:Look ρ "at" (.int (i:Nat))) (q3:Look ρ "number" (.int ((m:Nat) - 1:Int))) (q4:at'≤i) (q5:m<2 ^ (8*(i - at')+1)) (q6:n=x.length - i) (q7:yZ (x.drop i) i m=some r)
section
variable {w:World} {A:Around} {G:Led} {F:FM} {n m at':Nat} {vs:List Value} {x:List UInt8}
theorem uR {i:Nat} (h:i<x.length):x.drop i=x.getD i 0::x.drop (i+1):=by
  rw [List.drop_eq_getElem_cons h,List.getD_eq_getElem?_getD,List.getElem?_eq_getElem h];rfl
set_option maxHeartbeats 4000000 in
theorem xX {r:Nat×Nat} (R:Rm A 3) (hz:x.length≤100000) (hr:yZ (x.drop at') at' 0=some r) (hb:r.2≤at'+7) (pv:aS w.params F [.bytes x,.int at'] vs) :
    T w A F (call (.ref 137) vs) G G (fun F v=>(PV.tup [.int r.1,.int r.2]).Is w.params F v):=by
  obtain⟨v0,v1,rfl,p0,p1⟩:=pv.two
  refine T.fn (fn137 _) R.room.room (fun s X=>@JN w s X v0 v1) pv nd137 lc137 nc137 fun L=>?_
  have R':=R.deeper (aT (aK 13) "at_offset" 137 (fun xx=>[]) (.ref 136) L)
  refine XS.aE rfl rfl rfl rfl (nD Ev.int) ?_
  refine XS.cons (XT.dU (AoI x at' r L G)
    (x.length - at') ⟨at',0,_,rfl,.tail (by decide) .head,.tail (by decide) (.tail (by decide) .head),.head,Nat.le_refl _,by simp,rfl,hr⟩ cF.deeper rfl (fun n G' I=>?_))
  obtain⟨i,m,ρ,rfl,l1,l2,l3,hi,hm,rfl,e⟩:=I
  obtain⟨e1,e2⟩:=w7 e
  rw [List.length_drop] at e2
  refine⟨true,Tr.of Ev.bool rfl,fun xx=>?_,fun h=>by cases h⟩
  refine XS.ifs (b:=decide (x.length≤i)) (by walk_at "tr") (fun h=>?_) fun h=>XS.nil ?_
  · have h:x.length≤i:=of_decide_eq_true h
    omega
  · have h:¬ x.length≤i:=of_decide_eq_false h
    have hi':i<x.length:=by omega
    rw [uR hi',iQ] at e
    generalize hc:(x.getD i 0).toNat=c at e
    have hm63:m<2 ^ 63:=Nat.lt_of_lt_of_le hm (Nat.pow_le_pow_right (by decide) (by omega))
    show XS _ _ _ _ _ _
    refine XS.aE (p:=.int c) rfl rfl rfl rfl (by rw [← hc];walk_at "ev") ?_
    refine XS.aE (p:=.int (i+1:Nat)) rfl rfl rfl rfl (by walk_at "ev") ?_
    refine XS.aE (p:=.int (m*128+c % 128:Nat)) rfl rfl rfl rfl (Ev.bin (p:=.int (m*128:Nat)) (Ev.bin (p:=.int m) (cC (Ev.bin (by walk_at "ev") (by walk_at "ev") (by walk_at "op")) (congrArg PV.int (by omega))) (by walk_at "ev") (by walk_at "op")) (by walk_at "ev") fun v u F hv hu=>IB (k:=7) (by omega) hv hu) ?_
    refine XS.ifs (b:=decide (c<128)) (by walk_at "tr") (fun h=>?_) fun h=>XS.nil (XS.nil ?_)
    · rw [if_pos (of_decide_eq_true h)] at e
      cases e
      exact XS.kX (by walk_at "ev") (by exact⟨_,_,Drop.refl _,rfl,rfl⟩)
    · have h:¬ c<128:=of_decide_eq_false h
      rw [if_neg h] at e
      obtain⟨e1,e2⟩:=w7 e
      refine⟨x.length - (i+1),by omega,i+1,m*128+c % 128+1,_,rfl,by walk_at "look",by walk_at "look",?_,by omega,?_,rfl,e⟩
      · rw [show((m*128+c % 128+1:Nat):Int) - 1=((m*128+c % 128:Nat):Int) by omega];walk_at "look"
      · have:2 ^ (8*(i+1 - at')+1)=2 ^ (8*(i - at')+1)*256:=by rw [show 8*(i+1 - at')+1=8*(i - at')+1+8 by omega,Nat.pow_add]
        omega
end
theorem natEq (n m:Nat):((n:Int) == (m:Int))=decide (n=m):=by
  by_cases e:n=m
  · simp [e]
  · have:¬ (n:Int)=m:=by omega
    simp [e,this]
theorem natNe (n m:Nat):((n:Int) != (m:Int))=decide (n≠m):=by
  by_cases e:n=m
  · simp [e]
  · have:¬ (n:Int)=m:=by omega
    simp [e,this]
section
variable {w:World} {A:Around} {env:Env} {G:Led} {F:FM} {n k:Nat} {v u:Value} {p q:PV} {x y:List UInt8}
theorem MU (hk:0<k∧k<1073741824) (hv:(PV.int n).Is w.params F v) (hu:(PV.int (@OfNat.ofNat Int k instOfNat)).Is w.params F u):T w A F (binaryOp .FloorDiv v u) G G (fun F v=>(PV.int (n / k:Nat)).Is w.params F v) :=
  MV hk.1 (PyProof.noPylong_small (by simpa using hk.2)) hv hu
theorem BW (hk:0<k) (hv:(PV.int n).Is w.params F v) (hu:(PV.int (@OfNat.ofNat Int k instOfNat)).Is w.params F u):T w A F (binaryOp .Mod v u) G G (fun F v=>(PV.int (n % k:Nat)).Is w.params F v):=wZ hk hv hu
theorem M5 (hk:k<2 ^ 64) (hv:(PV.int n).Is w.params F v) (hu:(PV.int (@OfNat.ofNat Int k instOfNat)).Is w.params F u):T w A F (binaryOp .Mult v u) G G (fun F v=>(PV.int (n*k:Nat)).Is w.params F v) :=
  T.imp (w0 (b:=(k:Int)) (IntMulOk.of_right (intBits_le_iff.mpr (by simpa using hk))) hv hu) fun F v l h=>by rw [Int.natCast_mul];exact h
theorem yH (hk:k<2 ^ 64) (hv:(PV.int (@OfNat.ofNat Int k instOfNat)).Is w.params F v) (hu:(PV.int n).Is w.params F u):T w A F (binaryOp .Mult v u) G G (fun F v=>(PV.int (k*n:Nat)).Is w.params F v) :=
  T.imp (w0 (a:=(k:Int)) (IntMulOk.of_left (intBits_le_iff.mpr (by simpa using hk))) hv hu) fun F v l h=>by rw [Int.natCast_mul];exact h
theorem MP (hv:(PV.int n).Is w.params F v) (hu:(PV.int (@OfNat.ofNat Int k instOfNat)).Is w.params F u):T w A F (binaryOp .Add v u) G G (fun F v=>(PV.int (n+k:Nat)).Is w.params F v):=bF hv hu
theorem Q4 (hv:(PV.int n).Is w.params F v) (hu:(PV.int (@OfNat.ofNat Int k instOfNat)).Is w.params F u):T w A F (compareOp .Lt v u) G G (fun F v=>(PV.bool (decide (n<k))).Is w.params F v):=sE hv hu
theorem d7 {m:Nat} (hv:(PV.int n).Is w.params F v) (hu:(PV.int m).Is w.params F u):T w A F (compareOp .Eq v u) G G (fun F v=>(PV.bool (decide (n=m))).Is w.params F v):=T.imp (HX hv hu) fun F v l h=>by
  rw [natEq n m] at h;exact h
theorem sG {m:Nat} (hv:(PV.int n).Is w.params F v) (hu:(PV.int m).Is w.params F u):T w A F (compareOp .NotEq v u) G G (fun F v=>(PV.bool (decide (n≠m))).Is w.params F v):=T.imp (H8 hv hu) fun F v l h=>by
  rw [natNe n m] at h;exact h
theorem Q5 (hv:(PV.int n).Is w.params F v) (hu:(PV.int (@OfNat.ofNat Int k instOfNat)).Is w.params F u):T w A F (compareOp .NotEq v u) G G (fun F v=>(PV.bool (decide (n≠k))).Is w.params F v):=sG hv hu
theorem RK:isSubtype (.type "bytes") (.type "NoneType")=pure false:=by rw [isSubtype_type];kernel_rfl
theorem pF:Slot "bytes" "__ne__" "bytes.__ne__":=FB.slot_bytes_ne
theorem tJ (a:Array UInt8) (t:Tok):Gives (Builtin.«NoneType.__ne__» ⟨[.none,.bytes a t],[]⟩) (.val (Value.notImplemented)) :=
  .of_wp fun M A E s Q h=>by obtain⟨hp,g,d,tk,os⟩:=s;wp_walk;exact⟨_,rfl,h⟩
theorem RJ:isSubtype (.type "NoneType") (.type "bytes")=pure false:=by rw [isSubtype_type];kernel_rfl
theorem tI (a:Array UInt8) (t:Tok):Gives (Builtin.«bytes.__ne__» ⟨[.bytes a t,.none],[]⟩) (.val (Value.notImplemented)) :=
  .of_wp fun M A E s Q h=>by obtain⟨hp,g,d,tk,os⟩:=s;have f:=RJ;wp_walk;exact⟨_,rfl,h⟩
theorem BX (hv:PV.none.Is w.params F v) (hu:(PV.bytes x).Is w.params F u):T w A F (compareOp .NotEq v u) G G (fun F v=>(PV.bool true).Is w.params F v):=T.f9 fun F1 s Q E l q=>by
  cases hv;obtain⟨t,rfl⟩:=hu
  show wpAny _ A (richCompare .NotEq _ _) Q E s
  exact PySem.EqNone.wpAny_richCompare_ne_decline (k:=false) (fun xx=>rfl) (fun s'=>typeIs_bytes s' x.toArray t) (by decide) RK PySem.F.slot_NoneType_ne pF rfl
    (call_gives PySem.F.slot_NoneType_ne rfl PySem.F.entry_NoneType_ne (PySem.F.args_NoneType_ne_2 _ _) (tJ x.toArray t)
      ⟨rfl,call_gives pF (typeIs_bytes s x.toArray t) FB.entry_bytes_ne (FB.args_bytes_ne_2 _ _) (tI x.toArray t) ⟨rfl,q _ s.toks rfl⟩⟩)
end
noncomputable def jU (p s:Nat):List Nat:=if s=0 then [p] else (p+128)::jU (s % 128) (s / 128)
termination_by s
decreasing_by omega
noncomputable def hd (n s:Nat):List Nat:=jU (n*16+s % 16) (s / 16)
theorem PC:∀ s p:Nat,p<128→∀ x∈jU p s,x<256:=fun s=>by
  induction s using Nat.strongRecOn with
  | _ s ih =>
    intro p hp x hx
    rw [jU] at hx
    split at hx
    · simp at hx;omega
    · rcases List.mem_cons.mp hx with rfl | hx
      · omega
      · exact ih (s / 128) (by omega) _ (by omega) x hx
theorem BO:∀ (k s p:Nat),s<2 ^ (7*k)→(jU p s).length≤k+1
  | 0,s,p,h=>by
                     have:s=0:=by simpa using h
                     subst this;rw [jU];simp
  | k+1,s,p,h=>by
    rw [jU]
    split
    · simp
    · rw [List.length_cons]
      have:=BO k (s / 128) (s % 128) (by
        rw [Nat.div_lt_iff_lt_mul (by decide)]
        have:2 ^ (7*(k+1))=2 ^ (7*k)*128:=by rw [show 7*(k+1)=7*k+7 by omega,Nat.pow_add]
        omega)
      omega
noncomputable def A4 (l:List UInt8) (i:Nat):Option (Nat×Nat×Nat):=match l with
  | []=>none
  | c::l=>(if c.toNat<128 then some (c.toNat % 16,i+1) else A5 l (i+1) 4 (c.toNat % 16)).map fun r=>(c.toNat / 16 % 8,r.1,r.2)
noncomputable def d6 (n:Nat):Bool:=n == 1 || n == 2 || n == 3 || n == 4 || n == 6 || n == 7
inductive AhI (x:List UInt8) (c0:Nat) (r2:Nat×Nat) (L:Addr) (G:Led) (n:Nat) (G':Led):Prop
  | mk (i:Nat) (k:Nat) (X:Nat) (c:Nat) (ρ:List (Str×PV)) (q0:G'=(L,.frame ρ)::G) (q1:Look ρ "octets" (.bytes x)) (q2:Look ρ "at" (.int (i:Nat))) (q3:Look ρ "size" (.int (X:Nat))) (q4:Look ρ "shift" (.int (k:Nat))) (q5:Look ρ "piece" (.int (c:Nat))) (q6:Look ρ "number" (.int (c0 / 16 % 8:Nat))) (q7:X<2 ^ k) (q8:k≤7*i+4) (q9:c<256) (q10:n=x.length - i) (q11:(if c<128 then some (X,i) else A5 (x.drop i) i k X)=some r2)
section
variable {w:World} {A:Around} {G:Led} {F:FM} {n m at':Nat} {vs:List Value} {x:List UInt8}
theorem w8:∀ {l:List UInt8} {i k X:Nat} {r:Nat×Nat},A5 l i k X=some r→i<r.2∧r.2≤i+l.length
  | [],_,_,_,_,e=>by cases e
  | c::l,i,k,X,r,e=>by
    rw [dP] at e
    split at e
    · cases e;simp
    · have:=w8 e;simp;omega
theorem FF (n:Nat) (h:n<8):(!(bJ BR (n:Int)).isSome && (decide (n≠6) && (decide (n≠7) && true)))=!d6 n :=
  (by decide +kernel:∀ n:Fin 8,(!(bJ BR ((n.val:Nat):Int)).isSome && (decide (n.val≠6) && (decide (n.val≠7) && true)))=!d6 n.val) ⟨n,h⟩
set_option maxHeartbeats 8000000 in
theorem pL {r:Nat×Nat×Nat} (R:Rm A 3) (hz:x.length≤100000) (hr:A4 (x.drop at') at'=some r) (pv:aS w.params F [.bytes x,.int at'] vs) :
    TX w A F (call (.ref 183) vs) G (fun G' F v=>∃ p:PV,p.Is w.params F v∧G'=G∧d6 r.1=true∧p=.tup [.int r.1,.int r.2.1,.int r.2.2]) (fun C c p G'=>C=81∧c=.none∧G'=G∧d6 r.1=false):=by
  obtain⟨v0,v1,rfl,p0,p1⟩:=pv.two
  refine TX.fn (N:=fun p G'=>G'=G∧d6 r.1=true∧p=.tup [.int r.1,.int r.2.1,.int r.2.2]) (fn183 _) R.room.room (fun s X=>@JR w s X v0 v1) pv nd183 lc183 nc183 fun L=>?_
  have R':=R.deeper (aT (aK 25) "at_entry_head" 183 (fun xx=>[]) (.ref 182) L)
  have hi':at'<x.length:=by
    rcases Nat.lt_or_ge at' x.length with h | h
    · exact h
    · rw [List.drop_eq_nil_of_le h] at hr;cases hr
  rw [uR hi',A4] at hr
  have h256:(x.getD at' 0).toNat<256:=(x.getD at' 0).toNat_lt
  generalize hc:(x.getD at' 0).toNat=c0 at hr h256
  obtain⟨r2,hr2,rfl⟩:=Option.map_eq_some_iff.mp hr
  refine XS.ifs (b:=false) (a3 (dR (by walk_at "tr") fun xx=>dR (by walk_at "tr") fun xx=>kY) ?_) (fun h=>by cases h) fun xx=>XS.nil ?_
  · simp;omega
  show XS _ _ _ _ _ _
  refine XS.aE (p:=.int c0) rfl rfl rfl rfl (by rw [← hc];walk_at "ev") ?_
  refine XS.aE (p:=.int (at'+1:Nat)) rfl rfl rfl rfl (by walk_at "ev") ?_
  refine XS.aE (p:=.int (c0 / 16 % 8:Nat)) rfl rfl rfl rfl (by walk_at "ev") ?_
  refine XS.aE (p:=.int (c0 % 16:Nat)) rfl rfl rfl rfl (by walk_at "ev") ?_
  refine XS.aE (p:=.int (4:Nat)) rfl rfl rfl rfl (by walk_at "ev") ?_
  refine XS.cons (XT.dU (AhI x c0 r2 L G)
    (x.length - (at'+1)) ⟨at'+1,4,c0 % 16,c0,_,rfl,by walk_at "look",by walk_at "look",by walk_at "look",by walk_at "look",by walk_at "look",by walk_at "look",by omega,by omega,h256,rfl,hr2⟩ cF.deeper rfl (fun n G' I=>?_))
  obtain⟨i,k,X,c,ρ,rfl,l1,l2,l3,l4,l5,l6,hX,hk,hc256,rfl,e⟩:=I
  refine⟨((c / 128*128:Nat):Int) != 0,RP (by walk_at "ev") rfl,fun h=>?_,fun h=>?_⟩
  · have hc:¬ c<128:=fun z=>by rw [Nat.div_eq_of_lt z] at h;cases h
    rw [if_neg hc] at e
    have e2:=w8 e
    rw [List.length_drop] at e2
    have hi:i<x.length:=by omega
    refine XS.ifs (b:=decide (x.length≤i)) (by walk_at "tr") (fun h=>absurd (of_decide_eq_true h) (by omega)) fun xx=>XS.nil ?_
    rw [uR hi,dP] at e
    have h256':(x.getD i 0).toNat<256:=(x.getD i 0).toNat_lt
    generalize hc2:(x.getD i 0).toNat=c2 at e h256'
    show XS _ _ _ _ _ _
    refine XS.aE (p:=.int c2) rfl rfl rfl rfl (by rw [← hc2];walk_at "ev") ?_
    refine XS.aE (p:=.int (i+1:Nat)) rfl rfl rfl rfl (by walk_at "ev") ?_
    refine XS.aE (p:=.int (X+c2 % 128*2 ^ k:Nat)) rfl rfl rfl rfl (by walk_at "ev") ?_
    refine XS.aE (p:=.int (k+7:Nat)) rfl rfl rfl rfl (by walk_at "ev") (XS.nil ?_)
    refine⟨x.length - (i+1),by omega,i+1,k+7,X+c2 % 128*2 ^ k,c2,_,rfl,by walk_at "look",by walk_at "look",by walk_at "look",by walk_at "look",by walk_at "look",by walk_at "look",?_,by omega,h256',rfl,e⟩
    rw [Nat.pow_add]
    have:c2 % 128*2 ^ k≤127*2 ^ k:=Nat.mul_le_mul_right _ (by omega)
    omega
  · have hc:c<128:=by
      rcases Nat.lt_or_ge c 128 with z | z
      · exact z
      · have:c / 128=1:=by omega
        rw [this] at h;cases h
    rw [if_pos hc] at e
    cases e
    show XS _ _ _ _ _ _
    refine XS.ifs (b:=!d6 (c0 / 16 % 8)) (a3 (c8 (Tr.cmp (by walk_at "ev") (by walk_at "ev") (fun v u F hv hu=>A1 hv hu) (by rfl)) fun xx=>c8 (by walk_at "tr") fun xx=>c8 (by walk_at "tr") fun xx=>xG) (FF _ (by omega))) (fun h=>?_) fun h=>XS.nil ?_
    · exact XS.raise R'.less (eH _) (by walk_at "ev") (by walk_at "evs") (by rfl) ⟨_,_,Drop.refl _,rfl,rfl,rfl,by simpa using h⟩
    · show XS _ _ _ _ _ _
      exact XS.kX (by walk_at "ev") (by exact⟨_,_,Drop.refl _,rfl,by simpa using h,rfl⟩)
end
section
variable {w:World} {A:Around} {G:Led} {F:FM} {ps:List PV} {p p0:PV}
theorem A2 {i:Nat} {a:Addr} {u v:Value} (hi:G[i]?=some (a,.list (ps++[p0]))) (hu:(PV.int (-1)).Is w.params F u) (hv:p.Is w.params F v) :
    T w A F (setItem (.ref a) u v) G (G.set i (a,.list (ps++[p]))) (fun F xx=>True):=T.use hi fun F1 H s h k Q E l S q x=>by
  obtain⟨vs,n,ha,pvs⟩:=(S.led _ (.head _)).1
  obtain⟨vs1,us,rfl,h1,h2⟩:=pvs.split
  obtain⟨v0,rfl,h2⟩:=h2.bH
  obtain⟨t,rfl⟩:=hu
  have hl:(sh s h k).heap.IsList a (vs1++[v0]).toArray:=⟨_,ha,rfl,n,rfl⟩
  unfold setItem
  refine wpAny_holding (wpAny_bind (wpAny_sequenceKey hl.typeIs (by decide) (wpAny_bind (wpAny_callSpecial?_slot (name:=Str.ofString "__setitem__") hl.typeIs slot_list_setitem
    (wpAny_call_entry slot_list_setitem hl.typeIs entry_list_setitem ?_ (args_list_setitem _ _ _))))))
  show wpAny _ _ (Builtin.List.listSubscript? (.int (-1) t) >>= _) _ _ _
  refine wpAny_bind (wpAny_listSubscript_int (by decide) ?_)
  show wpAny _ _ ((Builtin.List.listItems (.ref a) >>= fun xs=>pure ((seqIndex? (Int.negSucc 0) xs.size).bind fun i=>xs[i]?.map (i,·))) >>= _) _ _ _
  refine wpAny_bind (wpAny_bind ?_)
  show wpAny _ _ (seqItems? (.ref a) >>= _) _ _ _
  refine wpAny_bind (wpAny_seqItems ha rfl (wpAny_pure (wpAny_pure ?_)))
  have hidx:=seqIndex_neg (k:=Int.negSucc 0) (n:=(vs1++[v0]).toArray.size) (by decide) (by simp;omega)
  rw [hidx]
  have e0:(Int.negSucc 0+((vs1++[v0]).toArray.size:Nat)).toNat=vs1.length:=by simp;omega
  rw [e0]
  have hx:(vs1++[v0]).toArray[vs1.length]?=some v0:=by simp
  simp only [Option.bind_some,hx,Option.map_some]
  have e:Obj.mapSeq (·.setIfInBounds vs1.length v) (seqObj "list" (vs1++[v0]) n)=seqObj "list" (vs1++[v]) n:=by simp [Obj.mapSeq,seqObj]
  have fin:Q () (sh s (h.update a (Obj.mapSeq (·.setIfInBounds vs1.length v))) k):=by
    refine q () F1 _ k [(a,.list (ps++[p]))] (.refl _) (S.upd (Heap.SameBut.update ..) ⟨vs1++[v],n,?_,h1.append (.one (hv.mono l))⟩ rfl) ⟨rfl,trivial⟩
    rw [Heap.get?_update_self _ ha (by rw [e];rfl),e]
  show wpAny _ _ (setSeqItemAt a vs1.length v >>= _) _ _ _
  refine wpAny_bind (wpAny_setSeqItemAt ha rfl ?_)
  first
    | exact wpAny_bind (wpAny_pure (wpAny_pure ⟨.none,rfl,wpAny_pure fin⟩))
    | exact wpAny_pure ⟨.none,rfl,wpAny_pure fin⟩
end
noncomputable def stored (x:List UInt8):List UInt8:=bb (d9 x.length)++x
theorem be4 (n:Nat):bb [n / 16777216 % 256,n / 65536 % 256,n / 256 % 256,n % 256]=be n 4:=by
  unfold bb be
  rw [show List.range 4=[0,1,2,3] from rfl]
  simp only [List.map_cons,List.map_nil]
  rw [toUInt8_mod,toUInt8_mod,toUInt8_mod,toUInt8_mod]
  simp
inductive LbI (n:Nat) (L a:Addr) (G:Led) (m:Nat) (G':Led):Prop
  | mk (ρ:List (Str×PV)) (d:List Nat) (q0:G'=(L,.frame ρ)::(a,.list (nums d))::G) (q1:Look ρ "number" (.int m)) (q2:Look ρ "found" (.val (.ref a))) (q3:n % 128::pR (n / 128)=d++pR (m / 128))
section
variable {w:World} {A:Around} {G:Led} {F:FM} {n m:Nat} {vs:List Value} {x:List UInt8} {C dx:Addr} {self:PV}
theorem iU {n:Nat} (h:n<2 ^ 56):(d9 n).length≤8:=xI 8 n h (by decide)
set_option maxHeartbeats 8000000 in
theorem E5 (R:Rm A 2) (hx:x.length≤100000) (pv:aS w.params F [self,.bytes x] vs):T w A F (call (.ref 340) vs) G G (fun F v=>(PV.bytes (stored x)).Is w.params F v):=by
  obtain⟨v0,v1,rfl,p0,p1⟩:=pv.two
  refine T.fn (fn340 _) R.room.room (fun s X=>@J6 w s X v0 v1) pv nd340 lc340 nc340 fun L=>?_
  have R':=R.deeper (aT (aW 36 0) "StoredCodec.pack" 340 (fun xx=>[]) (.ref 339) L)
  have hv:(bb (d9 x.length)).length+x.length≤16777216:=by
    have:=iU (n:=x.length) (by omega)
    simp [bb];omega
  refine XS.kX (p:=.bytes (stored x)) (Ev.bin (p:=.bytes (bb (d9 x.length))) (Ev.aQ (by walk_at "ev") (aB (by kernel_rfl)) (by walk_at "evs") (by rfl) fun vs F' pvs=>y8 R' (by omega) pvs) (by walk_at "ev") fun v u F hv' hu=>aH hv hv' hu) (bI.ret ⟨rfl,rfl⟩)
set_option maxHeartbeats 8000000 in
theorem bL (R:Rm A 1) (pv:aS w.params F [.int n] vs):T w A F (call (.ref 390) vs) G G (fun F v=>(PV.bytes (be n 4)).Is w.params F v):=by
  obtain⟨v0,rfl,p0⟩:=pv.bH
  refine T.fn (fn390 _) R.room.room (fun s X=>@KD w s X v0) pv nd390 lc390 nc390 fun L=>?_
  have R':=R.deeper (aT (aK 42) "_law_four" 390 (fun xx=>[]) (.ref 389) L)
  refine XS.kX (p:=.bytes (be n 4)) (Ev.aQ (by walk_at "ev") aV (aU.cons (Ev.list (ps:=[.int (n / 16777216 % 256:Nat),.int (n / 65536 % 256:Nat),.int (n / 256 % 256:Nat),.int (n % 256:Nat)]) (by walk_at "evs") (by simp)) aU.nil (by rfl)) (by rfl) fun vs F' pvs=>?_) (bI.ret ⟨rfl,rfl⟩)
  obtain⟨v,rfl,hv⟩:=pvs.bH
  rw [← be4]
  exact bV R'.quiet (by simp;omega) (by simp) hv
set_option maxHeartbeats 8000000 in
theorem LY (R:Rm A 1) (hn:n<2 ^ 56) (pv:aS w.params F [.int n] vs):T w A F (call (.ref 376) vs) G G (fun F v=>(PV.bytes (bb (bk n))).Is w.params F v):=by
  obtain⟨v0,rfl,p0⟩:=pv.bH
  refine T.fn (fn376 _) R.room.room (fun s X=>@KA w s X v0) (.one p0) nd376 lc376 nc376 fun L=>?_
  have R':=R.deeper (aT (aK 40) "_law_back" 376 (fun xx=>[]) (.ref 375) L)
  refine XS.cons (XT.dY (o:=.list [.int (n % 128:Nat)]) (cR (by walk_at "evs") (by simp)) (fun a=>?_) rfl rfl rfl)
  refine XS.cons (XT.dU (LbI n L a G) n ⟨_,[n % 128],rfl,by walk_at "look",by walk_at "look",rfl⟩ cF.deeper rfl (fun m G' I=>?_))
  obtain⟨ρ,d,rfl,l1,l2,e⟩:=I
  have hd:d.length≤8:=by
    have:=mZ hn
    rw [bk,e] at this;simp at this;omega
  refine⟨decide (127<m),by walk_at "tr",fun h=>?_,fun h=>?_⟩
  · have h:127<m:=of_decide_eq_true h
    refine XS.aE (p:=.int (m / 128 - 1:Nat)) rfl rfl rfl rfl (by walk_at "ev") ?_
    refine XS.cons (XT.append (p:=.int ((m / 128 - 1) % 128+128:Nat)) (by walk_at "ev") (by walk_at "evs") (i:=1) rfl (j:=1) rfl (by rw [dO];omega) (XS.nil ⟨m / 128 - 1,by omega,_,d++[(m / 128 - 1) % 128+128],by rw [← cA];rfl,by walk_at "look",by walk_at "look",?_⟩) rfl rfl rfl rfl)
    rw [e,pR,if_neg (by omega),Nat.add_comm 128];simp
  · have h:¬ 127<m:=of_decide_eq_false h
    rw [show m / 128=0 from Nat.div_eq_of_lt (by omega),show pR 0=[] by rw [pR];rfl,List.append_nil] at e
    show XS _ _ _ _ (_::_::_) _
    refine XS.ret (p:=.bytes (bb (bk n))) (Ev.aQ (by walk_at "ev") aV (aU.cons (oD (j:=1) (by walk_at "ev") (nD Ev.int) rfl (by rw [dO];omega) (fun xx xx=>rfl)) aU.nil (by rfl)) (by rfl) fun vs F' pvs=>?_) (by exact⟨_,G,Drop.snd (by rfl),rfl,rfl⟩)
    obtain⟨v,rfl,hv⟩:=pvs.bH
    rw [yG] at hv
    refine bV (ns:=bk n) R'.quiet (N5 n) (by have:=mZ hn;omega) (by rw [bk,e];exact hv)
end
section
variable {w:World} {A:Around} {env:Env} {G G' G1 G2 Γ:Led} {P:Out→Prop} {pos cpos vp tpos:Pos} {e value o i:Expr} {ss:List Stmt} {p q:PV} {ps:List PV} {ρ:List (Str×PV)} {F:FM}
theorem XS.setItem {qo qi:PV} (hv:Ev w A env G value p G) (ho:Ev w A env G o qo G) (hi:Ev w A env G i qi G) (hs:swapsWith value (some (.Subscript o i tpos)) pos.line env=pure false)
    (hst:∀ v u t F,p.Is w.params F v→qo.Is w.params F u→qi.Is w.params F t→T w A F (setItem u t v) G G' (fun xx xx=>True)) (n:XS w A env ss G' P):XS w A env (.Assign [.Subscript o i tpos] value pos::ss) G P:=XS.cons (XT.IP hv ho hi hs hst n)
end
section
variable {w:World} {A:Around} {G:Led} {F:FM} {ps qs:List PV} {v u:Value} {a:Addr}
theorem MT {i:Nat} (hi:G[i]?=some (a,.list ps)) (hz:ps.length+qs.length≤1000000) (hv:(PV.val (.ref a)).Is w.params F v) (hu:(PV.lst qs).Is w.params F u):T w A F (binaryOp .Add v u) G G (fun F v=>(PV.lst (ps++qs)).Is w.params F v):=fun F1 H s h k Q E l S q x=>by
  cases hv
  obtain⟨b,ws,m,rfl,fb,qvs⟩:=PV.Is.mono l hu
  obtain⟨vs,n,ha,pvs⟩:=(S.led _ (List.mem_append_left _ (List.mem_of_getElem? hi))).1
  refine PySem.P.add_list (s:=sh s h k) ha (S.sub _ _ fb) ?_ (by rw [List.size_toArray,List.size_toArray,pvs.length,qvs.length,sizeLine_eq];omega)
  have l2:Le F1 (F1.put h.objs.size (seqObj "list" (vs++ws) 0)):=Le.put S.bE
  have S2:=S.fix (o:=seqObj "list" (vs++ws) 0) rfl
  refine q _ _ (h.push (seqObj "list" (vs++ws) 0)) k _ l2 S2 ⟨rfl,h.objs.size,vs++ws,0,rfl,FM.bO,(pvs.mono l2).append (qvs.mono l2)⟩ |> fun z=>?_
  simpa [seqObj] using z
theorem MS (hz:ps.length+qs.length≤1000000) (hv:(PV.lst ps).Is w.params F v) (hu:(PV.lst qs).Is w.params F u):T w A F (binaryOp .Add v u) G G (fun F v=>(PV.lst (ps++qs)).Is w.params F v):=fun F1 H s h k Q E l S q x=>by
  obtain⟨a,vs,n,rfl,fa,pvs⟩:=PV.Is.mono l hv
  obtain⟨b,ws,m,rfl,fb,qvs⟩:=PV.Is.mono l hu
  refine PySem.P.add_list (s:=sh s h k) (S.sub _ _ fa) (S.sub _ _ fb) ?_ (by rw [List.size_toArray,List.size_toArray,pvs.length,qvs.length,sizeLine_eq];omega)
  have l2:Le F1 (F1.put h.objs.size (seqObj "list" (vs++ws) 0)):=Le.put S.bE
  have S2:=S.fix (o:=seqObj "list" (vs++ws) 0) rfl
  refine q _ _ (h.push (seqObj "list" (vs++ws) 0)) k _ l2 S2 ⟨rfl,h.objs.size,vs++ws,0,rfl,FM.bO,(pvs.mono l2).append (qvs.mono l2)⟩ |> fun z=>?_
  simpa [seqObj] using z
end
inductive LsI (x:List UInt8) (L a:Addr) (G:Led) (m:Nat) (G':Led):Prop
  | mk (ρ:List (Str×PV)) (d:List Nat) (q0:G'=(L,.frame ρ)::(a,.list (nums d))::G) (q1:Look ρ "octets" (.bytes x)) (q2:Look ρ "rest" (.int m)) (q3:Look ρ "found" (.val (.ref a))) (q4:d9 x.length=d++d9 m)
section
variable {w:World} {A:Around} {G:Led} {F:FM} {n m:Nat} {vs:List Value} {x:List UInt8}
set_option maxHeartbeats 8000000 in
theorem eF (R:Rm A 1) (hx:x.length≤100000) (pv:aS w.params F [.bytes x] vs):T w A F (call (.ref 383) vs) G G (fun F v=>(PV.bytes (stored x)).Is w.params F v):=by
  obtain⟨v0,rfl,p0⟩:=pv.bH
  refine T.fn (fn383 _) R.room.room (fun s X=>@KC w s X v0) pv nd383 lc383 nc383 fun L=>?_
  have R':=R.deeper (aT (aK 41) "_law_stored" 383 (fun xx=>[]) (.ref 382) L)
  refine XS.cY (ns:=["found","rest"]) R'.quiet rfl (by rfl) (by decide) rfl rfl (by decide) (aL.list aU.nil (by simp) (fun a=>aL.ev (by walk_at "ev") (aL.nil ⟨rfl,_,_,rfl,?_⟩) (by rfl)) (by rfl))
  show XS _ _ _ _ ((L,PO.frame [("rest",.int x.length),("found",.val (.ref a)),("octets",.bytes x)])::(a,.list [])::G) _
  refine XS.cons (XT.dU (LsI x L a G) x.length ⟨_,[],rfl,by walk_at "look",by walk_at "look",by walk_at "look",rfl⟩ cF.deeper rfl (fun m G' I=>?_))
  obtain⟨ρ,d,rfl,l0,l1,l2,e⟩:=I
  have hd:d.length≤8:=by have:=iU (n:=x.length) (by omega);rw [e,List.length_append] at this;omega
  refine⟨decide (127<m),by walk_at "tr",fun h=>?_,fun h=>?_⟩
  · have h:127<m:=of_decide_eq_true h
    refine XS.cons (XT.append (p:=.int (m % 128+128:Nat)) (by walk_at "ev") (by walk_at "evs") (i:=1) rfl (j:=1) rfl (by rw [dO];omega) ?_ rfl rfl rfl rfl)
    show XS _ _ _ _ (_::_::_) _
    refine XS.aE (p:=.int (m / 128:Nat)) rfl rfl rfl rfl (by walk_at "ev") (XS.nil ⟨m / 128,by omega,_,d++[m % 128+128],by rw [← cA];rfl,by walk_at "look",by walk_at "look",by walk_at "look",?_⟩)
    rw [e,d9,if_neg (by omega)];simp
  · have h:¬ 127<m:=of_decide_eq_false h
    show XS _ _ _ _ _ _
    have e2:d9 x.length=d++[m]:=by rw [e,d9.eq_1 m,if_pos (by omega)]
    have hv:(bb (d9 x.length)).length+x.length≤16777216:=by
      have:=iU (n:=x.length) (by omega)
      simp [bb];omega
    refine XS.kX (p:=.bytes (stored x)) (Ev.bin (p:=.bytes (bb (d9 x.length))) (Ev.aQ (by walk_at "ev") aV (aU.cons (p:=.lst (nums (d9 x.length))) (cC (p:=.lst (nums d++[.int (m:Nat)])) (Ev.bin (by walk_at "ev") (Ev.list (by walk_at "evs") (by simp)) fun v u F hv hu=>MT (i:=1) rfl (by simp [nums];omega) hv hu) (by rw [e2,← cA])) aU.nil (by rfl)) (by rfl) fun vs F' pvs=>?_) (by walk_at "ev") fun v u F hv' hu=>aH hv hv' hu) (by exact⟨_,G,Drop.snd (by rfl),rfl,rfl⟩)
    · obtain⟨v,rfl,hv⟩:=pvs.bH
      exact bV R'.quiet (I2 _) (by have:=iU (n:=x.length) (by omega);omega) hv
end
theorem MI (ps:List PV) (p:PV):(ps++[p])[((-1:Int)+((ps++[p]).length:Nat)).toNat]?=some p:=by
  have:((-1:Int)+((ps++[p]).length:Nat)).toNat=ps.length:=by simp;omega
  rw [this];simp
theorem b8 {n s:Nat} (h:s<2 ^ 56):(hd n s).length≤9:=BO 8 (s / 16) _ (by rw [Nat.div_lt_iff_lt_mul (by decide)];omega)
inductive LhI (n s:Nat) (L a:Addr) (G:Led) (m:Nat) (G':Led):Prop
  | mk (ρ:List (Str×PV)) (d:List Nat) (p:Nat) (q0:G'=(L,.frame ρ)::(a,.list (nums d++[.int (p:Nat)]))::G) (q1:Look ρ "rest" (.int m)) (q2:Look ρ "found" (.val (.ref a))) (q3:p<128) (q4:hd n s=d++jU p m)
section
variable {w:World} {A:Around} {G:Led} {F:FM} {n m s:Nat} {vs:List Value} {x:List UInt8}
set_option maxHeartbeats 8000000 in
theorem lG (R:Rm A 1) (hn:n<8) (hs:s<2 ^ 56) (pv:aS w.params F [.int n,.int s] vs):T w A F (call (.ref 369) vs) G G (fun F v=>(PV.bytes (bb (hd n s))).Is w.params F v):=by
  obtain⟨v0,v1,rfl,p0,p1⟩:=pv.two
  refine T.fn (fn369 _) R.room.room (fun s X=>@J9 w s X v0 v1) pv nd369 lc369 nc369 fun L=>?_
  have R':=R.deeper (aT (aK 39) "_law_head" 369 (fun xx=>[]) (.ref 368) L)
  refine XS.cY (ns:=["found","rest"]) R'.quiet rfl (by rfl) (by decide) rfl rfl (by decide) (aL.list (ps:=[.int (n*16+s % 16:Nat)]) (by walk_at "evs") (by simp) (fun a=>aL.ev (p:=.int (s / 16:Nat)) (by walk_at "ev") (aL.nil ⟨rfl,_,_,rfl,?_⟩) (by rfl)) (by rfl))
  show XS _ _ _ _ ((L,PO.frame [("rest",.int (s / 16:Nat)),("found",.val (.ref a)),("number",.int n),("size",.int s)])::(a,.list [.int (n*16+s % 16:Nat)])::G) _
  refine XS.cons (XT.dU (LhI n s L a G) (s / 16) ⟨_,[],_,rfl,by walk_at "look",by walk_at "look",by omega,rfl⟩ cF.deeper rfl (fun m G' I=>?_))
  obtain⟨ρ,d,p,rfl,l1,l2,hp,e⟩:=I
  have hd:d.length≤9:=by have:=b8 (n:=n) hs;rw [e,List.length_append] at this;omega
  refine⟨decide (0<m),by walk_at "tr",fun h=>?_,fun h=>?_⟩
  · have h:0<m:=of_decide_eq_true h
    refine XS.setItem (p:=.int (p+128:Nat)) (Ev.bin (p:=.int p) (Ev.DO (i:=-1) (j:=1) (by walk_at "ev") (nD Ev.int) rfl (by decide) (by simp [nums];omega) (MI _ _) (by decide) (fun xx xx=>rfl)) (by walk_at "ev") (by walk_at "op")) (by walk_at "ev") (nD Ev.int) rfl (fun v u t F hv hu ht=>by cases hu;exact A2 (i:=1) rfl ht hv) ?_
    show XS _ _ _ _ ((L,.frame ρ)::(a,.list (nums d++[.int (p+128:Nat)]))::G) _
    refine XS.cons (XT.append (p:=.int (m % 128:Nat)) (by walk_at "ev") (by walk_at "evs") (i:=1) rfl (j:=1) rfl (by simp [nums];omega) ?_ rfl rfl rfl rfl)
    show XS _ _ _ _ (_::_::_) _
    refine XS.aE (p:=.int (m / 128:Nat)) rfl rfl rfl rfl (by walk_at "ev") (XS.nil ⟨m / 128,by omega,_,d++[p+128],m % 128,by rw [← cA];rfl,by walk_at "look",by walk_at "look",by omega,?_⟩)
    rw [e,jU,if_neg (by omega)];simp
  · have h:¬ 0<m:=of_decide_eq_false h
    have hm:m=0:=by omega
    subst hm
    have e2:PackLaw.hd n s=d++[p]:=by rw [e,jU,if_pos rfl]
    show XS _ _ _ _ (_::_::_) _
    refine XS.ret (p:=.bytes (bb (PackLaw.hd n s))) (Ev.aQ (by walk_at "ev") aV (by walk_at "evs") (by rfl) fun vs F' pvs=>?_) (by exact⟨_,G,Drop.snd (by rfl),rfl,rfl⟩)
    obtain⟨v,rfl,hv⟩:=pvs.bH
    cases hv
    refine t4 (ns:=PackLaw.hd n s) (i:=1) (by rw [e2,← cA];rfl) R'.quiet (PC _ _ (by omega)) ?_
    rw [e2];simp;omega
end
section
variable {w:World} {A:Around} {env:Env} {G G' G1 G2 G3:Led} {e l r:Expr} {pos:Pos} {F:FM} {v u:Value} {a b:Int} {is js:List Int}
theorem M6 (hu0:A.units+64<cLine) (hv:(PV.lst (is.map .int)).Is w.params F v) (hu:(PV.lst (js.map .int)).Is w.params F u):T w A F (compareOp .NotEq v u) G G (fun F v=>(PV.bool (!decide (is=js))).Is w.params F v):=T.of fun F1 s h k Q E H l S q=>by
  obtain⟨a,vs,n,rfl,fa,pvs⟩:=PV.Is.mono l hv
  obtain⟨b,ws,m,rfl,fb,qvs⟩:=PV.Is.mono l hu
  exact ke_ne_ints (s:=sh s h k) ⟨_,S.sub _ _ fa,rfl,n,rfl⟩ ⟨_,S.sub _ _ fb,rfl,m,rfl⟩ (lP pvs) (lP qvs) hu0 (q _ h k (.refl _) rfl)
theorem BV {d:Nat} (hd:0<d) (hv:(PV.int a).Is w.params F v) (hu:(PV.int d).Is w.params F u):T w A F (binaryOp .Mod v u) G G (fun F v=>(PV.int ((a.fmod d).toNat:Nat)).Is w.params F v):=T.imp (H7 (by omega) hv hu) fun F' v l h=>by
  rw [Int.toNat_of_nonneg (Int.fmod_nonneg_of_pos a (by omega))];exact h
theorem BQ {a:Int} {d:Nat} (hd:0<d):(a.fmod d).toNat<d:=by
  have:=Int.fmod_lt_of_pos a (b:=(d:Int)) (by omega +splitMinMax)
  omega +splitMinMax
end
section
variable {w:World} {A:Around} {G:Led} {F:FM} {t below:Nat} {vs:List Value} {cs:List Int} {a:Addr}
set_option maxHeartbeats 8000000 in
theorem O6 (R:Rm A 1) (hc:cs.length≤1000) (ht:t≤1000000) (hb:0<below) (hb2:below<1000000) (pv:aS w.params F [.val (.ref a),.int below] vs) :
    TX w A F (call (.ref 362) vs) ((a,.list [.lst (cs.map .int),.int t])::G) (fun G' F v=>∃ p:PV,p.Is w.params F v∧G'=(a,.list [.lst (cs.map .int),.int (t+1:Nat)])::G∧∃ r:Nat,r<below∧p=.int r) bG:=by
  obtain⟨v0,v1,rfl,p0,p1⟩:=pv.two
  refine TX.fn (N:=fun p G'=>G'=(a,.list [.lst (cs.map .int),.int (t+1:Nat)])::G∧∃ r:Nat,r<below∧p=.int r) (X:=bG) (fn362 _) R.room.room (fun s X=>@J8 w s X v0 v1) pv nd362 lc362 nc362 fun L=>?_
  have R':=R.deeper (aT (aK 38) "_law_draw" 362 (fun xx=>[]) (.ref 361) L)
  have hu:(A.deeper (aT (aK 38) "_law_draw" 362 (fun xx=>[]) (.ref 361) L)).units+64<cLine:=by have:=R'.room.units;show _<9900;omega
  refine XS.setItem (p:=.int (t+1:Nat)) (Ev.bin (p:=.int t) (Ev.x8 (i:=1) (j:=1) (by walk_at "ev") Ev.int rfl (by decide) rfl (by decide) (fun xx xx=>rfl)) (by walk_at "ev") (by walk_at "op")) (by walk_at "ev") Ev.int rfl (fun v u t F hv hu ht=>by cases hu;exact M8 (i:=1) (j:=1) rfl (by decide) (by simp) (by decide) ht hv) ?_
  show XS _ _ _ _ ((L,.frame _)::(a,.list [.lst (cs.map .int),.int (t+1:Nat)])::G) _
  refine XS.cY (ns:=["turn","cells"]) R'.quiet rfl (by rfl) (by decide) rfl rfl (by decide) (aL.ev (p:=.int (t+1:Nat)) (Ev.x8 (i:=1) (j:=1) (by walk_at "ev") Ev.int rfl (by decide) rfl (by decide) (fun xx xx=>rfl))
    (aL.ev (p:=.lst (cs.map .int)) (Ev.x8 (i:=0) (j:=1) (by walk_at "ev") Ev.int rfl (by decide) rfl (by decide) (fun xx xx=>rfl)) (aL.nil ⟨rfl,_,_,rfl,?_⟩) (by rfl)) (by rfl))
  show XS _ _ _ _ ((L,.frame [("cells",.lst (cs.map .int)),("turn",.int (t+1:Nat)),("deck",.val (.ref a)),("below",.int below)])::(a,.list [.lst (cs.map .int),.int (t+1:Nat)])::G) _
  refine XS.ifs (b:=decide (t+1≤(cs.map PV.int).length)) (by walk_at "tr") (fun h=>?_) fun h=>XS.nil ?_
  · have h:t+1≤(cs.map PV.int).length:=of_decide_eq_true h
    rw [List.length_map] at h
    refine XS.kX (p:=.int ((cs[t].fmod below).toNat:Nat)) (Ev.bin (p:=.int cs[t]) (Ev.tX (i:=((t+1 - 1:Nat):Int)) (by walk_at "ev") (by walk_at "ev") (by omega) (by simp [h]) (by omega) (fun xx xx=>rfl)) (by walk_at "ev") fun v u F hv hu=>BV hb hv hu) (by exact⟨_,_,Drop.refl _,rfl,_,BQ hb,rfl⟩)
  · have h:¬ t+1≤(cs.map PV.int).length:=of_decide_eq_false h
    rw [List.length_map] at h
    show XS _ _ _ _ _ _
    refine XS.aE (p:=.int (if hx:cs=[] then 7 else cs[(t+1) % cs.length]'(Nat.mod_lt _ (List.length_pos_iff.mpr hx)))) rfl rfl rfl rfl (Ev.tW (b:=!decide (cs=[])) (Tr.cmp (p:=.lst (cs.map .int)) (q:=.lst ([].map .int)) (by walk_at "ev") (Ev.list aU.nil (by simp)) (fun v u F hv hw=>M6 hu hv hw) (by rfl)) (fun hx=>?_) fun hx=>?_) ?_
    · have hx:¬ cs=[]:=by simpa using hx
      have hp:0<cs.length:=List.length_pos_iff.mpr hx
      rw [dif_neg hx]
      have hlt:(t+1) % cs.length<cs.length:=Nat.mod_lt _ hp
      exact Ev.tX (i:=(((t+1) % cs.length:Nat):Int)) (by walk_at "ev") (Ev.bin (q:=.int (cs.length:Nat)) (by walk_at "ev") (cC (p:=.int ((cs.map PV.int).length:Nat)) (by walk_at "ev") (by rw [List.length_map])) fun v u F hv hw=>wZ hp hv hw) (by omega) (by rw [Int.toNat_natCast,List.getElem?_map,List.getElem?_eq_getElem hlt];rfl) (by omega) (fun xx xx=>rfl)
    · have hx:cs=[]:=by simpa using hx
      rw [dif_pos hx]
      exact Ev.int
    generalize (if hx:cs=[] then 7 else cs[(t+1) % cs.length]'(Nat.mod_lt _ (List.length_pos_iff.mpr hx)))=cell
    generalize hm1:((cell.fmod (2147483629:Nat)).toNat+60013*(t+1)*(t+1)+17)*48271 % 2147483647=m1
    have hm1':m1<2147483647:=hm1 ▸ Nat.mod_lt _ (by decide)
    have hl1:(cell.fmod (2147483629:Nat)).toNat<2147483629:=BQ (by decide)
    refine XS.aE (p:=.int m1) rfl rfl rfl rfl (by
      rw [← hm1]
      exact Ev.bin (p:=.int (((cell.fmod (2147483629:Nat)).toNat+60013*(t+1)*(t+1)+17)*48271:Nat)) (Ev.bin (p:=.int ((cell.fmod (2147483629:Nat)).toNat+60013*(t+1)*(t+1)+17:Nat)) (Ev.bin (p:=.int ((cell.fmod (2147483629:Nat)).toNat+60013*(t+1)*(t+1):Nat))
        (Ev.bin (p:=.int ((cell.fmod (2147483629:Nat)).toNat:Nat)) (Ev.bin (p:=.int cell) (by walk_at "ev") (by walk_at "ev") fun v u F hv hw=>BV (d:=2147483629) (by decide) hv hw) (Ev.bin (p:=.int (60013*(t+1):Nat)) (by walk_at "ev") (by walk_at "ev") fun v u F hv hw=>pU (by omega) (by omega) hv hw) (by walk_at "op")) (by walk_at "ev") (by walk_at "op")) (by walk_at "ev") (by walk_at "op")) (by walk_at "ev") (by walk_at "op")) ?_
    generalize hm2:(m1*m1+(t+1)) % 2147483579=m2
    refine XS.aE (p:=.int m2) rfl rfl rfl rfl (by
      rw [← hm2]
      exact Ev.bin (p:=.int (m1*m1+(t+1):Nat)) (Ev.bin (p:=.int (m1*m1:Nat)) (Ev.bin (p:=.int m1) (by walk_at "ev") (by walk_at "ev") fun v u F hv hw=>pU (by omega) (by omega) hv hw) (by walk_at "ev") (by walk_at "op")) (by walk_at "ev") (by walk_at "op")) ?_
    exact XS.kX (p:=.int (m2 / 64 % below:Nat)) (Ev.bin (p:=.int (m2 / 64:Nat)) (by walk_at "ev") (by walk_at "ev") fun v u F hv hw=>wZ hb hv hw) (by exact⟨_,_,Drop.refl _,rfl,_,Nat.mod_lt _ hb,rfl⟩)
end
theorem uL:typeLookup (.type "bytes") "__bytes__"=pure (some (.builtin "bytes.__bytes__")):=by rw [typeLookup_type,builtinLookup_eq_fast];kernel_rfl
theorem y4 (x:Array UInt8) (t:Tok):Builtin.Bytes.bindOptional "bytes.__new__" "bytes" ["source","encoding","errors"] [.bytes x t] []=pure [some (.bytes x t),none,none]:=by kernel_rfl
section
variable {w:World} {A:Around} {env:Env} {G G' G1 G2 Γ:Led} {pos cpos:Pos} {e value:Expr} {p q:PV} {ps:List PV} {xs:List Str} {F:FM} {v:Value} {x:List UInt8} {C a dx:Addr} {name:Str}
theorem tY (hv:(PV.bytes x).Is w.params F v):T w A F (call (.type "bytes") [v]) G G (fun F v=>(PV.bytes x).Is w.params F v):=T.f9 fun F1 s Q E l q=>by
  obtain⟨t,rfl⟩:=hv
  refine callType_codes (Q₁:=fun obj s₁=>s₁.TypeIs obj "bytes"∧Q obj s₁) PySem.F.bm_called (PySem.F.bm_typeCall _) PySem.F.entry_object_init ?_ fun obj s₁ h₁=>?_
  · refine codeAny_of_tree ?_
    show wpAny _ A.in1.in1 (do checkBuiltinCall "bytes.__new__" ⟨[.type "bytes",.bytes x.toArray t],[]⟩;again (.builtin "bytes.__new__" ⟨[.type "bytes",.bytes x.toArray t],[]⟩)) _ _ s
    refine wpAny_bind (wpAny_of_eq (PySem.F.bm_newCall _) (wpAny_pure ⟨plainId_quiet PySem.F.bm_plain _,codeAny_builtin PySem.F.bm_entry ?_⟩))
    rw [Around.under_plainId PySem.F.bm_plain _]
    have hT:s.TypeIs (.bytes x.toArray t) "bytes":=typeIs_bytes _ _ _
    unfold Builtin.«bytes.__new__»
    refine wpAny_bind (wpAny_of_eq (a:=true) rfl ?_)
    refine bm_if_false rfl ?_
    refine wpAny_bind (wpAny_of_eq PySem.F.bm_sub ?_)
    refine bm_if_false rfl ?_
    refine wpAny_bind (wpAny_of_eq (y4 _ _) ?_)
    refine wpAny_bind (wpAny_of_eq (a:=()) rfl ?_)
    refine wpAny_bind (wpAny_of_eq (a:=()) rfl ?_)
    refine bm_if_false rfl ?_
    refine wpAny_bind (wpAny_specialOf hT uL ?_)
    refine wpAny_bind (wpAny_rule (wpAny_bind (wpAny_typeOf hT ?_)))
    refine bm_if_true (by decide +kernel) ?_
    show wpAny _ _ (if (Value.type "bytes" == Value.type "bytes")=true then _ else _) _ _ _
    refine bm_if_true (by decide +kernel) ?_
    first
      | exact wpAny_pure ⟨typeIs_bytes _ _ _,q _ s.toks ⟨t,rfl⟩⟩
      | exact wpAny_bind (wpAny_pure (wpAny_pure ⟨typeIs_bytes _ _ _,q _ s.toks ⟨t,rfl⟩⟩))
  · exact⟨h₁.1,PySem.F.args_object_init_2 obj _,object_init_meets PySem.F.bm_called.init.lookup PySem.F.bm_called.made (by decide) pw w A.in1 _ s₁ ⟨h₁.1,rfl,h₁.2⟩⟩
theorem bA (ho:Ev w A env G value (.inst C xs ps) G1) (ok:attrOk (KF w.params) C name=true) (hl:dG xs ps name=some q) (hq:q.plain=true)
    (he:eval (.Attribute value name pos) env=(do
      let o ← eval value env
      standAt pos.atName
      let r ← holding [o] (getAttr o name true)
      letTemporaryGo value o r
      pure r)):Ev w A env G (.Attribute value name pos) q G1:=BK ho sV.inst ok hl hq he
theorem lL {i:Nat} (ho:Ev w A env G value (.pO a C dx) G1) (hi:G1[i]?=some (dx,.ns xs ps)) (ok:attrOk (KF w.params) C name=true) (hl:dG xs ps name=some q) (hq:q.plain=true)
    (he:eval (.Attribute value name pos) env=(do
      let o ← eval value env
      standAt pos.atName
      let r ← holding [o] (getAttr o name true)
      letTemporaryGo value o r
      pure r)):Ev w A env G (.Attribute value name pos) q G1:=BK ho (sV.pO hi) ok hl hq he
end
noncomputable def bM (ks:List (List UInt8)) (x:List UInt8):List (List UInt8):=if x∈ks then ks else ks++[x]
noncomputable def numAt (ks:List (List UInt8)) (x:List UInt8):Nat:=(bM ks x).idxOf x+1
noncomputable def kvsOf:Nat→List (List UInt8)→List (List UInt8×PV)
  | _,[]=>[]
  | n,k::ks=>(k,.int (n+1:Nat))::kvsOf (n+1) ks
noncomputable def a7 (ks:List (List UInt8)):List (List UInt8×PV):=kvsOf 0 ks
theorem jB:∀ (ks:List (List UInt8)) (n:Nat),(kvsOf n ks).length=ks.length
  | [],_=>rfl
  | k::ks,n=>by unfold kvsOf;rw [List.length_cons,List.length_cons,jB]
theorem qF:∀ (ks:List (List UInt8)) (n:Nat) (x:List UInt8),kvsOf n (ks++[x])=kvsOf n ks++[(x,.int (n+ks.length+1:Nat))]
  | [],n,x=>rfl
  | k::ks,n,x=>by
    rw [List.cons_append,kvsOf,qF ks (n+1) x,kvsOf,List.cons_append,List.length_cons,show n+1+ks.length+1=n+(ks.length+1)+1 by omega]
theorem eJ:∀ (ks:List (List UInt8)) (n:Nat) (x:List UInt8),bJ (kvsOf n ks) x=if x∈ks then some (.int (n+ks.idxOf x+1:Nat)) else none
  | [],_,_=>rfl
  | k::ks,n,x=>by
    unfold bJ kvsOf
    rw [List.find?_cons]
    by_cases e:k=x
    · subst e;simp
    · have:=eJ ks (n+1) x
      unfold bJ at this
      simp only [e,decide_false]
      rw [this]
      have e2:¬ x=k:=fun z=>e z.symm
      by_cases hm:x∈ks
      · have e3:(k == x)=false:=beq_eq_false_iff_ne.mpr e
        simp only [List.mem_cons,hm,or_true,if_true,List.idxOf_cons,e3,cond_false]
        rw [show n+1+List.idxOf x ks+1=n+(List.idxOf x ks+1)+1 by omega]
      · simp [hm,e2]
theorem yQ (ks:List (List UInt8)) (x:List UInt8):x∈bM ks x:=by unfold bM;split <;> simp_all
noncomputable def hash (d:Addr):PV:=.inst 162 ["size","known"] [.int (4:Nat),.val (.ref d)]
noncomputable def dig (ks:List (List UInt8)) (x:List UInt8):List UInt8:=be (numAt ks x) 4
section
variable {w:World} {A:Around} {G:Led} {F:FM} {vs:List Value} {x:List UInt8} {d:Addr} {ks:List (List UInt8)}
set_option maxHeartbeats 8000000 in
theorem p7 (R:Rm A 2) (hk:ks.length≤1000) (pv:aS w.params F [hash d,.bytes x] vs):T w A F (call (.ref 159) vs) ((d,.dB (a7 ks))::G) ((d,.dB (a7 (bM ks x)))::G) (fun F v=>(PV.bytes (dig ks x)).Is w.params F v):=by
  obtain⟨v0,v1,rfl,p0,p1⟩:=pv.two
  refine T.fn (fn159 _) R.room.room (fun s X=>@JP w s X v0 v1) pv nd159 lc159 nc159 fun L=>?_
  have R':=R.deeper (aT (aW 14 1) "CountingHasher.digest" 159 (fun xx=>[]) (.ref 158) L)
  refine XS.aE (p:=.bytes x) rfl rfl rfl rfl (Ev.aQ (by walk_at "ev") aV (by walk_at "evs") (by rfl) fun vs F' pvs=>by
    obtain⟨v,rfl,hv⟩:=pvs.bH
    exact tY hv) ?_
  have tail:∀ (ρ:List (Str×PV)),Look ρ "self" (hash d)→Look ρ "content" (.bytes x)→XS w (A.deeper (aT (aW 14 1) "CountingHasher.digest" 159 (fun xx=>[]) (.ref 158) L)) (aT (aW 14 1) "CountingHasher.digest" 159 (fun xx=>[]) (.ref 158) L) ((cQ (aW 14 1)).drop 2) ((L,.frame ρ)::(d,.dB (a7 (bM ks x)))::G) (bI L (fun p G'=>p=.bytes (dig ks x)∧G'=(d,.dB (a7 (bM ks x)))::G) bG):=fun ρ l1 l2=>by
    refine XS.kX (p:=.bytes (dig ks x)) (Ev.aQ (by walk_at "ev") (aB (by kernel_rfl)) (aU.cons (p:=.int (numAt ks x:Nat)) (lM (i:=1) (bA (C:=162) (xs:=["size","known"]) (ps:=[.int (4:Nat),.val (.ref d)]) (by walk_at "ev") (by kernel_rfl) rfl rfl rfl) (by walk_at "ev") rfl ?_ (fun xx xx=>rfl)) (aU.cons (p:=.int (4:Nat)) (bA (C:=162) (xs:=["size","known"]) (ps:=[.int (4:Nat),.val (.ref d)]) (by walk_at "ev") (by kernel_rfl) rfl rfl rfl) aU.nil (by rfl)) (by rfl)) (by rfl) fun vs F' pvs=>c_be (m:=4) R' (by decide) pvs) (by exact⟨_,_,Drop.refl _,rfl,rfl⟩)
    rw [a7,eJ,if_pos (yQ ks x),Nat.zero_add];rfl
  refine XS.ifs (b:=!(bJ (a7 ks) x).isSome) (Tr.cmp (by walk_at "ev") (bA (C:=162) (xs:=["size","known"]) (ps:=[.int (4:Nat),.val (.ref d)]) (by walk_at "ev") (by kernel_rfl) rfl rfl rfl) (fun v u F hv hu=>t5 (i:=1) rfl hv hu) (by rfl)) (fun h=>?_) fun h=>XS.nil ?_
  · have hm:x∉ks:=fun z=>by rw [a7,eJ,if_pos z] at h;cases h
    have hr:a7 (bM ks x)=a7 ks++[(x,.int (ks.length+1:Nat))]:=by rw [bM,if_neg hm,a7,qF,Nat.zero_add];rfl
    refine XS.setItem (p:=.int (ks.length+1:Nat)) (qo:=.val (.ref d)) (qi:=.bytes x) (Ev.bin (p:=.int (ks.length:Nat)) (Ev.aQ (by walk_at "ev") dM (aU.cons (bA (C:=162) (xs:=["size","known"]) (ps:=[.int (4:Nat),.val (.ref d)]) (by walk_at "ev") (by kernel_rfl) rfl rfl rfl) aU.nil (by rfl)) (by rfl) fun vs F' pvs=>?_) (by walk_at "ev") (by walk_at "op"))
      (bA (C:=162) (xs:=["size","known"]) (ps:=[.int (4:Nat),.val (.ref d)]) (by walk_at "ev") (by kernel_rfl) rfl rfl rfl) (by walk_at "ev") rfl (fun v u t F hv hu ht=>by cases hu;exact w1 (i:=1) rfl (by rw [a7,eJ,if_neg hm]) (by rw [a7,jB];omega) ht hv) (XS.nil ?_)
    · obtain⟨v,rfl,hv⟩:=pvs.bH
      cases hv
      have:=M0 (w:=w) (A:=A.deeper (aT (aW 14 1) "CountingHasher.digest" 159 (fun xx=>[]) (.ref 158) L)) (F:=F') (G:=(L,.frame [("content",.bytes x),("self",hash d),("octets",.bytes x)])::(d,.dB (a7 ks))::G) (i:=1) (d:=d) (kvs:=a7 ks) rfl (by rw [a7,jB];omega)
      rw [a7,jB] at this
      exact this
    · show XS _ _ _ _ ((L,.frame _)::(d,.dB (a7 ks++[(x,.int (ks.length+1:Nat))]))::G) _
      rw [← hr]
      exact tail _ (by walk_at "look") (by walk_at "look")
  · have hm:x∈ks:=Classical.byContradiction fun z=>by rw [a7,eJ,if_neg z] at h;cases h
    have hr:bM ks x=ks:=by rw [bM,if_pos hm]
    have t:=tail [("content",.bytes x),("self",hash d),("octets",.bytes x)] (by walk_at "look") (by walk_at "look")
    rw [hr] at t ⊢
    exact t
end
section
variable {w:World} {A:Around} {env:Env} {G G' G1 G2 Γ:Led} {P:Out→Prop} {pos hpos np:Pos} {body ss suite:List Stmt} {b₀:Stmt} {x n:Str} {p q:PV} {F:FM} {C C' e a:Addr} {c:Value} {ρ:List (Str×PV)}
theorem yE {h:Heap} {s:Shared} {k:Nat} {E:Value→Shared→Prop} {v:Option Value} {cc:Addr} {cv:Value} {pv:PV} {eA:Addr} (hA:cF A env) (hf:env.frame=some a) (S:Sb w A F h ((eA,.exc cc cv pv)::G))
    (q:∀ h',Sb w A F h' ((eA,.exc cc cv pv)::G)→E (.ref eA) (sh s h' k)):notedBy (MM w) (A.mark v) env (cameBackBy (MM w) A env E) (.ref eA) (sh s h k):=by
  obtain⟨envs,e,_⟩:=id S.fr
  obtain⟨outer,rfl⟩:=hA envs e
  exact gG (A:=A.mark v) (S.frames rfl) e hf fun h' S' t=>x7 (S'.frames rfl) t fun h'' S'' xx=>q h'' S''
noncomputable def TryP (P:Out→Prop) (C:Addr) (Hd:Addr→Value→PV→Led→Prop):Out→Prop
  | .next G=>P (.next G)
  | .ret p G=>P (.ret p G)
  | .exc C' c p G=>C'=C∧∀ e,Hd e c p G
theorem XT.try1 (Y:dD w.params C) (hA:cF A env) (hf:env.frame=some a) (hx:∀ A G,Ev w A env G (.Name x np) (.val (.ref C)) G)
    (hb:XS w A env body G (TryP P C fun e c p G'=>XS w (A.mark (some (.ref e))) env (b₀::suite) ((e,.exc C c p)::G') P)):XT w A env (.Try body [.ExceptHandler (some (.Name x np)) none (b₀::suite) hpos] [] [] pos) G P:=by
  obtain⟨nm,q',N,bs,sn,sub,ab,col,dd,k0,k1,k2,k3,k5,hK⟩:=Y.obj
  refine fun F1 H s h k Q E l S q0 y=>?_
  refine wpAny_Try_except (hb F1 H s h k _ _ l S (fun f F' h' k' G' l' S' n=>?_) fun e C' c p F' h' k' G' l' S' n=>?_)
  · cases f with
    | next=>exact wpAny_execs_nil (q0 .next F' h' k' G' l' S' n)
    | ret v=>obtain⟨p,pv,n⟩:=n;exact q0 (.ret v) F' h' k' G' l' S' ⟨p,pv,n⟩
    | _=>exact n.elim
  · obtain⟨rfl,n⟩:=n
    obtain⟨envs,he,_⟩:=id S'.fr
    obtain⟨outer,rfl⟩:=hA envs he
    refine gG S' he hf fun h2 S2 t2=>b7 S2 fun h3 S3 t3=>?_
    refine wpAny_handleBy_cons (codeAny_handlers_test (hx (A.mark (some (.ref e))) ((e,.exc C' c p)::G') F' H s h3 k' _ _ (Le.zero _) (S3.frames rfl) (fun v F4 h4 k4 G4 l4 S4 n4=>?_) fun xx xx xx xx xx xx xx xx xx xx n=>n.elim)) (by intro q;cases q)
    obtain⟨rfl,n4⟩:=n4
    cases n4
    have S5:Sb w A F4 h4 ((e,.exc C' c p)::(G'++H)):=S4.frames rfl
    obtain⟨dx,vs,hoe,_⟩:=S5.exc
    refine wpAny_excMatches_sub_self (h:=h4) (g:=s.gens) (d:=s.drawn) (t:=k4) (os:=s.os) (S5.kf _ _ hK) hoe rfl (by rfl) (codeAny_handlers_suite ?_)
    refine b7 (A:=A.mark (some (.ref e))) (s:=s) (k:=k4) (S5.frames rfl) fun h6 S6 xx=>?_
    refine n e F4 H s h6 k4 _ _ (Le.zero _) S6 (fun f F7 h7 k7 G7 l7 S7 n7=>?_) fun e2 C2 c2 p2 F7 h7 k7 G7 l7 S7 n7=>?_
    · exact q0 f F7 h7 k7 G7 ((l'.trans l4).trans l7) (S7.frames rfl) n7
    · exact yE hA hf (S7.frames rfl) fun h8 S8=>y e2 C2 c2 p2 F7 h8 k7 G7 ((l'.trans l4).trans l7) S8 n7
end
noncomputable def qG:Code→Bool
  | .builtin id _=>!(Builtin.Bytes.decodersThatHold.contains id)
  | _=>true
noncomputable def Cl (l:List (Code×Pos)):Prop:=∀ q∈l,qG q.1=true
noncomputable def bX {α:Type} (M:Model) (A:Around) (t:Sem α) (Q:α→Shared→Prop) (E:Value→Shared→Prop) (s:Shared):Prop :=
  ∀ Γ p,Γ.In A→qG Γ.code=true→Cl Γ.below→Sem.wp M Γ t (fun a xx s'=>Q a s') (fun e xx s'=>E e s') p s
noncomputable def b0 (M:Model) (A:Around) (c:Code) (R:Result→Shared→Prop) (s:Shared):Prop :=
  ∀ Γ p,Γ.code=c→Γ.Below A→Cl Γ.below→wpCode M Γ R p s
section
variable {α β:Type} {M:Model} {A:Around} {E:Value→Shared→Prop} {s:Shared} {env:Env}
theorem bX.of {t:Sem α} {Q:α→Shared→Prop} (h:wpAny M A t Q E s):bX M A t Q E s:=fun Γ p i xx xx=>h Γ p i
theorem b0.of {c:Code} {R:Result→Shared→Prop} (h:codeAny M A c R s):b0 M A c R s:=fun Γ p e i xx=>h Γ p e i
theorem bY {t:Sem α} {Q Q':α→Shared→Prop} {E':Value→Shared→Prop} (h:bX M A t Q E s) (hQ:∀ a s,Q a s→Q' a s) (hE:∀ e s,E e s→E' e s):bX M A t Q' E' s :=
  fun Γ p i c d=>Sem.wp_mono M Γ t (fun a xx s=>hQ a s) (fun e xx s=>hE e s) p s (h Γ p i c d)
theorem aR {a:α} {Q:α→Shared→Prop} (h:Q a s):bX M A (pure a) Q E s:=.of (wpAny_pure h)
theorem aD {m:Sem α} {f:α→Sem β} {Q:β→Shared→Prop} (h:bX M A m (fun a s'=>bX M A (f a) Q E s') E s):bX M A (m >>= f) Q E s:=fun Γ p i c d=>by
  rw [Sem.wp_bind']
  exact Sem.wp_mono M Γ m (fun a p' s' h'=>h' Γ p' i c d) (fun xx xx xx h'=>h') p s (h Γ p i c d)
theorem pI {m:Sem α} {k:Value→Sem Unit} {Q:α→Shared→Prop} (h:bX M A m Q (fun e s'=>bX M A (k e) (fun xx s''=>E e s'') E s') s):bX M A (m.onRaise k) Q E s:=fun Γ p i c d=>by
  rw [Sem.wp_onRaise]
  exact Sem.wp_mono M Γ m (fun xx xx xx h'=>h') (fun e p' s' h'=>h' Γ p' i c d) p s (h Γ p i c d)
theorem bS {vs:List Value} {m:Sem α} {Q:α→Shared→Prop} (h:bX M A m Q E s):bX M A (holding vs m) Q E s:=fun Γ p i c d=>by rw [Sem.wp_holding];exact h Γ p i c d
theorem I4 {vs:List Value} {m:Sem α} {Q:α→Shared→Prop} (h:bX M A m Q E s):bX M A (m.keep vs) Q E s:=fun Γ p i c d=>by rw [Sem.wp_keep];exact h Γ p i c d
theorem bT {pos:Pos} {Q:Unit→Shared→Prop} (h:Q () s):bX M A (standAt pos) Q E s:=.of (wpAny_standAt h)
theorem uA {Q:Unit→Shared→Prop} (h:Q () s):bX M A point Q E s:=.of (wpAny_point h)
theorem NW {c:Code} {h:Option Value} {Q:Flow→Shared→Prop} (hc:b0 M (A.mark h) c (fun r s'=>match r with | .ok f=>Q f s' | .error e=>E e s') s) (hnb:h≠some byPass:=by intro x;cases x):bX M A (run c h) Q E s :=
  fun Γ p i n d=>by
    rw [Sem.wp_run]
    refine hc _ p rfl (i.enter c h p hnb) fun q hq=>?_
    rcases List.mem_cons.mp hq with rfl | hq
    · exact n
    · exact d q hq
theorem xK {c:Code} {Q:Value→Shared→Prop} (hc:b0 M A c (fun r s'=>match r with | .ok (.ret v)=>Q v s' | .ok _=>False | .error e=>E e s') s):bX M A (runValue c) Q E s:=fun Γ p i n d=>by
  rw [Sem.wp_runValue]
  refine hc _ p rfl (i.enter c none p (by intro x;cases x)) fun q hq=>?_
  rcases List.mem_cons.mp hq with rfl | hq
  · exact n
  · exact d q hq
theorem mR {f:Value} {pos:List Value} {kw:List (Str×Value)} {Q:Value→Shared→Prop} (hc:b0 M A (.call f ⟨pos,kw⟩) (fun r s'=>match r with | .ok (.ret v)=>Q v s' | .ok _=>False | .error e=>E e s') s):bX M A (PySem.call f pos kw) Q E s:=xK hc
theorem bC {c:Code} {R:Result→Shared→Prop} (hn:qG c=true)
    (h:bX M (A.under c) (M.den c) (fun fin s'=>match fin with | .done f=>R (.ok f) s' | .again c'=>c'.quiet=true∧b0 M A c' R s') (fun e s'=>R (.error e) s') s):b0 M A c R s:=fun Γ p hc hΓ d=>by
  rw [wpCode_iff_wp,hc]
  refine Sem.wp_mono M Γ _ (fun fin p' s' h'=>?_) (fun xx xx xx h'=>h') p s (h Γ p (hc ▸ hΓ.in) (hc ▸ hn) d)
  cases fin with
  | done f=>exact h'
  | again c'=>exact⟨h'.1,h'.2 (Γ.goto c') p' rfl (hΓ.goto c') d⟩
theorem y9 {c:Code} {R R':Result→Shared→Prop} (h:b0 M A c R s) (hR:∀ r s,R r s→R' r s):b0 M A c R' s:=fun Γ p hc hΓ d=>wpCode_mono hR (h Γ p hc hΓ d)
theorem sS {c:Code} {h:Option Value} {Q:Flow→Shared→Prop}
    (hc:b0 M (A.mark h) c (fun r s'=>match r with | .ok f=>Q f s' | .error e=>cameBackBy M A env E e s') s) (hnb:h≠some byPass:=by intro x;cases x):bX M A (runOwn c env h) Q E s:=by
  unfold runOwn
  refine pI (NW (y9 hc fun r s' hr=>?_) hnb)
  cases r with
  | ok f=>exact hr
  | error e=>exact .of hr
theorem t9 {m:Sem α} {Q:α→Shared→Prop} (h:bX M A m Q (notedBy M A env E) s):bX M A (m.onRaise fun x=>do noteFrame x env;theTreesLotGoes x) Q E s :=
  pI (bY h (fun xx xx q=>q) fun xx xx hx=>.of (wpAny_bind (wpAny_mono hx (fun xx xx e=>wpAny_theTreesLotGoes e) fun xx xx e=>e)))
theorem sR {st rest} {Q:Flow→Shared→Prop} (h:bX M A (exec st env) (fun f s'=>match f with | .next=>bX M A (execs rest env) Q E s' | f=>Q f s') E s):bX M A (execs (st::rest) env) Q E s:=fun Γ p i c d=>by
  rw [execs_cons,Sem.wp_bind']
  refine Sem.wp_mono M Γ _ (fun f p' s' h'=>?_) (fun xx xx xx h'=>h') _ _ (h Γ p i c d)
  cases f <;> first | exact h' Γ p' i c d | exact h'
theorem I3 {e pos} {Q:Flow→Shared→Prop} (h:bX M A (eval e env) (fun v s'=>match v with | .ref _=>False | _=>Q .next s') E s)
    (hi:interactive env=false) (hs:swapsWith e none pos.line env=pure false):bX M A (exec (.Expr e pos) env) Q E s:=by
  rw [exec_Expr env e pos hi hs]
  refine aD (bT (aD (bY h (fun v s' h'=>?_) fun xx xx x=>x)))
  have hv:∀ a,v≠.ref a:=fun a hva=>by subst hva;exact h'
  rw [dropValue_plain hv]
  refine aR ?_
  cases v <;> first | exact h' | exact(hv _ rfl).elim
theorem pP {x pos' value pos} {Q:Flow→Shared→Prop} (h:bX M A (eval value env) (fun v s₁=>wpAny M A (storeName env x v) (fun xx=>Q .next) E s₁) E s)
    (hs:swapsWith value (some (.Name x pos')) pos.line env=pure false):bX M A (exec (.Assign [.Name x pos'] value pos) env) Q E s:=fun Γ p i c d=>by
  simp only [exec_Assign_Name env x pos' value pos hs,Sem.wp_bind',Sem.wp_cmd_standAt,Sem.wp_bindName,Sem.wp_pure']
  exact Sem.wp_mono M Γ _ (fun v xx s₁ h₁=>h₁ Γ _ i) (fun xx xx xx h'=>h') _ _ (h Γ _ i c d)
theorem RS {test body orelse pos} {Q:Flow→Shared→Prop} (h:wpAny M A (isTrue test env (eval test env)) (fun b s₂=>if b then bX M A (execs body env) Q E s₂ else bX M A (execs orelse env) Q E s₂) E s) :
    bX M A (exec (.If test body orelse pos) env) Q E s:=fun Γ p i c d=>by
  simp only [exec_If,Sem.wp_bind',Sem.wp_cmd_standAt]
  refine Sem.wp_mono M Γ _ (fun b p₂ s₂ h₂=>?_) (fun xx xx xx h'=>h') _ _ (h Γ _ i)
  cases b <;> exact h₂ Γ p₂ i c d
theorem pQ {e pos} {Q:Flow→Shared→Prop} (h:bX M A (eval e env) (fun v=>Q (.ret v)) E s):bX M A (exec (.Return (some e) pos) env) Q E s:=fun Γ p i c d=>by
  simp only [exec_Return_some,Sem.wp_bind',Sem.wp_cmd_standAt,Sem.wp_pure'];exact h Γ _ i c d
theorem EC {test body orelse pos} {Q:Flow→Shared→Prop}
    (h:b0 M A (.whileLoop test body orelse env) (fun r s'=>match r with | .ok f=>Q f s' | .error e=>cameBackBy M A env E e s') s):bX M A (exec (.While test body orelse pos) env) Q E s:=by
  rw [exec_While];exact aD (bT (sS h))
theorem NV {target iter body orelse pos} {Q:Flow→Shared→Prop}
    (h:wpAny M A (eval iter env) (fun x s₁=>wpAny M A (pyIter x) (fun it s₂ =>
      b0 M A (.forLoop target it body orelse env) (fun r s'=>match r with | .ok f=>Q f s' | .error e=>cameBackBy M A env E e s') s₂) E s₁) E s)
    (hs:∀ x,foldedSetIterable iter env x=pure x):bX M A (exec (.For target iter body orelse pos) env) Q E s:=by
  rw [exec_For]
  exact aD (bT (aD (bY (.of h) (fun x s₁ h₁=>aD (.of (wpAny_of_eq (hs x) (aD (bT (aD (bS (.of (wpAny_mono h₁ (fun it s₂ h₂=>sS h₂) fun xx xx h'=>h'))))))))) fun xx xx h'=>h')))
theorem oC {c:Code} {R:Result→Shared→Prop} (hq:c.quiet=true) (hn:qG c=true) (I:Nat→Shared→Prop)
    (turn:∀ n s,I n s→bX M (A.under c) (M.den c)
      (fun fin s'=>match fin with
        | .done f=>R (.ok f) s'
        | .again c'=>(c'=c∧∃ m,m<n∧I m s')∨(c'.quiet=true∧b0 M A c' R s')) (fun e s'=>R (.error e) s') s)
    (n:Nat) (h:I n s):b0 M A c R s:=by
  induction n using Nat.strongRecOn generalizing s with
  | ind n ih =>
    refine bC hn (bY (turn n s h) (fun fin s' hf=>?_) fun xx xx h'=>h')
    cases fin with
    | done f=>exact hf
    | again c' =>
      rcases hf with ⟨rfl,m,hm,hI⟩ | hf
      · exact⟨hq,ih m hm hI⟩
      · exact hf
end
section
variable {prog:Program} {w:World} {A:Around} {E:Value→Shared→Prop} {s:Shared} {env:Env} {R:Result→Shared→Prop}
theorem tE {target it body orelse} (I:Nat→Shared→Prop)
    (turn:∀ n s,I n s→wpAny (model prog w) A (pyNext it) (fun r s₁=>match r with
      | none=>wpAny (model prog w) A (execs orelse env) (fun f s₃=>R (.ok f) s₃) (notedBy (model prog w) A env fun e s'=>R (.error e) s') s₁
      | some v=>wpAny (model prog w) A (letOwnedTupleGo target it v) (fun xx s₁' =>
          wpAny (model prog w) A (assign target env v) (fun xx s₂=>bX (model prog w) A (execs body env) (fun f s₃=>match f with
            | .next | .cont=>∃ m,m<n∧I m s₃
            | .brk=>R (.ok .next) s₃
            | .ret v=>R (.ok (.ret v)) s₃) (notedBy (model prog w) A env fun e s'=>R (.error e) s') s₂) (notedBy (model prog w) A env fun e s'=>R (.error e) s') s₁') (notedBy (model prog w) A env fun e s'=>R (.error e) s') s₁) (notedBy (model prog w) A env fun e s'=>R (.error e) s') s)
    (n:Nat) (h:I n s):b0 (model prog w) A (.forLoop target it body orelse env) R s:=by
  refine oC rfl rfl I (fun n s hI=>?_) n h
  show bX _ A ((forTurn target it body orelse env).onRaise (fun x=>do noteFrame x env;theTreesLotGoes x)) _ _ s
  refine t9 ?_
  simp only [forTurn]
  refine aD (bT (aD (.of (wpAny_onRaise (wpAny_mono (turn n s hI) (fun r s₁ h₁=>?_) fun xx xx h'=>wpAny_standAt h')))))
  cases r with
  | none=>exact aR (.inr ⟨rfl,.of (codeAny_block h₁)⟩)
  | some v =>
    refine aD (.of (wpAny_mono h₁ (fun xx s₁' h₁'=>?_) fun xx xx h'=>h'))
    refine aD (.of (wpAny_mono h₁' (fun xx s₂ h₂=>aD (bY h₂ (fun f s₃ h₃=>?_) fun xx xx h'=>h')) fun xx xx h'=>h'))
    cases f with
    | next=>exact aR (.inl ⟨rfl,h₃⟩)
    | cont=>exact aR (.inl ⟨rfl,h₃⟩)
    | brk=>exact aR h₃
    | ret v=>exact aR h₃
theorem pN {test body orelse} (I:Nat→Shared→Prop)
    (turn:∀ n s,I n s→wpAny (model prog w) A (isTrue test env (eval test env)) (fun b s₂ =>
        if b then bX (model prog w) A (execs body env) (fun f s₃=>match f with
            | .next | .cont=>∃ m,m<n∧I m s₃
            | .brk=>R (.ok .next) s₃
            | .ret v=>R (.ok (.ret v)) s₃) (notedBy (model prog w) A env fun e s'=>R (.error e) s') s₂
        else wpAny (model prog w) A (execs orelse env) (fun f s₃=>R (.ok f) s₃) (notedBy (model prog w) A env fun e s'=>R (.error e) s') s₂)
        (notedBy (model prog w) A env fun e s'=>R (.error e) s') s)
    (n:Nat) (h:I n s):b0 (model prog w) A (.whileLoop test body orelse env) R s:=by
  refine oC rfl rfl I (fun n s hI=>?_) n h
  show bX _ A ((whileTurn test body orelse env).onRaise (fun x=>do noteFrame x env;theTreesLotGoes x)) _ _ s
  refine t9 ?_
  simp only [whileTurn]
  refine aD (.of (wpAny_mono (turn n s hI) (fun b s₂ h₂=>?_) fun xx xx h'=>h'))
  cases b with
  | false =>
    simp only [Bool.false_eq_true,if_false] at h₂ ⊢
    exact .of (wpAny_bind (wpAny_mono h₂ (fun f s₃ h₃=>wpAny_pure h₃) fun xx xx h'=>h'))
  | true =>
    simp only [if_true] at h₂ ⊢
    refine aD (bY h₂ (fun f s₃ h₃=>?_) fun xx xx h'=>h')
    cases f with
    | next=>exact aR (.inl ⟨rfl,h₃⟩)
    | cont=>exact aR (.inl ⟨rfl,h₃⟩)
    | brk=>exact aR h₃
    | ret v=>exact aR h₃
theorem qA {body}
    (h:bX (model prog w) (A.deeper env) (execs body env) (fun f s'=>R (.ok (.ret (match f with | .ret v=>v | _=>.none))) s')
      (fun e s'=>wpAny (model prog w) (A.deeper env) (leaving env e) (fun xx s''=>R (.error e) s'') (fun e' s''=>R (.error e') s'') s') s) :
    b0 (model prog w) A (.func body env) R s:=by
  refine bC rfl ?_
  show bX _ (A.deeper env) (do point;match ← (execs body env).onRaise (leaving env) with | .ret v=>ret v | _=>ret .none) _ _ s
  refine aD (uA (aD ?_))
  have:bX (model prog w) (A.deeper env) ((execs body env).onRaise (leaving env)) (fun f s'=>R (.ok (.ret (match f with | .ret v=>v | _=>.none))) s') (fun e s'=>R (.error e) s') s:=fun Γ p i c d=>by
    rw [Sem.wp_onRaise]
    exact Sem.wp_mono _ Γ _ (fun xx xx xx h'=>h') (fun e p' s' h'=>h' Γ p' i) p s (h Γ p i c d)
  refine bY this (fun f s' h'=>?_) fun xx xx h'=>h'
  cases f <;> exact aR h'
theorem p9 {a:Addr} {o:Obj} {fd:FuncData} {body:List Stmt} {args:Args} {binds:List (Str×Value)}
    (hroom:A.depth<recursionLimit) (ho:s.heap.get? a=some o) (hdata:o.data=.func fd) (hlim:s.heap.NoLimit) (hcd:s.heap.CodeRec fd.code fd.qualname)
    (hbody:fd.body=.stmts body) (hbind:BindsTo s fd args binds)
    (hcell:∀ x∈fd.scope.names,x.2≠.cell) (hloc:∀ x∈binds,fd.scope.names.lookup x.1=some .local)
    (h:∀ h₀,h₀.Ns s.heap.objs.size (fun x=>binds.reverse.lookup x)→(∀ b o,s.heap.get? b=some o→h₀.get? b=some o) →
      bX (model prog w) (A.deeper (callEnv fd s.heap.objs.size a)) (execs body (callEnv fd s.heap.objs.size a)) (fun f s'=>R (.ok (.ret (match f with | .ret v=>v | _=>.none))) s')
        (fun e s'=>wpAny (model prog w) (A.deeper (callEnv fd s.heap.objs.size a)) (leaving (callEnv fd s.heap.objs.size a) e) (fun xx s''=>R (.error e) s'') (fun e' s''=>R (.error e') s'') s')
        { s with heap:=h₀,toks:=s.toks+binds.length })
    (hco:fd.scope.isCoroutine=false) (hgen:fd.scope.isGenerator=false) (hk:fd.scope.kind=.function) :
    b0 (model prog w) A (.call (.ref a) args) R s:=by
  refine bC rfl ?_
  show bX _ A.in1 (callAny (.ref a) args) _ _ s
  simp only [callAny]
  refine aD (.of (wpAny_load ho ?_))
  obtain⟨c,oc,vs,tq,hc,hoc,hdc,hq⟩:=hcd
  simp only [hdata,callFunction,hco,hgen,hbody,hc]
  refine aD (m:=field (.ref c) 1) (.of (wpAny_field hoc hdc hq (aD (aR ?_))))
  refine aD (.of (hbind _ _ _ _ ?_))
  refine aD (.of (wpAny_newFunctionEnv hcell hloc (fun h₀ hns₀ hsb₀=>aD (.of (wpAny_enterFrame (hlim.fresh _ hsb₀) hroom (aR ⟨rfl,qA ?_⟩)))) hk))
  have:=h h₀ hns₀ fun b o e=>hsb₀.extBut b o (Nat.ne_of_lt (Heap.lt_size e)) (Heap.get?_push_of_some _ e)
  unfold callEnv at this
  rw [hc] at this
  exact this
theorem xJ {P:Heap→Prop} {f:Value} {first:List Value} {pos:Pos} {args:List (Bool×Sem Value)} {keywords:List (Option Str×Sem Value)} {Q:Value→Shared→Prop} (hplain:(args.any (fun xx=>xx.1) || keywords.any (·.1.isNone))=false)
    (hk:∀ h,P h→∃ k,(k=Keeper.frame∨k=Keeper.machine∨k=Keeper.boundFrame)∧Looks (model prog w) h (keeperOf f) k)
    (h:wpAny (model prog w) A (evalArgs f true args keywords) (fun a s₁=>P s₁.heap∧bX (model prog w) A (PySem.call f (first++a.pos) a.kw) Q E s₁) E s):bX (model prog w) A (callWith pos f first args keywords) Q E s:=by
  unfold callWith
  refine aD (bS (.of (wpAny_mono h (fun a s₁ h₁=>aD (bT ?_)) fun xx xx x=>x)))
  obtain⟨k,hk',L⟩:=hk _ h₁.1
  simp only [hplain]
  refine aD (.of (L.here ?_))
  have tail:∀ {t:Sem Value},bX (model prog w) A t Q E s₁→bX (model prog w) A (t >>= fun r=>holding [r] point >>= fun xx=>pure r) Q E s₁ :=
    fun ht=>aD (bY ht (fun r s₂ hr=>aD (bS (uA (aR hr)))) fun xx xx x=>x)
  have marked (mk:Value):bX (model prog w) A (callMarked mk f (first++a.pos) a.kw) Q E s₁:=by unfold callMarked;exact I4 h₁.2
  rcases hk' with rfl | rfl | rfl <;> dsimp only <;> first | exact tail h₁.2 | (split <;> first | exact tail h₁.2 | exact tail (marked _))
end
theorem dH:Slot "bytearray" "append" "bytearray.append" :=
  .of (owner:="bytearray") (n:="append") (by rw [typeLookup_type,builtinLookup_eq_fast];kernel_rfl) (by decide +kernel) (by decide +kernel) (by decide +kernel)
    (by first | exact .inl (by decide +kernel) | exact .inr (by decide +kernel)) (by rw [isSubtype_type];kernel_rfl)
theorem pZ:typeOf (.builtin "bytearray.append")=pure (.type "method_descriptor"):=by show builtinType _=_;rw [builtinType_eq_fast];kernel_rfl
theorem pK:entryFor table "bytearray.append"=some Builtin.«bytearray.append»:=by first | exact entryFor_of_fast (by kernel_rfl) | exact entryFor_of_tree (by kernel_rfl)
theorem pX (a b:Value):argsOk "bytearray.append" ⟨[a,b],[]⟩:=by unfold argsOk;kernel_rfl
theorem s8:PlainAttrs "bytearray" :=
  ⟨⟨"bytearray.__getattribute__",by rw [typeLookup_type,builtinLookup_eq_fast];kernel_rfl,by decide +kernel⟩,by rw [typeLookup_type,builtinLookup_eq_fast];kernel_rfl⟩
theorem cK:Slot "bytearray" "__init__" "bytearray.__init__" :=
  .of (owner:="bytearray") (n:="__init__") (by rw [typeLookup_type,builtinLookup_eq_fast];kernel_rfl) (by decide +kernel) (by decide +kernel) (by decide +kernel)
    (by first | exact .inl (by decide +kernel) | exact .inr (by decide +kernel)) (by rw [isSubtype_type];kernel_rfl)
theorem y2:mroOf (.type "bytearray")=pure [.type "bytearray",.type "object"]:=by rw [mroOf_type];kernel_rfl
theorem sZ:typeLookup (.type "bytearray") "__new__"=pure (some (.builtin "bytearray.__new__")):=by rw [typeLookup_type,builtinLookup_eq_fast];kernel_rfl
theorem eC:TypeCalled "bytearray" "bytearray.__new__" "bytearray.__init__" :=
  ⟨by decide +kernel,by decide +kernel,⟨_,_,y2⟩,madeBy_type y2 sZ (by decide +kernel),by decide +kernel,by rw [isSubtype_type];kernel_rfl,cK⟩
theorem xR:checkTypeCall "bytearray" ⟨[],[]⟩=pure ():=by kernel_rfl
theorem y3:checkBuiltinCall "bytearray.__new__" ⟨[.type "bytearray"],[]⟩=pure ():=by kernel_rfl
theorem uE:entryFor table "bytearray.__new__"=some Builtin.«list.__new__»:=entryFor_alias (id':="list.__new__") (by kernel_rfl) rfl (by decide +kernel) (by kernel_rfl)
theorem lC:plainId "bytearray.__new__"=true:=by decide +kernel
theorem sY:entryFor table "bytearray.__init__"=some Builtin.«bytearray.__init__»:=by first | exact entryFor_of_fast (by kernel_rfl) | exact entryFor_of_tree (by kernel_rfl)
theorem uD (a:Value):argsOk "bytearray.__init__" ⟨[a],[]⟩:=by unfold argsOk;kernel_rfl
theorem uF:isSubtype (.type "bytearray") (.type "bytearray")=pure true:=by rw [isSubtype_type];kernel_rfl
theorem pY:typeLookup (.type "bytearray") "__release_buffer__"=pure (some (.builtin "bytearray.__release_buffer__")):=by rw [typeLookup_type,builtinLookup_eq_fast];kernel_rfl
theorem mY:typeLookup (.type "bytearray") "__buffer__"=pure (some (.builtin "bytearray.__buffer__")):=by rw [typeLookup_type,builtinLookup_eq_fast];kernel_rfl
theorem xP:typeLookup (.type "bytearray") "__bytes__"=pure none:=by rw [typeLookup_type,builtinLookup_eq_fast];kernel_rfl
theorem xQ:typeLookup (.type "bytearray") "__index__"=pure none:=by rw [typeLookup_type,builtinLookup_eq_fast];kernel_rfl
theorem JE:Builtin.Bytes.bindOptional "bytearray.__init__" "bytearray" ["source","encoding","errors"] [] []=pure [none,none,none]:=by kernel_rfl
set_option maxHeartbeats 4000000 in
theorem EN:("bytearray.__new__".splitOn ".__new__").headD ""="bytearray":=by simp +decide [String.splitOn,String.splitOnAux]
theorem cL {α β:Type} {m:Model} {A:Around} {x:Sem α} {f:α→Sem β} {a:α} {s s':Shared} {Q:β→Shared→Prop} {E:Value→Shared→Prop}
    (h:∀ R:α→Shared→Prop,R a s'→wpAny m A x R E s) (k:wpAny m A (f a) Q E s'):wpAny m A (x >>= f) Q E s:=wpAny_bind (h _ k)
theorem mS {α β:Type} {M:Model} {A:Around} {x:Sem α} {f:α→Sem β} {a:α} {s s':Shared} {Q:β→Shared→Prop} {E:Value→Shared→Prop} (h:∀ R:α→Shared→Prop,R a s'→bX M A x R E s) (k:bX M A (f a) Q E s'):bX M A (x >>= f) Q E s:=aD (h _ k)
theorem MB {self:Value} {id:String} {args:Args} {p:Pos} (g:guardIds.contains id=false) (n:Builtin.Bytes.decodersThatHold.contains id=false) :
    Builtin.Bytes.exported.match_1 (fun xx=>Bool) (Code.builtin id args,p) (fun v xx xx xx=>Builtin.Bytes.sameRef v self) (fun v xx xx xx=>Builtin.Bytes.sameRef v self) (fun xx v xx xx xx=>Builtin.Bytes.sameRef v self)
      (fun v xx xx xx=>Builtin.Bytes.sameRef v self) (fun xx xx held xx xx=>held.any (Builtin.Bytes.sameRef self)) (fun id v xx xx xx=>Builtin.Bytes.sameRef v self && Builtin.Bytes.decodersThatHold.contains id) (fun xx=>false)=false:=by
  have k:∀ x:String,guardIds.contains x=true→¬ id=x:=fun x hx e=>by rw [← e,g] at hx;cases hx
  delta Builtin.Bytes.exported.match_1
  show dite (id="bytearray.__contains__") _ _=_
  refine(dif_neg (k "bytearray.__contains__" (by decide +kernel))).trans ?_
  refine(dif_neg (k "bytearray.__mod__" (by decide +kernel))).trans ?_
  refine(dif_neg (k "bytearray.__rmod__" (by decide +kernel))).trans ?_
  refine(dif_neg (k "_struct.pack_into.held" (by decide +kernel))).trans ?_
  refine(dif_neg (k "bytearray.find.held" (by decide +kernel))).trans ?_
  rcases args with ⟨_ | ⟨v,vs⟩,kw⟩
  · rfl
  · show(Builtin.Bytes.sameRef v self && Builtin.Bytes.decodersThatHold.contains id)=false
    rw [n,Bool.and_false]
section
variable {M:Model} {A:Around} {E:Value→Shared→Prop} {s:Shared} {a:Addr}
theorem DL {l:List (Code×Pos)} (h:guardsOf l=[]):∀ q∈l,q.1.isGuard=false:=fun q hq=>by
  unfold guardsOf at h
  have:=List.filter_eq_nil_iff.mp h q.1 (List.mem_map.mpr ⟨q,hq,rfl⟩)
  simpa using this
theorem mT {Q:Bool→Shared→Prop} (hg:A.guards=some []) (h:Q false s):bX M A (Builtin.Bytes.exported (.ref a)) Q E s:=fun Γ p i n d=>by
  have g0:∀ q∈(Γ.code,p)::Γ.below,q.1.isGuard=false:=DL (by rw [guardsOf_cons];exact i.2.2.2.1 [] hg)
  have n0:∀ q∈(Γ.code,p)::Γ.below,qG q.1=true:=fun q hq=>by
    rcases List.mem_cons.mp hq with rfl | hq
    · exact n
    · exact d q hq
  unfold Builtin.Bytes.exported
  show Q (((Γ.code,p)::Γ.below).any _) s
  rw [List.any_eq_false.mpr fun q hq=>?_]
  · exact h
  · have g1:=g0 q hq
    have n1:=n0 q hq
    obtain⟨c,p'⟩:=q
    cases c with
    | builtin id args=>rw [MB g1 ((Bool.not_eq_true' _).mp n1)];exact Bool.false_ne_true
    | _=>exact Bool.false_ne_true
end
noncomputable abbrev bB (b:List UInt8):Obj:={ cls:=.type "bytearray",data:=.bytearray b.toArray 0 }
section
variable {w:World} {A:Around} {E:Value→Shared→Prop} {s:Shared} {a:Addr} {h:Heap} {k:Nat}
theorem dJ {id:String} {args:Args} {b:Builtin} {R:Result→Shared→Prop} (hq:plainId id=true) (hn:qG (.builtin id args)=true) (hb:entryFor table id=some b)
    (h:wpAny (MM w) A.in1 (checkBuiltinCall id args) (fun xx s₁=>bX (MM w) A.in1 (b args)
      (fun fin s'=>match fin with | .done f=>R (.ok f) s' | .again c'=>c'.quiet=true∧b0 (MM w) A c' R s') (fun e s'=>R (.error e) s') s₁)
      (fun e s'=>R (.error e) s') s):b0 (MM w) A (.call (.builtin id) args) R s:=by
  refine bC rfl ?_
  show bX _ A.in1 (do checkBuiltinCall id args;again (.builtin id args)) _ _ s
  refine aD (.of (wpAny_mono h (fun xx s₁ h₁=>aR (And.intro (plainId_quiet hq args) (bC hn ?_))) fun xx xx h'=>h'))
  show bX _ _ (match entryFor table id with | some b=>b args | none=>unsupported ((withoutEnding? id "#data").getD id)) _ _ s₁
  rw [hb,Around.under_plainId hq args];exact h₁
theorem DE {b:List UInt8} {Q:Unit→Shared→Prop} (hg:A.guards=some []) (ha:s.heap.get? a=some (bB b)) (q:Q () s):bX (MM w) A (Builtin.Bytes.checkResize (.ref a)) Q E s:=by
  unfold Builtin.Bytes.checkResize
  refine aD ?_
  unfold orM
  refine aD (mT hg ?_)
  simp only [show toBool false=false from rfl]
  unfold Builtin.Bytes.exportsOf
  refine aD (.of (wpAny_bind (wpAny_load ha (wpAny_pure ?_))))
  exact aR (by simpa using aR q)
theorem xT {b:List UInt8} {f:Array UInt8→Array UInt8} {Q:Unit→Shared→Prop} (ha:s.heap.get? a=some (bB b)) (hz:(f b.toArray).size≤16777216)
    (q:Q () { s with heap:=s.heap.update a (Obj.mapBytearray f) }):wpAny (MM w) A (Builtin.Bytes.write (.ref a) f) Q E s:=by
  unfold Builtin.Bytes.write updateBytearray
  refine wpAny_bind (wpAny_load ha ?_)
  refine wpAny_bind (wpAny_update ha (wpAny_lookBehind (Heap.get?_update_self _ ha rfl) ?_ q))
  show(if _ then _ else _)=none
  rw [if_neg]
  show ¬ (f b.toArray).size > sizeLine
  rw [sizeLine_eq];omega
theorem DD {b:List UInt8} {n:Nat} {t:Tok} {Q:Value→Shared→Prop} (hg:A.guards=some []) (ha:h.get? a=some (bB b)) (hn:n<256) (hz:b.length≤1000)
    (q:∀ h',h'.get? a=some (bB (b++[n.toUInt8]))→Heap.SameBut a h h'→Q .none (sh s h' k)):bX (MM w) A (PySem.call (.builtin "bytearray.append") [.ref a,.int (n:Nat) t]) Q E (sh s h k):=by
  refine mR (dJ dH.plain rfl pK (dH.check _ _ _ _ _ _ _ _ ⟨_,ha,rfl⟩ (pX _ _) ?_))
  unfold Builtin.«bytearray.append»
  refine aD (.of (wpAny_of_eq (a:=(Value.ref a,Value.int (n:Nat) t)) rfl ?_))
  dsimp only
  refine aD (.of (wpAny_of_eq (a:=n.toUInt8) ?_ ?_))
  · unfold Builtin.Bytes.byteValue asIndex
    show(pure (some (n:Int)) >>= _) >>= _=_
    simp only [pure_bind]
    rw [if_neg (by simp;omega)]
    simp
  refine aD (DE hg ha ?_)
  refine aD (.of (xT ha (by simp;omega) ?_))
  have e:Obj.mapBytearray (·.push n.toUInt8) (bB b)=bB (b++[n.toUInt8]):=by simp [Obj.mapBytearray,bB]
  refine aR (q _ ?_ (Heap.SameBut.update ..))
  rw [Heap.get?_update_self _ ha (by rw [e];rfl),e]
end
section
variable {w:World} {A:Around} {E:Value→Shared→Prop} {s:Shared} {a:Addr} {h:Heap} {k:Nat}
theorem tD {id:String} {args:Args} {b:Builtin} {R:Result→Shared→Prop} (hn:qG (.builtin id args)=true) (hb:entryFor table id=some b)
    (h:bX (MM w) (A.under (.builtin id args)) (b args)
      (fun fin s'=>match fin with | .done f=>R (.ok f) s' | .again c'=>c'.quiet=true∧b0 (MM w) A c' R s') (fun e s'=>R (.error e) s') s):b0 (MM w) A (.builtin id args) R s:=by
  refine bC hn ?_
  show bX _ _ (match entryFor table id with | some b=>b args | none=>unsupported ((withoutEnding? id "#data").getD id)) _ _ s
  rw [hb];exact h
theorem OU {Q₁:Value→Shared→Prop} (q:Q₁ (.ref s.heap.objs.size) { s with heap:=s.heap.push (bB []) }) :
    codeAny (MM w) A (.call (.builtin "bytearray.__new__") ⟨[.type "bytearray"],[]⟩) (fun r s'=>match r with | .ok (.ret v)=>Q₁ v s' | .ok _=>False | .error e=>E e s') s:=by
  refine codeAny_of_tree ?_
  show wpAny _ A.in1 (do checkBuiltinCall "bytearray.__new__" ⟨[.type "bytearray"],[]⟩;again (.builtin "bytearray.__new__" ⟨[.type "bytearray"],[]⟩)) _ _ s
  refine wpAny_bind (wpAny_of_eq y3 (wpAny_pure ⟨plainId_quiet lC _,codeAny_builtin_stack uE rfl fun p st=>?_⟩))
  rw [Around.under_plainId lC _]
  have hsub:=uF
  have hown:=EN
  obtain⟨hp,g,d,tk,os⟩:=s
  simp only [hown]
  wp_walk
  exact q
theorem EO {Q:Value→Shared→Prop} (hg:A.guards=some []) (ha:h.get? a=some (bB [])) (q:∀ h',h'.get? a=some (bB [])→Heap.SameBut a h h'→Q .none (sh s h' k)) :
    bX (MM w) A (Builtin.«bytearray.__init__» ⟨[.ref a],[]⟩) (fun fin s'=>∃ v,fin=.done (.ret v)∧Q v s') E (sh s h k):=by
  unfold Builtin.«bytearray.__init__»
  dsimp only
  have hT:(sh s h k).TypeIs (.ref a) "bytearray":=⟨_,ha,rfl⟩
  have r1:=pY
  have r2:=uF
  refine mS (a:=false) (s':=sh s h k) (fun R r=>.of ?_) ?_
  · unfold Builtin.Bytes.ownRelease Builtin.Bytes.slotIsOwn
    refine wpAny_bind (wpAny_bind (wpAny_specialOf hT r1 ?_))
    show wpAny _ _ (if _ then _ else _) _ _ _
    rw [if_neg (by decide +kernel)]
    rw [show("bytearray.__release_buffer__".dropRight ("__release_buffer__".length+1))="bytearray" from by decide +kernel]
    refine wpAny_isInstance hT r2 ?_
    exact wpAny_pure r
  simp only [Bool.false_eq_true,if_false,JE,pure_bind]
  refine mS (fun xx r=>.of (wpAny_of_eq (a:=()) rfl r)) ?_
  refine mS (fun xx r=>.of (wpAny_of_eq (a:=()) rfl r)) ?_
  refine mS (a:=false) (s':=sh s h k) (fun R r=>?_) ?_
  · unfold orM
    refine aD (mT hg ?_)
    simp only [show toBool false=false from rfl]
    unfold Builtin.Bytes.exportsOf
    refine aD (.of (wpAny_bind (wpAny_load ha (wpAny_pure ?_))))
    exact aR r
  simp only [Bool.false_eq_true,if_false]
  refine aD (.of (xT ha (by simp) ?_))
  have e:Obj.mapBytearray (fun xx=>#[]) (bB [])=bB []:=rfl
  refine mS (fun xx r=>.of (wpAny_of_eq (a:=()) rfl r)) ?_
  refine aR ⟨.none,rfl,q _ ?_ (Heap.SameBut.update ..)⟩
  rw [Heap.get?_update_self _ ha (by rw [e];rfl),e]
theorem JF {Q:Value→Shared→Prop} (hg:A.guards=some []) (q:∀ h',h'.get? h.objs.size=some (bB [])→Heap.SameBut h.objs.size (h.push (bB [])) h'→Q (.ref h.objs.size) (sh s h' k)):bX (MM w) A (PySem.call (.type "bytearray") []) Q E (sh s h k):=by
  obtain⟨c,tl,hmro⟩:=eC.mro
  have hmade:=eC.made
  have hsub:=eC.sub
  refine mR (bC rfl ?_)
  show bX _ _ (callAny (.type "bytearray") _) _ _ _
  refine aR ⟨Code.quiet_builtin _ (by decide +kernel),tD rfl PySem.F.entry_type_call ?_⟩
  rw [Around.under_plain (weight_type_call_type "bytearray" [] []) rfl]
  have h1:=eC.notType
  have h2:=eC.canCreate
  unfold Builtin.«type.__call__»
  dsimp only
  rw [h1]
  simp only [h2,xR,Bool.false_eq_true,if_false,y2,pure_bind,hmade,List.isEmpty_cons]
  refine aD (bS (.of (wpAny_call (OU ?_))))
  dsimp only
  have ha:(h.push (bB [])).get? h.objs.size=some (bB []):=Heap.get?_push_size _ rfl
  have hT:(sh s (h.push (bB [])) k).TypeIs (.ref h.objs.size) "bytearray":=⟨_,ha,rfl⟩
  refine aD (.of (wpAny_isInstance hT hsub ?_))
  simp only [Bool.not_true,Bool.false_eq_true,if_false]
  refine aD (bS ?_)
  simp only [callSpecial?]
  refine aD (.of (wpAny_specialOf hT cK.lookup ?_))
  simp only [cK.bind]
  refine bS (aD (aR (aD (mR (dJ cK.plain rfl sY (cK.check _ _ _ _ _ _ _ _ hT (uD _) ?_))))))
  refine bY (EO (A:=A.in1.in1) (Q:=fun v s'=>v=.none∧Q (.ref h.objs.size) s') (E:=E) hg ha fun h' e' sb=>⟨rfl,q h' e' sb⟩) (fun fin s' hf=>?_) fun xx xx x=>x
  obtain⟨v,rfl,rfl,hq⟩:=hf
  exact aR (aR hq)
end
section
variable {w:World} {A:Around} {G:Led} {F:FM} {a:Addr} {b:List UInt8}
theorem OS:("bytearray.__release_buffer__".dropRight ("__release_buffer__".length+1))="bytearray":=by decide +kernel
theorem OT:("bytearray.__buffer__".dropRight ("__buffer__".length+1))="bytearray":=by decide +kernel
set_option maxHeartbeats 1000000 in
theorem DU {i:Nat} (hi:G[i]?=some (a,.barr b)) (hz:b.length≤1000):T w A F (call (.type "bytes") [.ref a]) G G (fun F v=>(PV.bytes b).Is w.params F v):=fun F1 H s h k Q E l S q x=>by
  have ha:h.get? a=some (bB b):=(S.led _ (List.mem_append_left _ (List.mem_of_getElem? hi))).1
  have q':∀ t k,Q (.bytes b.toArray t) (sh s h k):=fun t k=>q _ F1 h k _ (.refl _) S ⟨rfl,t,rfl⟩
  clear q x S hi
  refine callType_codes (Q₁:=fun obj s₁=>s₁.TypeIs obj "bytes"∧Q obj s₁) PySem.F.bm_called (PySem.F.bm_typeCall _) PySem.F.entry_object_init ?_ fun obj s₁ h₁=>?_
  · refine codeAny_of_tree ?_
    show wpAny _ A.in1.in1 (do checkBuiltinCall "bytes.__new__" ⟨[.type "bytes",.ref a],[]⟩;again (.builtin "bytes.__new__" ⟨[.type "bytes",.ref a],[]⟩)) _ _ _
    refine wpAny_bind (wpAny_of_eq (PySem.F.bm_newCall _) (wpAny_pure ⟨plainId_quiet PySem.F.bm_plain _,codeAny_builtin PySem.F.bm_entry ?_⟩))
    rw [Around.under_plainId PySem.F.bm_plain _]
    have hT:(sh s h k).TypeIs (.ref a) "bytearray":=⟨_,ha,rfl⟩
    unfold Builtin.«bytes.__new__»
    refine wpAny_bind (wpAny_of_eq (a:=true) rfl ?_)
    refine bm_if_false rfl ?_
    refine wpAny_bind (wpAny_of_eq PySem.F.bm_sub ?_)
    refine bm_if_false rfl ?_
    refine wpAny_bind (wpAny_of_eq (PySem.F.bm_bind _) ?_)
    refine wpAny_bind (wpAny_of_eq (a:=()) rfl ?_)
    refine wpAny_bind (wpAny_of_eq (a:=()) rfl ?_)
    refine bm_if_false rfl ?_
    refine wpAny_bind (wpAny_specialOf hT xP ?_)
    dsimp only
    have rel:∀ {α:Type} {f:Bool→Sem α} {Q':α→Shared→Prop} {E':Value→Shared→Prop} {A':Around},wpAny (MM w) A' (f false) Q' E' (sh s h k)→wpAny (MM w) A' (Builtin.Bytes.ownRelease (.ref a) >>= f) Q' E' (sh s h k):=fun hq=>by
      refine wpAny_bind ?_
      unfold Builtin.Bytes.ownRelease Builtin.Bytes.slotIsOwn
      refine wpAny_bind (wpAny_bind (wpAny_specialOf hT pY ?_))
      show wpAny _ _ (if _ then _ else _) _ _ _
      rw [if_neg (by decide +kernel),OS]
      exact wpAny_isInstance hT uF (wpAny_pure hq)
    have own:∀ {α:Type} {f:Bool→Sem α} {Q':α→Shared→Prop} {E':Value→Shared→Prop} {A':Around},wpAny (MM w) A' (f true) Q' E' (sh s h k)→wpAny (MM w) A' (Builtin.Bytes.slotIsOwn (.ref a) "__buffer__" >>= f) Q' E' (sh s h k):=fun hq=>by
      refine wpAny_bind ?_
      unfold Builtin.Bytes.slotIsOwn
      refine wpAny_bind (wpAny_specialOf hT mY ?_)
      show wpAny _ _ (if _ then _ else _) _ _ _
      rw [if_neg (by decide +kernel),OT]
      exact wpAny_isInstance hT uF hq
    have buf:∀ {f:Option (Array UInt8)→Sem Fin} {Q':Fin→Shared→Prop} {E':Value→Shared→Prop} {A':Around},wpAny (MM w) A' (f (some b.toArray)) Q' E' (sh s h k)→wpAny (MM w) A' (Builtin.Bytes.buffer? "bytes.__new__" (.ref a) true >>= f) Q' E' (sh s h k):=fun hq=>by
      refine wpAny_bind ?_
      unfold Builtin.Bytes.buffer?
      refine wpAny_bind (wpAny_specialOf hT mY ?_)
      dsimp only
      refine own ?_
      simp only [Bool.not_true,Bool.false_eq_true,if_false]
      refine wpAny_bind (wpAny_specialOf hT mY ?_)
      refine rel ?_
      simp only [Bool.false_eq_true,if_false]
      unfold Builtin.Bytes.payload Builtin.Bytes.payload?
      refine wpAny_bind (wpAny_bind (wpAny_bind (wpAny_load ha ?_)))
      exact wpAny_pure (wpAny_pure (wpAny_pure hq))
    refine wpAny_bind (wpAny_bind ?_)
    unfold asStr?
    refine wpAny_bind (wpAny_load ha (wpAny_pure (wpAny_pure ?_)))
    refine bm_if_false rfl ?_
    refine wpAny_bind (wpAny_specialOf hT xQ ?_)
    refine bm_if_true rfl ?_
    wp_delta
    refine buf ?_
    dsimp only
    refine wpAny_bind (wpAny_rule ?_)
    refine wpAny_bind (wpAny_mkBytes ?_ (by rw [List.size_toArray,sizeLine_eq];omega))
    wp_delta
    refine bm_if_true rfl ?_
    first
      | exact wpAny_pure ⟨typeIs_bytes _ _ _,q' k (k+1)⟩
      | exact wpAny_bind (wpAny_pure (wpAny_pure ⟨typeIs_bytes _ _ _,q' k (k+1)⟩))
  · exact⟨h₁.1,PySem.F.args_object_init_2 obj _,object_init_meets PySem.F.bm_called.init.lookup PySem.F.bm_called.made (by decide) pw w A.in1 _ s₁ ⟨h₁.1,rfl,h₁.2⟩⟩
end
noncomputable def bU (w:World) (A:Around) (F:FM) {α:Type} (t:Sem α) (G:Led) (N:Led→FM→α→Prop) (X:Addr→Value→PV→Led→Prop):Prop :=
  ∀ (F1:FM) (H:Led) (s:Shared) (h:Heap) (k:Nat) (Q:α→Shared→Prop) (E:Value→Shared→Prop),Le F F1→Sb w A F1 h (G++H) →
    (∀ a F' h' k' G',Le F1 F'→Sb w A F' h' (G'++H)→N G' F' a→Q a (sh s h' k')) →
    (∀ e C c p F' h' k' G',Le F1 F'→Sb w A F' h' ((e,.exc C c p)::(G'++H))→X C c p G'→E (.ref e) (sh s h' k'))→bX (MM w) A t Q E (sh s h k)
section
variable {α β:Type} {w:World} {A:Around} {F F':FM} {G G' G2:Led} {N:Led→FM→α→Prop} {X:Addr→Value→PV→Led→Prop}
theorem bU.of {t:Sem α} (y:TX w A F t G N X):bU w A F t G N X:=fun F1 H s h k Q E l S q x=>bX.of (y F1 H s h k Q E l S q x)
theorem bU.bind {t:Sem α} {f:α→Sem β} {N':Led→FM→β→Prop} (y:bU w A F t G N X) (z:∀ a F' G',Le F F'→N G' F' a→bU w A F' (f a) G' N' X):bU w A F (t >>= f) G N' X :=
  fun F1 H s h k Q E l S q x=>aD (y F1 H s h k _ E l S (fun a F' h' k' G' l' S' n=>z a F' G' (l.trans l') n F' H s h' k' Q E (.refl _) S' (fun b F'' h'' k'' G'' l'' S'' n'=>q b F'' h'' k'' G'' (l'.trans l'') S'' n')
    fun e C c p F'' h'' k'' G'' l'' S'' n'=>x e C c p F'' h'' k'' G'' (l'.trans l'') S'' n') x)
theorem bU.imp {t:Sem α} {N':Led→FM→α→Prop} {X':Addr→Value→PV→Led→Prop} (y:bU w A F t G N X) (i:∀ G' F' a,Le F F'→N G' F' a→N' G' F' a) (j:∀ C c p G',X C c p G'→X' C c p G'):bU w A F t G N' X' :=
  fun F1 H s h k Q E l S q x=>y F1 H s h k Q E l S (fun a F' h' k' G' l' S' n=>q a F' h' k' G' l' S' (i G' F' a (l.trans l') n)) fun e C c p F' h' k' G' l' S' n=>x e C c p F' h' k' G' l' S' (j C c p G' n)
theorem bU.gH {t:Sem α} {N':Led→FM→α→Prop} {X':Addr→Value→PV→Led→Prop} (y:bU w A F t G N X)
    (i:∀ G' F' a,Le F F'→N G' F' a→∃ G'',N' G'' F' a∧∀ F2 h H,Sb w A F2 h (G'++H)→Sb w A F2 h (G''++H))
    (j:∀ C c p G',X C c p G'→∃ G'',X' C c p G''∧∀ F2 h e H,Sb w A F2 h ((e,.exc C c p)::(G'++H))→Sb w A F2 h ((e,.exc C c p)::(G''++H))):bU w A F t G N' X' :=
  fun F1 H s h k Q E l S q x=>y F1 H s h k Q E l S (fun a F' h' k' G' l' S' n=>let ⟨G'',n',f⟩:=i G' F' a (l.trans l') n;q a F' h' k' G'' l' (f _ _ _ S') n')
    fun e C c p F' h' k' G' l' S' n=>let ⟨G'',n',f⟩:=j C c p G' n;x e C c p F' h' k' G'' l' (f _ _ _ _ S') n'
theorem bU.pre {t:Sem α} (y:bU w A F t G' N X) (f:∀ F2 h H,Sb w A F2 h (G++H)→Sb w A F2 h (G'++H)):bU w A F t G N X :=
  fun F1 H s h k Q E l S q x=>y F1 H s h k Q E l (f _ _ _ S) q x
theorem bU.frame {t:Sem α} (y:bU w A F t G N X) (G2:Led):bU w A F t (G++G2) (fun G' F' a=>∃ G1,G'=G1++G2∧N G1 F' a) (fun C c p G'=>∃ G1,G'=G1++G2∧X C c p G1) :=
  fun F1 H s h k Q E l S q x=>y F1 (G2++H) s h k Q E l (by rwa [← List.append_assoc])
    (fun a F' h' k' G' l' S' n=>q a F' h' k' (G'++G2) l' (by rwa [List.append_assoc]) ⟨G',rfl,n⟩)
    fun e C c p F' h' k' G' l' S' n=>x e C c p F' h' k' (G'++G2) l' (by rwa [List.append_assoc]) ⟨G',rfl,n⟩
theorem bU.use {t:Sem α} {i:Nat} {d:Addr} {p:PO} (hi:G[i]?=some (d,p)) (y:bU w A F t [(d,p)] N X)
    {N':Led→FM→α→Prop} {X':Addr→Value→PV→Led→Prop}
    (n:∀ G1 F' a,Le F F'→N G1 F' a→∃ p',G1=[(d,p')]∧N' (G.set i (d,p')) F' a) (x:∀ C c p G1,X C c p G1→∃ p',G1=[(d,p')]∧X' C c p (G.set i (d,p'))):bU w A F t G N' X':=by
  have p1:=yK hi
  refine bU.gH (bU.pre (y.frame (G.eraseIdx i)) fun F2 h H S=>S.perm (p1.symm.append_right H)) (fun G' F' a l h=>?_) fun C c p G' h=>?_
  · obtain⟨G1,rfl,h⟩:=h
    obtain⟨p',rfl,h2⟩:=n G1 F' a l h
    exact⟨_,h2,fun F2 h H S=>S.perm ((eQ hi).append_right H)⟩
  · obtain⟨G1,rfl,h⟩:=h
    obtain⟨p',rfl,h2⟩:=x C c p G1 h
    exact⟨_,h2,fun F2 h e H S=>S.perm (((eQ hi).append_right H).cons _)⟩
end
noncomputable def bD (w:World) (A:Around) (env:Env) (ss:List Stmt) (G:Led) (P:Out→Prop):Prop:=bU w A F0 (execs ss env) G (mW w P) (fun C c p G'=>P (.exc C c p G'))
noncomputable def iV (w:World) (A:Around) (env:Env) (st:Stmt) (G:Led) (P:Out→Prop):Prop:=bU w A F0 (exec st env) G (mW w P) (fun C c p G'=>P (.exc C c p G'))
noncomputable def EI (w:World) (A:Around) (env:Env) (rest:List Stmt) (P:Out→Prop):Out→Prop
  | .next G=>bD w A env rest G P
  | o=>P o
section
variable {w:World} {A:Around} {env:Env} {G G' G1 G2 Γ:Led} {P P':Out→Prop} {st:Stmt} {ss:List Stmt} {pos pos' cpos np apos:Pos} {e value:Expr} {es:List Expr} {x name:Str} {p:PV} {ps:List PV} {ρ:List (Str×PV)} {a:Addr} {F:FM}
theorem bD.of (h:XS w A env ss G P):bD w A env ss G P:=bU.of h
theorem bD.cons (h:iV w A env st G (EI w A env ss P)):bD w A env (st::ss) G P:=fun F1 H s h' k Q E l S q x =>
  sR (h F1 H s h' k _ E l S (fun f F' h'' k' G' l' S' n=>by
    cases f with
    | next=>exact n F' H s h'' k' Q E (Le.zero _) S' (fun a F'' h3 k3 G3 l3=>q a F'' h3 k3 G3 (l'.trans l3)) fun e C c p F'' h3 k3 G3 l3=>x e C c p F'' h3 k3 G3 (l'.trans l3)
    | ret v=>obtain⟨p,pv,pp⟩:=n;exact q (.ret v) F' h'' k' G' l' S' ⟨p,pv,pp⟩
    | _=>exact n.elim) fun e C c p F' h'' k' G' l' S' n=>x e C c p F' h'' k' G' l' S' n)
theorem bD.step (h:XT w A env st G (EI w A env ss P)):bD w A env (st::ss) G P:=bD.cons (bU.of h)
theorem iV.cE (he:bU w A F0 (eval e env) G (fun G' F v=>∃ p ρ Γ,p.Is w.params F v∧G'=(env.locals,.frame ρ)::Γ∧P (.next ((env.locals,.frame ((x,p)::ρ))::Γ))) (fun C c p G'=>P (.exc C c p G')))
    (hk:env.scope.kind=.function) (hl:env.scope.names.lookup x=some .local) (hs:swapsWith e (some (.Name x pos')) pos.line env=pure false):iV w A env (.Assign [.Name x pos'] e pos) G P :=
  fun F1 H s h k Q E l S q y=>pP (he F1 H s h k _ E l S (fun v F' h' k' G' l' S' n=>by
    obtain⟨p,ρ,Γ,pv,rfl,n⟩:=n
    exact S'.store pv (fun h'' k'' S''=>q .next F' h'' k'' _ l' S'' n) hk hl) y) hs
theorem iV.D3 (he:bU w A F0 (eval e env) G (fun G' F v=>∃ p,p.Is w.params F v∧P (.ret p G')) (fun C c p G'=>P (.exc C c p G'))):iV w A env (.Return (some e) pos) G P :=
  fun F1 H s h k Q E l S q x=>pQ (he F1 H s h k _ E l S (fun v F' h' k' G' l' S' n=>q (.ret v) F' h' k' G' l' S' n) x)
theorem iV.tU (he:bU w A F0 (eval e env) G (fun G' F v=>(∀ a,v≠.ref a)∧P (.next G')) (fun C c p G'=>P (.exc C c p G'))) (hi:interactive env=false) (hs:swapsWith e none pos.line env=pure false):iV w A env (.Expr e pos) G P:=fun F1 H s h k Q E l S q0 y =>
  I3 (he F1 H s h k _ E l S (fun v F' h' k' G' l' S' n=>by
    have z:=q0 .next F' h' k' G' l' S' n.2
    cases v <;> first | exact z | exact(n.1 _ rfl).elim) y) hi hs
theorem iV.ifX {test:Expr} {body orelse:List Stmt} (ht:TX w A F0 (isTrue test env (eval test env)) G (fun G' F b=>if b then bD w A env body G' P else bD w A env orelse G' P) (fun C c p G'=>P (.exc C c p G'))):iV w A env (.If test body orelse pos) G P :=
  fun F1 H s h k Q E l S q x=>RS (ht F1 H s h k _ E l S (fun c F' h' k' G'' l' S' n=>by
    cases c with
    | true=>exact n F' H s h' k' Q E (Le.zero _) S' (fun a F'' h3 k3 G3 l3=>q a F'' h3 k3 G3 (l'.trans l3)) fun e C c p F'' h3 k3 G3 l3=>x e C c p F'' h3 k3 G3 (l'.trans l3)
    | false=>exact n F' H s h' k' Q E (Le.zero _) S' (fun a F'' h3 k3 G3 l3=>q a F'' h3 k3 G3 (l'.trans l3)) fun e C c p F'' h3 k3 G3 l3=>x e C c p F'' h3 k3 G3 (l'.trans l3)) x)
theorem iV.ifs {test:Expr} {body orelse:List Stmt} {b:Bool} (ht:Tr w A env G test b G') (hT:b=true→bD w A env body G' P) (hF:b=false→bD w A env orelse G' P):iV w A env (.If test body orelse pos) G P :=
  iV.ifX (TX.imp ht.x (fun G' F v l h=>by
    obtain⟨rfl,rfl⟩:=h
    cases v with
    | true=>exact hT rfl
    | false=>exact hF rfl) fun xx xx xx xx h=>h)
theorem iV.dU {test:Expr} {body:List Stmt} (Inv:Nat→Led→Prop) (n:Nat) (h0:Inv n G) (hA:cF A env) (hf:env.frame=some a)
    (turn:∀ n G,Inv n G→∃ b,Tr w A env G test b G∧(b=true→bD w A env body G (tO (fun G''=>∃ m,m<n∧Inv m G'') P))∧(b=false→P (.next G))):iV w A env (.While test body [] pos) G P:=fun F1 H s h k Q E l S q0 y=>by
  refine EC (pN (WhI w A s H F1 Inv) (fun n s' I=>?_) n ⟨F1,h,k,G,rfl,.refl _,S,h0⟩)
  obtain⟨F',h',k',G',rfl,l',S',I⟩:=I
  obtain⟨b,ht,h1,h2⟩:=turn n G' I
  refine ht F' H s h' k' _ _ (Le.zero _) S' (fun b' F2 h2' k2 G2 l2 S2 hb=>?_) fun xx xx xx xx xx xx xx xx xx xx n=>n.elim
  obtain⟨rfl,rfl⟩:=hb
  cases b' with
  | false =>
    simp only [Bool.false_eq_true,if_false]
    exact wpAny_execs_nil (q0 .next F2 h2' k2 _ (l'.trans l2) S2 (h2 rfl))
  | true =>
    simp only [if_true]
    refine h1 rfl F2 H s h2' k2 _ _ (Le.zero _) S2 (fun f F3 h3 k3 G3 l3 S3 n3=>?_) fun e C c p F3 h3 k3 G3 l3 S3 n=>dN hA hf S3 fun h4 S4=>y e C c p F3 h4 k3 G3 ((l'.trans l2).trans l3) S4 n
    cases f with
    | next=>obtain⟨m,hm,I⟩:=n3;exact⟨m,hm,F3,h3,k3,G3,rfl,(l'.trans l2).trans l3,S3,I⟩
    | ret v=>obtain⟨p,pv,pp⟩:=n3;exact q0 (.ret v) F3 h3 k3 G3 ((l'.trans l2).trans l3) S3 ⟨p,pv,pp⟩
    | _=>exact n3.elim
theorem iV.DJ {target iter:Expr} {body:List Stmt} (Inv:List PV→Led→Prop) (hi:TX w A F0 (eval iter env) G (fun G1 F v=>gC w A F v ps∧Inv ps G1) (fun C c p G'=>P (.exc C c p G'))) (hA:cF A env) (hf:env.frame=some a)
    (hs:∀ x,foldedSetIterable iter env x=pure x)
    (turn:∀ p rest G,Inv (p::rest) G→∀ v F,p.Is w.params F v→TX w A F (PySem.assign target env v) G (fun G' xx xx=>bD w A env body G' (tO (Inv rest) P)) bG)
    (fin:∀ G,Inv [] G→P (.next G)):iV w A env (.For target iter body [] pos) G P:=fun F1 H s h k Q E l S q0 y=>by
  refine NV (hi F1 H s h k _ E l S (fun v F' h' k' G' l' S' n=>?_) y) hs
  obtain⟨n,h0⟩:=n
  refine n G' F' H s h' k' _ E (.refl _) S' (fun it F0' h1 k1 G1' l1 Sp n1=>?_) fun xx xx xx xx xx xx xx xx xx xx n=>n.elim
  obtain⟨It0,oI,St,rfl,rfl,D5,I0⟩:=n1
  have Sq:Sb w A F0' h1 (G'++((It0,.raw oI)::H)):=Sp.perm List.perm_middle.symm
  refine tE (FwI w A s H F0' It0 St ps Inv) (fun n s' X=>?_) ps.length
    ⟨F0',_,_,G',0,_,rfl,.refl _,Sq,D5,by omega,h0⟩
  obtain⟨F2,h2,k2,G2,j,oi,rfl,l2,S2,hst,hj,I⟩:=X
  have Sr:=S2.perm List.perm_middle
  cases n with
  | zero =>
    have ej:j=ps.length:=by omega
    subst ej
    refine I0.stop F2 h2 _ s k2 _ _ oi l2 hst Sr fun h3 S3=>?_
    rw [List.drop_length] at I
    exact wpAny_execs_nil (q0 .next F2 h3 k2 G2 ((l'.trans l1).trans l2) S3 (fin _ I))
  | succ n =>
    have lj:j<ps.length:=by omega
    rw [List.drop_eq_getElem_cons lj] at I
    refine I0.next F2 h2 _ s k2 _ _ j oi _ l2 (List.getElem?_eq_getElem lj) hst Sr fun v o3 h3 k3 pv st3 S3=>?_
    have S3':Sb w A F2 h3 (G2++((It0,.raw o3)::H)):=S3.perm List.perm_middle.symm
    obtain⟨nm,hc,hg⟩:=I0.plain _ _ st3
    have hg':["enumerate","zip","dict_itemiterator","dict_reverseitemiterator","odict_iterator","itertools.zip_longest","itertools.pairwise"].contains nm=false:=by
      unfold zD at hg
      simp only [Bool.and_eq_true,Bool.not_eq_true'] at hg
      exact hg.1
    refine yI (w:=w) (S3.led _ (.head _)).1.1 hc hg' ?_
    refine turn _ _ _ I v F2 pv F2 _ s h3 k3 _ _ (.refl _) S3' (fun xx F4 h4 k4 G4 l4 S4 n4=>?_) fun xx xx xx xx xx xx xx xx xx xx n=>n.elim
    refine n4 F4 _ s h4 k4 _ _ (Le.zero _) S4 (fun f F5 h5 k5 G5 l5 S5 n5=>?_) fun e C c p F5 h5 k5 G5 l5 S5 n5=>dN hA hf S5 fun h6 S6=>y e C c p F5 h6 k5 G5 ((((l'.trans l1).trans l2).trans l4).trans l5) ?_ n5
    · cases f with
      | next=>exact⟨n,Nat.lt_succ_self _,F5,h5,k5,G5,j+1,o3,rfl,(l2.trans l4).trans l5,S5,st3,by omega,n5⟩
      | ret v=>obtain⟨p,pv,pp⟩:=n5;exact q0 (.ret v) F5 h5 k5 G5 ((((l'.trans l1).trans l2).trans l4).trans l5) ((S5.perm List.perm_middle).drop rfl) ⟨p,pv,pp⟩
      | _=>exact n5.elim
    · have pm:((e,PO.exc C c p)::(G5++(It0,PO.raw o3)::H)).Perm ((It0,PO.raw o3)::((e,PO.exc C c p)::(G5++H))):=(List.perm_middle.cons _).trans (List.Perm.swap _ _ _)
      exact(S6.perm pm).drop rfl
end
noncomputable def N0 (w:World) (A:Around) (F:FM) (a:Addr) (vs:List Value) (G:Led) (N:Led→FM→Value→Prop) (X:Addr→Value→PV→Led→Prop):Prop :=
  ∀ (F1:FM) (H:Led) (s:Shared) (h:Heap) (k:Nat) (R:Result→Shared→Prop),Le F F1→Sb w A F1 h (G++H) →
    (∀ v F' h' k' G',Le F1 F'→Sb w A F' h' (G'++H)→N G' F' v→R (.ok (.ret v)) (sh s h' k')) →
    (∀ e C c p F' h' k' G',Le F1 F'→Sb w A F' h' ((e,.exc C c p)::(G'++H))→X C c p G'→R (.error (.ref e)) (sh s h' k'))→b0 (MM w) A (.call (.ref a) ⟨vs,[]⟩) R (sh s h k)
section
variable {w:World} {A:Around} {F:FM} {G:Led} {N:PV→Led→Prop} {X:Addr→Value→PV→Led→Prop}
theorem N0.call {a:Addr} {vs:List Value} {N:Led→FM→Value→Prop} (y:N0 w A F a vs G N X):bU w A F (PySem.call (.ref a) vs) G N X:=fun F1 H s h k Q E l S q x =>
  mR (y F1 H s h k _ l S (fun v F' h' k' G' l' S' n=>q v F' h' k' G' l' S' n) fun e C c p F' h' k' G' l' S' n=>x e C c p F' h' k' G' l' S' n)
theorem N0.fn {a:Addr} {st:Stmt} {q:Str} {cd:Value} {vs vs':List Value} {ps:List PV} {xs:List Str} (I:a8 w.params a st q cd) (hroom:A.depth<recursionLimit)
    (hbind:∀ s:Shared,(KF w.params).In s.heap→BindsTo s (aN w.params a) ⟨vs,[]⟩ (xs.zip vs')) (pv:aS w.params F ps vs') (hnd:xs.Nodup) (hloc:∀ x∈xs,(aC st).names.lookup x=some .local)
    (hcell:∀ x∈(aC st).names,x.2≠.cell)
    (h:∀ L,bD w (A.deeper (aT st q a (fun xx=>[]) cd L)) (aT st q a (fun xx=>[]) cd L) (cQ st) ((L,.frame (xs.zip ps))::G) (bI L N X)) :
    N0 w A F a vs G (fun G' F' v=>∃ p,p.Is w.params F' v∧N p G') X:=fun F1 H s hh k R l S q0 x0=>by
  obtain⟨oc,od,sl,ho⟩:=I.there
  have henv:∀ L,callEnv (aN w.params a) L a=aT st q a (fun xx=>[]) cd L:=fun L=>by
    have this:_=aT st q a (fun xx=>cellsFrom (L+1) (aC st).names []) cd L:=I.env L
    unfold callEnvC at this
    rw [cB _ _ _ (by rw [I.scope];exact hcell),cB _ _ _ hcell] at this
    rw [← this];unfold callEnv;rw [I.clo]
  refine p9 (fd:=aN w.params a) (body:=cQ st) hroom (S.kf _ _ ho) rfl S.nolimit (codeRec_of S.kf I.code) I.body (hbind _ S.kf) (by rw [I.scope];exact hcell) (fun y hy=>?_) (fun h₀ hns hk=>?_)
    (by rw [I.scope];exact I.co) (by rw [I.scope];exact I.gen) (by rw [I.scope];exact I.kind)
  · rw [I.scope];exact hloc _ (List.of_mem_zip hy).1
  rw [henv]
  dsimp only at hns hk ⊢
  generalize hL:hh.objs.size=L at hns ⊢
  obtain⟨envs,he,hf⟩:=S.fr
  have nL:L∉(G++H).map (fun xx=>xx.1):=hL ▸ S.ne_size
  have fL:F1 L=none:=hL ▸ S.bE
  have S1:=S.ext hk
  have B:Sb w (A.deeper (aT st q a (fun xx=>[]) cd L)) F1 h₀ ((L,.frame (xs.zip ps))::G++H) :=
    S1.into (X:=[]) (by show(aC st).kind≠_;rw [I.kind];decide) rfl ⟨_,hns,fun x p lk=>(yY (pv.mono l) x p lk).imp fun v r=>⟨jV (jF vs' hnd) r.1,r.2⟩⟩ fL (fun xx hq=>nomatch hq) nL S.nd
  refine h L F1 H s h₀ (k+(xs.zip vs').length) _ _ (Le.zero _) B (fun f F' h' k' G' l' S' n=>?_) (fun e C c p F' h' k' G' l' S' n=>?_)
  · cases f with
    | next =>
      obtain⟨ρ,G'',d,nn⟩:=n
      exact q0 _ F' h' k' G'' l' (S.up nL (d _ _ _ _ _ S')) ⟨.none,rfl,nn⟩
    | ret v =>
      obtain⟨p,pv,ρ,G'',d,nn⟩:=n
      exact q0 v F' h' k' G'' l' (S.up nL (d _ _ _ _ _ S')) ⟨p,pv,nn⟩
    | _=>exact n.elim
  · obtain⟨ρ,G'',d,nn⟩:=n
    refine iZ S' (outer:=envs) (by show A.frames.map _=_;rw [he];rfl) rfl fun h'' S'' xx=>?_
    exact x0 e C c p F' h'' k' G'' l' (S.up nL ((d.under S'').perm (List.Perm.swap _ _ _))) nn
theorem bU.fn {a:Addr} {st:Stmt} {q:Str} {cd:Value} {vs vs':List Value} {ps:List PV} {xs:List Str} (I:a8 w.params a st q cd) (hroom:A.depth<recursionLimit)
    (hbind:∀ s:Shared,(KF w.params).In s.heap→BindsTo s (aN w.params a) ⟨vs,[]⟩ (xs.zip vs')) (pv:aS w.params F ps vs') (hnd:xs.Nodup) (hloc:∀ x∈xs,(aC st).names.lookup x=some .local)
    (hcell:∀ x∈(aC st).names,x.2≠.cell)
    (h:∀ L,bD w (A.deeper (aT st q a (fun xx=>[]) cd L)) (aT st q a (fun xx=>[]) cd L) (cQ st) ((L,.frame (xs.zip ps))::G) (bI L N X)) :
    bU w A F (PySem.call (.ref a) vs) G (fun G' F' v=>∃ p,p.Is w.params F' v∧N p G') X:=(N0.fn I hroom hbind pv hnd hloc hcell h).call
end
section
variable {w:World} {A:Around} {env:Env} {G G' G1 G2:Led} {e value:Expr} {es:List Expr} {pos np apos:Pos} {F:FM} {p q:PV} {ps:List PV} {f:Value} {fa:Addr} {first:List Value} {x name:Str} {C:Addr} {xs:List Str}
  {N:Led→FM→Value→Prop} {X:Addr→Value→PV→Led→Prop}
theorem A9 (hk:cU w f) (ha:aU w A env G pos es ps G1) (hp:(backTo pos (starEach es env)).any (fun xx=>xx.1)=false)
    (hc:∀ vs F',Le F F'→aS w.params F' ps vs→bU w A F' (call f (first++vs)) G1 N X):bU w A F (callWith pos f first (backTo pos (starEach es env)) []) G N X:=fun F1 H s h k Q E l S q x=>by
  refine xJ (P:=fun h=>(KF w.params).In h) (by rw [hp];rfl) hk ?_
  refine cN hp (ha F1 H s h k _ E (Le.zero _) S (fun vs F' h' k' G' l' S' n=>?_) fun e C c p F' h' k' G' l' S' n=>n.elim)
  obtain⟨rfl,pv⟩:=n
  exact⟨S'.kf,hc vs F' (l.trans l') pv F' H s h' k' Q E (.refl _) S' (fun a F'' h'' k'' G'' l''=>q a F'' h'' k'' G'' (l'.trans l'')) fun e C c p F'' h'' k'' G'' l''=>x e C c p F'' h'' k'' G'' (l'.trans l'')⟩
theorem sO (hf:Ev w A env G (.Name x np) (.val f) G) (hk:cU w f) (ha:aU w A env G pos es ps G1) (hp:(backTo pos (starEach es env)).any (fun xx=>xx.1)=false)
    (hc:∀ vs F',aS w.params F' ps vs→bU w A F' (call f vs) G1 N X):bU w A F0 (eval (.Call (.Name x np) es [] pos) env) G N X:=fun F1 H s h k Q E l S q y=>by
  show bX (MM w) A (do callWith pos (← eval (.Name x np) env) [] (backTo pos (starEach es env)) (backToKw pos (keywordEach [] env))) Q E _
  refine aD (.of (hf F1 H s h k _ E l S (fun v F' h' k' G' l' S' n=>?_) fun e C c p F' h' k' G' l' S' n=>n.elim))
  obtain⟨rfl,pv⟩:=n
  cases pv
  exact A9 (F:=F') (first:=[]) hk ha hp (fun vs F'' l'' pvs=>hc vs F'' pvs) F' H s h' k' Q E (.refl _) S' (fun a F'' h'' k'' G'' l''=>q a F'' h'' k'' G'' (l'.trans l'')) fun e C c p F'' h'' k'' G'' l''=>y e C c p F'' h'' k'' G'' (l'.trans l'')
theorem sP (ho:Ev w A env G value p G1) (hA:sV w G1 p C xs ps) (ok:nE (KF w.params) C name fa=true) (hl:dG xs ps name=none)
    {as:List PV} (ha:aU w A env G1 pos es as G2) (hp:(backTo pos (starEach es env)).any (fun xx=>xx.1)=false) {pl:Sem Bool}
    (hc:∀ vs F',aS w.params F' (p::as) vs→bU w A F' (call (.ref fa) vs) G2 N X)
    (he:eval (.Call (.Attribute value name apos) es [] pos) env=(do
      let ov ← eval value env
      standAt apos.atName
      let (f,first) ← holding [ov] (getMethod ov name pl)
      callWith pos f first (backTo pos (starEach es env)) (backToKw pos (keywordEach [] env)))):bU w A F0 (eval (.Call (.Attribute value name apos) es [] pos) env) G N X:=fun F1 H s h k Q E l S q0 y=>by
  rw [he]
  refine aD (.of (ho F1 H s h k _ E l S (fun v F' h' k' G' l' S' n=>?_) fun e C c p F' h' k' G' l' S' n=>n.elim))
  obtain⟨rfl,pv⟩:=n
  obtain⟨a,dx,vs,es',n,rfl,I,t,qv⟩:=(hA _ _ _ _ _ pv S').at
  unfold nE at ok
  simp only [Bool.and_eq_true,beq_iff_eq] at ok
  obtain⟨⟨⟨o1,o2⟩,o3⟩,o4⟩:=ok
  refine aD (bT (aD (bS (.of (method_fn S'.kf I (plainGet_of o1).1 (plainGet_of o1).2 o2 o3 (by show(lookIn name (dictOf es' n)).map _=_;rw [lookIn_dict,t.get,yN qv hl];rfl) ?_)))))
  exact A9 (F:=F') (first:=[.ref a]) (aB o4) ha hp (fun vs F'' l'' pvs=>hc _ F'' (.cons (pv.mono l'') pvs)) F' H s h' k' Q E (.refl _) S' (fun a F'' h'' k'' G'' l''=>q0 a F'' h'' k'' G'' (l'.trans l'')) fun e C c p F'' h'' k'' G'' l''=>y e C c p F'' h'' k'' G'' (l'.trans l'')
theorem yW {Ty id:String} (ho:Ev w A env G value p G1) (pa:PlainAttrs Ty) (slot:Slot Ty name id) (hty:typeOf (.builtin id)=pure (.type "method_descriptor"))
    (hT:∀ v F1 h H,p.Is w.params F1 v→Sb w A F1 h (G1++H)→(∀ s:Shared,s.heap=h→s.TypeIs v Ty)∧∀ a,v=.ref a→∃ o,h.get? a=some o∧o.dict=none)
    {as:List PV} (ha:aU w A env G1 pos es as G2) (hp:(backTo pos (starEach es env)).any (fun xx=>xx.1)=false) {pl:Sem Bool}
    (hc:∀ v vs F',p.Is w.params F' v→aS w.params F' as vs→bU w A F' (call (.builtin id) (v::vs)) G2 N X)
    (he:eval (.Call (.Attribute value name apos) es [] pos) env=(do
      let ov ← eval value env
      standAt apos.atName
      let (f,first) ← holding [ov] (getMethod ov name pl)
      callWith pos f first (backTo pos (starEach es env)) (backToKw pos (keywordEach [] env)))):bU w A F0 (eval (.Call (.Attribute value name apos) es [] pos) env) G N X:=fun F1 H s h k Q E l S q0 y=>by
  rw [he]
  refine aD (.of (ho F1 H s h k _ E l S (fun v F' h' k' G' l' S' n=>?_) fun e C c p F' h' k' G' l' S' n=>n.elim))
  obtain⟨rfl,pv⟩:=n
  obtain⟨h1,h2⟩:=hT v F' h' H pv S'
  refine aD (bT (aD (bS (.of (getMethod_builtin (h1 _ rfl) pa slot hty h2 ?_)))))
  exact A9 (F:=F') (first:=[v]) dM ha hp (fun vs F'' l'' pvs=>hc v vs F'' (pv.mono l'') pvs) F' H s h' k' Q E (.refl _) S' (fun a F'' h'' k'' G'' l''=>q0 a F'' h'' k'' G'' (l'.trans l'')) fun e C c p F'' h'' k'' G'' l''=>y e C c p F'' h'' k'' G'' (l'.trans l'')
end
structure Rc (A:Around) (n:Nat):Prop where
  rm:Rm A n
  g:A.guards=some []
theorem Rc.deeper {A:Around} {n:Nat} (R:Rc A (n+1)) (env:Env):Rc (A.deeper env) n:=⟨R.rm.deeper env,R.g⟩
theorem Rc.less {A:Around} {n m:Nat} (R:Rc A n) (h:m≤n:=by first | decide | omega):Rc A m:=⟨R.rm.less h,R.g⟩
section
variable {w:World} {A:Around} {env:Env} {G G' G1 G2 Γ:Led} {P:Out→Prop} {pos pos' apos cpos np:Pos} {e arg value:Expr} {x:Str} {p:PV} {F:FM} {a:Addr} {b:List UInt8} {ρ:List (Str×PV)}
theorem tL (hg:A.guards=some []):bU w A F (call (.type "bytearray") []) G (fun G' F' v=>∃ a,v=.ref a∧G'=(a,.barr [])::G) bG:=fun F1 H s h k Q E l S q x =>
  JF hg fun h' e sb=>by
    have S1:=S.push (o:=bB []) (p:=.barr []) rfl (Heap.get?_push_size _ rfl)
    exact q _ F1 h' k ((h.objs.size,.barr [])::G) (.refl _) (S1.upd sb e rfl) ⟨_,rfl,rfl⟩
theorem yV {i:Nat} {n:Nat} {v:Value} (hg:A.guards=some []) (hi:G[i]?=some (a,.barr b)) (hn:n<256) (hz:b.length≤1000) (hv:(PV.int n).Is w.params F v) :
    bU w A F (call (.builtin "bytearray.append") [.ref a,v]) G (fun G' F' v=>v=.none∧G'=G.set i (a,.barr (b++[n.toUInt8]))) bG :=
  bU.use hi (N:=fun G' F' v=>v=.none∧G'=[(a,.barr (b++[n.toUInt8]))]) (X:=bG) (fun F1 H s h k Q E l S q x=>by
    obtain⟨t,rfl⟩:=hv
    exact DD hg (S.led _ (.head _)).1 hn hz fun h' e sb=>q _ F1 h' k [(a,.barr (b++[n.toUInt8]))] (.refl _) (S.upd sb e rfl) ⟨rfl,rfl⟩)
    (fun G1 F' v l h=>⟨_,h.2,h.1,rfl⟩) fun _ _ _ _ (h:False)=>h.elim
theorem iV.JC (he:bU w A F0 (eval e env) ((env.locals,.frame ρ)::Γ) (fun G' F v=>∃ a,v=.ref a∧G'=(a,.barr b)::(env.locals,.frame ρ)::Γ) bG) (n:∀ a,P (.next ((env.locals,.frame ((x,.val (.ref a))::ρ))::(a,.barr b)::Γ)))
    (hk:env.scope.kind=.function) (hl:env.scope.names.lookup x=some .local) (hs:swapsWith e (some (.Name x pos')) pos.line env=pure false):iV w A env (.Assign [.Name x pos'] e pos) ((env.locals,.frame ρ)::Γ) P :=
  iV.cE (bU.gH he (fun G' F' v l h=>by
    obtain⟨a,rfl,rfl⟩:=h
    exact⟨_,⟨.val (.ref a),ρ,(a,.barr b)::Γ,rfl,rfl,n a⟩,fun F2 h H S=>S.perm (List.Perm.swap _ _ _)⟩) fun _ _ _ _ (h:False)=>h.elim) hk hl hs
theorem iV.BC {i:Nat} {n:Nat} (hg:A.guards=some []) (hf:Ev w A env G value (.val (.ref a)) G) (ha:aU w A env G cpos [arg] [.int n] G) (hi:G[i]?=some (a,.barr b)) (hn:n<256) (hz:b.length≤1000) (hP:P (.next (G.set i (a,.barr (b++[n.toUInt8])))))
    (hp:(backTo cpos (starEach [arg] env)).any (fun xx=>xx.1)=false) {pl:Sem Bool}
    (hc:eval (.Call (.Attribute value "append" apos) [arg] [] cpos) env=(do
      let ov ← eval value env
      standAt apos.atName
      let (f,first) ← holding [ov] (getMethod ov "append" pl)
      callWith cpos f first (backTo cpos (starEach [arg] env)) (backToKw cpos (keywordEach [] env))))
    (hin:interactive env=false) (hs:swapsWith (.Call (.Attribute value "append" apos) [arg] [] cpos) none pos.line env=pure false):iV w A env (.Expr (.Call (.Attribute value "append" apos) [arg] [] cpos) pos) G P :=
  iV.tU (bU.imp (yW (Ty:="bytearray") (id:="bytearray.append") hf s8 dH pZ (fun v F1 h H pv S=>by
      cases pv
      have ha:=(S.led _ (List.mem_append_left _ (List.mem_of_getElem? hi))).1
      exact⟨fun s hs=>⟨_,by rw [hs];exact ha,rfl⟩,fun b e=>by cases e;exact⟨_,ha,rfl⟩⟩) ha hp (fun v vs F' pv pvs=>by
        cases pv
        obtain⟨u,rfl,hu⟩:=pvs.bH
        exact yV hg hi hn hz hu) hc) (fun G' F' v l h=>by
          obtain⟨rfl,rfl⟩:=h
          exact⟨fun a e=>(by cases e),hP⟩) fun _ _ _ _ (h:False)=>h.elim) hin hs
theorem bD.aE {ss:List Stmt} (hG:G=(env.locals,.frame ρ)::Γ) (hk:env.scope.kind=.function) (hl:env.scope.names.lookup x=some .local) (hs:swapsWith e (some (.Name x pos')) pos.line env=pure false)
    (he:Ev w A env G e p G) (n:bD w A env ss ((env.locals,.frame ((x,p)::ρ))::Γ) P):bD w A env (.Assign [.Name x pos'] e pos::ss) G P:=bD.step (XT.assign (P:=EI w A env ss P) (hG ▸ he) n hk hl hs)
end
theorem BD (l:List Nat) (n:Nat):bb l++[n.toUInt8]=bb (l++[n]):=by simp [bb]
theorem aM (l:List Nat):(bb l).length=l.length:=by simp [bb]
inductive EhI (n s:Nat) (L a:Addr) (G:Led) (m:Nat) (G':Led):Prop
  | mk (ρ:List (Str×PV)) (d:List Nat) (p:Nat) (q0:G'=(L,.frame ρ)::(a,.barr (bb d))::G) (q1:Look ρ "size" (.int m)) (q2:Look ρ "piece" (.int (p:Nat))) (q3:Look ρ "out" (.val (.ref a))) (q4:p<128) (q5:hd n s=d++jU p m)
section
variable {w:World} {A:Around} {G:Led} {F:FM} {n m s:Nat} {vs:List Value}
set_option maxHeartbeats 8000000 in
theorem eW (R:Rc A 1) (hn:n<8) (hs:s<2 ^ 56) (pv:aS w.params F [.int n,.int s] vs):bU w A F (call (.ref 176) vs) G (fun G' F' v=>G'=G∧(PV.bytes (bb (hd n s))).Is w.params F' v) bG:=by
  obtain⟨v0,v1,rfl,p0,p1⟩:=pv.two
  refine bU.imp (bU.fn (N:=fun p G'=>p=.bytes (bb (hd n s))∧G'=G) (X:=bG) (fn176 _) R.rm.room.room (fun s X=>@JQ w s X v0 v1) pv nd176 lc176 nc176 fun L=>?_) (fun G' F' v l h=>by obtain⟨p,pv,rfl,rfl⟩:=h;exact⟨rfl,pv⟩) fun xx xx xx xx h=>h
  have R':=R.deeper (aT (aK 24) "entry_head" 176 (fun xx=>[]) (.ref 175) L)
  refine bD.aE (p:=.int (n*2 ^ 4+s % 16:Nat)) rfl rfl rfl rfl (Ev.bin (p:=.int (n*16:Nat)) (q:=.int (s % 16:Nat)) (by walk_at "ev") (by walk_at "ev") fun v u F hv hu=>IB (k:=4) (by omega) hv hu) ?_
  refine bD.aE (p:=.int (s / 16:Nat)) rfl rfl rfl rfl (by walk_at "ev") ?_
  refine bD.cons (iV.JC (b:=[]) (sO (by walk_at "ev") aV (by walk_at "evs") (by rfl) fun vs F' pvs=>by
    cases pvs.cT
    exact tL R'.g) (fun a=>?_) rfl rfl rfl)
  refine bD.cons (iV.dU (EhI n s L a G) (s / 16) ⟨_,[],n*2 ^ 4+s % 16,rfl,by walk_at "look",by walk_at "look",by walk_at "look",by omega,rfl⟩ cF.deeper rfl (fun m G' I=>?_))
  obtain⟨ρ,d,p,rfl,l1,l2,l3,hp,e⟩:=I
  have hd:d.length≤9:=by have:=b8 (n:=n) hs;rw [e,List.length_append] at this;omega
  refine⟨decide (0<m),by walk_at "tr",fun h=>?_,fun h=>?_⟩
  · have h:0<m:=of_decide_eq_true h
    refine bD.cons (iV.BC (i:=1) (n:=128+p) R'.g (by walk_at "ev") (by walk_at "evs") rfl (by omega) (by rw [aM];omega) ?_ rfl rfl rfl rfl)
    show bD _ _ _ _ ((L,.frame ρ)::(a,.barr (bb d++[(128+p).toUInt8]))::G) _
    rw [BD]
    refine bD.aE (p:=.int (m % 128:Nat)) rfl rfl rfl rfl (by walk_at "ev") ?_
    refine bD.of (XS.aE (p:=.int (m / 128:Nat)) rfl rfl rfl rfl (by walk_at "ev") (XS.nil ⟨m / 128,by omega,_,d++[128+p],m % 128,rfl,by walk_at "look",by walk_at "look",by walk_at "look",by omega,?_⟩))
    rw [e,jU,if_neg (by omega),Nat.add_comm];simp
  · have h:¬ 0<m:=of_decide_eq_false h
    have hm:m=0:=by omega
    subst hm
    have e2:PackLaw.hd n s=d++[p]:=by rw [e,jU,if_pos rfl]
    show bD _ _ _ _ _ _
    refine bD.cons (iV.BC (i:=1) (n:=p) R'.g (by walk_at "ev") (by walk_at "evs") rfl (by omega) (by rw [aM];omega) ?_ rfl rfl rfl rfl)
    show bD _ _ _ _ ((L,.frame ρ)::(a,.barr (bb d++[p.toUInt8]))::G) _
    rw [BD,← e2]
    refine bD.of (XS.ret (p:=.bytes (bb (PackLaw.hd n s))) (Ev.aQ (by walk_at "ev") aV (by walk_at "evs") (by rfl) fun vs F' pvs=>?_) (by exact⟨_,G,Drop.snd (by rfl),rfl,rfl⟩))
    obtain⟨v,rfl,hv⟩:=pvs.bH
    cases hv
    exact DU (i:=1) rfl (by rw [aM,e2];simp;omega)
end
noncomputable def aX (w:World) (A:Around) (env:Env) (G:Led) (e:Expr) (N:PV→Led→Prop):Prop:=TX w A F0 (eval e env) G (fun G' F v=>∃ p:PV,p.Is w.params F v∧N p G') bG
noncomputable def N2 (w:World) (A:Around) (env:Env) (G:Led) (e:Expr) (N:Bool→Led→Prop):Prop:=TX w A F0 (isTrue e env (eval e env)) G (fun G' F b=>N b G') bG
noncomputable def CallX (w:World) (A:Around) (f:Value) (N:PV→Led→Prop) (ps:List PV) (G:Led):Prop:=∀ vs F,aS w.params F ps vs→TX w A F (PySem.call f vs) G (fun G' F v=>∃ p:PV,p.Is w.params F v∧N p G') bG
section
variable {w:World} {A:Around} {env:Env} {G G' G1 G2 Γ:Led} {P:Out→Prop} {pos pos' cpos np tpos apos:Pos} {e l r t value slice:Expr} {es elts:List Expr} {ss:List Stmt} {x name:Str} {p q:PV} {ps:List PV} {ρ:List (Str×PV)} {F:FM} {f:Value} {N N':PV→Led→Prop} {a C dx:Addr} {xs:List Str}
theorem aX.of (h:Ev w A env G e p G') (n:N p G'):aX w A env G e N:=TX.imp (T.x h) (fun G' F v l h=>⟨p,h.2,by rw [h.1];exact n⟩) fun xx xx xx xx h=>h
theorem aX.imp (h:aX w A env G e N) (i:∀ p G',N p G'→N' p G'):aX w A env G e N':=TX.imp h (fun G' F v l ⟨p,pv,n⟩=>⟨p,pv,i p G' n⟩) fun xx xx xx xx h=>h
theorem aX.bin {op:Operator} (hl:aX w A env G l (fun p G1=>aX w A env G1 r (fun q G2=>∀ v u F,p.Is w.params F v→q.Is w.params F u→TX w A F (binaryOp op v u) G2 (fun G3 F v=>∃ R:PV,R.Is w.params F v∧N R G3) bG))):aX w A env G (.BinOp l op r pos) N:=by
  unfold aX
  rw [arm_eval_BinOp]
  refine TX.bind hl fun v F1 G1 l1 n1=>?_
  obtain⟨p,pv,n1⟩:=n1
  refine TX.bind (TX.holding (n1.low (Le.zero _))) fun u F2 G2 l2 n2=>?_
  obtain⟨q,pu,n2⟩:=n2
  exact TX.at (TX.operate (n2 v u F2 (pv.mono l2) pu))
theorem T.pJ {t:Sem Value} (h:T w A F t G G' (fun F v=>p.Is w.params F v)) (n:N p G'):TX w A F t G (fun G3 F v=>∃ R:PV,R.Is w.params F v∧N R G3) bG:=TX.imp (T.x h) (fun G' F v l h=>⟨p,h.2,by rw [h.1];exact n⟩) fun xx xx xx xx h=>h
theorem N2.cmp {op:CmpOp} {N:Bool→Led→Prop} (hl:aX w A env G l (fun p G1=>aX w A env G1 r (fun q G2=>∀ v u F,p.Is w.params F v→q.Is w.params F u→TX w A F (compareOp op v u) G2 (fun G3 F v=>∃ b,v=.bool b∧N b G3) bG)))
    (hm:behindInMarks op r=false):N2 w A env G (.Compare l [op] [r] pos) N:=by
  unfold N2
  rw [isTrue_Compare1,markedBehindIn_of_false hm]
  refine TX.bind hl fun v F1 G1 l1 n1=>?_
  obtain⟨p,pv,n1⟩:=n1
  refine TX.bind (TX.holding (n1.low (Le.zero _))) fun u F2 G2 l2 n2=>?_
  obtain⟨q,pu,n2⟩:=n2
  refine TX.at (TX.bind (TX.operate (n2 v u F2 (pv.mono l2) pu)) fun c F3 G3 l3 n3=>?_)
  obtain⟨b,rfl,n3⟩:=n3
  exact TX.holding (TX.imp (T.x T.pV) (fun G' F v l h=>by rw [h.1,h.2];exact n3) fun xx xx xx xx h=>h)
theorem T.asB {t:Sem Value} {b:Bool} {N:Bool→Led→Prop} (h:T w A F t G G' (fun F v=>(PV.bool b).Is w.params F v)) (n:N b G'):TX w A F t G (fun G3 F v=>∃ b,v=.bool b∧N b G3) bG:=TX.imp (T.x h) (fun G' F v l h=>⟨b,h.2,by rw [h.1];exact n⟩) fun xx xx xx xx h=>h
theorem aX.tW (ht:N2 w A env G t (fun b G1=>if b then aX w A env G1 l N else aX w A env G1 r N)):aX w A env G (.IfExp t l r pos) N:=fun F1 H s h k Q E l S q x =>
  wpAny_IfExp (ht F1 H s h k _ E l S (fun a F' h' k' G'' l' S' n=>by
    cases a with
    | true=>exact n F' H s h' k' Q E (Le.zero _) S' (fun a F'' h'' k'' G'' l''=>q a F'' h'' k'' G'' (l'.trans l'')) fun e C c p F'' h'' k'' G'' l''=>x e C c p F'' h'' k'' G'' (l'.trans l'')
    | false=>exact n F' H s h' k' Q E (Le.zero _) S' (fun a F'' h'' k'' G'' l''=>q a F'' h'' k'' G'' (l'.trans l'')) fun e C c p F'' h'' k'' G'' l''=>x e C c p F'' h'' k'' G'' (l'.trans l'')) x)
theorem aL.cM {N:List PV→Led→Prop} (h:aX w A env G e (fun p G1=>aL w A env G1 pos es (fun ps=>N (p::ps)))) (he:starEach (e::es) env=(false,eval e env)::starEach es env):aL w A env G pos (e::es) N:=aL.cons h he
theorem aX.callW {first:List Value} (hk:cU w f) (ha:aL w A env G pos es (fun ps G1=>∀ vs F',aS w.params F' ps vs→Le F F'→TX w A F' (PySem.call f (first++vs)) G1 (fun G' F v=>∃ p:PV,p.Is w.params F v∧N p G') bG)) (hp:(backTo pos (starEach es env)).any (fun xx=>xx.1)=false) :
    TX w A F (callWith pos f first (backTo pos (starEach es env)) []) G (fun G' F v=>∃ p:PV,p.Is w.params F v∧N p G') bG:=fun F1 H s h k Q E l S q x=>by
  refine callWith_of (P:=fun h=>(KF w.params).In h) (by rw [hp];rfl) hk ?_
  refine cN hp (ha F1 H s h k _ E (Le.zero _) S (fun vs F' h' k' G' l' S' n=>?_) fun e C c p F' h' k' G' l' S' n=>n.elim)
  obtain⟨ps,pv,n⟩:=n
  exact⟨S'.kf,n vs F' pv (l.trans l') F' H s h' k' Q E (.refl _) S' (fun a F'' h'' k'' G'' l''=>q a F'' h'' k'' G'' (l'.trans l'')) fun e C c p F'' h'' k'' G'' l''=>x e C c p F'' h'' k'' G'' (l'.trans l'')⟩
theorem aX.call (hf:Ev w A env G (.Name x np) (.val f) G) (hk:cU w f) (ha:aL w A env G pos es (CallX w A f N)) (hp:(backTo pos (starEach es env)).any (fun xx=>xx.1)=false):aX w A env G (.Call (.Name x np) es [] pos) N:=fun F1 H s h k Q E l S q y =>
  wpAny_Call_ofName (hf F1 H s h k _ E l S (fun v F' h' k' G' l' S' n=>by
    obtain⟨rfl,pv⟩:=n
    cases pv
    exact aX.callW (F:=F') (first:=[]) (N:=N) hk (TX.imp ha (fun G' F v l ⟨ps,pv,n⟩=>⟨ps,pv,fun vs F' pvs xx=>n vs F' pvs⟩) fun xx xx xx xx h=>h) hp F' H s h' k' Q E (.refl _) S' (fun a F'' h'' k'' G'' l''=>q a F'' h'' k'' G'' (l'.trans l'')) fun e C c p F'' h'' k'' G'' l''=>y e C c p F'' h'' k'' G'' (l'.trans l'')) fun e C c p F' h' k' G' l' S' n=>n.elim)
theorem aX.list (ha:aL w A env G pos es (fun ps G'=>ps.length≤1000∧N (.lst ps) G')):aX w A env G (.List es pos) N:=by
  show TX w A F0 (do standAt pos;newList (← spliced (backTo pos (starEach es env)))) _ _ _
  refine TX.at (TX.bind ha fun vs F' G' l n=>?_)
  obtain⟨ps,pv,hz,n⟩:=n
  exact T.pJ (T.newList pv (by omega)) n
theorem XT.iW (he:aX w A env G e (fun p G'=>∃ ρ Γ,G'=(env.locals,.frame ρ)::Γ∧P (.next ((env.locals,.frame ((x,p)::ρ))::Γ))))
    (hk:env.scope.kind=.function) (hl:env.scope.names.lookup x=some .local) (hs:swapsWith e (some (.Name x pos')) pos.line env=pure false):XT w A env (.Assign [.Name x pos'] e pos) G P :=
  XT.cE (TX.imp he (fun G' F v l ⟨p,pv,ρ,Γ,e,n⟩=>⟨p,ρ,Γ,pv,e,n⟩) fun _ _ _ _ (h:False)=>h.elim) hk hl hs
theorem XT.NL (he:aX w A env G e (fun p G'=>P (.ret p G'))):XT w A env (.Return (some e) pos) G P:=XT.D3 (TX.imp he (fun xx xx xx xx h=>h) fun _ _ _ _ (h:False)=>h.elim)
theorem XT.ifN {test:Expr} {body orelse:List Stmt} (ht:N2 w A env G test (fun b G'=>if b then XS w A env body G' P else XS w A env orelse G' P)):XT w A env (.If test body orelse pos) G P:=XT.ifX (TX.imp ht (fun xx xx xx xx h=>h) fun _ _ _ _ (h:False)=>h.elim)
theorem nH {h:Heap} (S:Sb w A F h ((dx,.ns xs ps)::Γ)) (f:F a=some (instObj C dx)):∃ F'',Le F F''∧Sb w A F'' h Γ∧(PV.inst C xs ps).Is w.params F'' (.ref a):=by
  obtain⟨⟨vs,es,n,hd,t,pvs⟩,fD⟩:=S.led _ (.head _)
  have l:=Le.put (o:=dictOf es n) fD
  exact⟨_,l,S.freeze (o:=dictOf es n) rfl hd,⟨a,dx,vs,es,n,rfl,l _ _ f,FM.bO,t,pvs.mono l⟩⟩
theorem c4 {h:Heap} (S:Sb w A F h ((a,.list ps)::Γ)):∃ F'',Le F F''∧Sb w A F'' h Γ∧(PV.lst ps).Is w.params F'' (.ref a):=by
  obtain⟨⟨vs,n,hl,pvs⟩,fD⟩:=S.led _ (.head _)
  have l:=Le.put (o:=seqObj "list" vs n) fD
  exact⟨_,l,S.freeze (o:=seqObj "list" vs n) rfl hl,⟨a,vs,n,rfl,FM.bO,pvs.mono l⟩⟩
theorem sN {vs:List Value} {fI:Addr} (hm:makesIn (KF w.params) C=true) (hi:findIn (KF w.params) (.ref C) "__init__"=some (some (.ref fI))) (hf:typeIn (KF w.params) (.ref fI)=some (.type "function"))
    (h:∀ x dx F',Le F F'→F' x=some (instObj C dx)→TC w (A.under (.builtin "type.__call__" ⟨.ref C::vs,[]⟩)) F' fI (.ref x::vs) ((dx,.ns [] [])::G) (fun G' F'' v=>v=.none∧G'=(dx,.ns xs ps)::G) bG) :
    T w A F (PySem.call (.ref C) vs) G G (fun F v=>(PV.inst C xs ps).Is w.params F v) :=
  TX.DM (xH (N:=fun x dx G'=>G'=(dx,.ns xs ps)::G) (X:=bG) hm hi hf h) fun G' F' v h H l n S=>by
    obtain⟨x,dx,rfl,fx,rfl⟩:=n
    obtain⟨F'',l2,S2,pv⟩:=nH S fx
    exact⟨G,F'',l2,S2,rfl,pv⟩
theorem XS.jC {c:Addr} (hk:env.scope.kind=.function) (hl:env.scope.names.lookup x=some .local) (lk:Look ρ x (.val (.ref c))) (n:P (.ret (.lst ps) ((env.locals,.frame ρ)::Γ))) (hd:(x == ("__debug__":Str))=false):XS w A env (.Return (some (.Name x np)) pos::ss) ((env.locals,.frame ρ)::(c,.list ps)::Γ) P :=
  XS.cons (XT.D3 (TX.DM (T.x (Ev.name (i:=0) rfl lk hk hl hd)) fun G' F' v h H l n1 S=>by
    obtain⟨rfl,hv⟩:=n1
    cases hv
    obtain⟨F'',l2,S2,pv⟩:=c4 (S.perm (List.Perm.swap _ _ _))
    exact⟨_,F'',l2,S2,.lst ps,pv,n⟩))
end
section
variable {w:World} {A:Around} {env:Env} {G G' G1 G2 Γ:Led} {P:Out→Prop} {pos cpos tpos:Pos} {e l r value o:Expr} {ss:List Stmt} {x name attr:Str} {p q:PV} {ps:List PV} {ρ:List (Str×PV)} {F:FM} {a C dx:Addr} {xs:List Str}
theorem xC (hm:makesIn (KF w.params) C=true) (hi:findIn (KF w.params) (.ref C) "__init__"=some (some (.builtin "object.__init__"))):T w A F (PySem.call (.ref C) []) G G (fun F v=>(PV.inst C [] []).Is w.params F v):=fun F1 H s hh k Q E l S q0 y=>by
  have S1:Sb w A F1 (hh.push emptyDict) ((hh.objs.size,.ns [] [])::(G++H)):=S.push (o:=emptyDict) rfl ⟨[],[],0,Heap.get?_push_size _ rfl,.nil,.nil⟩
  have S2:=S1.fix (o:=instObj C hh.objs.size) rfl
  have l2:Le F1 (F1.put (hh.push emptyDict).objs.size (instObj C hh.objs.size)):=Le.put S1.bE
  have f2:F1.put (hh.push emptyDict).objs.size (instObj C hh.objs.size) (hh.objs.size+1)=some (instObj C hh.objs.size):=by rw [Heap.size_push];exact FM.bO
  have Y:=makes_of (M:=MM w) (h:=hh) S.kf hm
  have hx:((hh.push emptyDict).push (instObj C hh.objs.size)).get? (hh.objs.size+1)=some (instObj C hh.objs.size):=S2.sub _ _ f2
  refine wpAny_call (make_core Y (looks_findIn S.kf hi) (fun self=>Looks.of_pure (oi_bind self)) (.inr ⟨rfl,rfl⟩) ?_)
  have t1:Looks (MM w) ((hh.push emptyDict).push (instObj C hh.objs.size)) (typeOf (.ref (hh.objs.size+1))) (.ref C):=(Looks.ld hx).andThen .now
  have t2:Looks (MM w) ((hh.push emptyDict).push (instObj C hh.objs.size)) (isInstance (.ref (hh.objs.size+1)) (.type "object")) true:=t1.andThen (Y.top.keeps fun b o e=>Heap.get?_push_of_some _ (Heap.get?_push_of_some _ e))
  refine codeAny_call_builtin oi_plain entry_oi (@check_slot (MM w) _ _ _ "object.__init__" "object" "__init__" (.ref (hh.objs.size+1)) [] [] _ oi_kind oi_split t2 (oi_args (.ref (hh.objs.size+1))) ?_)
  rw [oi_run]
  obtain⟨F3,l3,S3,pv⟩:=nH S2 f2
  exact wpAny_pure (And.intro rfl (q0 _ F3 _ k G (l2.trans l3) S3 ⟨rfl,pv⟩))
theorem HZ {v:Value} {x:List UInt8} {m:Nat} (hv:(PV.bytes x).Is w.params F v) (hm:bJ PE x=some (.int m)):T w A F (PySem.call (.builtin "dict.get") [.ref 168,v]) G G (fun F v=>(PV.int m).Is w.params F v):=fun F1 H s h kk Q E l S q y=>by
  obtain⟨t,rfl⟩:=hv
  obtain⟨n,kw,D,e,pvs⟩:=N9 S
  obtain⟨v,hv,iv⟩:=(eI (k:=x) e pvs).2 _ hm
  refine call_meetsIn PySem.F.slot_dict_get D.mapOf.typeIs PySem.F.entry_dict_get (PySem.F.args_dict_get_2 _ _) (meets_dict_get (bytesKind pw w) 168 (bytesKind_is _ _ _ _) n) ⟨_,D.mapOf,?_⟩
  rw [hv]
  exact q _ F1 h _ G (.refl _) S ⟨rfl,iv⟩
theorem L5 {c d:Bool} (hl:Ev w A env G l (.bool c) G) (hr:c=true→Ev w A env G r (.bool d) G):Ev w A env G (.BoolOp .And [l,r] pos) (.bool (c && d)) G:=by
  unfold Ev
  rw [arm_eval_BoolOp]
  show T w A F0 (boolOp pos .And [eval l env,eval r env]) _ _ _
  unfold boolOp
  refine T.bind hl fun v F1 l1 pv=>?_
  cases pv
  refine T.at (T.bind (T.holding T.pV) fun b F2 l2 eb=>?_)
  subst eb
  cases b with
  | false=>exact T.pure fun xx xx=>rfl
  | true =>
    show T w A F2 (boolOp pos .And [eval r env]) _ _ _
    rw [Bool.true_and]
    exact(hr rfl).low (Le.zero _)
theorem XS.dQ {j:Nat} (hv:Ev w A env G value p G) (ho:Ev w A env G o (.pO a C dx) G) (hi:G[j]?=some (dx,.ns xs ps)) (ok:storeOk (KF w.params) C attr=true) (hz:xs.length≤100)
    (hs:swapsWith value (some (.Attribute o attr tpos)) pos.line env=pure false) (n:XS w A env ss (G.set j (dx,.ns (EM xs attr) (EG xs ps attr p))) P):XS w A env (.Assign [.Attribute o attr tpos] value pos::ss) G P:=XS.cons (XT.setAttr hv ho hi ok hz hs n)
theorem xF {fa:Addr} {st:Stmt} {q:Str} {cd:Value} {vs vs':List Value} {xs:List Str} (I:a8 w.params fa st q cd) (hroom:A.depth<recursionLimit)
    (hbind:∀ s:Shared,(KF w.params).In s.heap→BindsTo s (aN w.params fa) ⟨vs,[]⟩ (xs.zip vs')) (pv:aS w.params F ps vs') (hnd:xs.Nodup) (hloc:∀ x∈xs,(aC st).names.lookup x=some .local)
    (hcell:∀ x∈(aC st).names,x.2≠.cell)
    (h:∀ L,XS w (A.deeper (aT st q fa (fun xx=>[]) cd L)) (aT st q fa (fun xx=>[]) cd L) (cQ st) ((L,.frame (xs.zip ps))::G) (bI L (fun p G'=>p=.none∧G'=G2) bG)) :
    TC w A F fa vs G (fun G' F' v=>v=.none∧G'=G2) bG:=fun F1 H s hh k R l S q x =>
  TC.fn (N:=fun p G'=>p=.none∧G'=G2) I hroom hbind pv hnd hloc hcell h F1 H s hh k R l S (fun v F' h' k' G' l' S' n=>q v F' h' k' G' l' S' (by obtain⟨q',pv,rfl,rfl⟩:=n;exact⟨pv,rfl⟩)) x
end
theorem Rm.dT {A:Around} {n:Nat} {C:Addr} {vals:List Value} (R:Rm A (n+1)):Rm (A.under (.builtin "type.__call__" ⟨.ref C::vals,[]⟩)) n:=Rm.make R
noncomputable abbrev xE:List Str:=["oid","kind","content","base","delta"]
noncomputable abbrev xS:List Str:=["at","number","size","base_at","base_id","data","behind"]
section
variable {w:World} {A:Around} {G:Led} {F:FM} {vs:List Value} {p0 p1 p2 p3 p4 p5 p6:PV}
theorem aS.three {P:Params} {p q r:PV} (h:aS P F [p,q,r] vs):∃ v u t,vs=[v,u,t]∧p.Is P F v∧q.Is P F u∧r.Is P F t:=by obtain⟨v,us,rfl,a,b⟩:=h.aZ;obtain⟨u,t,rfl,c,d⟩:=b.two;exact⟨v,u,t,rfl,a,c,d⟩
set_option maxHeartbeats 8000000 in
theorem EY (R:Rm A 2) (pv:aS w.params F [p0,p1,p2] vs):T w A F (call (.ref 208) vs) G G (fun F v=>(PV.inst 208 xE [p0,p1,p2,.none,.none]).Is w.params F v):=by
  obtain⟨v0,v1,v2,rfl,i0,i1,i2⟩:=pv.three
  refine sN (fI:=198) (by kernel_rfl) (by kernel_rfl) (by kernel_rfl) fun x dx F' l fx=>?_
  refine xF (ps:=[.pO x 208 dx,p0,p1,p2,.none,.none]) (N7 _) (R.dT).room.room (fun s X=>@JS w s X (.ref x) v0 v1 v2) (.cons ⟨rfl,fx⟩ (.cons (i0.mono l) (.cons (i1.mono l) (.cons (i2.mono l) (.cons rfl (.cons rfl .nil)))))) OE OB OD fun L=>?_
  refine XS.dQ (p:=p0) (j:=1) (by walk_at "ev") (by walk_at "ev") rfl (by kernel_rfl) (by simp) rfl ?_
  show XS _ _ _ _ (_::_::_) _
  refine XS.dQ (p:=p1) (j:=1) (by walk_at "ev") (by walk_at "ev") rfl (by kernel_rfl) (by decide) rfl ?_
  show XS _ _ _ _ (_::_::_) _
  refine XS.dQ (p:=p2) (j:=1) (by walk_at "ev") (by walk_at "ev") rfl (by kernel_rfl) (by decide) rfl ?_
  show XS _ _ _ _ (_::_::_) _
  refine XS.dQ (p:=.none) (j:=1) (by walk_at "ev") (by walk_at "ev") rfl (by kernel_rfl) (by decide) rfl ?_
  show XS _ _ _ _ (_::_::_) _
  refine XS.dQ (p:=.none) (j:=1) (by walk_at "ev") (by walk_at "ev") rfl (by kernel_rfl) (by decide) rfl ?_
  exact XS.nil (bI.next (G:=(dx,.ns xE [p0,p1,p2,.none,.none])::G) ⟨rfl,rfl⟩)
end
section
variable {w:World} {A:Around} {env:Env} {G G' G1 G2 Γ:Led} {P:Out→Prop} {pos cpos tpos:Pos} {e l r value o:Expr} {ss:List Stmt} {x name attr:Str} {p q:PV} {ps:List PV} {ρ:List (Str×PV)} {F:FM} {a C dx:Addr} {xs:List Str}
theorem XS.IM {j:Nat} {qq:Addr×PO} {ob:PO} (hv:TX w A F0 (eval value env) (qq::Γ) (fun G' F v=>∃ b,v=.ref b∧G'=(b,ob)::qq::Γ) bG) (ho:∀ b,Ev w A env (qq::(b,ob)::Γ) o (.pO a C dx) (qq::(b,ob)::Γ)) (hi:∀ b,(qq::(b,ob)::Γ)[j]?=some (dx,.ns xs ps)) (ok:storeOk (KF w.params) C attr=true) (hz:xs.length≤100)
    (hs:swapsWith value (some (.Attribute o attr tpos)) pos.line env=pure false) (n:∀ b,XS w A env ss ((qq::(b,ob)::Γ).set j (dx,.ns (EM xs attr) (EG xs ps attr (.val (.ref b))))) P):XS w A env (.Assign [.Attribute o attr tpos] value pos::ss) (qq::Γ) P :=
  XS.cons fun F1 H s h k Q E l S q0 y=>plainObj_wpAny_Assign_Attribute (hv F1 H s h k _ E l S (fun v F' h' k' G'' l' S' eq=>by
    obtain⟨b,rfl,rfl⟩:=eq
    have S1:Sb w A F' h' ((qq::(b,ob)::Γ)++H):=S'.perm (List.Perm.swap _ _ _)
    refine ho b F' H s h' k' _ E (Le.zero _) S1 (fun u F2 h2 k2 G'' l2 S2 eq=>?_) fun xx xx xx xx xx xx xx xx xx xx n=>n.elim
    obtain⟨rfl,rfl,fu⟩:=eq
    refine T.setAttr (hi b) ok hz fu (p:=.val (.ref b)) rfl F2 H s h2 k2 _ E (.refl _) S2 (fun xx F4 h4 k4 G'' l4 S4 eq=>?_) fun xx xx xx xx xx xx xx xx xx xx n=>n.elim
    obtain⟨rfl,-⟩:=eq
    exact q0 .next F4 h4 k4 _ ((l'.trans l2).trans l4) S4 (n b)) fun xx xx xx xx xx xx xx xx xx xx n=>n.elim) hs
theorem yS {fa:Addr} {st:Stmt} {q:Str} {cd:Value} {vs vs':List Value} {xs:List Str} {N:Led→Prop} (I:a8 w.params fa st q cd) (hroom:A.depth<recursionLimit)
    (hbind:∀ s:Shared,(KF w.params).In s.heap→BindsTo s (aN w.params fa) ⟨vs,[]⟩ (xs.zip vs')) (pv:aS w.params F ps vs') (hnd:xs.Nodup) (hloc:∀ x∈xs,(aC st).names.lookup x=some .local)
    (hcell:∀ x∈(aC st).names,x.2≠.cell)
    (h:∀ L,XS w (A.deeper (aT st q fa (fun xx=>[]) cd L)) (aT st q fa (fun xx=>[]) cd L) (cQ st) ((L,.frame (xs.zip ps))::G) (bI L (fun p G'=>p=.none∧N G') bG)) :
    TC w A F fa vs G (fun G' F' v=>v=.none∧N G') bG:=fun F1 H s hh k R l S q x =>
  TC.fn (N:=fun p G'=>p=.none∧N G') I hroom hbind pv hnd hloc hcell h F1 H s hh k R l S (fun v F' h' k' G' l' S' n=>q v F' h' k' G' l' S' (by obtain⟨q',pv,rfl,n⟩:=n;exact⟨pv,n⟩)) x
end
noncomputable abbrev xB:List Str:=["hasher","codec","by_offset","pieces","length","places"]
section
variable {w:World} {A:Around} {G:Led} {F:FM} {vs:List Value} {p0 p1 p2 p3 p4 p5 p6:PV}
set_option maxHeartbeats 8000000 in
theorem EZ (R:Rm A 2) (pv:aS w.params F [p0,p1,p2,p3,p4] vs):T w A F (call (.ref 208) vs) G G (fun F v=>(PV.inst 208 xE [p0,p1,p2,p3,p4]).Is w.params F v):=by
  obtain⟨v0,us,rfl,i0,pv⟩:=pv.aZ
  obtain⟨v1,us,rfl,i1,pv⟩:=pv.aZ
  obtain⟨v2,v3,v4,rfl,i2,i3,i4⟩:=pv.three
  refine sN (fI:=198) (by kernel_rfl) (by kernel_rfl) (by kernel_rfl) fun x dx F' l fx=>?_
  refine xF (ps:=[.pO x 208 dx,p0,p1,p2,p3,p4]) (N7 _) (R.dT).room.room (fun s X=>@JT w s X (.ref x) v0 v1 v2 v3 v4) (.cons ⟨rfl,fx⟩ (.cons (i0.mono l) (.cons (i1.mono l) (.cons (i2.mono l) (.cons (i3.mono l) (.cons (i4.mono l) .nil)))))) OE OB OD fun L=>?_
  refine XS.dQ (p:=p0) (j:=1) (by walk_at "ev") (by walk_at "ev") rfl (by kernel_rfl) (by simp) rfl ?_
  show XS _ _ _ _ (_::_::_) _
  refine XS.dQ (p:=p1) (j:=1) (by walk_at "ev") (by walk_at "ev") rfl (by kernel_rfl) (by decide) rfl ?_
  show XS _ _ _ _ (_::_::_) _
  refine XS.dQ (p:=p2) (j:=1) (by walk_at "ev") (by walk_at "ev") rfl (by kernel_rfl) (by decide) rfl ?_
  show XS _ _ _ _ (_::_::_) _
  refine XS.dQ (p:=p3) (j:=1) (by walk_at "ev") (by walk_at "ev") rfl (by kernel_rfl) (by decide) rfl ?_
  show XS _ _ _ _ (_::_::_) _
  refine XS.dQ (p:=p4) (j:=1) (by walk_at "ev") (by walk_at "ev") rfl (by kernel_rfl) (by decide) rfl ?_
  exact XS.nil (bI.next (G:=(dx,.ns xE [p0,p1,p2,p3,p4])::G) ⟨rfl,rfl⟩)
set_option maxHeartbeats 8000000 in
theorem DG (R:Rm A 2) (pv:aS w.params F [p0,p1,p2,p3,p4,p5,p6] vs):T w A F (call (.ref 294) vs) G G (fun F v=>(PV.inst 294 xS [p0,p1,p2,p3,p4,p5,p6]).Is w.params F v):=by
  obtain⟨v0,us,rfl,i0,pv⟩:=pv.aZ
  obtain⟨v1,us,rfl,i1,pv⟩:=pv.aZ
  obtain⟨v2,us,rfl,i2,pv⟩:=pv.aZ
  obtain⟨v3,us,rfl,i3,pv⟩:=pv.aZ
  obtain⟨v4,v5,v6,rfl,i4,i5,i6⟩:=pv.three
  refine sN (fI:=284) (by kernel_rfl) (by kernel_rfl) (by kernel_rfl) fun x dx F' l fx=>?_
  refine xF (ps:=[.pO x 294 dx,p0,p1,p2,p3,p4,p5,p6]) (fn284 _) (R.dT).room.room (fun s X=>@J1 w s X (.ref x) v0 v1 v2 v3 v4 v5 v6) (.cons ⟨rfl,fx⟩ (.cons (i0.mono l) (.cons (i1.mono l) (.cons (i2.mono l) (.cons (i3.mono l) (.cons (i4.mono l) (.cons (i5.mono l) (.cons (i6.mono l) .nil)))))))) nd284 lc284 nc284 fun L=>?_
  refine XS.dQ (p:=p0) (j:=1) (by walk_at "ev") (by walk_at "ev") rfl (by kernel_rfl) (by simp) rfl ?_
  show XS _ _ _ _ (_::_::_) _
  refine XS.dQ (p:=p1) (j:=1) (by walk_at "ev") (by walk_at "ev") rfl (by kernel_rfl) (by decide) rfl ?_
  show XS _ _ _ _ (_::_::_) _
  refine XS.dQ (p:=p2) (j:=1) (by walk_at "ev") (by walk_at "ev") rfl (by kernel_rfl) (by decide) rfl ?_
  show XS _ _ _ _ (_::_::_) _
  refine XS.dQ (p:=p3) (j:=1) (by walk_at "ev") (by walk_at "ev") rfl (by kernel_rfl) (by decide) rfl ?_
  show XS _ _ _ _ (_::_::_) _
  refine XS.dQ (p:=p4) (j:=1) (by walk_at "ev") (by walk_at "ev") rfl (by kernel_rfl) (by decide) rfl ?_
  show XS _ _ _ _ (_::_::_) _
  refine XS.dQ (p:=p5) (j:=1) (by walk_at "ev") (by walk_at "ev") rfl (by kernel_rfl) (by decide) rfl ?_
  show XS _ _ _ _ (_::_::_) _
  refine XS.dQ (p:=p6) (j:=1) (by walk_at "ev") (by walk_at "ev") rfl (by kernel_rfl) (by decide) rfl ?_
  exact XS.nil (bI.next (G:=(dx,.ns xS [p0,p1,p2,p3,p4,p5,p6])::G) ⟨rfl,rfl⟩)
set_option maxHeartbeats 8000000 in
theorem E0 (R:Rm A 2) (pv:aS w.params F [.int (4:Nat)] vs):TX w A F (call (.ref 162) vs) G (fun G' F' v=>∃ d,(hash d).Is w.params F' v∧G'=(d,.dB [])::G) bG:=by
  obtain⟨v0,rfl,i0⟩:=pv.bH
  refine TX.DM (xH (fI:=152) (N:=fun x dx G'=>∃ d,G'=(d,.dB [])::(dx,.ns ["size","known"] [.int (4:Nat),.val (.ref d)])::G) (X:=bG) (by kernel_rfl) (by kernel_rfl) (by kernel_rfl) fun x dx F' l fx=>?_) fun G' F' v h H l n S=>?_
  · refine yS (N:=fun G'=>∃ d,G'=(d,.dB [])::(dx,.ns ["size","known"] [.int (4:Nat),.val (.ref d)])::G) (ps:=[.pO x 162 dx,.int (4:Nat)]) (fn152 _) (R.dT).room.room (fun s X=>@JO w s X (.ref x) v0) (.cons ⟨rfl,fx⟩ (.cons (i0.mono l) .nil)) nd152 lc152 nc152 fun L=>?_
    refine XS.dQ (p:=.int (4:Nat)) (j:=1) (by walk_at "ev") (by walk_at "ev") rfl (by kernel_rfl) (by simp) rfl ?_
    refine XS.IM (j:=2) (ob:=.dB []) sL (fun b=>by walk_at "ev") (fun b=>rfl) (by kernel_rfl) (by decide) rfl fun b=>?_
    exact XS.nil (bI.next (G:=(b,.dB [])::(dx,.ns ["size","known"] [.int (4:Nat),.val (.ref b)])::G) ⟨rfl,b,rfl⟩)
  · obtain⟨x,dx,rfl,fx,d,rfl⟩:=n
    obtain⟨F'',l2,S2,pv⟩:=nH (S.perm (List.Perm.swap _ _ _)) fx
    exact⟨(d,.dB [])::G,F'',l2,S2,d,pv,rfl⟩
set_option maxHeartbeats 8000000 in
theorem DF (R:Rm A 2) (pv:aS w.params F [p0,p1,p2] vs):TX w A F (call (.ref 251) vs) G (fun G' F' v=>∃ x dx lp dp,(PV.pO x 251 dx).Is w.params F' v∧G'=(dp,.dB [])::(lp,.list [])::(dx,.ns xB [p0,p1,p2,.val (.ref lp),.int (12:Nat),.val (.ref dp)])::G) bG:=by
  obtain⟨v0,v1,v2,rfl,i0,i1,i2⟩:=pv.three
  refine TX.imp (xH (fI:=227) (N:=fun x dx G'=>∃ lp dp,G'=(dp,.dB [])::(lp,.list [])::(dx,.ns xB [p0,p1,p2,.val (.ref lp),.int (12:Nat),.val (.ref dp)])::G) (X:=bG) (by kernel_rfl) (by kernel_rfl) (by kernel_rfl) fun x dx F' l fx=>?_) (fun G' F' v l n=>?_) fun xx xx xx xx h=>h
  · refine yS (N:=fun G'=>∃ lp dp,G'=(dp,.dB [])::(lp,.list [])::(dx,.ns xB [p0,p1,p2,.val (.ref lp),.int (12:Nat),.val (.ref dp)])::G) (ps:=[.pO x 251 dx,p0,p1,p2]) (fn227 _) (R.dT).room.room (fun s X=>@JV w s X (.ref x) v0 v1 v2) (.cons ⟨rfl,fx⟩ (.cons (i0.mono l) (.cons (i1.mono l) (.cons (i2.mono l) .nil)))) nd227 lc227 nc227 fun L=>?_
    refine XS.dQ (p:=p0) (j:=1) (by walk_at "ev") (by walk_at "ev") rfl (by kernel_rfl) (by simp) rfl ?_
    show XS _ _ _ _ (_::_::_) _
    refine XS.dQ (p:=p1) (j:=1) (by walk_at "ev") (by walk_at "ev") rfl (by kernel_rfl) (by decide) rfl ?_
    show XS _ _ _ _ (_::_::_) _
    refine XS.dQ (p:=p2) (j:=1) (by walk_at "ev") (by walk_at "ev") rfl (by kernel_rfl) (by decide) rfl ?_
    refine XS.IM (j:=2) (ob:=.list []) (cR aU.nil (by simp)) (fun b=>by walk_at "ev") (fun b=>rfl) (by kernel_rfl) (by decide) rfl fun lp=>?_
    show XS _ _ _ _ (_::_::_) _
    refine XS.dQ (p:=.int (12:Nat)) (j:=2) (by walk_at "ev") (by walk_at "ev") rfl (by kernel_rfl) (by decide) rfl ?_
    refine XS.IM (j:=3) (ob:=.dB []) sL (fun b=>by walk_at "ev") (fun b=>rfl) (by kernel_rfl) (by decide) rfl fun dp=>?_
    exact XS.nil (bI.next (G:=(dp,.dB [])::(lp,.list [])::(dx,.ns xB [p0,p1,p2,.val (.ref lp),.int (12:Nat),.val (.ref dp)])::G) ⟨rfl,lp,dp,rfl⟩)
  · obtain⟨x,dx,rfl,fx,lp,dp,rfl⟩:=n
    exact⟨x,dx,lp,dp,⟨rfl,fx⟩,rfl⟩
end
noncomputable def kindB:Nat→List UInt8
  | 0=>[99,111,109,109,105,116]
  | 1=>[116,114,101,101]
  | 2=>[98,108,111,98]
  | _=>[116,97,103]
structure Row where
  oid:List UInt8
  kind:Nat
  oc:List UInt8
  base:Option (List UInt8)
structure lA where
  pl:Nat
  number:Nat
  size:Nat
  bat:Option Nat
  bid:Option (List UInt8)
  oc:List UInt8
  behind:Nat
structure St where
  whole:List UInt8
  told:List lA
  known:List (List UInt8×Nat)
noncomputable def kn (l:List (List UInt8×Nat)) (x:List UInt8):Option Nat:=(l.find? fun q=>decide (q.1=x)).map (fun xx=>xx.2)
noncomputable def qE (l:List (List UInt8×Nat)):List (List UInt8×PV):=l.map fun q=>(q.1,.int (q.2:Nat))
theorem cI (x:List UInt8):∀ l,bJ (qE l) x=(kn l x).map fun n=>.int (n:Nat)
  | []=>rfl
  | (k,n)::l=>by
    have ih:=cI x l
    unfold bJ kn qE at ih ⊢
    rw [List.map_cons,List.find?_cons,List.find?_cons]
    by_cases e:k=x
    · simp [e]
    · simp only [e,decide_false];exact ih
theorem zF (k:Nat) (h:k<4):bJ PE (kindB k)=some (.int (k+1:Nat)):=by
  match k,h with
  | 0,_=>rfl | 1,_=>rfl | 2,_=>rfl | 3,_=>rfl
noncomputable def a9 (r:Row):PV:=match r.base with
  | none=>.inst 208 xE [.bytes r.oid,.bytes (kindB r.kind),.bytes r.oc,.none,.none]
  | some b=>.inst 208 xE [.bytes r.oid,.bytes (kindB r.kind),.none,.bytes b,.bytes r.oc]
noncomputable def aF (placed:Bool) (st:St) (r:Row):Nat×List UInt8×Option Nat×Option (List UInt8):=match r.base with
  | none=>(r.kind+1,[],none,none)
  | some b=>match (if placed then kn st.known b else none) with
    | some o=>(6,bb (bk (12+st.whole.length - o)),some o,none)
    | none=>(7,b,none,some b)
noncomputable def aG (placed:Bool) (st:St) (r:Row):List UInt8:=bb (hd (aF placed st r).1 r.oc.length)++(aF placed st r).2.1++stored r.oc
noncomputable def a6 (placed:Bool) (st:St) (r:Row):St:=match kn st.known r.oid with
  | some _=>st
  | none=>⟨st.whole++aG placed st r,st.told++[⟨12+st.whole.length,(aF placed st r).1,r.oc.length,(aF placed st r).2.2.1,(aF placed st r).2.2.2,r.oc,12+(st.whole++aG placed st r).length⟩],st.known++[(r.oid,12+st.whole.length)]⟩
structure gE (r:Row):Prop where
  kind:r.kind<4
  oc:r.oc.length≤1000
  oid:r.oid.length≤100
  base:∀ b,r.base=some b→b.length≤100
structure y0 (st:St) (n:Nat):Prop where
  whole:st.whole.length≤2000*n
  told:st.told.length≤n
  known:st.known.length≤n
  low:∀ q∈st.known,q.2≤12+st.whole.length
theorem uY {l:List (List UInt8×Nat)} {x:List UInt8} {n:Nat} (h:kn l x=some n):(x,n)∈l:=by
  unfold kn at h
  obtain⟨q,hq,rfl⟩:=Option.map_eq_some_iff.mp h
  have:=List.find?_some hq
  have e:=of_decide_eq_true this
  exact e ▸ List.mem_of_find?_eq_some hq
theorem bW {x:List UInt8} (h:x.length≤100000):(stored x).length≤8+x.length:=by
  have:=iU (n:=x.length) (by omega)
  simp [stored,bb];omega
theorem mP {placed:Bool} {st:St} {r:Row} {n:Nat} (R:gE r) (S:y0 st n) (hn:n≤1000):(aF placed st r).2.1.length≤100:=by
  unfold aF
  cases hb:r.base with
  | none=>simp
  | some b =>
    dsimp only
    split
    · rw [aM]
      have:=mZ (n:=12+st.whole.length - (by assumption:Nat)) (by have:=S.whole;omega +splitMinMax)
      omega +splitMinMax
    · exact R.base b hb
theorem A7 {placed:Bool} {st:St} {r:Row} (R:gE r):(aF placed st r).1<8:=by
  have:=R.kind
  unfold aF
  cases hb:r.base with
  | none=>dsimp only;omega
  | some b=>dsimp only;split <;> simp
theorem fE {placed:Bool} {st:St} {r:Row} {n:Nat} (R:gE r) (S:y0 st n) (hn:n≤1000):(aG placed st r).length≤1200:=by
  have h1:=mP (placed:=placed) R S hn
  have h2:=b8 (n:=(aF placed st r).1) (s:=r.oc.length) (by have:=R.oc;omega)
  have h3:=bW (x:=r.oc) (by have:=R.oc;omega)
  have:=R.oc
  simp only [aG,List.length_append,aM]
  omega
theorem sI {placed:Bool} {st:St} {r:Row} {n:Nat} (R:gE r) (S:y0 st n) (hn:n≤1000):y0 (a6 placed st r) (n+1):=by
  have h:=fE (placed:=placed) R S hn
  have h1:=S.whole
  have h2:=S.told
  have h3:=S.known
  unfold a6
  split
  · exact⟨by omega,by omega,by omega,S.low⟩
  · refine⟨by simp only [List.length_append];omega,by simp;omega,by simp;omega,fun q hq=>?_⟩
    rcases List.mem_append.mp hq with hq | hq
    · have:=S.low q hq;simp only [List.length_append];omega
    · rw [List.mem_singleton] at hq;subst hq;simp only [List.length_append];omega
noncomputable def xO (w:World) (A:Around) (env:Env) (G:Led) (e:Expr) (p:PV) (G':Led):Prop:=bU w A F0 (eval e env) G (fun G'' F v=>G''=G'∧p.Is w.params F v) bG
section
variable {w:World} {A:Around} {env:Env} {G G' G1 G2 G3 Γ:Led} {P:Out→Prop} {pos cpos np apos:Pos} {e l r value:Expr} {es:List Expr} {ss:List Stmt} {x name:Str} {p q R:PV} {ps as:List PV} {F:FM} {f:Value} {fa C:Addr} {xs:List Str}
theorem xO.bin {op:Operator} (hl:xO w A env G l p G1) (hr:Ev w A env G1 r q G2) (hop:∀ v u F,p.Is w.params F v→q.Is w.params F u→T w A F (binaryOp op v u) G2 G3 (fun F v=>R.Is w.params F v)):xO w A env G (.BinOp l op r pos) R G3:=by
  unfold xO
  rw [arm_eval_BinOp]
  refine bU.bind hl fun v F1 G' l1 n=>?_
  obtain⟨rfl,pv⟩:=n
  refine bU.of (T.bind (T.holding (hr.low (Le.zero _))) fun u F2 l2 pu=>T.at (T.operate ((hop v u F2 (pv.mono l2) pu).low (.refl _))))
theorem xO.call (hf:Ev w A env G (.Name x np) (.val f) G) (hk:cU w f) (ha:aU w A env G pos es ps G1) (hp:(backTo pos (starEach es env)).any (fun xx=>xx.1)=false)
    (hc:∀ vs F',aS w.params F' ps vs→bU w A F' (PySem.call f vs) G1 (fun G' F v=>G'=G2∧p.Is w.params F v) bG):xO w A env G (.Call (.Name x np) es [] pos) p G2:=sO hf hk ha hp hc
theorem bD.ret (he:xO w A env G e p G') (n:P (.ret p G')):bD w A env (.Return (some e) pos::ss) G P:=bD.cons (iV.D3 (bU.imp he (fun G' F v l h=>⟨p,h.2,by rw [h.1];exact n⟩) fun _ _ _ _ (h:False)=>h.elim))
theorem cH {pl:Sem Bool} (ho:Ev w A env G value p G1) (hA:sV w G1 p C xs ps) (ok:nE (KF w.params) C name fa=true) (hl:dG xs ps name=none) (ha:aU w A env G1 pos es as G2) (hp:(backTo pos (starEach es env)).any (fun xx=>xx.1)=false)
    (he:eval (.Call (.Attribute value name apos) es [] pos) env=(do
      let ov ← eval value env
      standAt apos.atName
      let (f,first) ← holding [ov] (getMethod ov name pl)
      callWith pos f first (backTo pos (starEach es env)) (backToKw pos (keywordEach [] env))))
    (hc:∀ vs F',aS w.params F' (p::as) vs→T w A F' (PySem.call (.ref fa) vs) G2 G3 (fun F v=>R.Is w.params F v)):Ev w A env G (.Call (.Attribute value name apos) es [] pos) R G3:=t8 (pl:=pl) ho hA ok hl ha hp hc he
end
section
variable {w:World} {A:Around} {G:Led} {F:FM} {vs:List Value} {p0 p1 p2 p3 p4:PV}
set_option maxHeartbeats 8000000 in
theorem p8 (R:Rm A 1) (h3:p3.plain=true) (h4:p4.plain=true) (pv:aS w.params F [.inst 208 xE [p0,p1,p2,p3,p4]] vs):T w A F (call (.ref 205) vs) G G (fun F v=>(PV.bool (!p3.I9 && !p4.I9)).Is w.params F v):=by
  obtain⟨v0,rfl,i0⟩:=pv.bH
  refine T.fn (fn205 _) R.room.room (fun s X=>@JU w s X v0) pv nd205 lc205 nc205 fun L=>?_
  refine XS.kX (p:=.bool (!p3.I9 && !p4.I9)) (L5 (Ev.cmp (bA (C:=208) (xs:=xE) (ps:=[p0,p1,p2,p3,p4]) (by walk_at "ev") (by kernel_rfl) rfl h3 rfl) (by walk_at "ev") (by walk_at "op") (by rfl)) fun xx=>Ev.cmp (bA (C:=208) (xs:=xE) (ps:=[p0,p1,p2,p3,p4]) (by walk_at "ev") (by kernel_rfl) rfl h4 rfl) (by walk_at "ev") (by walk_at "op") (by rfl)) (bI.ret ⟨rfl,rfl⟩)
end
noncomputable abbrev tC:PV:=.inst 351 [] []
noncomputable abbrev lE (d lp dp:Addr) (placed:Bool) (st:St):List PV:=[hash d,tC,.bool placed,.val (.ref lp),.int (12+st.whole.length:Nat),.val (.ref dp)]
section
variable {w:World} {A:Around} {env:Env} {G G' G1 G2:Led} {F:FM} {vs:List Value} {d dp lp dx x:Addr} {placed:Bool} {st:St} {r:Row} {ps:List PV} {n:Nat} {pos apos np:Pos} {value arg:Expr}
theorem B9 {t:Sem Value} {p:PV} {G':Led} (h:bU w A F t G (fun G'' F' v=>∃ q:PV,q.Is w.params F' v∧q=p∧G''=G') bG):bU w A F t G (fun G'' F' v=>G''=G'∧p.Is w.params F' v) bG:=bU.imp h (fun G' F v l h=>by obtain⟨p,pv,rfl,rfl⟩:=h;exact⟨rfl,pv⟩) fun xx xx xx xx h=>h
theorem E9 {k:Nat} {pl:Sem Bool} (hk:k<4) (ho:Ev w A env G value (.val (.ref 168)) G) (ha:aU w A env G pos [arg] [.bytes (kindB k)] G) (hp:(backTo pos (starEach [arg] env)).any (fun xx=>xx.1)=false)
    (he:eval (.Call (.Attribute value "get" apos) [arg] [] pos) env=(do
      let ov ← eval value env
      standAt apos.atName
      let (f,first) ← holding [ov] (getMethod ov "get" pl)
      callWith pos f first (backTo pos (starEach [arg] env)) (backToKw pos (keywordEach [] env)))):Ev w A env G (.Call (.Attribute value "get" apos) [arg] [] pos) (.int (k+1:Nat)) G :=
  fG (Ty:="dict") (id:="dict.get") (p:=.val (.ref 168)) ho PySem.F.plainAttrs_dict PySem.F.slot_dict_get PySem.F.type_dict_get (fun v F1 h H pv S=>by
    cases pv
    obtain⟨nm,kw,D,e,pvs⟩:=N9 S
    exact⟨fun s hs=>by subst hs;exact D.mapOf.typeIs,D.mapOf.noDict⟩) ha hp (fun v vs F' pv pvs=>by
    cases pv
    obtain⟨u,rfl,hu⟩:=pvs.bH
    exact HZ hu (zF _ hk)) he
set_option maxHeartbeats 16000000 in
theorem y7 (R:Rc A 4) (K:gE r) (S:y0 st n) (hn:n≤1000) (pv:aS w.params F [.pO x 251 dx,a9 r] vs) :
    bU w A F (call (.ref 234) vs) ((dp,.dB (qE st.known))::(lp,.list ps)::(dx,.ns xB (lE d lp dp placed st))::G)
      (fun G' F v=>G'=(dp,.dB (qE st.known))::(lp,.list ps)::(dx,.ns xB (lE d lp dp placed st))::G∧(PV.bytes (aG placed st r)).Is w.params F v) bG:=by
  obtain⟨v0,v1,rfl,p0,p1⟩:=pv.two
  refine B9 (bU.fn (N:=fun p G'=>p=.bytes (aG placed st r)∧G'=(dp,.dB (qE st.known))::(lp,.list ps)::(dx,.ns xB (lE d lp dp placed st))::G) (X:=bG) (fn234 _) R.rm.room.room (fun s X=>@JW w s X v0 v1) pv nd234 lc234 nc234 fun L=>?_)
  have R':=R.deeper (aT (aW 27 1) "PackBuilder.piece_of" 234 (fun xx=>[]) (.ref 233) L)
  have hoc:=K.oc
  have hkd:=K.kind
  have hst:=bW (x:=r.oc) (by omega)
  cases hb:r.base with
  | none =>
    have e1:a9 r=.inst 208 xE [.bytes r.oid,.bytes (kindB r.kind),.bytes r.oc,.none,.none]:=by unfold a9;rw [hb]
    have e2:aG placed st r=bb (hd (r.kind+1) r.oc.length)++stored r.oc:=by unfold aG aF;rw [hb];simp
    rw [e1,e2]
    have hl:=b8 (n:=r.kind+1) (s:=r.oc.length) (by omega)
    refine bD.cons (iV.ifs (b:=true) (Tr.not (b:=false) (Tr.of (cH (fa:=205) (C:=208) (xs:=xE) (ps:=[.bytes r.oid,.bytes (kindB r.kind),.bytes r.oc,.none,.none]) (by walk_at "ev") sV.inst (by kernel_rfl) rfl (by walk_at "evs") (by rfl) (by rfl) fun vs F' pvs=>p8 (p3:=.none) (p4:=.none) R'.rm.less rfl rfl pvs) (by rfl))) (fun xx=>?_) fun h=>by cases h)
    refine bD.aE (p:=.int (r.kind+1:Nat)) rfl rfl rfl rfl (E9 hkd (by walk_at "ev") (by walk_at "evs") (by rfl) (by rfl)) ?_
    refine bD.step (XT.ifs (b:=false) (a3 (dR (by walk_at "tr") fun xx=>dR (by walk_at "tr") fun xx=>kY) (by rfl)) (fun h=>by cases h) fun xx=>XS.nil ?_)
    refine bD.ret (p:=.bytes (bb (hd (r.kind+1) r.oc.length)++stored r.oc)) (xO.bin (p:=.bytes (bb (hd (r.kind+1) r.oc.length))) (q:=.bytes (stored r.oc))
      (xO.call (by walk_at "ev") (aB (by kernel_rfl)) (by walk_at "evs") (by rfl) fun vs F' pvs=>eW (n:=r.kind+1) (s:=r.oc.length) R'.less (by omega) (by omega) pvs)
      (cH (fa:=340) (C:=351) (xs:=[]) (ps:=[]) (by walk_at "ev") sV.inst (by kernel_rfl) rfl (by walk_at "evs") (by rfl) (by rfl) fun vs F' pvs=>E5 (x:=r.oc) R'.rm.less (by omega) pvs)
      (fun v u F hv hu=>aH (by rw [aM];omega) hv hu)) (by exact⟨_,_,Drop.refl _,rfl,rfl⟩)
  | some b =>
    have e1:a9 r=.inst 208 xE [.bytes r.oid,.bytes (kindB r.kind),.none,.bytes b,.bytes r.oc]:=by unfold a9;rw [hb]
    have hbl:=K.base b hb
    rw [e1]
    refine bD.cons (iV.ifs (b:=false) (Tr.not (b:=true) (Tr.of (cH (fa:=205) (C:=208) (xs:=xE) (ps:=[.bytes r.oid,.bytes (kindB r.kind),.none,.bytes b,.bytes r.oc]) (by walk_at "ev") sV.inst (by kernel_rfl) rfl (by walk_at "evs") (by rfl) (by rfl) fun vs F' pvs=>p8 (p3:=.bytes b) (p4:=.bytes r.oc) R'.rm.less rfl rfl pvs) (by rfl))) (fun h=>by cases h) fun xx=>bD.of (XS.nil ?_))
    show bD _ _ _ _ _ _
    refine bD.aE (p:=.bytes (stored r.oc)) rfl rfl rfl rfl (cH (fa:=340) (C:=351) (xs:=[]) (ps:=[]) (by walk_at "ev") sV.inst (by kernel_rfl) rfl (by walk_at "evs") (by rfl) (by rfl) fun vs F' pvs=>E5 (x:=r.oc) R'.rm.less (by omega) pvs) ?_
    have hkf:=cI b st.known
    refine bD.cons (iV.ifs (b:=placed && (kn st.known b).isSome) (a3 (c8 (Tr.of (b:=placed) (by walk_at "ev") (by rfl)) fun xx=>c8 (Tr.cmp (by walk_at "ev") (by walk_at "ev") (fun v u F hv hu=>wY (i:=1) rfl hv hu) (by rfl)) fun xx=>xG) (by rw [hkf];simp)) (fun h=>?_) fun h=>bD.of (XS.nil ?_))
    · obtain⟨h1,h2⟩:=Bool.and_eq_true_iff.mp h
      obtain⟨o,ho⟩:=Option.isSome_iff_exists.mp h2
      have hlow:=S.low _ (uY ho)
      have hw:=S.whole
      dsimp only at hlow
      have e2:aG placed st r=bb (hd 6 r.oc.length)++bb (bk (12+st.whole.length - o))++stored r.oc:=by unfold aG aF;rw [hb];simp [h1,ho]
      have hl:=b8 (n:=6) (s:=r.oc.length) (by omega)
      have hk:=mZ (n:=12+st.whole.length - o) (by omega)
      rw [ho] at hkf
      rw [e2]
      refine bD.aE (p:=.bytes (bb (bk (12+st.whole.length - o)))) rfl rfl rfl rfl (Ev.aQ (by walk_at "ev") (aB (by kernel_rfl)) (aU.cons (p:=.int (12+st.whole.length - o:Nat)) (Ev.bin (p:=.int (12+st.whole.length:Nat)) (q:=.int o) (by walk_at "ev") (lM (i:=1) (by walk_at "ev") (by walk_at "ev") rfl hkf (fun xx xx=>rfl)) fun v u F hv hu=>fB hlow hv hu) aU.nil (by rfl)) (by rfl) fun vs F' pvs=>uN (n:=12+st.whole.length - o) R'.rm.less (by omega) pvs) ?_
      refine bD.ret (p:=.bytes (bb (hd 6 r.oc.length)++bb (bk (12+st.whole.length - o))++stored r.oc)) (xO.bin (p:=.bytes (bb (hd 6 r.oc.length)++bb (bk (12+st.whole.length - o)))) (q:=.bytes (stored r.oc))
        (xO.bin (p:=.bytes (bb (hd 6 r.oc.length))) (q:=.bytes (bb (bk (12+st.whole.length - o)))) (xO.call (by walk_at "ev") (aB (by kernel_rfl)) (by walk_at "evs") (by rfl) fun vs F' pvs=>eW (n:=6) (s:=r.oc.length) R'.less (by omega) (by omega) pvs)
          (by walk_at "ev") fun v u F hv hu=>aH (by rw [aM,aM];omega) hv hu) (by walk_at "ev")
        (fun v u F hv hu=>aH (by rw [List.length_append,aM,aM];omega) hv hu)) (by exact⟨_,_,Drop.refl _,rfl,rfl⟩)
    · have e2:aG placed st r=bb (hd 7 r.oc.length)++b++stored r.oc:=by
        unfold aG aF;rw [hb]
        have:(if placed then kn st.known b else none)=none:=by
          cases placed with
          | false=>rfl
          | true=>simpa using h
        simp [this]
      have hl:=b8 (n:=7) (s:=r.oc.length) (by omega)
      rw [e2]
      show bD _ _ _ _ _ _
      refine bD.ret (p:=.bytes (bb (hd 7 r.oc.length)++b++stored r.oc)) (xO.bin (p:=.bytes (bb (hd 7 r.oc.length)++b)) (q:=.bytes (stored r.oc))
        (xO.bin (p:=.bytes (bb (hd 7 r.oc.length))) (q:=.bytes b) (xO.call (by walk_at "ev") (aB (by kernel_rfl)) (by walk_at "evs") (by rfl) fun vs F' pvs=>eW (n:=7) (s:=r.oc.length) R'.less (by omega) (by omega) pvs)
          (by walk_at "ev") fun v u F hv hu=>aH (by rw [aM];omega) hv hu) (by walk_at "ev")
        (fun v u F hv hu=>aH (by rw [List.length_append,aM];omega) hv hu)) (by exact⟨_,_,Drop.refl _,rfl,rfl⟩)
end
noncomputable def cX (placed:Bool) (st:St) (r:Row) (pcs:List (List UInt8)):List (List UInt8):=match kn st.known r.oid with
  | some _=>pcs
  | none=>pcs++[aG placed st r]
noncomputable def c9 (l:List (List UInt8)):List PV:=l.map .bytes
theorem xW (l:List (List UInt8)) (x:List UInt8):c9 l++[.bytes x]=c9 (l++[x]):=by simp [c9]
theorem dA (l:List (List UInt8)):(c9 l).length=l.length:=by simp [c9]
theorem yC (l:List (List UInt8×Nat)) (x:List UInt8) (n:Nat):qE l++[(x,.int (n:Nat))]=qE (l++[(x,n)]):=by simp [qE]
theorem BP (l:List (List UInt8×Nat)):(qE l).length=l.length:=by simp [qE]
theorem E8 (r:Row):∃ q2 q3 q4,a9 r=.inst 208 xE [.bytes r.oid,.bytes (kindB r.kind),q2,q3,q4]:=by
  unfold a9;cases r.base <;> exact⟨_,_,_,rfl⟩
noncomputable abbrev BL (d dp lp dx:Addr) (placed:Bool) (st:St) (pcs:List (List UInt8)) (G:Led):Led:=(dp,.dB (qE st.known))::(lp,.list (c9 pcs))::(dx,.ns xB (lE d lp dp placed st))::G
section
variable {w:World} {A:Around} {env:Env} {G G' G1 G2:Led} {F:FM} {vs:List Value} {d dp lp dx x:Addr} {placed:Bool} {st:St} {r:Row} {pcs:List (List UInt8)} {n:Nat} {pos apos np:Pos} {value arg:Expr} {p R:PV} {name:Str} {fa C:Addr} {xs:List Str} {ps as:List PV} {es:List Expr}
theorem zC {pl:Sem Bool} (ho:Ev w A env G value p G1) (hA:sV w G1 p C xs ps) (ok:nE (KF w.params) C name fa=true) (hl:dG xs ps name=none) (ha:aU w A env G1 pos es as G2) (hp:(backTo pos (starEach es env)).any (fun xx=>xx.1)=false)
    (he:eval (.Call (.Attribute value name apos) es [] pos) env=(do
      let ov ← eval value env
      standAt apos.atName
      let (f,first) ← holding [ov] (getMethod ov name pl)
      callWith pos f first (backTo pos (starEach es env)) (backToKw pos (keywordEach [] env))))
    (hc:∀ vs F',aS w.params F' (p::as) vs→bU w A F' (PySem.call (.ref fa) vs) G2 (fun G' F v=>G'=G3∧R.Is w.params F v) bG):xO w A env G (.Call (.Attribute value name apos) es [] pos) R G3:=sP (pl:=pl) ho hA ok hl ha hp hc he
theorem bD.JD {ss:List Stmt} {e:Expr} {y:Str} {pos':Pos} {ρ:List (Str×PV)} {Γ:Led} {P:Out→Prop} (hG:G'=(env.locals,.frame ρ)::Γ) (hk:env.scope.kind=.function) (hl:env.scope.names.lookup y=some .local) (hs:swapsWith e (some (.Name y pos')) pos.line env=pure false)
    (he:xO w A env G e p G') (n:bD w A env ss ((env.locals,.frame ((y,p)::ρ))::Γ) P):bD w A env (.Assign [.Name y pos'] e pos::ss) G P :=
  bD.cons (iV.cE (bU.imp he (fun G'' F' v l h=>⟨p,ρ,Γ,h.2,h.1.trans hG,n⟩) fun _ _ _ _ (h:False)=>h.elim) hk hl hs)
theorem bU.c5 {α:Type} {t:Sem α} {G0 G0' G3:Led} {Pv:FM→α→Prop} {X:Addr→Value→PV→Led→Prop} (y:bU w A F t G0 (fun G' F v=>G'=G0'∧Pv F v) bG) (p:G.Perm G0) (p':G0'.Perm G3):bU w A F t G (fun G' F v=>G'=G3∧Pv F v) X :=
  bU.pre (bU.gH y (fun G' F' v l h=>⟨G3,⟨rfl,h.2⟩,fun F2 h2 H S=>S.perm (by rw [h.1];exact p'.append_right H)⟩) fun _ _ _ _ (h:False)=>h.elim) fun F2 h H S=>S.perm (p.append_right H)
theorem TX.c5 {α:Type} {t:Sem α} {G0 G0' G3:Led} {Pv:FM→α→Prop} {X:Addr→Value→PV→Led→Prop} (y:TX w A F t G0 (fun G' F v=>G'=G0'∧Pv F v) bG) (p:G.Perm G0) (p':G0'.Perm G3):TX w A F t G (fun G' F v=>G'=G3∧Pv F v) X :=
  TX.pre (TX.gH y (fun G' F' v l h=>⟨G3,⟨rfl,h.2⟩,fun F2 h2 H S=>S.perm (by rw [h.1];exact p'.append_right H)⟩) fun _ _ _ _ (h:False)=>h.elim) fun F2 h H S=>S.perm (p.append_right H)
theorem nY {q a:Addr×PO} {Γ:Led}:(q::a::Γ).Perm (a::q::Γ):=List.Perm.swap _ _ _
theorem IT {q a b c:Addr×PO} {Γ:Led}:(q::a::b::c::Γ).Perm (a::b::c::q::Γ):=(List.perm_middle (l₁:=[a,b,c])).symm
set_option maxHeartbeats 16000000 in
theorem c_add (R:Rc A 5) (K:gE r) (S:y0 st n) (hn:n≤1000) (hz:pcs.length≤n) (pv:aS w.params F [.pO x 251 dx,a9 r] vs) :
    bU w A F (call (.ref 241) vs) (BL d dp lp dx placed st pcs G) (fun G' F v=>G'=BL d dp lp dx placed (a6 placed st r) (cX placed st r pcs) G∧∃ i:Nat,(PV.int i).Is w.params F v) bG:=by
  obtain⟨v0,v1,rfl,p0,p1⟩:=pv.two
  refine bU.imp (bU.fn (N:=fun p G'=>(∃ i:Nat,p=.int i)∧G'=BL d dp lp dx placed (a6 placed st r) (cX placed st r pcs) G) (X:=bG) (fn241 _) R.rm.room.room (fun s X=>@JX w s X v0 v1) pv nd241 lc241 nc241 fun L=>?_) (fun G' F' v l h=>by obtain⟨p,pv,⟨i,rfl⟩,rfl⟩:=h;exact⟨rfl,i,pv⟩) fun xx xx xx xx h=>h
  have R':=R.deeper (aT (aW 27 2) "PackBuilder.add" 241 (fun xx=>[]) (.ref 240) L)
  have hkf:=cI r.oid st.known
  obtain⟨q2,q3,q4,e0⟩:=E8 r
  have hw:=S.whole
  have hk:=S.known
  have hp:=fE (placed:=placed) K S hn
  rw [e0]
  refine bD.step (XT.ifs (b:=(kn st.known r.oid).isSome) (a3 (Tr.cmp (by walk_at "ev") (by walk_at "ev") (fun v u F hv hu=>wY (i:=1) rfl hv hu) (by rfl)) (by rw [hkf];simp)) (fun h=>?_) fun h=>XS.nil ?_)
  · obtain⟨o,ho⟩:=Option.isSome_iff_exists.mp h
    rw [ho] at hkf
    have e1:a6 placed st r=st:=by unfold a6;rw [ho]
    have e2:cX placed st r pcs=pcs:=by unfold cX;rw [ho]
    rw [e1,e2]
    exact XS.ret (p:=.int (o:Nat)) (lM (i:=1) (by walk_at "ev") (by walk_at "ev") rfl hkf (fun xx xx=>rfl)) (by exact⟨_,_,Drop.refl _,⟨o,rfl⟩,rfl⟩)
  · have ho:kn st.known r.oid=none:=by simpa using h
    rw [ho] at hkf
    have e1:a6 placed st r=⟨st.whole++aG placed st r,st.told++[⟨12+st.whole.length,(aF placed st r).1,r.oc.length,(aF placed st r).2.2.1,(aF placed st r).2.2.2,r.oc,12+(st.whole++aG placed st r).length⟩],st.known++[(r.oid,12+st.whole.length)]⟩:=by unfold a6;rw [ho]
    have e2:cX placed st r pcs=pcs++[aG placed st r]:=by unfold cX;rw [ho]
    rw [e1,e2]
    show bD _ _ _ _ _ _
    refine bD.JD (p:=.bytes (aG placed st r)) (ρ:=yX.zip [.pO x 251 dx,.inst 208 xE [.bytes r.oid,.bytes (kindB r.kind),q2,q3,q4]]) (Γ:=BL d dp lp dx placed st pcs G) rfl rfl rfl rfl (zC (fa:=234) (C:=251) (xs:=xB) (ps:=lE d lp dp placed st) (by walk_at "ev") (sV.pO (i:=3) rfl) (by kernel_rfl) rfl (by walk_at "evs") (by rfl) (by rfl) fun vs F' pvs=>?_) ?_
    · rw [← e0] at pvs
      exact bU.c5 (y7 (d:=d) (placed:=placed) (st:=st) R' K S hn pvs) IT IT.symm
    refine bD.of ?_
    refine XS.aE (p:=.int (12+st.whole.length:Nat)) rfl rfl rfl rfl (by walk_at "ev") ?_
    refine XS.cons (XT.append (p:=.bytes (aG placed st r)) (by walk_at "ev") (by walk_at "evs") (i:=2) rfl (j:=2) rfl (by rw [dA];omega) ?_ rfl rfl rfl rfl)
    rw [xW]
    refine XS.setItem (p:=.int (12+st.whole.length:Nat)) (qo:=.val (.ref dp)) (qi:=.bytes r.oid) (by walk_at "ev") (by walk_at "ev") (by walk_at "ev") rfl (fun v u t F hv hu ht=>by cases hu;exact w1 (i:=1) rfl hkf (by rw [BP];omega) ht hv) ?_
    rw [yC]
    refine XS.dQ (p:=.int (12+(st.whole++aG placed st r).length:Nat)) (j:=3) (cC (p:=.int (12+st.whole.length+(aG placed st r).length:Nat)) (Ev.bin (p:=.int (12+st.whole.length:Nat)) (q:=.int ((aG placed st r).length:Nat)) (by walk_at "ev") (lN (by walk_at "ev") (by walk_at "evs") (by rfl) (by omega)) fun v u F hv hu=>bF hv hu) (by rw [List.length_append,Nat.add_assoc])) (by walk_at "ev") rfl (by kernel_rfl) (by decide) rfl ?_
    exact XS.ret (p:=.int (12+st.whole.length:Nat)) (by walk_at "ev") (by exact⟨_,_,Drop.refl _,⟨_,rfl⟩,rfl⟩)
end
theorem BG:Slot "bytes" "join" "bytes.join" :=
  .of (owner:="bytes") (n:="join") (by rw [typeLookup_type,builtinLookup_eq_fast];kernel_rfl) (by decide +kernel) (by decide +kernel) (by decide +kernel)
    (by first | exact .inl (by decide +kernel) | exact .inr (by decide +kernel)) (by rw [isSubtype_type];kernel_rfl)
theorem LR:typeOf (.builtin "bytes.join")=pure (.type "method_descriptor"):=by show builtinType _=_;rw [builtinType_eq_fast];kernel_rfl
theorem EV:entryFor table "bytes.join"=some Builtin.«bytes.join»:=by first | exact entryFor_of_fast (by kernel_rfl) | exact entryFor_of_tree (by kernel_rfl)
theorem LO (a b:Value):argsOk "bytes.join" ⟨[a,b],[]⟩:=by unfold argsOk;kernel_rfl
theorem s9:PlainAttrs "bytes" :=
  ⟨⟨"bytes.__getattribute__",by rw [typeLookup_type,builtinLookup_eq_fast];kernel_rfl,by decide +kernel⟩,by rw [typeLookup_type,builtinLookup_eq_fast];kernel_rfl⟩
theorem eE:typeLookup (.type "bytes") "__buffer__"=pure (some (.builtin "bytes.__buffer__")):=by rw [typeLookup_type,builtinLookup_eq_fast];kernel_rfl
theorem y5:typeLookup (.type "bytes") "__release_buffer__"=pure none:=by rw [typeLookup_type,builtinLookup_eq_fast];kernel_rfl
theorem O2:isSubtype (.type "bytes") (.type "bytes")=pure true:=by rw [isSubtype_type];kernel_rfl
theorem bj_dr:("bytes.__buffer__".dropRight ("__buffer__".length+1))="bytes":=by decide +kernel
theorem zE:∀ (ps:List (List UInt8)),Builtin.Bytes.joined #[] (ps.map List.toArray)=ps.flatten.toArray:=fun ps=>by
  unfold Builtin.Bytes.joined
  have h:∀ (ps:List (List UInt8)) (n:Nat) (out:Array UInt8),(((ps.map List.toArray).zipIdx n).foldl (fun out (p:Array UInt8×Nat)=>(if p.2 > 0 then out++#[] else out)++p.1) out)=out++ps.flatten.toArray:=fun ps=>by
    induction ps with
    | nil=>intro n out;simp
    | cons p ps ih =>
      intro n out
      rw [List.map_cons,List.zipIdx_cons,List.foldl_cons,ih,List.flatten_cons]
      simp
  have:=h ps 0 #[]
  rw [Array.empty_append] at this
  exact this
theorem yB (l:List (List UInt8)) (n:Nat):Array.foldl (fun x1 (x2:Array UInt8)=>x1+x2.size) n (List.map List.toArray l).toArray=n+l.flatten.length:=by
  rw [List.foldl_toArray]
  induction l generalizing n with
  | nil=>simp
  | cons x l ih=>rw [List.map_cons,List.foldl_cons,ih,List.flatten_cons,List.length_append,List.size_toArray];omega
section
variable {w:World} {A:Around} {E:Value→Shared→Prop} {s:Shared}
theorem LQ {x:Array UInt8} {t:Tok} {id:String} {Q:Option (Array UInt8×Option Value)→Shared→Prop} (q:Q (some (x,none)) s):wpAny (MM w) A (Builtin.Bytes.takeBufferQuiet? id (.bytes x t) 0) Q E s:=by
  have hT:s.TypeIs (.bytes x t) "bytes":=typeIs_bytes _ _ _
  have own:∀ {α:Type} {f:Bool→Sem α} {Q':α→Shared→Prop} {E':Value→Shared→Prop} {A':Around},wpAny (MM w) A' (f true) Q' E' s→wpAny (MM w) A' (Builtin.Bytes.slotIsOwn (.bytes x t) "__buffer__" >>= f) Q' E' s:=fun hq=>by
    refine wpAny_bind ?_
    unfold Builtin.Bytes.slotIsOwn
    refine wpAny_bind (wpAny_specialOf hT eE ?_)
    show wpAny _ _ (if _ then _ else _) _ _ _
    rw [if_neg (by decide +kernel),bj_dr]
    exact wpAny_isInstance hT O2 hq
  have rel:∀ {α:Type} {f:Bool→Sem α} {Q':α→Shared→Prop} {E':Value→Shared→Prop} {A':Around},wpAny (MM w) A' (f false) Q' E' s→wpAny (MM w) A' (Builtin.Bytes.ownRelease (.bytes x t) >>= f) Q' E' s:=fun hq=>by
    refine wpAny_bind ?_
    unfold Builtin.Bytes.ownRelease Builtin.Bytes.slotIsOwn
    refine wpAny_bind (wpAny_bind (wpAny_specialOf hT y5 ?_))
    exact wpAny_pure (wpAny_pure hq)
  unfold Builtin.Bytes.takeBufferQuiet?
  refine wpAny_bind (wpAny_attempt ?_)
  unfold Builtin.Bytes.takeBuffer?
  refine wpAny_bind (wpAny_specialOf hT eE ?_)
  try dsimp only
  refine own ?_
  simp only [Bool.not_true,Bool.false_eq_true,if_false]
  refine wpAny_bind (wpAny_specialOf hT eE ?_)
  try dsimp only
  refine wpAny_bind ?_
  unfold Builtin.Bytes.buffer?
  refine wpAny_bind (wpAny_specialOf hT eE ?_)
  try dsimp only
  refine own ?_
  simp only [Bool.not_true,Bool.false_eq_true,if_false]
  refine wpAny_bind (wpAny_specialOf hT eE ?_)
  refine rel ?_
  simp only [Bool.false_eq_true,if_false]
  first | exact wpAny_pure (wpAny_pure (wpAny_pure q)) | exact wpAny_pure (wpAny_pure q) | exact wpAny_pure (wpAny_bind (wpAny_pure (wpAny_pure q))) | exact wpAny_bind (wpAny_pure (wpAny_pure (wpAny_pure q)))
theorem xV {Q:Unit→Shared→Prop} (q:Q () s):∀ (l:List Value) (k:List Value),wpAny (MM w) A (Builtin.Bytes.joinLetGo (l.map fun v=>(v,none)) k) Q E s
  | [],k=>wpAny_pure q
  | v::l,k=>by
    rw [List.map_cons]
    unfold Builtin.Bytes.joinLetGo
    exact wpAny_bind (wpAny_letGo (xV q l k))
end
theorem LP {vs:List Value} {l:List (List UInt8)} {P:Params} {F:FM} (h:aS P F (c9 l) vs) (i:Nat) (hi:i<l.length):∃ t,vs.toArray.getD i Value.none=.bytes (l[i].toArray) t:=by
  obtain⟨v,hv,t,rfl⟩:=h.get (p:=.bytes l[i]) (i:=i) (by unfold c9;rw [List.getElem?_map,List.getElem?_eq_getElem hi];rfl)
  refine⟨t,?_⟩
  rw [Array.getD_eq_getD_getElem?,List.getElem?_toArray,hv];rfl
theorem FE {pm:Model} {A:Around} {Q:PySem.Fin→Shared→Prop} {E:Value→Shared→Prop} {st:Shared} {vs:List Value} {f:Value→Sem PySem.Fin} {M:Sem PySem.Fin}
    (h1:∀ v,vs=[v]→wpAny pm A (f v) Q E st) (h2:wpAny pm A M Q E st):wpAny pm A (Builtin.Bytes.joinM.match_1 (fun xx=>Sem PySem.Fin) vs.toArray f (fun xx=>M)) Q E st:=by
  rcases vs with _ | ⟨v,_ | ⟨u,r⟩⟩
  · exact h2
  · exact h1 v rfl
  · exact h2
inductive JnI (l:List (List UInt8)) (s:Shared) (h:Heap) (k:Nat) (rest:List Nat) (st:Array (Array UInt8)×List (Value×Option Value)) (s':Shared):Prop
  | mk (i:Nat) (us:List Value) (q0:rest=List.range' i (l.length - i)) (q1:i≤l.length) (q2:s'=sh s h k) (q3:st.1=((l.take i).map List.toArray).toArray) (q4:st.2=us.map (fun v=>(v,none))) (q5:∀ u∈us,u.onHeap=false)
set_option maxHeartbeats 2000000 in
theorem MY {G:Led} {F:FM} {a:Addr} {l:List (List UInt8)} {v:Value} {i:Nat} (hi:G[i]?=some (a,.list (c9 l))) (hl:l.length≤1000) (hz:l.flatten.length≤100000) (hv:(PV.bytes []).Is w.params F v) :
    T w A F (PySem.call (.builtin "bytes.join") [v,.ref a]) G G (fun F v=>(PV.bytes l.flatten).Is w.params F v):=fun F1 H s h k Q E le S q x=>by
  obtain⟨t0,rfl⟩:=hv
  obtain⟨vs,n,ha,pvs⟩:=(S.led _ (List.mem_append_left _ (List.mem_of_getElem? hi))).1
  have q':∀ v,(PV.bytes l.flatten).Is w.params F1 v→∀ k',Q v (sh s h k'):=fun v hv k'=>q v F1 h k' _ (.refl _) S ⟨rfl,hv⟩
  clear q x S hi
  have hvl:vs.length=l.length:=by rw [pvs.length,dA]
  have hTl:(sh s h k).TypeIs (.ref a) "list":=⟨_,ha,rfl⟩
  have hT0:(sh s h k).TypeIs (.bytes ([]:List UInt8).toArray t0) "bytes":=typeIs_bytes _ _ _
  refine wpAny_call_entry BG hT0 EV ?_ (LO _ _)
  unfold Builtin.«bytes.join» Builtin.Bytes.joinM
  refine cL (fun xx r=>wpAny_of_eq (a:=(Value.bytes ([]:List UInt8).toArray t0,Value.ref a)) rfl r) ?_
  dsimp only
  refine bm_if_true rfl ?_
  refine cL (a:=Value.ref a) (s':=sh s h k) (fun xx r=>by
    unfold Builtin.Bytes.joinItems
    exact wpAny_bind (wpAny_typeOf hTl (bm_if_true (by decide +kernel) (wpAny_pure r)))) ?_
  refine cL (fun xx r=>wpAny_seqItems ha rfl r) ?_
  dsimp only
  refine bm_if_true rfl ?_
  have one:∀ v,vs=[v]→∃ y t,l=[y]∧v=.bytes y.toArray t:=fun v e=>by
    subst e
    cases l with
    | nil=>simp at hvl
    | cons y l=>cases l with
      | nil =>
        obtain⟨v',e2,t,rfl⟩:=pvs.bH
        cases e2
        exact⟨y,t,rfl,rfl⟩
      | cons _ _=>simp at hvl
  have fl:∀ i,i<l.length→∃ (hi:i<l.length) (t:Tok),vs.toArray.getD i Value.none=.bytes (l[i].toArray) t:=fun i hi=>⟨hi,LP pvs i hi⟩
  have hsz:vs.toArray.size=l.length:=by rw [List.size_toArray,hvl]
  refine FE (fun v e=>?_) ?_
  · obtain⟨y,t,rfl,rfl⟩:=one v e
    refine cL (fun xx r=>wpAny_typeOf (T:="bytes") (typeIs_bytes _ _ _) r) ?_
    refine bm_if_true (by decide +kernel) ?_
    refine cL (fun xx r=>wpAny_rule r) ?_
    first
      | exact wpAny_pure ⟨_,rfl,q' _ ⟨t,by simp⟩ k⟩
      | exact wpAny_bind (wpAny_pure (wpAny_pure ⟨_,rfl,q' _ ⟨t,by simp⟩ k⟩))
  refine wpAny_bind ?_
  rw [Std.Legacy.Range.forIn_eq_forIn_range']
  refine wpAny_forIn_list _ (JnI l s h k) _ ?turn ?fin _ _ ?start
  case start=>exact⟨0,[],by show List.range' 0 _ 1=_;simp [Std.Legacy.Range.size,hsz],Nat.zero_le _,rfl,by simp,rfl,fun xx h=>by cases h⟩
  case turn =>
    rintro x rest st s' ⟨i,us,e1,hi,rfl,e2,e3,hu⟩
    have hlt:i<l.length:=by
      rcases Nat.lt_or_ge i l.length with z | z
      · exact z
      · rw [Nat.sub_eq_zero_of_le z] at e1;cases e1
    obtain⟨m,hm⟩:∃ m,l.length - i=m+1:=⟨l.length - i - 1,by omega⟩
    rw [hm,List.range'_succ] at e1
    simp only [List.cons.injEq] at e1
    obtain⟨rfl,e1⟩:=e1
    obtain⟨hx,t,ev⟩:=fl x hlt
    refine cL (fun xx r=>wpAny_seqItems ha rfl r) ?_
    dsimp only
    refine bm_if_false ?_ ?_
    · rw [e3,Bool.or_eq_false_iff]
      refine⟨by decide,List.any_eq_false.mpr fun q hq=>?_⟩
      obtain⟨u,hu',rfl⟩:=List.mem_map.mp hq
      simp [hu u hu']
    rw [ev]
    refine cL (fun xx r=>wpAny_holding (LQ r)) ?_
    dsimp only
    refine cL (fun xx r=>wpAny_seqItems ha rfl r) ?_
    dsimp only
    refine bm_if_false (by simp) ?_
    refine wpAny_pure ⟨x+1,us++[.bytes l[x].toArray t],by rw [e1,show m=l.length - (x+1) by omega],hlt,rfl,?_,?_,?_⟩
    · show st.1.push l[x].toArray=_
      rw [e2,List.take_succ_eq_append_getElem hlt,List.map_append,List.push_toArray];rfl
    · rw [e3];simp
    · intro u hu2
      rcases List.mem_append.mp hu2 with z | z
      · exact hu u z
      · rw [List.mem_singleton] at z;subst z;rfl
  case fin =>
    rintro st s' ⟨i,us,e1,hi,rfl,e2,e3,hu⟩
    have hi2:i=l.length:=by
      rcases Nat.lt_or_ge i l.length with z | z
      · rw [show l.length - i=(l.length - i - 1)+1 by omega,List.range'_succ] at e1;cases e1
      · omega
    subst hi2
    rw [List.take_length] at e2
    rw [e2,e3]
    dsimp only
    refine cL (fun xx r=>wpAny_pure (a:=#[]) r) ?_
    refine bm_if_false ?_ ?_
    · rw [yB]
      unfold Builtin.Bytes.tooLong
      rw [sizeLine_eq]
      exact decide_eq_false (by have:(#[]:Array UInt8).size=0:=rfl;rw [this,Nat.zero_mul];omega)
    rw [zE]
    refine wpAny_bind (wpAny_mkBytes ?_ (by rw [List.size_toArray,sizeLine_eq];omega))
    refine wpAny_bind (wpAny_holding (wpAny_point (wpAny_bind (xV ?_ _ _))))
    exact wpAny_pure ⟨_,rfl,q' _ ⟨_,rfl⟩ _⟩
noncomputable def aA (v n:Nat) (body:List UInt8):List UInt8:=[80,65,67,75]++be v 4++be n 4++body
noncomputable def signed (ks:List (List UInt8)) (x:List UInt8):List UInt8:=x++dig ks x
theorem aJ (n m:Nat):(be n m).length=m:=by simp [be]
theorem aO (v n:Nat) (b:List UInt8):(aA v n b).length=12+b.length:=by simp [aA,aJ];omega
noncomputable def D5:St:=⟨[],[],[]⟩
noncomputable def a0 (placed:Bool) (rows:List Row):St:=rows.foldl (a6 placed) D5
theorem c6 (placed:Bool) (rows:List Row) (r:Row):a0 placed (rows++[r])=a6 placed (a0 placed rows) r:=by simp [a0]
theorem nX (placed:Bool):∀ (n:Nat) (rows:List Row),rows.length=n→(∀ r∈rows,gE r)→n≤1000→y0 (a0 placed rows) n:=fun n=>by
  induction n with
  | zero=>intro rows e _ _;have:rows=[]:=List.length_eq_zero_iff.mp e;subst this;exact⟨by simp [a0,D5],by simp [a0,D5],by simp [a0,D5],by simp [a0,D5]⟩
  | succ n ih =>
    intro rows e h hn
    obtain⟨init,last,rfl⟩:∃ i l,rows=i++[l]:=⟨rows.dropLast,rows.getLast (by intro z;subst z;cases e),(List.dropLast_concat_getLast _).symm⟩
    rw [List.length_append,List.length_singleton] at e
    rw [c6]
    exact sI (h _ (by simp)) (ih init (by omega) (fun r hr=>h r (by simp [hr])) (by omega)) (by omega)
structure BA (st:St) (pcs:List (List UInt8)):Prop where
  flat:pcs.flatten=st.whole
  len:pcs.length=st.told.length
theorem BA.step {placed:Bool} {st:St} {pcs:List (List UInt8)} (h:BA st pcs) (r:Row):BA (a6 placed st r) (cX placed st r pcs):=by
  unfold a6 cX
  cases kn st.known r.oid with
  | some _=>exact h
  | none=>exact⟨by simp [h.flat],by simp [h.len]⟩
theorem top4 {q a b c e:Addr×PO} {Γ:Led}:(q::a::b::c::e::Γ).Perm (e::q::a::b::c::Γ):=List.perm_middle (l₁:=[q,a,b,c])
section
variable {w:World} {A:Around} {env:Env} {G G' G1 G2:Led} {F:FM} {vs:List Value} {d dp lp dx x:Addr} {placed:Bool} {st:St} {r:Row} {pcs:List (List UInt8)} {n:Nat} {pos apos np:Pos} {value arg:Expr} {p R:PV} {a:Addr} {l:List (List UInt8)} {ks:List (List UInt8)} {body:List UInt8}
theorem L7 {i:Nat} {pl:Sem Bool} (ho:Ev w A env G value (.bytes []) G) (ha:aU w A env G pos [arg] [.val (.ref a)] G) (hi:G[i]?=some (a,.list (c9 l))) (hl:l.length≤1000) (hz:l.flatten.length≤100000) (hp:(backTo pos (starEach [arg] env)).any (fun xx=>xx.1)=false)
    (he:eval (.Call (.Attribute value "join" apos) [arg] [] pos) env=(do
      let ov ← eval value env
      standAt apos.atName
      let (f,first) ← holding [ov] (getMethod ov "join" pl)
      callWith pos f first (backTo pos (starEach [arg] env)) (backToKw pos (keywordEach [] env)))):Ev w A env G (.Call (.Attribute value "join" apos) [arg] [] pos) (.bytes l.flatten) G :=
  fG (Ty:="bytes") (id:="bytes.join") (p:=.bytes []) ho s9 BG LR (fun v F1 h H pv S=>by
    obtain⟨t,rfl⟩:=pv
    exact⟨fun s xx=>typeIs_bytes _ _ _,fun a e=>by cases e⟩) ha hp (fun v vs F' pv pvs=>by
    obtain⟨u,rfl,hu⟩:=pvs.bH
    cases hu
    exact MY hi hl hz pv) he
set_option maxHeartbeats 8000000 in
theorem tB (R:Rm A 3) (hk:ks.length≤1000) (hb:body.length≤100000) (pv:aS w.params F [.int n,.bytes body,hash d] vs) :
    T w A F (call (.ref 262) vs) ((d,.dB (a7 ks))::G) ((d,.dB (a7 (bM ks (aA 2 n body))))::G) (fun F v=>(PV.bytes (signed ks (aA 2 n body))).Is w.params F v):=by
  obtain⟨v0,v1,v2,rfl,p0,p1,p2⟩:=pv.three
  refine T.fn (fn262 _) R.room.room (fun s X=>@JZ w s X v0 v1 v2) pv nd262 lc262 nc262 fun L=>?_
  have R':=R.deeper (aT (aK 28) "pack_closed" 262 (fun xx=>[]) (.ref 261) L)
  have hl:=aO 2 n body
  refine XS.aE (p:=.bytes (aA 2 n body)) rfl rfl rfl rfl (Ev.bin (p:=.bytes ([80,65,67,75]++be 2 4++be n 4)) (Ev.bin (p:=.bytes ([80,65,67,75]++be 2 4)) (Ev.bin (p:=.bytes [80,65,67,75]) (q:=.bytes (be 2 4)) (by walk_at "ev")
      (Ev.aQ (by walk_at "ev") (aB (by kernel_rfl)) (by walk_at "evs") (by rfl) fun vs F' pvs=>E1 (n:=2) R' pvs) fun v u F hv hu=>aH (by simp [aJ]) hv hu)
      (Ev.aQ (by walk_at "ev") (aB (by kernel_rfl)) (by walk_at "evs") (by rfl) fun vs F' pvs=>E1 (n:=n) R' pvs) fun v u F hv hu=>aH (by simp [aJ]) hv hu)
      (by walk_at "ev") fun v u F hv hu=>aH (by simp [aJ];omega) hv hu) ?_
  refine XS.ret (p:=.bytes (signed ks (aA 2 n body))) (Ev.bin (p:=.bytes (aA 2 n body)) (q:=.bytes (dig ks (aA 2 n body))) (by walk_at "ev") (cH (fa:=159) (C:=162) (xs:=["size","known"]) (ps:=[.int (4:Nat),.val (.ref d)]) (by walk_at "ev") sV.inst (by kernel_rfl) rfl (by walk_at "evs") (by rfl) (by rfl) fun vs F' pvs =>
      TX.c5 (p7 (ks:=ks) (x:=aA 2 n body) R' hk pvs) nY nY.symm) fun v u F hv hu=>aH (by simp [dig,aJ];omega) hv hu) (by exact bI.ret ⟨rfl,rfl⟩)
set_option maxHeartbeats 8000000 in
theorem LX (R:Rm A 4) (hk:ks.length≤1000) (hl:pcs.length≤1000) (hb:pcs.flatten.length≤100000) (pv:aS w.params F [.pO x 251 dx] vs) :
    T w A F (call (.ref 248) vs) (BL d dp lp dx placed st pcs ((d,.dB (a7 ks))::G)) (BL d dp lp dx placed st pcs ((d,.dB (a7 (bM ks (aA 2 pcs.length pcs.flatten))))::G)) (fun F v=>(PV.bytes (signed ks (aA 2 pcs.length pcs.flatten))).Is w.params F v):=by
  obtain⟨v0,rfl,p0⟩:=pv.bH
  refine T.fn (fn248 _) R.room.room (fun s X=>@JY w s X v0) pv nd248 lc248 nc248 fun L=>?_
  have R':=R.deeper (aT (aW 27 3) "PackBuilder.close" 248 (fun xx=>[]) (.ref 247) L)
  refine XS.ret (p:=.bytes (signed ks (aA 2 pcs.length pcs.flatten))) (Ev.call (by walk_at "ev") (aB (by kernel_rfl)) (aU.cons (p:=.int (pcs.length:Nat)) (cC (p:=.int ((c9 pcs).length:Nat)) (uU (i:=2) (by walk_at "ev") (by walk_at "evs") (by rfl) rfl (by rw [dA];omega)) (by rw [dA]))
    (aU.cons (p:=.bytes pcs.flatten) (L7 (i:=2) (by walk_at "ev") (by walk_at "evs") rfl hl hb (by rfl) (by rfl)) (by walk_at "evs") (by rfl)) (by rfl)) (by rfl) fun vs F' pvs=>TX.c5 (tB (d:=d) (ks:=ks) R' hk hb pvs) top4 top4.symm) (by exact bI.ret ⟨rfl,rfl⟩)
end
inductive WpI (placed:Bool) (rows:List Row) (ks:List (List UInt8)) (L dx d dp lp:Addr) (G:Led) (rest:List PV) (G':Led):Prop
  | mk (dn:List Row) (rs:List Row) (pcs:List (List UInt8)) (ρ:List (Str×PV)) (q0:rows=dn++rs) (q1:rest=rs.map a9) (q2:G'=(L,.frame ρ)::BL d dp lp dx placed (a0 placed dn) pcs ((d,.dB (a7 ks))::G)) (q3:Look ρ "builder" (.pO x 251 dx)) (q4:BA (a0 placed dn) pcs)
section
variable {w:World} {A:Around} {G:Led} {F:FM} {vs:List Value} {d:Addr} {placed:Bool} {rows:List Row} {ks:List (List UInt8)}
set_option maxHeartbeats 8000000 in
theorem uP (R:Rc A 6) (hr:∀ r∈rows,gE r) (hn:rows.length≤40) (hk:ks.length≤1000) (pv:aS w.params F [.lst (rows.map a9),hash d,tC,.bool placed] vs) :
    bU w A F (call (.ref 270) vs) ((d,.dB (a7 ks))::G) (fun G' F v=>G'=(d,.dB (a7 (bM ks (aA 2 (a0 placed rows).told.length (a0 placed rows).whole))))::G∧(PV.bytes (signed ks (aA 2 (a0 placed rows).told.length (a0 placed rows).whole))).Is w.params F v) bG:=by
  obtain⟨v0,us,rfl,p0,pv'⟩:=pv.aZ
  obtain⟨v1,v2,v3,rfl,p1,p2,p3⟩:=pv'.three
  refine B9 (bU.fn (N:=fun p G'=>p=.bytes (signed ks (aA 2 (a0 placed rows).told.length (a0 placed rows).whole))∧G'=(d,.dB (a7 (bM ks (aA 2 (a0 placed rows).told.length (a0 placed rows).whole))))::G) (X:=bG) (fn270 _) R.rm.room.room (fun s X=>@J0 w s X v0 v1 v2 v3) pv nd270 lc270 nc270 fun L=>?_)
  have R':=R.deeper (aT (aK 29) "write_pack" 270 (fun xx=>[]) (.ref 269) L)
  refine bD.step (XT.cE (TX.gH (TX.call (by walk_at "ev") (aB (by kernel_rfl)) (by walk_at "evs") (by rfl) fun vs F' pvs=>DF (p0:=hash d) (p1:=tC) (p2:=.bool placed) R'.rm.less pvs) (fun G' F' v l h=>?_) fun _ _ _ _ (h:False)=>h.elim) rfl rfl rfl)
  obtain⟨x,dx,lp,dp,hv,rfl⟩:=h
  refine⟨(L,.frame (CQ.zip [.lst (rows.map a9),hash d,tC,.bool placed]))::BL d dp lp dx placed D5 [] ((d,.dB (a7 ks))::G),⟨_,_,_,hv,rfl,?_⟩,fun F2 h H S=>S.perm (IT.symm.append_right H)⟩
  show bD _ _ _ _ _ _
  refine bD.cons (iV.DJ (ps:=rows.map a9) (WpI placed rows ks L dx d dp lp G)
    (TX.imp (T.x (P:=fun F v=>PV.Is w.params F (.lst (rows.map a9)) v) (by walk_at "ev")) (fun G' F v l h=>by
      obtain⟨rfl,h⟩:=h
      exact⟨cV R'.rm.quiet h,[],rows,[],_,rfl,rfl,rfl,.head,⟨rfl,rfl⟩⟩) fun _ _ _ _ (h:False)=>h.elim) cF.deeper rfl (fun xx=>rfl) (fun p rest G' I v F' hv=>?_) fun G' I=>?_)
  · obtain⟨dn,rs,pcs,ρ,e,er,rfl,lk,hp⟩:=I
    cases rs with
    | nil=>cases er
    | cons r rs =>
      simp only [List.map_cons,List.cons.injEq] at er
      obtain⟨rfl,rfl⟩:=er
      refine TX.imp (cD (env:=aT (aK 29) "write_pack" 270 (fun xx=>[]) (.ref 269) L) hv rfl rfl) (fun G' F v l h=>?_) fun xx xx xx xx h=>h
      subst h
      have hlen:=congrArg List.length e
      simp only [List.length_append,List.length_cons] at hlen
      have hok:=nX placed dn.length dn rfl (fun r hr'=>hr r (by rw [e];simp [hr'])) (by omega)
      have hpl:=hp.len
      have htl:=hok.told
      show bD _ _ _ _ ((L,.frame (("entry",a9 r)::ρ))::_) _
      refine bD.cons (iV.tU (bU.imp (sP (fa:=241) (C:=251) (xs:=xB) (ps:=lE d lp dp placed (a0 placed dn)) (N:=fun G' F v=>G'=(L,.frame (("entry",a9 r)::ρ))::BL d dp lp dx placed (a6 placed (a0 placed dn) r) (cX placed (a0 placed dn) r pcs) ((d,.dB (a7 ks))::G)∧∃ i:Nat,(PV.int i).Is w.params F v) (X:=bG) (by walk_at "ev") (sV.pO (i:=3) rfl) (by kernel_rfl) rfl (by walk_at "evs") (by rfl)
        (fun vs F' pvs=>bU.c5 (c_add (n:=dn.length) (G:=(L,.frame (("entry",a9 r)::ρ))::(d,.dB (a7 ks))::G) (d:=d) (dp:=dp) (lp:=lp) (placed:=placed) (st:=a0 placed dn) (pcs:=pcs) R' (hr r (by rw [e];simp)) hok (by omega) (by omega) pvs) IT IT.symm) (by rfl)) (fun G' F v l h=>?_) fun _ _ _ _ (h:False)=>h.elim) rfl rfl)
      obtain⟨rfl,i,t,rfl⟩:=h
      exact⟨fun a e=>(by cases e),bD.of (XS.nil ⟨dn++[r],rs,cX placed (a0 placed dn) r pcs,_,by rw [e];simp,rfl,by rw [c6],by walk_at "look",by rw [c6];exact hp.step r⟩)⟩
  · obtain⟨dn,rs,pcs,ρ,e,er,rfl,lk,hp⟩:=I
    cases rs with
    | cons r rs=>cases er
    | nil =>
      rw [List.append_nil] at e
      subst e
      have hok:=nX placed rows.length rows rfl hr (by omega)
      have hpl:=hp.len
      have htl:=hok.told
      have hwl:=hok.whole
      have hfl:=congrArg List.length hp.flat
      refine bD.of ?_
      refine XS.ret (G':=(L,.frame ρ)::BL d dp lp dx placed (a0 placed rows) pcs ((d,.dB (a7 (bM ks (aA 2 pcs.length pcs.flatten))))::G)) (p:=.bytes (signed ks (aA 2 pcs.length pcs.flatten))) (cH (fa:=248) (C:=251) (xs:=xB) (ps:=lE d lp dp placed (a0 placed rows)) (by walk_at "ev") (sV.pO (i:=3) rfl) (by kernel_rfl) rfl (by walk_at "evs") (by rfl) (by rfl) fun vs F' pvs =>
        TX.c5 (LX (G:=(L,.frame ρ)::G) (d:=d) (dp:=dp) (lp:=lp) (placed:=placed) (st:=a0 placed rows) (pcs:=pcs) (ks:=ks) R'.rm.less hk (by omega) (by omega) pvs) (List.perm_middle (l₁:=[(dp,PO.dB (qE (a0 placed rows).known)),(lp,PO.list (c9 pcs)),(dx,PO.ns xB (lE d lp dp placed (a0 placed rows))),(d,PO.dB (a7 ks))])).symm
        (List.perm_middle (l₁:=[(dp,PO.dB (qE (a0 placed rows).known)),(lp,PO.list (c9 pcs)),(dx,PO.ns xB (lE d lp dp placed (a0 placed rows))),(d,PO.dB (a7 (bM ks (aA 2 pcs.length pcs.flatten))))]))) ?_
      · refine⟨_,_,((Drop.snd rfl).trans (Drop.snd rfl)).trans (Drop.snd rfl),?_,?_⟩
        · rw [hp.flat,hp.len]
        · rw [hp.flat,hp.len]
end
theorem IY:entryFor table "proto.unchain"=some Builtin.«proto.unchain»:=by first | exact entryFor_of_fast (by kernel_rfl) | exact entryFor_of_tree (by kernel_rfl)
section
variable {w:World} {A:Around} {env:Env} {F:FM} {G G' G1 Γ:Led} {C C0 C1 e0 e1:Addr} {p p0 p1:PV} {h:Heap} {s:Shared} {k:Nat} {E:Value→Shared→Prop} {α:Type} {P:Out→Prop}
theorem tM {Q:α→Shared→Prop} (hh:A.handled=some (.ref e0)) (S:Sb w A F h ((e1,.exc C1 .none p1)::(e0,.exc C0 .none p0)::G)) (q:∀ h',Sb w A F h' ((e1,.exc C1 (.ref e0) p1)::(e0,.exc C0 .none p0)::G)→E (.ref e1) (sh s h' k)):wpAny (MM w) A (raiseNew (.ref e1):Sem α) Q E (sh s h k):=by
  have ne:e0≠e1:=fun z=>by
    have:=S.nd
    simp only [List.map_cons,List.nodup_cons,List.mem_cons] at this
    exact this.1 (.inl z.symm)
  obtain⟨dx0,vs0,h0,sz0,c0,-⟩:=(S.perm (List.Perm.swap _ _ _)).exc
  obtain⟨dx1,vs1,h1,sz1,c1,t1,r1⟩:=S.exc
  unfold raiseNew
  refine wpAny_bind (wpAny_handled ?_)
  rw [hh]
  dsimp only
  rw [if_pos (by simpa using ne)]
  refine wpAny_bind (wpAny_holding (wpAny_runValue (codeAny_builtin IY ?_)))
  unfold Builtin.«proto.unchain»
  dsimp only
  refine wpAny_bind (wpAny_field h0 rfl c0 ?_)
  rw [if_pos (by decide)]
  refine wpAny_pure ?_
  have h1':=Heap.get?_update_self (Obj.mapFields (·.setIfInBounds 2 (Value.ref e0))) h1 rfl
  have sb:=Heap.SameBut.update h e1 (Obj.mapFields (·.setIfInBounds 2 (Value.ref e0)))
  refine wpAny_bind (wpAny_setField (a:=e1) (i:=2) h1 rfl (by omega) (wpAny_throw (q _ (S.upd (p':=.exc C1 (.ref e0) p1) sb ?_ rfl))))
  refine⟨dx1,_,h1',by simp [sz1],by simp [sz1],t1,?_⟩
  rcases r1 with r1 | ⟨T,oT,ts,x,r1,fT,hT,hc,hd,h3⟩
  · exact .inl (by simpa using r1)
  · refine .inr ⟨T,oT,ts,x,by simpa using r1,fT,?_,hc,hd,h3⟩
    exact(sb.2 T fun z=>by subst z;rw [h1] at hT;cases hT;cases hc).trans hT
theorem EA {x:Sem Value} (hh:A.handled=some (.ref e0))
    (hx:TX w A F0 x G (fun G' F v=>∃ e1 C1 p1 Γ,v=.ref e1∧dD w.params C1∧G'=(e1,.exc C1 .none p1)::(e0,.exc C0 .none p0)::Γ∧P (.exc C1 (.ref e0) p1 Γ)) (fun C c p G'=>P (.exc C c p G'))) :
    TX w A F0 (raiseStmt env (some x) none) G (mW w P) (fun C c p G'=>P (.exc C c p G')):=fun F1 H s h0 k Q E l S q0 y=>by
  unfold raiseStmt
  refine wpAny_bind (hx F1 H s h0 k _ E l S (fun v F' h' k' G' l' S' n=>?_) y)
  obtain⟨e,C,p,Γ,rfl,Y,rfl,n⟩:=n
  obtain⟨nm,q,N,bs,sn,sub,ab,col,dd,k0,k1,k2,k3,k5,hK⟩:=Y.obj
  have hC:=S'.kf _ _ hK
  obtain⟨dx,vs,he,sz,e2,t,r⟩:=Sb.exc (G:=(e0,.exc C0 .none p0)::Γ++H) S'
  have hcB:=(i8 C).2.2.2.2
  obtain⟨_,g,d,_,os⟩:=s
  show wpAny (MM w) A _ _ E ⟨h',g,d,k',os⟩
  have S2:Sb w A F' h' ((e,.exc C .none p)::(e0,.exc C0 .none p0)::(Γ++H)):=S'
  repeat (first | (with_reducible refine wpAny_bind (b7 (s:=⟨h',g,d,k',os⟩) S2 fun h2 S3 xx=>tM (s:=⟨h',g,d,k',os⟩) hh S3 fun h3 S4=>y e C (.ref e0) p F' h3 k' Γ l' ((S4.perm (List.Perm.swap _ _ _)).drop rfl) n)) | with_reducible refine wpAny_loadPart_at he ?_ | with_reducible refine wpAny_loadPart_at hC ?_ | (with_reducible refine wpAny_isSubtype_exc hC ?_;rw [hcB]) | wp_step)
theorem XT.RG {x:Str} {np cpos pos:Pos} {arg:Expr} (hh:A.handled=some (.ref e0)) (R:kZ A 2) (Y:dD w.params C) (hG:G=(e0,.exc C0 .none p0)::Γ) (hf:Ev w A env G (.Name x np) (.val (.ref C)) G) (ha:aU w A env G cpos [arg] [p] G) (hp:(backTo cpos (starEach [arg] env)).any (fun xx=>xx.1)=false)
    (n:P (.exc C (.ref e0) p Γ)):XT w A env (.Raise (some (.Call (.Name x np) [arg] [] cpos)) none pos) G P:=by
  subst hG
  unfold XT
  rw [arm_exec_Raise]
  refine TX.at (EA (C0:=C0) (p0:=p0) hh ?_)
  refine TX.bind (N:=fun G' F v=>∃ e,v=.ref e∧G'=(e,.exc C .none p)::(e0,.exc C0 .none p0)::Γ) (TX.imp (TX.call (N:=fun G' F v=>∃ e,v=.ref e∧G'=(e,.exc C .none p)::(e0,.exc C0 .none p0)::Γ) (X:=bG) hf (aB Y.keep) ha hp fun vs F' pvs=>?_) (fun xx xx xx xx h=>h) fun xx xx xx xx h=>h.elim) fun v F' G' l h=>?_
  · obtain⟨v,rfl,hv⟩:=pvs.bH
    exact pH R Y hv
  · obtain⟨e,rfl,rfl⟩:=h
    exact TX.at (TX.pure fun F' l=>⟨e,C,p,Γ,rfl,Y,rfl,n⟩)
end
noncomputable def del (n:Str):List (Str×PV)→List (Str×PV)
  | []=>[]
  | (x,p)::r=>if x=n then del n r else (x,p)::del n r
theorem FJ {n x:Str} {p:PV} {ρ:List (Str×PV)} (h:Look (del n ρ) x p):x≠n∧Look ρ x p:=by
  induction ρ with
  | nil=>cases h
  | cons y r ih =>
    have h:Look (if y.1=n then del n r else y::del n r) x p:=h
    by_cases e:y.1=n
    · rw [if_pos e] at h
      exact⟨(ih h).1,.tail (fun z=>(ih h).1 (z.trans e)) (ih h).2⟩
    · rw [if_neg e] at h
      cases h with
      | head=>exact⟨e,.head⟩
      | tail ne h=>exact⟨(ih h).1,.tail ne (ih h).2⟩
noncomputable def AsP (env:Env) (P:Out→Prop) (n:Str):Out→Prop
  | .next G=>∃ ρ Γ,G=(env.locals,.frame ρ)::Γ∧P (.next ((env.locals,.frame (del n ρ))::Γ))
  | _=>False
section
variable {w:World} {A:Around} {env:Env} {G G' G1 G2 Γ:Led} {P:Out→Prop} {pos hpos np apos cpos:Pos} {body ss suite:List Stmt} {b₀:Stmt} {x n name:Str} {p q:PV} {F:FM} {C C' e a:Addr} {c:Value} {ρ:List (Str×PV)} {value arg:Expr} {u v:Value} {x1 x2:Str}
theorem Sb.FK {h:Heap} {H:Led} {s:Shared} {k:Nat} {Q:Unit→Shared→Prop} {E:Value→Shared→Prop} (S:Sb w A F h ((env.locals,.frame ρ)::Γ++H)) (hk:env.scope.kind=.function) (hl:env.kindOf n=some .local)
    (q:∀ h' k',Sb w A F h' ((env.locals,.frame (del n ρ))::Γ++H)→Q () (sh s h' k')):wpAny (MM w) A (do bindName env n .none;unbindBehindTheSuite env n pos) Q E (sh s h k):=by
  obtain⟨⟨m,hn,cc⟩,f⟩:=S.led _ (.head _)
  refine wpAny_nameGoes_keeps hl hn (by rw [hk];rfl) fun h' v hn' sb=>q h' _ (S.upd sb ⟨_,hn',fun y py ly=>?_⟩ rfl)
  obtain⟨ne,l⟩:=FJ ly
  obtain⟨v',e1,i1⟩:=cc y py l
  exact⟨v',by show(if y=n then v else m y)=some v';rw [if_neg ne];exact e1,i1⟩
theorem XT.RQ (Y:dD w.params C) (hA:cF A env) (hf:env.frame=some a) (hk:env.scope.kind=.function) (hl:env.scope.names.lookup n=some .local) (hl2:env.kindOf n=some .local) (hx:∀ A G,Ev w A env G (.Name x np) (.val (.ref C)) G)
    (hb:XS w A env body G (TryP P C fun e c p G'=>∃ ρ Γ,G'=(env.locals,.frame ρ)::Γ∧XS w (A.mark (some (.ref e))) env (b₀::suite) ((env.locals,.frame ((n,.val (.ref e))::ρ))::(e,.exc C c p)::Γ) (AsP env P n))):XT w A env (.Try body [.ExceptHandler (some (.Name x np)) (some n) (b₀::suite) hpos] [] [] pos) G P:=by
  obtain⟨nm,q',N,bs,sn,sub,ab,col,dd,k0,k1,k2,k3,k5,hK⟩:=Y.obj
  refine fun F1 H s h k Q E l S q0 y=>?_
  refine wpAny_Try_except (hb F1 H s h k _ _ l S (fun f F' h' k' G' l' S' n=>?_) fun e C' c p F' h' k' G' l' S' n=>?_)
  · cases f with
    | next=>exact wpAny_execs_nil (q0 .next F' h' k' G' l' S' n)
    | ret v=>obtain⟨p,pv,n⟩:=n;exact q0 (.ret v) F' h' k' G' l' S' ⟨p,pv,n⟩
    | _=>exact n.elim
  · obtain⟨rfl,n⟩:=n
    obtain⟨envs,he,_⟩:=id S'.fr
    obtain⟨outer,rfl⟩:=hA envs he
    refine gG S' he hf fun h2 S2 t2=>b7 S2 fun h3 S3 t3=>?_
    refine wpAny_handleBy_cons (codeAny_handlers_test (hx (A.mark (some (.ref e))) ((e,.exc C' c p)::G') F' H s h3 k' _ _ (Le.zero _) (S3.frames rfl) (fun v F4 h4 k4 G4 l4 S4 n4=>?_) fun xx xx xx xx xx xx xx xx xx xx n=>n.elim)) (by intro q;cases q)
    obtain⟨rfl,n4⟩:=n4
    cases n4
    have S5:Sb w A F4 h4 ((e,.exc C' c p)::(G'++H)):=S4.frames rfl
    obtain⟨dx,vs,hoe,_⟩:=S5.exc
    refine wpAny_excMatches_sub_self (h:=h4) (g:=s.gens) (d:=s.drawn) (t:=k4) (os:=s.os) (S5.kf _ _ hK) hoe rfl (by rfl) (codeAny_handlers_suite_as ?_)
    refine b7 (A:=A.mark (some (.ref e))) (s:=s) (k:=k4) (S5.frames rfl) fun h6 S6 xx=>?_
    obtain⟨ρ,Γ,rfl,nn1⟩:=n e
    have S7:Sb w (A.mark (some (.ref e))) F4 h6 ((env.locals,.frame ρ)::((e,.exc C' c p)::Γ)++H):=S6.perm (List.Perm.swap _ _ _)
    refine Sb.store (p:=.val (.ref e)) S7 rfl (fun h8 k8 S8=>?_) hk hl
    refine nn1 F4 H s h8 k8 _ _ (Le.zero _) S8 (fun f F9 h9 k9 G9 l9 S9 n9=>?_) fun e2 C2 c2 p2 F7 h7 k7 G7 l7 S7 n7=>n7.elim
    cases f with
    | next =>
      obtain⟨ρ9,Γ9,rfl,n9⟩:=n9
      have S9':Sb w A F9 h9 ((env.locals,.frame ρ9)::Γ9++H):=S9.frames rfl
      exact Sb.FK S9' hk hl2 fun h10 k10 S10=>q0 .next F9 h10 k10 _ ((l'.trans l4).trans l9) S10 n9
    | ret v=>obtain⟨p,pv,n9⟩:=n9;exact n9.elim
    | _=>exact n9.elim
theorem ND (hv:(PV.str x1).Is w.params F v):T w A F (call (.type "str") [v]) G G (fun F v=>(PV.str x1).Is w.params F v):=T.f9 fun F1 s Q E l q=>by
  obtain⟨t,rfl⟩:=hv
  exact PySem.P.str_of_str (q _ s.toks ⟨_,rfl⟩)
theorem MQ (hz:x1.length+x2.length≤16777216) (hv:(PV.str x1).Is w.params F v) (hu:(PV.str x2).Is w.params F u):T w A F (binaryOp .Add v u) G G (fun F v=>(PV.str (x1++x2)).Is w.params F v):=T.f9 fun F1 s Q E l q=>by
  obtain⟨_,rfl⟩:=hv;obtain⟨_,rfl⟩:=hu
  exact PyProof.Rows.add_str (fun t' k=>q _ _ ⟨_,rfl⟩) (by rw [sizeLine_eq];exact hz)
end
theorem ga57 (P:Params):findIn (KF P) (.ref 57) "__getattribute__"=some (some (.builtin "BaseException.__getattribute__")):=by kernel_rfl
theorem gh57 (P:Params):findIn (KF P) (.ref 57) "__getattr__"=some none:=by kernel_rfl
theorem gt57 (P:Params):findIn (KF P) (.ref 57) "told"=some none:=by kernel_rfl
theorem EW:plainId "BaseException.__getattribute__"=true:=by decide +kernel
theorem LU:builtinKind "BaseException.__getattribute__"=some .slot:=by decide +kernel
theorem EX:splitId "BaseException.__getattribute__"=some ("BaseException","__getattribute__"):=by decide +kernel
theorem LV:Slot "ValueError" "__getattribute__" "BaseException.__getattribute__":=PySem.F.excAttr_ValueError.ga
section
variable {w:World} {A:Around} {env:Env} {G:Led} {F:FM} {C e:Addr} {c:Value} {p:PV} {value:Expr} {pos:Pos} {Q:Value→Shared→Prop} {E:Value→Shared→Prop} {s:Shared} {ox:Obj} {od:Option Obj} {v:Value} {name:Str}
theorem MD (X:(KF w.params).In s.heap) (I:InstAt s.heap e ox C od) (hga:findIn (KF w.params) (.ref C) "__getattribute__"=some (some (.builtin "BaseException.__getattribute__"))) (hgh:findIn (KF w.params) (.ref C) "__getattr__"=some none)
    (sub:Looks (MM w) s.heap (isInstance (.ref e) (.type "BaseException")) true) (hf:findObj (KF w.params) C od name=some (.value v)) (hh:handedIn v=true) (h:∀ k,Q v { s with toks:=k }):wpAny (MM w) A (getAttr (.ref e) name true) Q E s:=by
  obtain⟨hp,g,d,t,os⟩:=s
  have L0:=I.type (M:=MM w)
  have L1:=looks_findIn (M:=MM w) X hga
  have L2:=looks_findIn (M:=MM w) X hgh
  have L3:=looks_find (M:=MM w) X I hf
  unfold getAttr getAttrBy
  refine wpAny_bind (wpAny_mkText (wpAny_holding (wpAny_bind (L0.at (wpAny_bind (L1.at ?_))))))
  dsimp only
  rw [show(Value.builtin "BaseException.__getattribute__" == Value.builtin "object.__getattribute__")=false from by decide +kernel,Bool.and_false,if_neg (by decide)]
  unfold getAttrByItsOwn
  refine wpAny_bind ?_
  show wpAny _ _ (typeLookup (.ref C) "__getattr__") _ _ _
  refine L2.at ?_
  refine wpAny_bind (wpAny_attempt (wpAny_holding ?_))
  show wpAny _ _ (boundAndCalled (.builtin "BaseException.__getattribute__") (.ref e) (.str name t)) _ _ _
  unfold boundAndCalled
  rw [LV.bind]
  refine wpAny_bind (wpAny_pure (wpAny_call (codeAny_call_builtin EW PySem.F.entry_bexc_ga (@check_slot (MM w) _ _ _ "BaseException.__getattribute__" "BaseException" "__getattribute__" (.ref e) [.str name t] [] _ LU EX sub (PySem.F.args_bexc_ga _ _) ?_))))
  refine wpAny_bind (wpAny_pure (wpAny_bind (wpAny_pure (wpAny_bind (L0.at (wpAny_bind (L3.at ?_)))))))
  refine wpAny_pure ?_
  show wpAny _ _ (handedOut v) _ _ _
  rw [handedOut_of hh];exact wpAny_pure (h _)
theorem FD {i:Nat} (ho:Ev w A env G value (.val (.ref e)) G) (hi:G[i]?=some (e,.exc 57 c p)) (hq:p.plain=true)
    (he:eval (.Attribute value "told" pos) env=(do
      let o ← eval value env
      standAt pos.atName
      let r ← holding [o] (getAttr o "told" true)
      letTemporaryGo value o r
      pure r)):Ev w A env G (.Attribute value "told" pos) p G:=fun F1 H s h k Q E l S q0 y=>by
  refine Attribute_any_ (ho F1 H s h k _ E l S (fun v F' h' k' G' l' S' n=>?_) fun e C c p F' h' k' G' l' S' n=>n.elim) he
  obtain⟨rfl,pv⟩:=n
  cases pv
  obtain⟨dx,vs,hoe,sz,e2,⟨v,t,nn,ed,pq⟩,r⟩:=(S'.led _ (List.mem_append_left _ (List.mem_of_getElem? hi))).1
  have I:InstAt h' e ⟨.ref 57,some dx,.fields vs,#[]⟩ 57 (some (dictOf [⟨PyData.keyHash w.params "told",.str "told" t,v⟩] nn)):=⟨hoe,rfl,rfl,S'.sub _ _ ed⟩
  obtain⟨nm,q',N,bs,sn,sub,ab,col,dd,k0,k1,k2,k3,k5,hK⟩:=(x6 w.params).obj
  have L1:Looks (MM w) h' (isInstance (.ref e) (.type "BaseException")) true:=I.type.andThen (looks_mroIn S'.kf (by unfold mroIn clsIn;rw [hK];exact congrArg some (i8 57).2.2.2.2))
  exact MD (s:=sh s h' k') S'.kf I (ga57 _) (gh57 _) L1 (findObj_own (attr:=none) (x6 w.params).hasD (gt57 _) rfl (by rw [lookIn_dict,tV,if_pos rfl])) (pq.handed hq) fun k2=>q0 v F' h' k2 _ l' S' ⟨rfl,pq⟩
end
noncomputable def xN (x:List UInt8) (i:Nat):Option (List UInt8×Nat):=match A5 (x.drop i) i 0 0 with
  | none=>none
  | some r=>if x.length<r.2+r.1 then none else some ((x.drop r.2).take r.1,r.2+r.1)
theorem dX {env:Env} {ns:List Str} (h:(ns.all fun n=>decide (env.scope.names.lookup n=some .local))=true):∀ n∈ns,env.scope.names.lookup n=some .local:=fun n hn=>of_decide_eq_true (List.all_eq_true.mp h n hn)
theorem kZ.mark {A:Around} {n:Nat} {v:Option Value} (R:kZ A n):kZ (A.mark v) n:=⟨R.depth,R.units⟩
section
variable {w:World} {A:Around} {G:Led} {F:FM} {n m at':Nat} {vs:List Value} {x:List UInt8} {self:PV}
set_option maxHeartbeats 8000000 in
theorem E6 (R:Rm A 4) (hz:x.length≤100000) (pv:aS w.params F [self,.bytes x,.int at'] vs) :
    TX w A F (call (.ref 348) vs) G (fun G' F v=>∃ p:PV,p.Is w.params F v∧G'=G∧∃ r,xN x at'=some r∧p=.tup [.bytes r.1,.int r.2]) (fun C c p G'=>C=57∧(∃ s,p=.str s∧s.length≤100)∧G'=G∧xN x at'=none):=by
  obtain⟨v0,v1,v2,rfl,p0,p1,p2⟩:=pv.three
  refine TX.fn (N:=fun p G'=>G'=G∧∃ r,xN x at'=some r∧p=.tup [.bytes r.1,.int r.2]) (fn348 _) R.room.room (fun s X=>@J7 w s X v0 v1 v2) pv nd348 lc348 nc348 fun L=>?_
  have R':=R.deeper (aT (aW 36 1) "StoredCodec.unpack" 348 (fun xx=>[]) (.ref 347) L)
  refine XS.cons (XT.try1 (N6 _) cF.deeper rfl (fun A G=>by walk_at "ev") ?_)
  refine XS.cons (XT.jE (ns:=["size","begin"]) (TX.imp (TX.call (by walk_at "ev") (aB (by kernel_rfl)) (by walk_at "evs") (by rfl) fun vs F' pvs=>DH R' hz pvs) (fun G' F v l h=>?_) fun C c p G' h=>?_) R'.quiet (.cons (.cons .nil)) rfl (dX (by rfl)) rfl rfl)
  · obtain⟨p,pv,rfl,r,e,rfl⟩:=h
    refine⟨_,_,G,pv,rfl,rfl,XS.nil ?_⟩
    show XS _ _ _ _ ((L,.frame [("begin",.int r.2),("size",.int r.1),("self",self),("octets",.bytes x),("at",.int at')])::G) _
    refine XS.ifs (b:=decide (x.length<r.2+r.1)) (Tr.cmp (p:=.int (r.2+r.1:Nat)) (q:=.int (x.length:Nat)) (by walk_at "ev") (by walk_at "ev") (fun v u F hv hu=>sD hv hu) (by rfl)) (fun h=>?_) fun h=>XS.nil ?_
    · have h:x.length<r.2+r.1:=of_decide_eq_true h
      refine XS.raise R'.less (x6 _) (by walk_at "ev") (by walk_at "evs") (by rfl) ⟨_,_,Drop.refl _,rfl,⟨_,rfl,by decide⟩,rfl,?_⟩
      unfold xN;rw [e];simp [h]
    · have h:¬ x.length<r.2+r.1:=of_decide_eq_false h
      show XS _ _ _ _ _ _
      refine XS.kX (p:=.tup [.bytes ((x.drop r.2).take r.1),.int (r.2+r.1:Nat)]) (Ev.tuple (aU.cons (cC (p:=.bytes ((x.drop r.2).take (r.2+r.1 - r.2))) (by walk_at "ev") (by rw [Nat.add_sub_cancel_left])) (by walk_at "evs") (by rfl)) (by simp)) (by exact⟨_,_,Drop.refl _,rfl,((x.drop r.2).take r.1,r.2+r.1),by unfold xN;rw [e];simp [h],rfl⟩)
  · obtain⟨rfl,rfl,rfl,e⟩:=h
    refine⟨rfl,fun e1=>XS.cons (XT.RG (C0:=69) rfl (R'.room.less (m:=2)).mark (x6 _) rfl (by walk_at "ev") (by walk_at "evs") (by rfl) ⟨_,_,Drop.refl _,rfl,⟨_,rfl,by decide⟩,rfl,?_⟩)⟩
    unfold xN;rw [e]
set_option maxHeartbeats 8000000 in
theorem pM (R:Rm A 6) (hz:x.length≤100000) (pv:aS w.params F [tC,.bytes x,.int at'] vs) :
    TX w A F (call (.ref 312) vs) G (fun G' F v=>∃ p:PV,p.Is w.params F v∧G'=G∧∃ r,xN x at'=some r∧p=.tup [.bytes r.1,.int r.2]) (fun C c p G'=>C=81∧c=.none∧G'=G∧xN x at'=none):=by
  obtain⟨v0,v1,v2,rfl,p0,p1,p2⟩:=pv.three
  refine TX.fn (N:=fun p G'=>G'=G∧∃ r,xN x at'=some r∧p=.tup [.bytes r.1,.int r.2]) (fn312 _) R.room.room (fun s X=>@J3 w s X v0 v1 v2) pv nd312 lc312 nc312 fun L=>?_
  have R':=R.deeper (aT (aK 32) "pack_unpacked" 312 (fun xx=>[]) (.ref 311) L)
  refine XS.aE (p:=.none) rfl rfl rfl rfl (by walk_at "ev") (XS.aE (p:=.str "") rfl rfl rfl rfl (by walk_at "ev") ?_)
  refine XS.cons (XT.RQ (x6 _) cF.deeper rfl rfl rfl rfl (fun A G=>by walk_at "ev") ?_)
  refine XS.cons (XT.cE (TX.imp (t8 (f:=348) (C:=351) (xs:=[]) (ps:=[]) (by walk_at "ev") sV.inst (by kernel_rfl) rfl (by walk_at "evs") (by rfl) (fun vs F' pvs=>E6 R'.less hz pvs) (by rfl)) (fun G' F v l h=>?_) fun C c p G' h=>?_) rfl rfl rfl)
  · obtain⟨p,pv,rfl,r,e,rfl⟩:=h
    refine⟨_,_,G,pv,rfl,XS.nil ?_⟩
    show XS _ _ _ _ _ _
    refine XS.ifs (b:=false) (a3 (by walk_at "tr") (by rfl)) (fun h=>by cases h) fun xx=>XS.nil ?_
    show XS _ _ _ _ _ _
    exact XS.kX (by walk_at "ev") (by exact⟨_,_,Drop.refl _,rfl,r,e,rfl⟩)
  · obtain⟨rfl,⟨s1,rfl,hs1⟩,rfl,e⟩:=h
    refine⟨rfl,fun e1=>⟨_,_,rfl,?_⟩⟩
    refine XS.aE (p:=.str s1) rfl rfl rfl rfl (FD (i:=1) (by walk_at "ev") rfl rfl (by rfl)) (XS.nil ⟨_,_,rfl,?_⟩)
    refine XS.pre ?_ (Drop.snd rfl)
    refine XS.ifs (b:=true) (a3 (by walk_at "tr") (by rfl)) (fun xx=>?_) fun h=>by cases h
    refine XS.raise R'.less (eH _) (by walk_at "ev") (aU.cons (p:=.str ("an entry that can't be unpacked: "++s1)) (Ev.bin (p:=.str "an entry that can't be unpacked: ") (q:=.str s1) (by walk_at "ev") (Ev.aQ (by walk_at "ev") aV (by walk_at "evs") (by rfl) fun vs F' pvs=>by
      obtain⟨v,rfl,hv⟩:=pvs.bH
      exact ND hv) fun v u F hv hu=>MQ (by rw [show(Str.ofString "an entry that can't be unpacked: ").length=33 from by decide +kernel];omega) hv hu) aU.nil (by rfl)) (by rfl) ?_
    exact⟨_,_,Drop.refl _,rfl,rfl,rfl,e⟩
end
noncomputable def dF:List UInt8:=[80,65,67,75]
noncomputable def cnt (ks:List (List UInt8)) (x:List UInt8):Option Nat×List (List UInt8) :=
  if x.length<16∨x.take 4≠dF then (none,ks)
  else if c7 ((x.drop 4).take 4) 0≠2∧c7 ((x.drop 4).take 4) 0≠3 then (none,ks)
  else if dig ks (x.take (x.length - 4))≠x.drop (x.length - 4) then (none,bM ks (x.take (x.length - 4)))
  else (some (c7 ((x.drop 8).take 4) 0),bM ks (x.take (x.length - 4)))
section
variable {w:World} {A:Around} {G:Led} {F:FM} {n:Nat} {vs:List Value} {x:List UInt8} {v u:Value} {d:Addr} {ks:List (List UInt8)}
theorem DY (hv:(PV.int n).Is w.params F v) (hu:(PV.tup [.int 2,.int 3]).Is w.params F u):T w A F (compareOp .NotIn v u) G G (fun F v=>(PV.bool (decide (n≠2∧n≠3))).Is w.params F v):=T.of fun F1 s h k Q E H l S q=>by
  obtain⟨t,rfl⟩:=hv
  obtain⟨a,ws,m,rfl,fa,pvs⟩:=PV.Is.mono l hu
  obtain⟨y,z,rfl,⟨t1,rfl⟩,t2,rfl⟩:=pvs.two
  refine PySem.SeqAt.notIn_tupleAt (s:=sh s h k) (fun y=>match y with | .int i _=>i == (n:Int) | _=>false) ⟨_,S.sub _ _ fa,rfl,m,rfl⟩ (fun y hy=>?_) (q _ h k (.refl _) ?_)
  · simp only [List.mem_toArray,List.mem_cons,List.not_mem_nil,or_false] at hy
    rcases hy with rfl | rfl
    · exact PySem.SeqAt.EqAt.int_int _ _ _ _
    · exact PySem.SeqAt.EqAt.int_int _ _ _ _
  · show Value.bool _=Value.bool _
    congr 1
    simp only [List.any_toArray,List.any_cons,List.any_nil,Bool.or_false]
    by_cases h2:n=2
    · subst h2;rfl
    · by_cases h3:n=3
      · subst h3;rfl
      · have e2:((2:Int) == (n:Int))=false:=by simp;omega
        have e3:((3:Int) == (n:Int))=false:=by simp;omega
        rw [e2,e3];simp [h2,h3]
set_option maxHeartbeats 8000000 in
theorem uM (R:Rm A 3) (hz:x.length≤100000) (hk:ks.length≤1000) (pv:aS w.params F [.bytes x,hash d] vs) :
    TX w A F (call (.ref 305) vs) ((d,.dB (a7 ks))::G) (fun G' F v=>∃ p:PV,p.Is w.params F v∧G'=(d,.dB (a7 (cnt ks x).2))::G∧∃ n,(cnt ks x).1=some n∧p=.int (n:Nat)) (fun C c p G'=>C=81∧c=.none∧G'=(d,.dB (a7 (cnt ks x).2))::G∧(cnt ks x).1=none):=by
  obtain⟨v0,v1,rfl,p0,p1⟩:=pv.two
  refine TX.fn (N:=fun p G'=>G'=(d,.dB (a7 (cnt ks x).2))::G∧∃ n,(cnt ks x).1=some n∧p=.int (n:Nat)) (fn305 _) R.room.room (fun s X=>@J2 w s X v0 v1) pv nd305 lc305 nc305 fun L=>?_
  have R':=R.deeper (aT (aK 31) "pack_count" 305 (fun xx=>[]) (.ref 304) L)
  by_cases hs:x.length<16
  · have e:cnt ks x=(none,ks):=by unfold cnt;rw [if_pos (.inl hs)]
    rw [e]
    refine XS.aE (p:=.int ((x.length:Nat) - (4:Nat):Int)) rfl rfl rfl rfl (Ev.bin (p:=.int (x.length:Nat)) (q:=.int (4:Nat)) (by walk_at "ev") (bA (C:=162) (xs:=["size","known"]) (ps:=[.int (4:Nat),.val (.ref d)]) (by walk_at "ev") (by kernel_rfl) rfl rfl rfl) fun v u F hv hu=>w4 hv hu) ?_
    refine XS.ifs (b:=true) (a3 (dR (c:=true) (a3 (Tr.cmp (p:=.int ((x.length:Nat) - (4:Nat):Int)) (q:=.int 12) (by walk_at "ev") (by walk_at "ev") (fun v u F hv hu=>H5 hv hu) (by rfl)) (by simp;omega)) (d:=false) fun h=>by cases h) (by rfl)) (fun xx=>?_) fun h=>by cases h
    exact XS.raise R'.less (eH _) (by walk_at "ev") (by walk_at "evs") (by rfl) ⟨_,_,Drop.refl _,rfl,rfl,rfl,rfl⟩
  · have hl:16≤x.length:=by omega
    refine XS.aE (p:=.int (x.length - 4:Nat)) rfl rfl rfl rfl (Ev.bin (p:=.int (x.length:Nat)) (q:=.int (4:Nat)) (by walk_at "ev") (bA (C:=162) (xs:=["size","known"]) (ps:=[.int (4:Nat),.val (.ref d)]) (by walk_at "ev") (by kernel_rfl) rfl rfl rfl) fun v u F hv hu=>fB (by omega) hv hu) ?_
    refine XS.ifs (b:=decide (x.take 4≠dF)) (a3 (dR (c:=false) (a3 (Tr.cmp (p:=.int (x.length - 4:Nat)) (q:=.int (12:Nat)) (by walk_at "ev") (by walk_at "ev") (fun v u F hv hu=>sE hv hu) (by rfl)) (by simp;omega)) fun xx=>dR (c:=x.take 4 != dF) (Tr.cmp (p:=.bytes (x.take 4)) (q:=.bytes dF) (gF (m:=4) (by walk_at "ev") (by walk_at "ev") (by omega) (fun xx xx=>rfl)) (by walk_at "ev") (fun v u F hv hu=>sF hv hu) (by rfl)) fun xx=>kY) (by
      by_cases e:x.take 4=dF <;> simp [e])) (fun h=>?_) fun h=>XS.nil ?_
    · have h:=of_decide_eq_true h
      have e:cnt ks x=(none,ks):=by unfold cnt;rw [if_pos (.inr h)]
      rw [e]
      exact XS.raise R'.less (eH _) (by walk_at "ev") (by walk_at "evs") (by rfl) ⟨_,_,Drop.refl _,rfl,rfl,rfl,rfl⟩
    · have h:=of_decide_eq_false h
      have hc:¬ (x.length<16∨x.take 4≠dF):=fun z=>z.elim hs h
      show XS _ _ _ _ _ _
      refine XS.ifs (b:=decide (c7 ((x.drop 4).take 4) 0≠2∧c7 ((x.drop 4).take 4) 0≠3)) (Tr.cmp (p:=.int (c7 ((x.drop 4).take 4) 0:Nat)) (q:=.tup [.int 2,.int 3]) (Ev.aQ (by walk_at "ev") (aB (by kernel_rfl)) (by walk_at "evs") (by rfl) fun vs F' pvs=>tP (at':=4) R'.less (by omega) (by omega) pvs) (by walk_at "ev") (fun v u F hv hu=>DY hv hu) (by rfl)) (fun h2=>?_) fun h2=>XS.nil ?_
      · have h2:=of_decide_eq_true h2
        have e:cnt ks x=(none,ks):=by unfold cnt;rw [if_neg hc,if_pos h2]
        rw [e]
        exact XS.raise R'.less (eH _) (by walk_at "ev") (by walk_at "evs") (by rfl) ⟨_,_,Drop.refl _,rfl,rfl,rfl,rfl⟩
      · have h2:=of_decide_eq_false h2
        show XS _ _ _ _ _ _
        refine XS.ifs (b:=dig ks (x.take (x.length - 4)) != x.drop (x.length - 4)) (Tr.cmp (p:=.bytes (dig ks (x.take (x.length - 4)))) (q:=.bytes (x.drop (x.length - 4))) (cH (fa:=159) (C:=162) (xs:=["size","known"]) (ps:=[.int (4:Nat),.val (.ref d)]) (by walk_at "ev") sV.inst (by kernel_rfl) rfl (by walk_at "evs") (by rfl) (by rfl) fun vs F' pvs =>
            TX.c5 (p7 (ks:=ks) (x:=x.take (x.length - 4)) R'.less hk pvs) nY nY.symm) (by walk_at "ev") (fun v u F hv hu=>sF hv hu) (by rfl)) (fun h3=>?_) fun h3=>XS.nil ?_
        · have e:cnt ks x=(none,bM ks (x.take (x.length - 4))):=by unfold cnt;rw [if_neg hc,if_neg h2,if_pos (by simpa using h3)]
          rw [e]
          exact XS.raise R'.less (eH _) (by walk_at "ev") (by walk_at "evs") (by rfl) ⟨_,_,Drop.refl _,rfl,rfl,rfl,rfl⟩
        · have e:cnt ks x=(some (c7 ((x.drop 8).take 4) 0),bM ks (x.take (x.length - 4))):=by unfold cnt;rw [if_neg hc,if_neg h2,if_neg (by simpa using h3)]
          rw [e]
          show XS _ _ _ _ _ _
          exact XS.kX (p:=.int (c7 ((x.drop 8).take 4) 0:Nat)) (Ev.aQ (by walk_at "ev") (aB (by kernel_rfl)) (by walk_at "evs") (by rfl) fun vs F' pvs=>tP (at':=8) R'.less (by omega) (by omega) pvs) (by exact⟨_,_,Drop.refl _,rfl,_,rfl,rfl⟩)
end
noncomputable def oN:Option Nat→PV
  | none=>.none
  | some n=>.int (n:Nat)
noncomputable def oB:Option (List UInt8)→PV
  | none=>.none
  | some b=>.bytes b
noncomputable def d8 (e:lA):PV:=.inst 294 xS [.int e.pl,.int e.number,.int e.size,oN e.bat,oB e.bid,.bytes e.oc,.int e.behind]
noncomputable def gA (x:List UInt8) (pl number size spot:Nat) (bat:Option Nat) (bid:Option (List UInt8)):Option lA:=match xN x spot with
  | none=>none
  | some r=>if r.1.length≠size then none else some ⟨pl,number,size,bat,bid,r.1,r.2⟩
noncomputable def bK (x:List UInt8) (pl:Nat) (sts:List Nat):Option lA:=match A4 (x.drop pl) pl with
  | none=>none
  | some h=>if d6 h.1=false then none else
    if h.1=6 then (match yZ (x.drop h.2.2) h.2.2 0 with
      | none=>none
      | some o=>if o.1=0∨pl<o.1∨(pl - o.1)∉sts then none else gA x pl h.1 h.2.1 o.2 (some (pl - o.1)) none)
    else if h.1=7 then (if ((x.drop h.2.2).take 4).length≠4 then none else gA x pl h.1 h.2.1 (h.2.2+4) none (some ((x.drop h.2.2).take 4)))
    else gA x pl h.1 h.2.1 h.2.2 none none
noncomputable def pG (sts:List Nat):List (Int×PV):=sts.map fun n:Nat=>((n:Int),.bool true)
theorem jA (z:Int):∀ sts:List Nat,(bJ (pG sts) z).isSome=decide (∃ n∈sts,(n:Int)=z)
  | []=>by simp [pG,bJ]
  | n::sts=>by
    have ih:=jA z sts
    unfold bJ pG at ih ⊢
    rw [List.map_cons,List.find?_cons]
    by_cases e:(n:Int)=z
    · simp [e]
    · simp only [e,decide_false]
      rw [ih]
      simp [e]
set_option tactic.hygienic true in
theorem IZ {x:List UInt8} {i:Nat} {r:List UInt8×Nat} (h:xN x i=some r):i<r.2∧r.2≤x.length:=by
  unfold xN at h
  split at h
  · cases h
  · rename_i r0 e
    have:=w8 e
    split at h
    · cases h
    · cases h;dsimp only;omega
set_option tactic.hygienic true in
theorem IJ {l:List UInt8} {i:Nat} {r:Nat×Nat×Nat} (h:A4 l i=some r):i<r.2.2∧r.2.2≤i+l.length∧r.1<8:=by
  unfold A4 at h
  split at h
  · cases h
  · rename_i c l
    obtain⟨q,hq,rfl⟩:=Option.map_eq_some_iff.mp h
    dsimp only
    split at hq
    · cases hq;simp;omega
    · have:=w8 hq;simp;omega
section
variable {w:World} {A:Around} {G:Led} {F:FM} {n pl:Nat} {vs:List Value} {x:List UInt8} {v u:Value} {d sd:Addr} {sts:List Nat} {r:Nat×Nat×Nat}
set_option maxHeartbeats 16000000 in
theorem uO (R:Rm A 7) (hz:x.length≤100000) (hr:A4 (x.drop pl) pl=some r) (ho:r.1=6→∃ o,yZ (x.drop r.2.2) r.2.2 0=some o∧o.2≤r.2.2+7) (pv:aS w.params F [.bytes x,.int pl,hash d,tC,.val (.ref sd)] vs) :
    TX w A F (call (.ref 319) vs) ((sd,.dI (pG sts))::G) (fun G' F v=>∃ p:PV,p.Is w.params F v∧G'=(sd,.dI (pG sts))::G∧∃ e,bK x pl sts=some e∧p=d8 e) (fun C c p G'=>C=81∧c=.none∧G'=(sd,.dI (pG sts))::G∧bK x pl sts=none):=by
  obtain⟨v0,us,rfl,p0,pv1⟩:=pv.aZ
  obtain⟨v1,us,rfl,p1,pv2⟩:=pv1.aZ
  obtain⟨v2,v3,v4,rfl,p2,p3,p4⟩:=pv2.three
  refine TX.fn (N:=fun p G'=>G'=(sd,.dI (pG sts))::G∧∃ e,bK x pl sts=some e∧p=d8 e) (fn319 _) R.room.room (fun s X=>@J4 w s X v0 v1 v2 v3 v4) pv nd319 lc319 nc319 fun L=>?_
  have R':=R.deeper (aT (aK 33) "scan_entry" 319 (fun xx=>[]) (.ref 318) L)
  obtain⟨hr1,hr2,hr3⟩:=IJ hr
  rw [List.length_drop] at hr2
  have tail:∀ (ρ:List (Str×PV)) (number size spot:Nat) (bat:Option Nat) (bid:Option (List UInt8)),Look ρ "body" (.bytes x)→Look ρ "at" (.int pl)→Look ρ "number" (.int number)→Look ρ "size" (.int size)→Look ρ "spot" (.int spot)→Look ρ "base_at" (oN bat)→Look ρ "base_id" (oB bid)→Look ρ "codec" tC→bK x pl sts=gA x pl number size spot bat bid →
      XS w (A.deeper (aT (aK 33) "scan_entry" 319 (fun xx=>[]) (.ref 318) L)) (aT (aK 33) "scan_entry" 319 (fun xx=>[]) (.ref 318) L) ((cQ (aK 33)).drop 5) ((L,.frame ρ)::(sd,.dI (pG sts))::G) (bI L (fun p G'=>G'=(sd,.dI (pG sts))::G∧∃ e,bK x pl sts=some e∧p=d8 e) (fun C c p G'=>C=81∧c=.none∧G'=(sd,.dI (pG sts))::G∧bK x pl sts=none)):=fun ρ number size spot bat bid l1 l2 l3 l4 l5 l6 l7 l8 eS=>by
    refine XS.cons (XT.jE (ns:=["data","after"]) (TX.imp (TX.call (by walk_at "ev") (aB (by kernel_rfl)) (by walk_at "evs") (by rfl) fun vs F' pvs=>pM (at':=spot) R' hz pvs) (fun G' F v l h=>?_) fun C c p G' h=>?_) R'.quiet (.cons (.cons .nil)) rfl (dX (by rfl)) rfl rfl)
    · obtain⟨p,pv,rfl,q,e,rfl⟩:=h
      refine⟨_,_,_,pv,rfl,rfl,?_⟩
      show XS _ _ _ _ ((L,.frame (("after",.int q.2)::("data",.bytes q.1)::ρ))::(sd,.dI (pG sts))::G) _
      obtain⟨u1,u2⟩:=IZ e
      have u3:q.1.length≤x.length:=by
        unfold xN at e
        split at e
        · cases e
        · split at e
          · cases e
          · cases e;simp;omega
      refine XS.ifs (b:=false) (a3 (Tr.cmp (p:=.int q.2) (q:=.int (x.length:Nat)) (by walk_at "ev") (by walk_at "ev") (fun v u F hv hu=>sD hv hu) (by rfl)) (by simp;omega)) (fun h=>by cases h) fun xx=>XS.nil ?_
      show XS _ _ _ _ _ _
      refine XS.ifs (b:=decide (q.1.length≠size)) (Tr.cmp (p:=.int (q.1.length:Nat)) (q:=.int size) (by walk_at "ev") (by walk_at "ev") (fun v u F hv hu=>sG hv hu) (by rfl)) (fun h=>?_) fun h=>XS.nil ?_
      · have h:=of_decide_eq_true h
        refine XS.raise R'.less (eH _) (by walk_at "ev") (by walk_at "evs") (by rfl) ⟨_,_,Drop.refl _,rfl,rfl,rfl,?_⟩
        rw [eS];unfold gA;rw [e];dsimp only;rw [if_pos h]
      · have h:=of_decide_eq_false h
        show XS _ _ _ _ _ _
        refine XS.kX (p:=d8 ⟨pl,number,size,bat,bid,q.1,q.2⟩) (Ev.aQ (by walk_at "ev") (aB (by kernel_rfl)) (by walk_at "evs") (by rfl) fun vs F' pvs=>DG (p0:=.int pl) (p1:=.int number) (p2:=.int size) (p3:=oN bat) (p4:=oB bid) (p5:=.bytes q.1) (p6:=.int q.2) R'.less pvs) (by exact⟨_,_,Drop.refl _,rfl,_,by rw [eS];unfold gA;rw [e];dsimp only;rw [if_neg h],rfl⟩)
    · obtain⟨rfl,rfl,rfl,e⟩:=h
      refine⟨_,_,Drop.refl _,rfl,rfl,rfl,?_⟩
      rw [eS];unfold gA;rw [e]
  refine XS.cons (XT.jE (ns:=["number","size","spot"]) (TX.imp (TX.call (by walk_at "ev") (aB (by kernel_rfl)) (by walk_at "evs") (by rfl) fun vs F' pvs=>pL (at':=pl) R'.less hz hr pvs) (fun G' F v l h=>?_) fun C c p G' h=>?_) R'.quiet (.cons (.cons (.cons .nil))) rfl (dX (by rfl)) rfl rfl)
  · obtain⟨p,pv,rfl,hok,rfl⟩:=h
    refine⟨_,_,_,pv,rfl,rfl,?_⟩
    show XS _ _ _ _ ((L,.frame [("spot",.int r.2.2),("size",.int r.2.1),("number",.int r.1),("body",.bytes x),("at",.int pl),("hasher",hash d),("codec",tC),("starts",.val (.ref sd))])::(sd,.dI (pG sts))::G) _
    have eS:bK x pl sts=if r.1=6 then (match yZ (x.drop r.2.2) r.2.2 0 with
      | none=>none
      | some o=>if o.1=0∨pl<o.1∨(pl - o.1)∉sts then none else gA x pl r.1 r.2.1 o.2 (some (pl - o.1)) none)
      else if r.1=7 then (if ((x.drop r.2.2).take 4).length≠4 then none else gA x pl r.1 r.2.1 (r.2.2+4) none (some ((x.drop r.2.2).take 4)))
      else gA x pl r.1 r.2.1 r.2.2 none none:=by
      unfold bK;rw [hr];dsimp only;rw [if_neg (by rw [hok];decide)]
    refine XS.aE (p:=.none) rfl rfl rfl rfl (by walk_at "ev") (XS.aE (p:=.none) rfl rfl rfl rfl (by walk_at "ev") ?_)
    refine XS.ifs (b:=decide (r.1=6)) (Tr.cmp (p:=.int r.1) (q:=.int (6:Nat)) (by walk_at "ev") (by walk_at "ev") (fun v u F hv hu=>d7 hv hu) (by rfl)) (fun h6=>?_) fun h6=>XS.nil ?_
    · have h6:=of_decide_eq_true h6
      obtain⟨o,hO,hb⟩:=ho h6
      rw [if_pos h6,hO] at eS
      dsimp only at eS
      refine XS.cons (XT.jE (ns:=["back","spot"]) (TX.imp (T.x (Ev.aQ (p:=.tup [.int o.1,.int o.2]) (by walk_at "ev") (aB (by kernel_rfl)) (by walk_at "evs") (by rfl) fun vs F' pvs=>xX (at':=r.2.2) R'.less hz hO hb pvs)) (fun G' F v l h=>?_) fun _ _ _ _ (h:False)=>h.elim) R'.quiet (.cons (.cons .nil)) rfl (dX (by rfl)) rfl rfl)
      obtain⟨rfl,pv⟩:=h
      refine⟨_,_,_,pv,rfl,rfl,?_⟩
      show XS _ _ _ _ ((L,.frame [("spot",.int o.2),("back",.int o.1),("base_id",.none),("base_at",.none),("spot",.int r.2.2),("size",.int r.2.1),("number",.int r.1),("body",.bytes x),("at",.int pl),("hasher",hash d),("codec",tC),("starts",.val (.ref sd))])::(sd,.dI (pG sts))::G) _
      have n7:¬ r.1=7:=by omega
      have fin:∀ (ρ:List (Str×PV)),Look ρ "body" (.bytes x)→Look ρ "at" (.int pl)→Look ρ "number" (.int r.1)→Look ρ "size" (.int r.2.1)→Look ρ "spot" (.int o.2)→Look ρ "base_at" (oN (some (pl - o.1)))→Look ρ "base_id" (oB none)→Look ρ "codec" tC→bK x pl sts=gA x pl r.1 r.2.1 o.2 (some (pl - o.1)) none →
          XS w (A.deeper (aT (aK 33) "scan_entry" 319 (fun xx=>[]) (.ref 318) L)) (aT (aK 33) "scan_entry" 319 (fun xx=>[]) (.ref 318) L) ((cQ (aK 33)).drop 4) ((L,.frame ρ)::(sd,.dI (pG sts))::G) (bI L (fun p G'=>G'=(sd,.dI (pG sts))::G∧∃ e,bK x pl sts=some e∧p=d8 e) (fun C c p G'=>C=81∧c=.none∧G'=(sd,.dI (pG sts))::G∧bK x pl sts=none)):=fun ρ l1 l2 l3 l4 l5 l6 l7 l8 e=>by
        refine XS.ifs (b:=false) (a3 (Tr.cmp (p:=.int r.1) (q:=.int (7:Nat)) (by walk_at "ev") (by walk_at "ev") (fun v u F hv hu=>d7 hv hu) (by rfl)) (by simp;omega)) (fun h7=>by cases h7) fun xx=>XS.nil ?_
        show XS _ _ _ _ _ _
        exact tail ρ _ _ _ _ _ l1 l2 l3 l4 l5 l6 l7 l8 e
      by_cases hlt:pl<o.1
      · refine XS.aE (p:=.int ((pl:Int) - (o.1:Int))) rfl rfl rfl rfl (Ev.bin (p:=.int pl) (q:=.int o.1) (by walk_at "ev") (by walk_at "ev") fun v u F hv hu=>w4 hv hu) ?_
        refine XS.ifs (b:=true) (a3 (dR (c:=decide (o.1≤0)) (Tr.cmp (p:=.int o.1) (q:=.int (0:Nat)) (by walk_at "ev") (by walk_at "ev") (fun v u F hv hu=>A0 hv hu) (by rfl)) fun xx=>dR (Tr.cmp (p:=.int ((pl:Int) - (o.1:Int))) (q:=.val (.ref sd)) (by walk_at "ev") (by walk_at "ev") (fun v u F hv hu=>t6 (i:=1) rfl hv hu) (by rfl)) fun xx=>kY) (by
          rw [jA]
          have:¬ ∃ n∈sts,(n:Int)=(pl:Int) - (o.1:Int):=fun⟨n,_,e⟩=>by omega
          simp [this])) (fun xx=>?_) fun h=>by cases h
        exact XS.raise R'.less (eH _) (by walk_at "ev") (by walk_at "evs") (by rfl) ⟨_,_,Drop.refl _,rfl,rfl,rfl,by rw [eS,if_pos (.inr (.inl hlt))]⟩
      · refine XS.aE (p:=.int (pl - o.1:Nat)) rfl rfl rfl rfl (Ev.bin (p:=.int pl) (q:=.int o.1) (by walk_at "ev") (by walk_at "ev") fun v u F hv hu=>fB (by omega) hv hu) ?_
        refine XS.ifs (b:=decide (o.1=0∨pl<o.1∨(pl - o.1)∉sts)) (a3 (dR (c:=decide (o.1≤0)) (Tr.cmp (p:=.int o.1) (q:=.int (0:Nat)) (by walk_at "ev") (by walk_at "ev") (fun v u F hv hu=>A0 hv hu) (by rfl)) fun xx=>dR (Tr.cmp (p:=.int (pl - o.1:Nat)) (q:=.val (.ref sd)) (by walk_at "ev") (by walk_at "ev") (fun v u F hv hu=>t6 (i:=1) rfl hv hu) (by rfl)) fun xx=>kY) (by
          rw [jA]
          have e1:(∃ n∈sts,(n:Int)=((pl - o.1:Nat):Int))↔(pl - o.1)∈sts:=by
            constructor
            · rintro⟨n,h,e⟩
              have:n=pl - o.1:=by omega
              rw [← this];exact h
            · exact fun h=>⟨_,h,rfl⟩
          have e2:(o.1≤0)↔o.1=0:=by omega
          simp only [e1,e2,hlt,Bool.or_false,false_or,decide_not,Bool.decide_or])) (fun h=>?_) fun h=>XS.nil (XS.nil ?_)
        · exact XS.raise R'.less (eH _) (by walk_at "ev") (by walk_at "evs") (by rfl) ⟨_,_,Drop.refl _,rfl,rfl,rfl,by rw [eS,if_pos (of_decide_eq_true h)]⟩
        · have h:=of_decide_eq_false h
          show XS _ _ _ _ _ _
          exact fin _ (by walk_at "look") (by walk_at "look") (by walk_at "look") (by walk_at "look") (by walk_at "look") (by walk_at "look") (by walk_at "look") (by walk_at "look") (by rw [eS,if_neg h])
    · have h6:=of_decide_eq_false h6
      rw [if_neg h6] at eS
      show XS _ _ _ _ _ _
      refine XS.ifs (b:=decide (r.1=7)) (Tr.cmp (p:=.int r.1) (q:=.int (7:Nat)) (by walk_at "ev") (by walk_at "ev") (fun v u F hv hu=>d7 hv hu) (by rfl)) (fun h7=>?_) fun h7=>XS.nil ?_
      · have h7:=of_decide_eq_true h7
        rw [if_pos h7] at eS
        have hsz:Ev w (A.deeper (aT (aK 33) "scan_entry" 319 (fun xx=>[]) (.ref 318) L)) (aT (aK 33) "scan_entry" 319 (fun xx=>[]) (.ref 318) L) ((L,.frame [("base_id",.none),("base_at",.none),("spot",.int r.2.2),("size",.int r.2.1),("number",.int r.1),("body",.bytes x),("at",.int pl),("hasher",hash d),("codec",tC),("starts",.val (.ref sd))])::(sd,.dI (pG sts))::G) (.Name "hasher" default) (hash d) ((L,.frame [("base_id",.none),("base_at",.none),("spot",.int r.2.2),("size",.int r.2.1),("number",.int r.1),("body",.bytes x),("at",.int pl),("hasher",hash d),("codec",tC),("starts",.val (.ref sd))])::(sd,.dI (pG sts))::G):=by walk_at "ev"
        clear hsz
        refine XS.aE (p:=.bytes ((x.drop r.2.2).take 4)) rfl rfl rfl rfl (cC (p:=.bytes ((x.drop r.2.2).take (r.2.2+4 - r.2.2))) (tR (n:=r.2.2) (m:=r.2.2+4) (by walk_at "ev") (by walk_at "ev") (Ev.bin (p:=.int r.2.2) (q:=.int (4:Nat)) (by walk_at "ev") (bA (C:=162) (xs:=["size","known"]) (ps:=[.int (4:Nat),.val (.ref d)]) (by walk_at "ev") (by kernel_rfl) rfl rfl rfl) fun v u F hv hu=>bF hv hu) (by omega) (fun xx xx=>rfl)) (by rw [Nat.add_sub_cancel_left])) ?_
        refine XS.aE (p:=.int (r.2.2+4:Nat)) rfl rfl rfl rfl (Ev.bin (p:=.int r.2.2) (q:=.int (4:Nat)) (by walk_at "ev") (bA (C:=162) (xs:=["size","known"]) (ps:=[.int (4:Nat),.val (.ref d)]) (by walk_at "ev") (by kernel_rfl) rfl rfl rfl) fun v u F hv hu=>bF hv hu) ?_
        refine XS.ifs (b:=decide (((x.drop r.2.2).take 4).length≠4)) (Tr.cmp (p:=.int (((x.drop r.2.2).take 4).length:Nat)) (q:=.int (4:Nat)) (lN (by walk_at "ev") (by walk_at "evs") (by rfl) (by have:((x.drop r.2.2).take 4).length≤4:=List.length_take_le _ _;omega)) (bA (C:=162) (xs:=["size","known"]) (ps:=[.int (4:Nat),.val (.ref d)]) (by walk_at "ev") (by kernel_rfl) rfl rfl rfl) (fun v u F hv hu=>sG hv hu) (by rfl)) (fun h=>?_) fun h=>XS.nil (XS.nil ?_)
        · exact XS.raise R'.less (eH _) (by walk_at "ev") (by walk_at "evs") (by rfl) ⟨_,_,Drop.refl _,rfl,rfl,rfl,by rw [eS,if_pos (of_decide_eq_true h)]⟩
        · have h:=of_decide_eq_false h
          show XS _ _ _ _ _ _
          exact tail _ r.1 r.2.1 (r.2.2+4) none (some ((x.drop r.2.2).take 4)) (by walk_at "look") (by walk_at "look") (by walk_at "look") (by walk_at "look") (by walk_at "look") (by walk_at "look") (by walk_at "look") (by walk_at "look") (by rw [eS,if_neg h])
      · have h7:=of_decide_eq_false h7
        rw [if_neg h7] at eS
        show XS _ _ _ _ _ _
        exact tail _ r.1 r.2.1 r.2.2 none none (by walk_at "look") (by walk_at "look") (by walk_at "look") (by walk_at "look") (by walk_at "look") (by walk_at "look") (by walk_at "look") (by walk_at "look") eS
  · obtain⟨rfl,rfl,rfl,e⟩:=h
    exact⟨_,_,Drop.refl _,rfl,rfl,rfl,by unfold bK;rw [hr];dsimp only;rw [if_pos e]⟩
end
noncomputable def cJ (x:List UInt8):Nat→Nat→List Nat→List lA→Option (List lA)
  | 0,pl,_,acc=>if pl=x.length then some acc else none
  | n+1,pl,sts,acc=>if x.length≤pl then none else match bK x pl sts with
    | none=>none
    | some e=>cJ x n e.behind (sts++[pl]) (acc++[e])
noncomputable def gB (x:List UInt8):Nat→Nat→List Nat→Prop
  | 0,_,_=>True
  | n+1,pl,sts=>pl<x.length→(∃ r,A4 (x.drop pl) pl=some r∧(r.1=6→∃ o,yZ (x.drop r.2.2) r.2.2 0=some o∧o.2≤r.2.2+7))∧∀ e,bK x pl sts=some e→gB x n e.behind (sts++[pl])
noncomputable def scanP (ks:List (List UInt8)) (x:List UInt8):Option (List lA):=match (cnt ks x).1 with
  | none=>none
  | some n=>cJ (x.take (x.length - 4)) n 12 [] []
theorem fF (x:List UInt8) (pl:Nat) (sts:List Nat) (acc:List lA):cJ x 0 pl sts acc=if pl=x.length then some acc else none:=rfl
theorem cG (x:List UInt8) (n pl:Nat) (sts:List Nat) (acc:List lA):cJ x (n+1) pl sts acc=if x.length≤pl then none else match bK x pl sts with
    | none=>none
    | some e=>cJ x n e.behind (sts++[pl]) (acc++[e]):=rfl
set_option tactic.hygienic true in
theorem uW {x:List UInt8} {pl number size spot:Nat} {bat:Option Nat} {bid:Option (List UInt8)} {e:lA} (h:gA x pl number size spot bat bid=some e):spot<e.behind∧e.behind≤x.length:=by
  unfold gA at h
  split at h
  · cases h
  · rename_i r hu
    have:=IZ hu
    split at h
    · cases h
    · cases h;exact this
set_option tactic.hygienic true in
theorem IL {x:List UInt8} {pl:Nat} {sts:List Nat} {e:lA} (h:bK x pl sts=some e):pl<e.behind∧e.behind≤x.length:=by
  unfold bK at h
  split at h
  · cases h
  · rename_i r hr
    have h1:=IJ hr
    split at h
    · cases h
    · split at h
      · split at h
        · cases h
        · rename_i o hO
          have h2:=w7 hO
          split at h
          · cases h
          · have h3:=uW h;omega
      · split at h
        · split at h
          · cases h
          · have h3:=uW h;omega
        · have h3:=uW h;omega
theorem IS (sts:List Nat) (n:Nat):pG sts++[((n:Int),.bool true)]=pG (sts++[n]):=by simp [pG]
theorem IQ {sts:List Nat} {n:Nat} (h:n∉sts):bJ (pG sts) (n:Int)=none:=by
  have:=jA (n:Int) sts
  have e:¬ ∃ m∈sts,(m:Int)=(n:Int):=by
    rintro⟨m,hm,e⟩
    have:m=n:=by omega
    subst this
    exact h hm
  cases hk:bJ (pG sts) (n:Int) with
  | none=>rfl
  | some p=>rw [hk] at this;simp [e] at this
section
variable {α:Type} {w:World} {A:Around} {G G0 G1 G2:Led} {F:FM} {t:Sem Value} {C0:Addr} {Pp:PV→Prop} {Xx:Prop}
theorem TX.B3 (y:TX w A F t G0 (fun G' F v=>∃ p:PV,p.Is w.params F v∧G'=G1∧Pp p) (fun C c p G'=>C=C0∧c=.none∧G'=G1∧Xx)) (p:G.Perm G0) (p':G1.Perm G2) :
    TX w A F t G (fun G' F v=>∃ p:PV,p.Is w.params F v∧G'=G2∧Pp p) (fun C c p G'=>C=C0∧c=.none∧G'=G2∧Xx) :=
  TX.pre (TX.gH y (fun G' F' v l ⟨p,pv,e,n⟩=>⟨G2,⟨p,pv,rfl,n⟩,fun F2 h2 H S=>S.perm (by rw [e];exact p'.append_right H)⟩)
    fun C c p G' ⟨e1,e2,e3,x⟩=>⟨G2,⟨e1,e2,rfl,x⟩,fun F2 h e H S=>S.perm (by rw [e3];exact(p'.append_right H).cons _)⟩) fun F2 h H S=>S.perm (p.append_right H)
end
section
variable {w:World} {A:Around} {G:Led} {F:FM} {vs:List Value} {x:List UInt8} {d:Addr} {ks:List (List UInt8)}
inductive SpI (n:Nat) (b:List UInt8) (ks2:List (List UInt8)) (d fl sd L:Addr) (tC:PV) (G:Led) (m:Nat) (G':Led):Prop
  | mk (pl:Nat) (sts:List Nat) (acc:List lA) (ρ:List (Str×PV)) (e:G'=(L,.frame ρ)::(sd,.dI (pG sts))::(fl,.list (acc.map d8))::(d,.dB (a7 ks2))::G) (l1:Look ρ "count" (.int n)) (l2:Look ρ "hasher" (hash d)) (l3:Look ρ "codec" tC) (l4:Look ρ "body" (.bytes b)) (l5:Look ρ "found" (.val (.ref fl))) (l6:Look ρ "starts" (.val (.ref sd))) (l7:Look ρ "at" (.int (pl:Nat)))
    (i0:m=n - acc.length) (i1:acc.length≤n) (i2:acc.length≤pl) (i3:pl≤100000) (i4:∀ s∈sts,s<pl) (i7:sts.length=acc.length) (i5:gB b m pl sts) (i6:cJ b n 12 [] []=cJ b m pl sts acc)
set_option maxHeartbeats 16000000 in
theorem oA (R:Rm A 8) (hz:x.length≤100000) (hk:ks.length≤1000) (hf:∀ n,(cnt ks x).1=some n→gB (x.take (x.length - 4)) n 12 []) (pv:aS w.params F [.bytes x,hash d,tC] vs) :
    TX w A F (call (.ref 326) vs) ((d,.dB (a7 ks))::G) (fun G' F v=>∃ p:PV,p.Is w.params F v∧G'=(d,.dB (a7 (cnt ks x).2))::G∧∃ es,scanP ks x=some es∧p=.lst (es.map d8)) (fun C c p G'=>C=81∧c=.none∧G'=(d,.dB (a7 (cnt ks x).2))::G∧scanP ks x=none):=by
  obtain⟨v0,v1,v2,rfl,p0,p1,p2⟩:=pv.three
  refine TX.fn (N:=fun p G'=>G'=(d,.dB (a7 (cnt ks x).2))::G∧∃ es,scanP ks x=some es∧p=.lst (es.map d8)) (fn326 _) R.room.room (fun s X=>@J5 w s X v0 v1 v2) pv nd326 lc326 nc326 fun L=>?_
  have R':=R.deeper (aT (aK 34) "scan_pack" 326 (fun xx=>[]) (.ref 325) L)
  refine XS.cons (XT.cE (TX.imp (TX.call (by walk_at "ev") (aB (by kernel_rfl)) (by walk_at "evs") (by rfl) fun vs F' pvs=>TX.B3 (uM (ks:=ks) (x:=x) (d:=d) R'.less hz hk pvs) nY nY.symm) (fun G' F v l h=>?_) fun C c p G' h=>?_) rfl rfl rfl)
  · obtain⟨p,pv,rfl,n,en,rfl⟩:=h
    refine⟨_,_,_,pv,rfl,?_⟩
    have hsx:16≤x.length:=by
      rcases Nat.lt_or_ge x.length 16 with z | z
      · unfold cnt at en;rw [if_pos (.inl z)] at en;cases en
      · exact z
    have hF:=hf n en
    have eS:scanP ks x=cJ (x.take (x.length - 4)) n 12 [] []:=by unfold scanP;rw [en]
    rw [eS]
    refine gen0 ((cnt ks x).2) fun ks2=>?_
    show XS _ _ _ _ ((L,.frame [("count",.int n),("octets",.bytes x),("hasher",hash d),("codec",tC)])::(d,.dB (a7 ks2))::G) _
    refine XS.aE (p:=.bytes (x.take (x.length - 4))) rfl rfl rfl rfl (gF (m:=x.length - 4) (by walk_at "ev") (Ev.bin (p:=.int (x.length:Nat)) (q:=.int (4:Nat)) (by walk_at "ev") (bA (C:=162) (xs:=["size","known"]) (ps:=[.int (4:Nat),.val (.ref d)]) (by walk_at "ev") (by kernel_rfl) rfl rfl rfl) fun v u F hv hu=>fB (by omega) hv hu) (by omega) (fun xx xx=>rfl)) ?_
    have hbl:(x.take (x.length - 4)).length≤100000:=by rw [List.length_take];omega
    revert hF hbl;refine gen0 (x.take (x.length - 4)) fun b=>?_;intro hF hbl
    refine XS.cons (XT.dY (o:=.list []) (cR aU.nil (by simp)) (fun fl=>?_) rfl rfl rfl)
    refine XS.cons (XT.dY (o:=.dI []) IV (fun sd=>?_) rfl rfl rfl)
    show XS _ _ _ _ ((L,.frame _)::(sd,.dI [])::(fl,.list [])::(d,.dB (a7 ks2))::G) _
    refine XS.aE (p:=.int (12:Nat)) rfl rfl rfl rfl (by walk_at "ev") ?_
    refine XS.cons (XT.dU (SpI n b ks2 d fl sd L tC G) n
      ⟨12,[],[],_,rfl,by walk_at "look",by walk_at "look",by walk_at "look",by walk_at "look",by walk_at "look",by walk_at "look",by walk_at "look",rfl,by simp,by simp,by omega,by simp,rfl,hF,rfl⟩ cF.deeper rfl (fun m G' I=>?_))
    obtain⟨pl,sts,acc,ρ,rfl,l1,l2,l3,l4,l5,l6,l7,rfl,i1,i2,i3,i4,i7,i5,i6⟩:=I
    refine⟨decide (acc.length<n),Tr.cmp (p:=.int (acc.length:Nat)) (q:=.int n) (cC (p:=.int ((acc.map d8).length:Nat)) (uU (i:=2) (by walk_at "ev") (by walk_at "evs") (by rfl) rfl (by rw [List.length_map];omega)) (by rw [List.length_map])) (by walk_at "ev") (fun v u F hv hu=>sE hv hu) (by rfl),fun h=>?_,fun h=>?_⟩
    · have h:acc.length<n:=of_decide_eq_true h
      obtain⟨m,hm⟩:∃ m,n - acc.length=m+1:=⟨n - acc.length - 1,by omega⟩
      rw [hm] at i5 i6
      unfold gB at i5
      rw [cG] at i6
      refine XS.ifs (b:=decide (b.length≤pl)) (Tr.cmp (p:=.int pl) (q:=.int (b.length:Nat)) (by walk_at "ev") (by walk_at "ev") (fun v u F hv hu=>HY hv hu) (by rfl)) (fun h2=>?_) fun h2=>XS.nil ?_
      · rw [if_pos (of_decide_eq_true h2)] at i6
        exact XS.raise R'.less (eH _) (by walk_at "ev") (by walk_at "evs") (by rfl) ⟨_,_,(Drop.snd rfl).trans (Drop.snd rfl),rfl,rfl,rfl,i6⟩
      · have h2:=of_decide_eq_false h2
        rw [if_neg h2] at i6
        obtain⟨⟨r,hr,hO⟩,hN⟩:=i5 (by omega)
        show XS _ _ _ _ _ _
        refine XS.cons (XT.cE (TX.imp (TX.call (by walk_at "ev") (aB (by kernel_rfl)) (by walk_at "evs") (by rfl) fun vs F' pvs=>TX.B3 (uO (x:=b) (pl:=pl) (sd:=sd) (d:=d) (sts:=sts) R' hbl hr hO pvs) nY nY.symm) (fun G' F v l h=>?_) fun C c p G' h=>?_) rfl rfl rfl)
        · obtain⟨p,pv,rfl,e,he,rfl⟩:=h
          rw [he] at i6
          dsimp only at i6
          obtain⟨e1,e2⟩:=IL he
          have hN2:=hN e he
          clear hO hN hF hf hr
          have q0:(acc++[e]).length=acc.length+1:=by simp
          have q1:m=n - (acc++[e]).length:=by rw [q0,Nat.sub_add_eq,hm,Nat.add_sub_cancel]
          have q2:(acc++[e]).length≤n:=by rw [q0];omega
          have q3:(acc++[e]).length≤e.behind:=by rw [q0];omega
          have q4:(sts++[pl]).length=(acc++[e]).length:=by rw [q0,List.length_append,List.length_singleton,i7]
          have q5:m<n - acc.length:=by omega
          refine⟨_,_,_,pv,rfl,?_⟩
          show XS _ _ _ _ ((L,.frame (("one",d8 e)::ρ))::(sd,.dI (pG sts))::(fl,.list (acc.map d8))::(d,.dB (a7 ks2))::G) _
          refine XS.setItem (p:=.bool true) (qo:=.val (.ref sd)) (qi:=.int pl) (by walk_at "ev") (by walk_at "ev") (by walk_at "ev") rfl (fun v u t F hv hu ht=>by cases hu;exact M7 (i:=1) rfl (IQ fun z=>Nat.lt_irrefl _ (i4 _ z)) (by unfold pG;rw [List.length_map];omega) ht hv) ?_
          rw [IS]
          show XS _ _ _ _ (_::_::(fl,.list (acc.map d8))::_) _
          refine XS.cons (XT.append (p:=d8 e) (by walk_at "ev") (by walk_at "evs") (i:=2) rfl (j:=2) rfl (by rw [List.length_map];omega) ?_ rfl rfl rfl rfl)
          show XS _ _ _ _ (_::_::(fl,.list (acc.map d8++[d8 e]))::_) _
          rw [show acc.map d8++[d8 e]=(acc++[e]).map d8 by simp]
          refine XS.aE (p:=.int (e.behind:Nat)) rfl rfl rfl rfl (by walk_at "ev") (XS.nil ⟨m,q5,e.behind,sts++[pl],acc++[e],_,rfl,by walk_at "look",by walk_at "look",by walk_at "look",by walk_at "look",by walk_at "look",by walk_at "look",by walk_at "look",q1,q2,q3,by omega,?_,q4,hN2,i6⟩)
          intro s hs
          rcases List.mem_append.mp hs with z | z
          · have:=i4 s z;omega
          · rw [List.mem_singleton] at z;omega
        · obtain⟨rfl,rfl,rfl,e⟩:=h
          rw [e] at i6
          exact⟨_,_,(Drop.snd rfl).trans (Drop.snd rfl),rfl,rfl,rfl,i6⟩
    · have h:¬ acc.length<n:=of_decide_eq_false h
      rw [show n - acc.length=0 by omega] at i6
      rw [fF] at i6
      show XS _ _ _ _ _ _
      refine XS.ifs (b:=decide (pl≠b.length)) (Tr.cmp (p:=.int pl) (q:=.int (b.length:Nat)) (by walk_at "ev") (by walk_at "ev") (fun v u F hv hu=>sG hv hu) (by rfl)) (fun h2=>?_) fun h2=>XS.nil ?_
      · rw [if_neg (of_decide_eq_true h2)] at i6
        exact XS.raise R'.less (eH _) (by walk_at "ev") (by walk_at "evs") (by rfl) ⟨_,_,(Drop.snd rfl).trans (Drop.snd rfl),rfl,rfl,rfl,i6⟩
      · have h2:pl=b.length:=Classical.byContradiction fun z=>(of_decide_eq_false h2) z
        rw [if_pos h2] at i6
        refine XS.pre ?_ (Drop.snd rfl)
        exact XS.jC rfl rfl l5 ⟨_,_,Drop.refl _,rfl,acc,i6,rfl⟩ (by decide)
  · obtain⟨rfl,rfl,rfl,e⟩:=h
    exact⟨_,_,Drop.refl _,rfl,rfl,rfl,by unfold scanP;rw [e]⟩
end
noncomputable def a4 (e:lA):PV:=.tup [.int e.pl,.int e.number,.int e.size,oN e.bat,oB e.bid,.bytes e.oc,.int e.behind]
section
variable {w:World} {A:Around} {G:Led} {F:FM} {s:Shared} {v u:Value} {ps:List PV} {vs us:List Value}
open PySem.SeqAt in
noncomputable def dW (P:Params) (p:PV):Prop:=∀ (F F':FM) (A:Around) (s:Shared) (v u:Value),p.Is P F v→p.Is P F' u→PySem.SeqAt.EqAt A s v u true
open PySem.SeqAt in
theorem sH (i:Int):dW w.params (.int i):=fun F F' A s v u hv hu=>by
  obtain⟨t,rfl⟩:=hv;obtain⟨t',rfl⟩:=hu
  have:=EqAt.int_int (A:=A) (s:=s) i t i t'
  rwa [beq_self_eq_true] at this
open PySem.SeqAt in
theorem B0:dW w.params .none:=fun F F' A s v u hv hu=>by
  cases hv;cases hu;exact EqAt.same _
open PySem.SeqAt in
theorem yJ (b:List UInt8):dW w.params (.bytes b):=fun F F' A s v u hv hu=>by
  obtain⟨t,rfl⟩:=hv;obtain⟨t',rfl⟩:=hu
  intro prog w' E Q hq
  exact eqBool_bytes (by simpa using hq)
theorem pe_oN (o:Option Nat):dW w.params (oN o):=by cases o;exact B0;exact sH _
theorem pe_oB (o:Option (List UInt8)):dW w.params (oB o):=by cases o;exact B0;exact yJ _
theorem RB {ps:List PV} {vs us:List Value} (hp:∀ p∈ps,dW w.params p) (h:aS w.params F ps vs) (k:aS w.params F ps us) (j:Nat) (h1:j<vs.length) (h2:j<us.length):PySem.SeqAt.EqAt A s vs[j] us[j] true:=by
  induction ps generalizing vs us j with
  | nil=>rw [h.cT] at h1;cases h1
  | cons p ps ih =>
    obtain⟨v,vs,rfl,a,b⟩:=h.aZ
    obtain⟨u,us,rfl,c,d⟩:=k.aZ
    cases j with
    | zero=>exact hp p (.head _) _ _ _ _ _ _ a c
    | succ j=>exact ih (fun p h=>hp p (.tail _ h)) b d j (by simpa using h1) (by simpa using h2)
open PySem.SeqAt in
theorem IU {h:Heap} {H:Led} {A':Around} {k:Nat} (S:Sb w A F h H) (hp:∀ p∈ps,dW w.params p) (hu0:A'.units<cLine) (hv:(PV.tup ps).Is w.params F v) (hu:(PV.tup ps).Is w.params F u):EqAt A' (sh s h k) v u true:=by
  obtain⟨a,vs,n,rfl,fa,pvs⟩:=hv
  obtain⟨b,us,m,rfl,fb,qvs⟩:=hu
  by_cases e:a=b
  · subst e;exact EqAt.same _
  · refine EqAt.of_refs e ?_
    have:=RcAt.tuples (s:=sh s h k) (A:=A') (e:=fun xx=>true) ⟨_,S.sub _ _ fa,rfl,n,rfl⟩ ⟨_,S.sub _ _ fb,rfl,m,rfl⟩ hu0 (fun j h1 h2=>by
      simpa using RB hp pvs qvs j (by simpa using h1) (by simpa using h2))
    have e1:((List.range (min vs.toArray.size us.toArray.size)).all (fun xx=>true) && vs.toArray.size == us.toArray.size)=true:=by
      rw [List.size_toArray,List.size_toArray,pvs.length,qvs.length];simp
    rwa [e1] at this
theorem D8 (e:lA):∀ p∈[PV.int e.pl,.int e.number,.int e.size,oN e.bat,oB e.bid,.bytes e.oc,.int e.behind],dW w.params p:=fun p hp=>by
  simp only [List.mem_cons,List.not_mem_nil,or_false] at hp
  rcases hp with rfl | rfl | rfl | rfl | rfl | rfl | rfl
  · exact sH _
  · exact sH _
  · exact sH _
  · exact pe_oN _
  · exact pe_oB _
  · exact yJ _
  · exact sH _
theorem ML {es:List lA} {vs us:List Value} {h:Heap} {H:Led} {A':Around} {k:Nat} (S:Sb w A F h H) (hu:A'.units<cLine) (hv:aS w.params F (es.map a4) vs) (hw:aS w.params F (es.map a4) us) (j:Nat) (h1:j<vs.length) (h2:j<us.length):PySem.SeqAt.EqAt A' (sh s h k) vs[j] us[j] true:=by
  induction es generalizing vs us j with
  | nil=>rw [aS.cT hv] at h1;cases h1
  | cons e es ih =>
    rw [List.map_cons] at hv hw
    obtain⟨v,vs,rfl,a,b⟩:=hv.aZ
    obtain⟨u,us,rfl,c,d⟩:=hw.aZ
    cases j with
    | zero=>exact IU S (D8 e) hu a c
    | succ j=>exact ih b d j (by simpa using h1) (by simpa using h2)
theorem H9 {es:List lA} (hu0:A.units+64<cLine) (hv:(PV.lst (es.map a4)).Is w.params F v) (hu:(PV.lst (es.map a4)).Is w.params F u):T w A F (compareOp .NotEq v u) G G (fun F v=>(PV.bool false).Is w.params F v):=T.of fun F1 s h k Q E H l S q=>by
  obtain⟨a,vs,n,rfl,fa,pvs⟩:=PV.Is.mono l hv
  obtain⟨b,us,m,rfl,fb,qvs⟩:=PV.Is.mono l hu
  have ha:=S.sub _ _ fa
  have hb:=S.sub _ _ fb
  refine richCompare_meets_room (s:=sh s h k) (op:=.NotEq) ⟨_,ha,rfl⟩ ⟨_,hb,rfl⟩ PySem.F.slot_list_ne PySem.F.entry_list_ne (PySem.F.args_list_ne_2 _ _) (PySem.SeqAt.list_neAt a b vs.toArray us.toArray n m none none #[] #[] (by rw [List.size_toArray,List.size_toArray,pvs.length,qvs.length]) (fun xx=>true))
    ⟨ha,hb,fun j h1 h2=>by simpa using ML (A':=A.in1) (s:=s) (k:=k) S (by show A.units+1<cLine;omega) pvs qvs j (by simpa using h1) (by simpa using h2),(fun x=>nomatch x),?_⟩ (by omega)
  have e:(List.range vs.toArray.size).all (fun xx=>true)=true:=List.all_eq_true.mpr fun xx xx=>rfl
  rw [e]
  exact q _ h k (.refl _) rfl
theorem MW (hu0:A.units+64<cLine) (hv:(PV.lst []).Is w.params F v) (hu:(PV.lst []).Is w.params F u):T w A F (compareOp .Eq v u) G G (fun F v=>(PV.bool true).Is w.params F v):=T.of fun F1 s h k Q E H l S q=>by
  obtain⟨a,vs,n,rfl,fa,pvs⟩:=PV.Is.mono l hv
  obtain⟨b,us,m,rfl,fb,qvs⟩:=PV.Is.mono l hu
  have e1:=pvs.cT
  have e2:=qvs.cT
  subst e1 e2
  exact ke_eq_ints (s:=sh s h k) (ns:=[]) (ms:=[]) ⟨_,S.sub _ _ fa,rfl,n,rfl⟩ ⟨_,S.sub _ _ fb,rfl,m,rfl⟩ .nil .nil hu0 (q _ h k (.refl _) rfl)
end
structure N1 (e:lA):Prop where
  bat:e.number≠6→e.bat=none
  bid:e.number≠7→e.bid=none
theorem t7 {q a b:Addr×PO} {Γ:Led}:(q::a::b::Γ).Perm (b::q::a::Γ):=List.perm_middle (l₁:=[q,a])
theorem IF (o:Option Nat):(oN o).plain=true:=by cases o <;> rfl
theorem IE (o:Option (List UInt8)):(oB o).plain=true:=by cases o <;> rfl
inductive ScI (x:List UInt8) (ks:List (List UInt8)) (es:List lA) (L fl d:Addr) (G:Led) (rest:List PV) (G':Led):Prop
  | mk (dn:List lA) (rs:List lA) (ρ:List (Str×PV)) (q0:es=dn++rs) (q1:rest=rs.map d8) (q2:G'=(L,.frame ρ)::(fl,.list (dn.map a4))::(d,.dB (a7 (cnt ks x).2))::G) (q3:Look ρ "found" (.val (.ref fl)))
section
variable {w:World} {A:Around} {G:Led} {F:FM} {vs:List Value} {x:List UInt8} {d:Addr} {ks:List (List UInt8)}
set_option maxHeartbeats 8000000 in
theorem lH (R:Rm A 3) (hk:ks.length≤1000) (hx:x.length≤100000) (pv:aS w.params F [hash d,.bytes x] vs) :
    T w A F (call (.ref 416) vs) ((d,.dB (a7 ks))::G) ((d,.dB (a7 (bM ks x)))::G) (fun F v=>(PV.bytes (signed ks x)).Is w.params F v):=by
  obtain⟨v0,v1,rfl,p0,p1⟩:=pv.two
  refine T.fn (fn416 _) R.room.room (fun s X=>@KI w s X v0 v1) pv nd416 lc416 nc416 fun L=>?_
  have R':=R.deeper (aT (aK 46) "_law_signed" 416 (fun xx=>[]) (.ref 415) L)
  refine XS.ret (p:=.bytes (signed ks x)) (Ev.bin (p:=.bytes x) (q:=.bytes (dig ks x)) (by walk_at "ev") (cH (fa:=159) (C:=162) (xs:=["size","known"]) (ps:=[.int (4:Nat),.val (.ref d)]) (by walk_at "ev") sV.inst (by kernel_rfl) rfl (by walk_at "evs") (by rfl) (by rfl) fun vs F' pvs =>
      TX.c5 (p7 (ks:=ks) (x:=x) R' hk pvs) nY nY.symm) fun v u F hv hu=>aH (by simp [dig,aJ];omega) hv hu) (by exact bI.ret ⟨rfl,rfl⟩)
set_option maxHeartbeats 8000000 in
theorem lF (R:Rm A 10) (hx:x.length≤100000) (hk:ks.length≤1000) (hf:∀ n,(cnt ks x).1=some n→gB (x.take (x.length - 4)) n 12 []) (hp:scanP ks x=none) (pv:aS w.params F [.bytes x,hash d] vs) :
    T w A F (call (.ref 423) vs) ((d,.dB (a7 ks))::G) ((d,.dB (a7 (cnt ks x).2))::G) (fun F v=>(PV.bool true).Is w.params F v):=by
  obtain⟨v0,v1,rfl,p0,p1⟩:=pv.two
  refine T.fn (fn423 _) R.room.room (fun s X=>@KJ w s X v0 v1) pv nd423 lc423 nc423 fun L=>?_
  have R':=R.deeper (aT (aK 47) "_law_is_refused" 423 (fun xx=>[]) (.ref 422) L)
  refine XS.aE (p:=.bool false) rfl rfl rfl rfl (by walk_at "ev") ?_
  refine XS.cons (XT.try1 (eH _) cF.deeper rfl (fun A G=>by walk_at "ev") ?_)
  refine XS.cons (XT.tU (TX.imp (TX.call (by walk_at "ev") (aB (by kernel_rfl)) (aU.cons (by walk_at "ev") (aU.cons (by walk_at "ev") (aU.cons (p:=tC) (Ev.aQ (by walk_at "ev") (aB (by kernel_rfl)) (by walk_at "evs") (by rfl) fun vs F' pvs=>by
      cases pvs.cT
      exact xC (by kernel_rfl) (by kernel_rfl)) aU.nil (by rfl)) (by rfl)) (by rfl)) (by rfl) fun vs F' pvs=>TX.B3 (oA (ks:=ks) (x:=x) (d:=d) R'.less hx hk hf pvs) nY nY.symm) (fun G' F v l h=>?_) fun C c p G' h=>?_) rfl rfl)
  · obtain⟨p,pv,rfl,es,e,rfl⟩:=h
    rw [hp] at e;cases e
  · obtain⟨rfl,rfl,rfl,e⟩:=h
    refine⟨rfl,fun e1=>XS.pre ?_ (Drop.fst rfl)⟩
    refine XS.aE (p:=.bool true) rfl rfl rfl rfl (by walk_at "ev") (XS.nil ?_)
    show XS _ _ _ _ _ _
    exact XS.kX (by walk_at "ev") (by exact⟨_,_,Drop.refl _,rfl,rfl⟩)
set_option maxHeartbeats 8000000 in
theorem tQ (R:Rm A 10) (hx:x.length≤100000) (hk:ks.length≤1000) (hf:∀ n,(cnt ks x).1=some n→gB (x.take (x.length - 4)) n 12 []) {es:List lA} (hp:scanP ks x=some es) (ho:∀ e∈es,N1 e) (hl:es.length≤1000) (pv:aS w.params F [.bytes x,hash d] vs) :
    T w A F (call (.ref 430) vs) ((d,.dB (a7 ks))::G) ((d,.dB (a7 (cnt ks x).2))::G) (fun F v=>(PV.lst (es.map a4)).Is w.params F v):=by
  obtain⟨v0,v1,rfl,p0,p1⟩:=pv.two
  refine T.fn (fn430 _) R.room.room (fun s X=>@KL w s X v0 v1) pv nd430 lc430 nc430 fun L=>?_
  have R':=R.deeper (aT (aK 48) "_law_scanned" 430 (fun xx=>[]) (.ref 429) L)
  refine XS.cons (XT.dY (o:=.list []) (cR aU.nil (by simp)) (fun fl=>?_) rfl rfl rfl)
  refine XS.cons (XT.DJ (ps:=es.map d8) (ScI x ks es L fl d G)
    (TX.imp (TX.call (by walk_at "ev") (aB (by kernel_rfl)) (aU.cons (by walk_at "ev") (aU.cons (by walk_at "ev") (aU.cons (p:=tC) (Ev.aQ (by walk_at "ev") (aB (by kernel_rfl)) (by walk_at "evs") (by rfl) fun vs F' pvs=>by
      cases pvs.cT
      exact xC (by kernel_rfl) (by kernel_rfl)) aU.nil (by rfl)) (by rfl)) (by rfl)) (by rfl) fun vs F' pvs=>TX.B3 (oA (ks:=ks) (x:=x) (d:=d) R'.less hx hk hf pvs) t7 t7.symm) (fun G' F v l h=>?_) fun C c p G' h=>?_) cF.deeper rfl (fun xx=>rfl) (fun p rest G' I v F' hv=>?_) fun G' I=>?_)
  · obtain⟨p,pv,rfl,es',e,rfl⟩:=h
    rw [hp] at e;cases e
    exact⟨cV R'.quiet pv,[],es,_,rfl,rfl,rfl,.head⟩
  · obtain⟨rfl,rfl,rfl,e⟩:=h
    rw [hp] at e;cases e
  · obtain⟨dn,rs,ρ,e,er,rfl,lk⟩:=I
    cases rs with
    | nil=>cases er
    | cons t rs =>
      simp only [List.map_cons,List.cons.injEq] at er
      obtain⟨rfl,rfl⟩:=er
      have hlen:=congrArg List.length e
      simp only [List.length_append,List.length_cons] at hlen
      have tok:=ho t (by rw [e];simp)
      refine TX.imp (cD (env:=aT (aK 48) "_law_scanned" 430 (fun xx=>[]) (.ref 429) L) hv rfl rfl) (fun G' F v l h=>?_) fun xx xx xx xx h=>h
      subst h
      show XS _ _ _ _ ((L,.frame (("it",d8 t)::ρ))::_) _
      refine XS.aE (p:=oN t.bat) rfl rfl rfl rfl (Ev.tW (b:=decide (t.number=6)) (Tr.cmp (p:=.int t.number) (q:=.int (6:Nat)) (by walk_at "ev") (by walk_at "ev") (fun v u F hv hu=>d7 hv hu) (by rfl)) (fun h=>bA (C:=294) (xs:=xS) (ps:=[.int t.pl,.int t.number,.int t.size,oN t.bat,oB t.bid,.bytes t.oc,.int t.behind]) (by walk_at "ev") (by kernel_rfl) rfl (IF _) rfl) fun h=>by
        rw [tok.bat (of_decide_eq_false h)];exact Ev.none) ?_
      refine XS.aE (p:=oB t.bid) rfl rfl rfl rfl (Ev.tW (b:=decide (t.number=7)) (Tr.cmp (p:=.int t.number) (q:=.int (7:Nat)) (by walk_at "ev") (by walk_at "ev") (fun v u F hv hu=>d7 hv hu) (by rfl)) (fun h=>bA (C:=294) (xs:=xS) (ps:=[.int t.pl,.int t.number,.int t.size,oN t.bat,oB t.bid,.bytes t.oc,.int t.behind]) (by walk_at "ev") (by kernel_rfl) rfl (IE _) rfl) fun h=>by
        rw [tok.bid (of_decide_eq_false h)];exact Ev.none) ?_
      refine XS.cons (XT.append (p:=a4 t) (by walk_at "ev") (aU.cons (Ev.tuple (aU.cons (by walk_at "ev") (aU.cons (by walk_at "ev") (aU.cons (by walk_at "ev") (aU.cons (by walk_at "ev") (aU.cons (by walk_at "ev") (aU.cons (p:=.bytes t.oc) (Ev.aQ (by walk_at "ev") aV (by walk_at "evs") (by rfl) fun vs F' pvs=>by
          obtain⟨v,rfl,hv⟩:=pvs.bH
          exact tY hv) (aU.cons (by walk_at "ev") aU.nil (by rfl)) (by rfl)) (by rfl)) (by rfl)) (by rfl)) (by rfl)) (by rfl)) (by simp)) aU.nil (by rfl)) (i:=1) rfl (j:=1) rfl (by rw [List.length_map];omega) ?_ rfl rfl rfl rfl)
      refine XS.nil ⟨dn++[t],rs,_,by rw [e];simp,rfl,(by rw [show(dn++[t]).map a4=dn.map a4++[a4 t] by simp];rfl),?_⟩
      walk_at "look"
  · obtain⟨dn,rs,ρ,e,er,rfl,lk⟩:=I
    cases rs with
    | cons t rs=>cases er
    | nil =>
      rw [List.append_nil] at e
      subst e
      show XS _ _ _ _ _ _
      exact XS.jC rfl rfl lk ⟨_,_,Drop.refl _,rfl,rfl⟩ (by decide)
end
noncomputable abbrev aI (cs:List Int) (t:Nat):PO:=.list [.lst (cs.map .int),.int (t:Nat)]
section
variable {w:World} {A:Around} {env:Env} {G G0 Γ:Led} {F:FM} {vs:List Value} {a:Addr} {cs:List Int} {t below:Nat} {N:PV→Led→Prop} {x:Str} {np pos:Pos} {es:List Expr} {v u:Value} {b:List UInt8} {n:Nat}
theorem aX.draw (pre:Led) (hG:G0=pre++(a,aI cs t)::Γ) (hf:Ev w A env G0 (.Name x np) (.val (.ref 362)) G0) (ha:aU w A env G0 pos es [.val (.ref a),.int (below:Nat)] G0) (hp:(backTo pos (starEach es env)).any (fun xx=>xx.1)=false) (R:Rm A 1) (hc:cs.length≤1000) (ht:t≤1000000) (hb:0<below) (hb2:below<1000000)
    (n:∀ r,r<below→N (.int (r:Nat)) (pre++(a,aI cs (t+1))::Γ)):aX w A env G0 (.Call (.Name x np) es [] pos) N :=
  aX.call hf (aB (by kernel_rfl)) (TX.imp (T.x ha) (fun G' F v l h=>⟨_,h.2,fun vs F' pvs=>by
    rw [h.1,hG]
    refine TX.pre (TX.gH (O6 (G:=pre++Γ) R hc ht hb hb2 pvs) (fun G'' F'' v l h=>?_) fun _ _ _ _ (h:False)=>h.elim) fun F2 h H S=>S.perm (List.perm_middle.append_right H)
    obtain⟨p,pv,rfl,r,hr,rfl⟩:=h
    exact⟨pre++(a,aI cs (t+1))::Γ,⟨_,pv,n r hr⟩,fun F2 h2 H S=>S.perm (List.perm_middle.symm.append_right H)⟩⟩) fun xx xx xx xx h=>h) hp
theorem TX.BH {f:Value} {N:Led→FM→Value→Prop} {X:Addr→Value→PV→Led→Prop} (hf:Ev w A env G (.Name x np) (.val f) G) (hk:cU w f) (ha:aL w A env G pos es (fun ps G1=>∀ vs F',aS w.params F' ps vs→TX w A F' (PySem.call f vs) G1 N X)) (hp:(backTo pos (starEach es env)).any (fun xx=>xx.1)=false) :
    TX w A F0 (eval (.Call (.Name x np) es [] pos) env) G N X:=fun F1 H s h k Q E l S q y =>
  wpAny_Call_ofName (hf F1 H s h k _ E l S (fun v F' h' k' G' l' S' n=>by
    obtain⟨rfl,pv⟩:=n
    cases pv
    refine callWith_of (P:=fun h=>(KF w.params).In h) (by rw [hp];rfl) hk ?_
    refine cN hp (ha F' H s h' k' _ E (Le.zero _) S' (fun vs F2 h2 k2 G2 l2 S2 n=>?_) fun e C c p F' h' k' G' l' S' n=>n.elim)
    obtain⟨ps,pv,n⟩:=n
    exact⟨S2.kf,n vs F2 pv F2 H s h2 k2 Q E (.refl _) S2 (fun a F'' h'' k'' G'' l''=>q a F'' h'' k'' G'' ((l'.trans l2).trans l'')) fun e C c p F'' h'' k'' G'' l''=>y e C c p F'' h'' k'' G'' ((l'.trans l2).trans l'')⟩) fun e C c p F' h' k' G' l' S' n=>n.elim)
theorem M4 (hb:b.length=1) (hn:n≤1000) (hv:(PV.bytes b).Is w.params F v) (hu:(PV.int n).Is w.params F u):T w A F (binaryOp .Mult v u) G G (fun F v=>(PV.bytes ((List.replicate n b).flatten)).Is w.params F v):=T.f9 fun F1 s Q E l q=>by
  obtain⟨_,rfl⟩:=hv;obtain⟨_,rfl⟩:=hu
  refine bytes_mul_any (by intro z;subst z;cases hb) (by omega) (by omega) (by omega) fun t' k=>q _ _ ⟨t',?_⟩
  rw [Int.toNat_natCast]
theorem B5 (b:List UInt8) (hb:b.length=1):∀ n,((List.replicate n b).flatten).length=n
  | 0=>rfl
  | n+1=>by rw [List.replicate_succ,List.flatten_cons,List.length_append,B5 b hb n,hb];omega
inductive OcN (a:Addr) (cs:List Int) (t:Nat) (G:Led) (p:PV) (G':Led):Prop
  | mk (t':Nat) (oc:List UInt8) (q0:t'≤t+100) (q1:G'=(a,aI cs t')::G) (q2:p=.bytes oc) (q3:oc.length≤430)
inductive OcI (L a:Addr) (cs:List Int) (t:Nat) (G:Led) (rest:List PV) (acc:List PV) (Γ:Led):Prop
  | mk (t':Nat) (bs:List Nat) (q0:Γ=(L,.frame [(Str.ofString "most",.int (18:Nat))])::(L+1,.cell (.val (.ref a)))::(a,aI cs t')::G) (q1:acc=nums bs) (q2:(∀ b∈bs,b<256)) (q3:bs.length+rest.length≤18) (q4:t'+rest.length≤t+50)
set_option maxHeartbeats 8000000 in
theorem E4 (R:Rm A 2) (hc:cs.length≤1000) (ht:t≤900000) (pv:aS w.params F [.val (.ref a),.int (18:Nat)] vs) :
    TX w A F (call (.ref 395) vs) ((a,aI cs t)::G) (fun G' F' v=>∃ p:PV,p.Is w.params F' v∧OcN a cs t G p G') bG:=by
  obtain⟨v0,v1,rfl,p0,p1⟩:=pv.two
  refine TX.imp (TC.fnC (ρ:=[(Str.ofString "most",.int (18:Nat))]) (N:=(OcN a cs t G)) (X:=bG) (cs:=fun n=>[(Str.ofString "deck",n+1)])
    (fun xx=>some (.val (.ref a))) (fn395 _) R.room.room (LG _ _ _) (fun n=>?_) (fun n=>by rfl) (fun x p lk=>?_) (fun L nc hm=>?_) fun L oc hoc=>?_).call (fun G' F' v l h=>h) fun xx xx xx xx h=>h
  · intro x hx
    rcases List.mem_cons.mp hx with rfl | hx
    · exact .inr ⟨by rfl,by rfl⟩
    · rcases List.mem_cons.mp hx with rfl | hx
      · exact .inl (by rfl)
      · cases hx
  · cases lk with
    | head=>exact⟨v1,by rfl,p1⟩
    | tail _ lk=>cases lk
  · rcases List.mem_cons.mp hm with rfl | hm
    · exact⟨by rfl,v0,by rfl,p0⟩
    · cases hm
  · have R':=R.deeper (aT (aK 43) "_law_octets" 395 (fun n=>[(Str.ofString "deck",n+1)]) (.ref 394) L)
    show XS _ _ _ _ ((L,.frame [(Str.ofString "most",.int (18:Nat))])::(L+1,.cell (.val (.ref a)))::(a,aI cs t)::G) _
    refine XS.cons (XT.ifN (N2.cmp (aX.draw [_,_] rfl (below:=9) (by walk_at "ev") (by walk_at "evs") (by rfl) R' hc (by omega) (by decide) (by decide) fun r hr=>?_) (by rfl)))
    refine aX.of (p:=.int (0:Nat)) (by walk_at "ev") fun v u F hv hu=>T.asB (d7 hv hu) ?_
    by_cases h0:r=0
    · rw [if_pos (by simpa using h0)]
      show XS _ _ _ _ ((L,.frame [(Str.ofString "most",.int (18:Nat))])::(L+1,.cell (.val (.ref a)))::(a,aI cs (t+1))::G) _
      refine XS.cons (XT.NL (aX.bin (aX.call (by walk_at "ev") aV (aL.cM (aX.list (aL.cM (aX.draw [_,_] rfl (below:=256) (by walk_at "ev") (by walk_at "evs") (by rfl) R' hc (by omega) (by decide) (by decide) fun r1 hr1=>aL.nil ⟨by simp,?_⟩) (by rfl))) (by rfl)) (by rfl))))
      refine aL.nil fun vs F pvs=>?_
      obtain⟨v,rfl,hv⟩:=pvs.bH
      refine T.pJ (bV (ns:=[r1]) R'.quiet (by simpa using hr1) (by simp) hv) ?_
      show aX _ _ _ ((L,.frame [(Str.ofString "most",.int (18:Nat))])::(L+1,.cell (.val (.ref a)))::(a,aI cs (t+1+1))::G) _ _
      refine aX.bin (aX.of (p:=.int (130:Nat)) (by walk_at "ev") ?_)
      refine aX.draw [_,_] rfl (below:=300) (by walk_at "ev") (by walk_at "evs") (by rfl) R' hc (by omega) (by decide) (by decide) fun r2 hr2 v u F hv hu=>T.pJ (bF hv hu) fun v u F hv hu=>T.pJ (M4 (n:=130+r2) rfl (by omega) hv hu) ?_
      exact⟨_,_,Drop.snd rfl,t+1+1+1,_,by omega,rfl,rfl,by rw [B5 _ rfl];omega⟩
    · rw [if_neg (by simpa using h0)]
      refine XS.nil ?_
      show XS _ _ _ _ ((L,.frame [(Str.ofString "most",.int (18:Nat))])::(L+1,.cell (.val (.ref a)))::(a,aI cs (t+1))::G) _
      refine XS.cons (XT.NL (aX.call (by walk_at "ev") aV (aL.cM (TX.imp (mQ (OcI L a cs t G)
        (TX.BH (by walk_at "ev") aV (aL.cM (aX.draw [_,_] rfl (below:=19) (by walk_at "ev") (aU.cons (by walk_at "ev") (aU.cons (p:=.int (18+1:Nat)) (by walk_at "ev") aU.nil (by rfl)) (by rfl)) (by rfl) R' hc (by omega) (by decide) (by decide) fun r1 hr1=>aL.nil fun vs F' pvs=>?_) (by rfl)) (by rfl)) (fun xx=>rfl) (by rfl) (by rfl) (by decide) (by decide) (by rfl) (fun p rest acc Γ C xx I=>?_)) (fun G' F v l h=>?_) fun xx xx xx xx h=>h) (by rfl)) (by rfl)))
      · obtain⟨v,rfl,hv⟩:=pvs.bH
        refine TX.imp (xD R'.quiet (by omega) hv) (fun G' F v l h=>?_) fun xx xx xx xx h=>h
        refine⟨upTo r1,by simp [upTo];omega,h.2,t+1+1,[],h.1,rfl,by simp,by simp [upTo];omega,by simp [upTo];omega⟩
      · obtain⟨t',bs,rfl,rfl,hb,hl,ht'⟩:=I
        simp only [List.length_cons] at hl ht'
        refine nZ fun F' l=>?_
        refine TX.imp (aX.draw [_,_,_] rfl (below:=256) (N:=fun p G'=>∃ ρ Γ,G'=(C,.frame ρ)::Γ∧OcI L a cs t G rest (nums bs++[p]) Γ) (by walk_at "ev") (by walk_at "evs") (by rfl) R' hc (by omega) (by decide) (by decide) fun r1 hr1=>?_) (fun G' F v l h=>?_) fun xx xx xx xx h=>h
        · refine⟨_,_,rfl,t'+1,bs++[r1],rfl,cA _ _,fun b hb'=>?_,by rw [List.length_append,List.length_singleton];omega,by omega⟩
          rcases List.mem_append.mp hb' with z | z
          · exact hb b z
          · rw [List.mem_singleton] at z;omega
        · obtain⟨q,pq,ρ,Γ,rfl,I⟩:=h
          exact⟨q,ρ,Γ,pq,rfl,I⟩
      · obtain⟨acc,⟨t',bs,rfl,rfl,hb,hl,ht'⟩,pv⟩:=h
        refine⟨_,pv,aL.nil fun vs F pvs=>?_⟩
        obtain⟨v,rfl,hv⟩:=pvs.bH
        simp only [List.length_nil] at hl ht'
        refine T.pJ (bV (ns:=bs) R'.quiet hb (by omega) hv) ?_
        exact⟨_,_,Drop.snd rfl,t',_,by omega,rfl,rfl,by rw [aM];omega⟩
end
section
variable {w:World} {A:Around} {env:Env} {G G' G1 G2 Γ:Led} {P:Out→Prop} {pos pos' cpos np tpos apos:Pos} {e l r t value slice arg:Expr} {es elts:List Expr} {ss:List Stmt} {x name:Str} {p q:PV} {ps:List PV} {ρ:List (Str×PV)} {F:FM} {f:Value} {N N':PV→Led→Prop} {a C dx:Addr} {xs:List Str}
theorem B8 {Ty id:String} {N:Led→FM→Value→Prop} {X:Addr→Value→PV→Led→Prop} (ho:Ev w A env G value p G1) (hl:typeLookup (.type Ty) "__getitem__"=pure (some (.builtin id)))
    (hi:aX w A env G1 slice (fun q G2=>(∀ v F1 h H,p.Is w.params F1 v→Sb w A F1 h (G2++H)→∀ s:Shared,s.heap=h→s.TypeIs v Ty)∧∀ v u F',p.Is w.params F' v→q.Is w.params F' u→TX w A F' (getItem v u) G2 N X)) (hs:∀ o i,subscripted slice false o i=operate [o,i] (getItem o i)) :
    TX w A F0 (eval (.Subscript value slice pos) env) G N X:=fun F1 H s h k Q E l S q0 y=>by
  refine Subscript_ (ho F1 H s h k _ E (Le.zero _) S (fun v F' h' k' G' l' S' n=>?_) fun e C c p F' h' k' G' l' S' n=>n.elim)
  obtain⟨rfl,pv⟩:=n
  refine hi F' H s h' k' _ E (Le.zero _) S' (fun u F'' h'' k'' G' l'' S'' n=>?_) fun e C c p F' h' k' G' l' S' n=>n.elim
  obtain⟨q,pu,hT,hg⟩:=n
  refine CB (M:=MM w) (hT v F'' h'' H (pv.mono l'') S'' _ rfl) hl (hg v u F'' (pv.mono l'') pu F'' H s h'' k'' Q E (.refl _) S'' (fun a F3 h3 k3 G3 l3=>q0 a F3 h3 k3 G3 ((l'.trans l'').trans l3)) fun e C c p F3 h3 k3 G3 l3=>y e C c p F3 h3 k3 G3 ((l'.trans l'').trans l3)) (hs v u)
theorem aX.tX (ho:Ev w A env G value (.lst ps) G1) (hi:aX w A env G1 slice (fun q G2=>∃ i:Nat,q=.int (i:Nat)∧i<1000000∧∃ p,ps[i]?=some p∧N p G2)) (hs:∀ o i,subscripted slice false o i=operate [o,i] (getItem o i)):aX w A env G (.Subscript value slice pos) N :=
  B8 (Ty:="list") ho slot_list_getitem.lookup (TX.imp hi (fun G' F v l ⟨q,pq,i,e,hi,p,hp,n⟩=>⟨q,pq,(fun v F1 h H pv S s hs=>by
    obtain⟨a,vs,n,rfl,fa,_⟩:=pv
    exact⟨_,by rw [hs];exact S.sub _ _ fa,rfl⟩),fun v u F' pv pu=>by
    subst e
    refine T.pJ (p:=p) (T.of fun F1 s h k Q E H l S q=>?_) n
    obtain⟨a,vs,n,rfl,fa,pvs⟩:=PV.Is.mono l pv;obtain⟨t',rfl⟩:=pu
    obtain⟨v,hv,hpv⟩:=pvs.get hp
    exact wpAny_getItem_list ⟨_,S.sub _ _ fa,rfl,n,rfl⟩ (by omega) (by omega) (by simpa using hv) (q v h k (.refl _) hpv)⟩) fun xx xx xx xx h=>h) hs
theorem aX.x8 {c:Addr} (ho:Ev w A env G value (.val (.ref c)) G1) (hi:aX w A env G1 slice (fun q G2=>∃ i:Nat,q=.int (i:Nat)∧i<1000000∧∃ (j:Nat) (ps:List PV) (p:PV),G2[j]?=some (c,PO.list ps)∧ps[i]?=some p∧N p G2)) (hs:∀ o i,subscripted slice false o i=operate [o,i] (getItem o i)):aX w A env G (.Subscript value slice pos) N :=
  B8 (Ty:="list") ho slot_list_getitem.lookup (TX.imp hi (fun G' F v l ⟨q,pq,i,e,hi,j,ps,p,hj,hp,n⟩=>⟨q,pq,(fun v F1 h H pv S s hs=>by
    cases pv
    obtain⟨vs,n,ha,_⟩:=(S.led _ (List.mem_append_left _ (List.mem_of_getElem? hj))).1
    exact⟨_,by rw [hs];exact ha,rfl⟩),fun v u F' pv pu F1 H s h k Q E l S q0 x=>by
    subst e
    cases pv;obtain⟨t',rfl⟩:=pu
    obtain⟨vs,n2,ha,pvs⟩:=(S.led _ (List.mem_append_left _ (List.mem_of_getElem? hj))).1
    obtain⟨v,hv,hpv⟩:=pvs.get hp
    exact wpAny_getItem_list ⟨_,ha,rfl,n2,rfl⟩ (by omega) (by omega) (by simpa using hv) (q0 v F1 h k _ (.refl _) S ⟨p,hpv,n⟩)⟩) fun xx xx xx xx h=>h) hs
theorem yU {N:Led→FM→Value→Prop} {X:Addr→Value→PV→Led→Prop} {Ty id:String} (ho:Ev w A env G value p G1) (pa:PlainAttrs Ty) (slot:Slot Ty name id) (hty:typeOf (.builtin id)=pure (.type "method_descriptor"))
    (hT:∀ v F1 h H,p.Is w.params F1 v→Sb w A F1 h (G1++H)→(∀ s:Shared,s.heap=h→s.TypeIs v Ty)∧∀ a,v=.ref a→∃ o,h.get? a=some o∧o.dict=none)
    (ha:aL w A env G1 pos es (fun as G2=>∀ v vs F',p.Is w.params F' v→aS w.params F' as vs→TX w A F' (PySem.call (.builtin id) (v::vs)) G2 N X)) (hp:(backTo pos (starEach es env)).any (fun xx=>xx.1)=false) {pl:Sem Bool}
    (he:eval (.Call (.Attribute value name apos) es [] pos) env=(do
      let ov ← eval value env
      standAt apos.atName
      let (f,first) ← holding [ov] (getMethod ov name pl)
      callWith pos f first (backTo pos (starEach es env)) (backToKw pos (keywordEach [] env)))):TX w A F0 (eval (.Call (.Attribute value name apos) es [] pos) env) G N X:=fun F1 H s h k Q E l S q0 y=>by
  refine methodCall_KW (pl:=pl) (ho F1 H s h k _ E l S (fun v F' h' k' G' l' S' n=>?_) fun e C c p F' h' k' G' l' S' n=>n.elim) he
  obtain⟨rfl,pv⟩:=n
  obtain⟨h1,h2⟩:=hT v F' h' H pv S'
  refine getMethod_builtin (h1 _ rfl) pa slot hty h2 ?_
  refine callWith_of (P:=fun h=>(KF w.params).In h) (by rw [hp];rfl) dM ?_
  refine cN hp (ha F' H s h' k' _ E (Le.zero _) S' (fun vs F2 h2 k2 G2 l2 S2 n=>?_) fun e C c p F' h' k' G' l' S' n=>n.elim)
  obtain⟨as,pvs,n⟩:=n
  exact⟨S2.kf,n v vs F2 (pv.mono l2) pvs F2 H s h2 k2 Q E (.refl _) S2 (fun a F'' h'' k'' G'' l''=>q0 a F'' h'' k'' G'' ((l'.trans l2).trans l'')) fun e C c p F'' h'' k'' G'' l''=>y e C c p F'' h'' k'' G'' ((l'.trans l2).trans l'')⟩
theorem XT.lB {i:Nat} {qs:List PV} (hf:Ev w A env G value (.val (.ref a)) G1) (hi:G1[i]?=some (a,.list qs)) (ha:aX w A env G1 arg (fun p G2=>∃ (j:Nat) (ps:List PV),G2[j]?=some (a,PO.list ps)∧ps.length≤1000000∧P (.next (G2.set j (a,.list (ps++[p]))))))
    (hst:starEach [arg] env=(false,eval arg env)::starEach [] env) (hp:(backTo cpos (starEach [arg] env)).any (fun xx=>xx.1)=false) {pl:Sem Bool}
    (hc:eval (.Call (.Attribute value "append" apos) [arg] [] cpos) env=(do
      let ov ← eval value env
      standAt apos.atName
      let (f,first) ← holding [ov] (getMethod ov "append" pl)
      callWith cpos f first (backTo cpos (starEach [arg] env)) (backToKw cpos (keywordEach [] env))))
    (hin:interactive env=false) (hs:swapsWith (.Call (.Attribute value "append" apos) [arg] [] cpos) none pos.line env=pure false):XT w A env (.Expr (.Call (.Attribute value "append" apos) [arg] [] cpos) pos) G P :=
  XT.tU (TX.imp (yU (Ty:="list") (id:="list.append") (N:=fun G' F v=>v=.none∧P (.next G')) (X:=bG) hf PySem.F.plainAttrs_list slot_list_append PySem.F.type_list_append (fun v F1 h H pv S=>by
      cases pv
      obtain⟨vs,n,ha,_⟩:=(S.led _ (List.mem_append_left _ (List.mem_of_getElem? hi))).1
      exact⟨fun s hs=>⟨_,by rw [hs];exact ha,rfl⟩,fun b e=>by cases e;exact⟨_,ha,rfl⟩⟩)
      (aL.cM (aX.imp ha fun p G2 ⟨j,ps,hj,hz,n⟩=>aL.nil fun v vs F' pv pvs=>by
        cases pv
        obtain⟨u,rfl,hu⟩:=pvs.bH
        exact TX.imp (T.x (nW hj hz hu)) (fun G' F v l h=>⟨h.2,by rw [h.1];exact n⟩) fun xx xx xx xx h=>h) hst) hp hc) (fun G' F v l h=>by
          obtain⟨rfl,h⟩:=h
          exact⟨fun a e=>(by cases e),h⟩) fun _ _ _ _ (h:False)=>h.elim) hin hs
end
noncomputable def a5 (r:Row):PV:=.tup [.bytes r.oid,.bytes (kindB r.kind),.bytes r.oc,oB r.base]
structure eU (r:Row):Prop where
  kind:r.kind<4
  oc:r.oc.length≤430
  oid:r.oid.length=4
  base:∀ b,r.base=some b→b.length=4
inductive LrN (a:Addr) (cs:List Int) (t:Nat) (G:Led) (p:PV) (G':Led):Prop
  | mk (t':Nat) (rows:List Row) (q0:t'≤t+1000) (q1:G'=(a,aI cs t')::G) (q2:p=.lst (rows.map a5)) (q3:(∀ r∈rows,eU r)) (q4:1≤rows.length) (q5:rows.length≤5)
inductive LrI (L rl a:Addr) (cs:List Int) (t:Nat) (G:Led) (rest:List PV) (G':Led):Prop
  | mk (t':Nat) (rows:List Row) (ρ:List (Str×PV)) (q0:G'=(L,.frame ρ)::(rl,.list (rows.map a5))::(a,aI cs t')::G) (q1:Look ρ "deck" (.val (.ref a))) (q2:Look ρ "rows" (.val (.ref rl))) (q3:(∀ p∈rest,∃ k:Nat,p=.int (k:Nat))) (q4:(∀ r∈rows,eU r)) (q5:1≤rest.length+rows.length) (q6:rest.length+rows.length≤4) (q7:t'+150*rest.length≤t+601)
inductive LrB (L rl a:Addr) (cs:List Int) (t':Nat) (ρ2:List (Str×PV)) (rows:List Row) (G:Led) (p:PV) (G':Led):Prop
  | mk (t2:Nat) (base:Option (List UInt8)) (q0:p=oB base) (q1:t2≤t'+4) (q2:(∀ b,base=some b→b.length=4)) (q3:G'=(L,.frame ρ2)::(rl,.list (rows.map a5))::(a,aI cs t2)::G)
section
variable {w:World} {A:Around} {env:Env} {G G0 Γ:Led} {F:FM} {vs:List Value} {a:Addr} {cs:List Int} {t below:Nat} {N:PV→Led→Prop} {x:Str} {np pos:Pos} {es:List Expr} {v u:Value} {b:List UInt8} {n:Nat}
set_option maxHeartbeats 8000000 in
theorem y6 (R:Rm A 3) (hc:cs.length≤1000) (ht:t≤800000) (pv:aS w.params F [.val (.ref a)] vs) :
    TX w A F (call (.ref 402) vs) ((a,aI cs t)::G) (fun G' F' v=>∃ p:PV,p.Is w.params F' v∧LrN a cs t G p G') bG:=by
  obtain⟨v0,rfl,p0⟩:=pv.bH
  refine TX.fn (N:=(LrN a cs t G)) (X:=bG) (fn402 _) R.room.room (fun s X=>@KG w s X v0) (.one p0) nd402 lc402 nc402 fun L=>?_
  have R':=R.deeper (aT (aK 44) "_law_rows" 402 (fun xx=>[]) (.ref 401) L)
  refine XS.cons (XT.dY (o:=.list []) (cR aU.nil (by simp)) (fun rl=>?_) rfl rfl rfl)
  show XS _ _ _ _ ((L,.frame [("rows",.val (.ref rl)),("deck",.val (.ref a))])::(rl,.list [])::(a,aI cs t)::G) _
  refine XS.cons (XT.N8 (LrI L rl a cs t G)
    (TX.BH (by walk_at "ev") aV (aL.cM (aX.bin (aX.of (p:=.int (1:Nat)) (by walk_at "ev") ?_)) (by rfl)) (by rfl)) cF.deeper rfl (fun xx=>rfl) (fun p rest G' I v F' hv=>?_) fun G' I=>?_)
  · refine aX.draw [_,_] rfl (below:=4) (by walk_at "ev") (by walk_at "evs") (by rfl) R'.less hc (by omega) (by decide) (by decide) fun r hr v u F hv hu=>T.pJ (bF hv hu) (aL.nil fun vs F pvs=>?_)
    obtain⟨v,rfl,hv⟩:=pvs.bH
    refine TX.imp (xD R'.quiet (by omega) hv) (fun G' F v l h=>?_) fun xx xx xx xx h=>h.elim
    refine⟨upTo (1+r),h.2,t+1,[],_,h.1,.tail (by decide) .head,.head,fun p hp=>?_,by simp,by simp [upTo],by simp [upTo];omega,by simp [upTo];omega⟩
    obtain⟨k,_,rfl⟩:=List.mem_map.mp hp
    exact⟨k,rfl⟩
  · obtain⟨t',rows,ρ,rfl,l1,l2,hk,hg,h1,h4,htt⟩:=I
    obtain⟨k,rfl⟩:=hk p (by simp)
    have hk:=fun q hq=>hk q (List.mem_cons_of_mem _ hq)
    simp only [List.length_cons] at h1 h4 htt
    refine TX.imp (cD (env:=aT (aK 44) "_law_rows" 402 (fun xx=>[]) (.ref 401) L) hv rfl rfl) (fun G' F v l h=>?_) fun xx xx xx xx h=>h
    subst h
    show XS _ _ _ _ ((L,.frame ((Str.ofString "k",.int (k:Nat))::ρ))::(rl,.list (rows.map a5))::(a,aI cs t')::G) _
    have l1:Look ((Str.ofString "k",.int (k:Nat))::ρ) "deck" (.val (.ref a)):=.tail (by decide) l1
    have l2:Look ((Str.ofString "k",.int (k:Nat))::ρ) "rows" (.val (.ref rl)):=.tail (by decide) l2
    revert l1 l2;refine gen (((Str.ofString "k",PV.int (k:Nat))::ρ)) fun ρ1 hρ=>?_;intro l1 l2
    have l0:Look ρ1 "k" (.int (k:Nat)):=hρ ▸ .head
    refine XS.cY (ns:=["oid","kind"]) R'.quiet rfl (by rfl) (by decide) rfl rfl (by decide) (aL.ev (p:=.bytes (be (4+3*k) 4)) (Ev.aQ (by walk_at "ev") (aB (by kernel_rfl)) (aU.cons (p:=.int (4+3*k:Nat)) (Ev.bin (p:=.int (4:Nat)) (q:=.int (3*k:Nat)) (by walk_at "ev") (Ev.bin (p:=.int 3) (q:=.int (k:Nat)) (by walk_at "ev") (by walk_at "ev") fun v u F hv hu=>yH (by decide) hv hu) fun v u F hv hu=>bF hv hu) (by walk_at "evs") (by rfl)) (by rfl) fun vs F' pvs=>bL R'.less pvs)
      ?_ (by rfl))
    refine aL.cM (aX.tX (Ev.list (ps:=[.bytes [99,111,109,109,105,116],.bytes [116,114,101,101],.bytes [98,108,111,98],.bytes [116,97,103]]) (by walk_at "evs") (by simp)) ?_ fun xx xx=>rfl) (by rfl)
    refine aX.draw [_,_] rfl (below:=4) (by walk_at "ev") (by walk_at "evs") (by rfl) R'.less hc (by omega) (by decide) (by decide) fun kd hkd=>⟨kd,rfl,by omega,.bytes (kindB kd),?_,aL.nil ⟨rfl,_,_,rfl,?_⟩⟩
    · show(([[99,111,109,109,105,116],[116,114,101,101],[98,108,111,98],[116,97,103]]:List (List UInt8)).map PV.bytes)[kd]?=_
      rw [List.getElem?_map,(by decide:∀ r:Fin 4,([[99,111,109,109,105,116],[116,114,101,101],[98,108,111,98],[116,97,103]]:List (List UInt8))[r.val]?=some (kindB r.val)) ⟨kd,hkd⟩];rfl
    · show XS _ _ _ _ ((L,.frame ((Str.ofString "kind",.bytes (kindB kd))::(Str.ofString "oid",.bytes (be (4+3*k) 4))::ρ1))::(rl,.list (rows.map a5))::(a,aI cs (t'+1))::G) _
      have l1:Look ((Str.ofString "kind",.bytes (kindB kd))::(Str.ofString "oid",.bytes (be (4+3*k) 4))::ρ1) "deck" (.val (.ref a)):=.tail (by decide) (.tail (by decide) l1)
      have l2:Look ((Str.ofString "kind",.bytes (kindB kd))::(Str.ofString "oid",.bytes (be (4+3*k) 4))::ρ1) "rows" (.val (.ref rl)):=.tail (by decide) (.tail (by decide) l2)
      have l3:Look ((Str.ofString "kind",.bytes (kindB kd))::(Str.ofString "oid",.bytes (be (4+3*k) 4))::ρ1) "oid" (.bytes (be (4+3*k) 4)):=.tail (by decide) .head
      have l4:Look ((Str.ofString "kind",.bytes (kindB kd))::(Str.ofString "oid",.bytes (be (4+3*k) 4))::ρ1) "kind" (.bytes (kindB kd)):=.head
      revert l1 l2 l3 l4;refine gen0 (((Str.ofString "kind",PV.bytes (kindB kd))::(Str.ofString "oid",PV.bytes (be (4+3*k) 4))::ρ1)) fun ρ2=>?_;intro l1 l2 l3 l4
      have ho:(be (4+3*k) 4).length=4:=aJ _ _
      revert l3 ho;refine gen0 (be (4+3*k) 4) fun oid=>?_;intro l3 ho
      refine XS.cons (XT.iW (aX.imp (N:=(LrB L rl a cs t' ρ2 rows G)) (aX.tW (N2.cmp (aX.draw [_,_] rfl (below:=2) (by walk_at "ev") (by walk_at "evs") (by rfl) R'.less hc (by omega) (by decide) (by decide) fun b hb=>aX.of (p:=.int (1:Nat)) (by walk_at "ev") fun v u F hv hu=>T.asB (d7 hv hu) ?_) (by rfl))) fun p G' ⟨t2,base,ep,ht2,hb,eG⟩=>?_) rfl rfl rfl)
      · by_cases h0:b=1
        · rw [if_pos (by simpa using h0)]
          show aX _ _ _ ((L,.frame ρ2)::(rl,.list (rows.map a5))::(a,aI cs (t'+1+1))::G) _ _
          refine aX.call (by walk_at "ev") (aB (by kernel_rfl)) (aL.cM (aX.bin (aX.of (p:=.int (4:Nat)) (by walk_at "ev") (aX.bin (aX.of (p:=.int (3:Nat)) (by walk_at "ev") ?_)))) (by rfl)) (by rfl)
          refine aX.draw [_,_] rfl (below:=5) (by walk_at "ev") (by walk_at "evs") (by rfl) R'.less hc (by omega) (by decide) (by decide) fun b2 hb2 v u F hv hu=>T.pJ (pU (by decide) (by omega) hv hu) fun v u F hv hu=>T.pJ (bF hv hu) (aL.nil fun vs F pvs=>T.pJ (bL R'.less pvs) ?_)
          exact⟨t'+1+1+1,some (be (4+3*b2) 4),rfl,by omega,(fun b e=>by cases e;exact aJ _ _),rfl⟩
        · rw [if_neg (by simpa using h0)]
          exact aX.of (p:=.none) Ev.none ⟨t'+1+1,none,rfl,by omega,(fun b e=>by cases e),rfl⟩
      · subst ep eG
        refine⟨_,_,rfl,?_⟩
        refine XS.cons (XT.iW (aX.call (by walk_at "ev") (aB (by kernel_rfl)) (aL.ev (by walk_at "ev") (aL.ev (p:=.int (18:Nat)) (by walk_at "ev") (aL.nil fun vs F pvs=>?_) (by rfl)) (by rfl)) (by rfl)) rfl rfl rfl)
        refine TX.pre (TX.gH (E4 (a:=a) (cs:=cs) (t:=t2) (G:=(L,.frame ((Str.ofString "base",oB base)::ρ2))::(rl,.list (rows.map a5))::G) R' hc (by omega) pvs) (fun G'' F'' v l h=>?_) fun _ _ _ _ (h:False)=>h.elim) fun F2 h H S=>S.perm (List.Perm.append_right H t7)
        obtain⟨p,pv,t3,oc,ht3,rfl,rfl,hoc⟩:=h
        refine⟨(L,.frame ((Str.ofString "base",oB base)::ρ2))::(rl,.list (rows.map a5))::(a,aI cs t3)::G,⟨_,pv,_,_,rfl,?_⟩,fun F2 h2 H S=>S.perm (List.Perm.append_right H t7.symm)⟩
        show XS _ _ _ _ ((L,.frame ((Str.ofString "octets",.bytes oc)::(Str.ofString "base",oB base)::ρ2))::(rl,.list (rows.map a5))::(a,aI cs t3)::G) _
        have key:∀ b',(b'=base∨b'=none)→PV.tup [.bytes oid,.bytes (kindB kd),.bytes oc,oB b']=a5 ⟨oid,kd,oc,b'⟩∧eU ⟨oid,kd,oc,b'⟩:=fun b' h=>⟨rfl,hkd,hoc,ho,fun b e=>by
          rcases h with rfl | rfl
          · exact hb b e
          · cases e⟩
        have l1:Look ((Str.ofString "octets",.bytes oc)::(Str.ofString "base",oB base)::ρ2) "deck" (.val (.ref a)):=.tail (by decide) (.tail (by decide) l1)
        have l2:Look ((Str.ofString "octets",.bytes oc)::(Str.ofString "base",oB base)::ρ2) "rows" (.val (.ref rl)):=.tail (by decide) (.tail (by decide) l2)
        have l3:Look ((Str.ofString "octets",.bytes oc)::(Str.ofString "base",oB base)::ρ2) "oid" (.bytes oid):=.tail (by decide) (.tail (by decide) l3)
        have l4:Look ((Str.ofString "octets",.bytes oc)::(Str.ofString "base",oB base)::ρ2) "kind" (.bytes (kindB kd)):=.tail (by decide) (.tail (by decide) l4)
        have l5:Look ((Str.ofString "octets",.bytes oc)::(Str.ofString "base",oB base)::ρ2) "octets" (.bytes oc):=.head
        have l6:Look ((Str.ofString "octets",.bytes oc)::(Str.ofString "base",oB base)::ρ2) "base" (oB base):=.tail (by decide) .head
        revert l1 l2 l3 l4 l5 l6;refine gen0 (((Str.ofString "octets",PV.bytes oc)::(Str.ofString "base",oB base)::ρ2)) fun ρ3=>?_;intro l1 l2 l3 l4 l5 l6
        have fin:∀ b',(b'=base∨b'=none)→LrI L rl a cs t G rest ((L,PO.frame ρ3)::(rl,PO.list (rows.map a5++[PV.tup [.bytes oid,.bytes (kindB kd),.bytes oc,oB b']]))::(a,aI cs t3)::G):=fun b' h=>by
          obtain⟨e1,e2⟩:=key b' h
          refine⟨t3,rows++[⟨oid,kd,oc,b'⟩],ρ3,by rw [e1];simp,l1,l2,hk,fun r hr=>?_,by simp;omega,by simp;omega,by omega⟩
          rcases List.mem_append.mp hr with z | z
          · exact hg r z
          · rw [List.mem_singleton] at z;subst z;exact e2
        refine XS.cons (XT.append (G2:=(L,.frame ρ3)::(rl,.list (rows.map a5))::(a,aI cs t3)::G) (ps:=rows.map a5) (p:=.tup [.bytes oid,.bytes (kindB kd),.bytes oc,oB (if base=some oid then none else base)]) (by walk_at "ev") (aU.cons (Ev.tuple (aU.cons (by walk_at "ev") (aU.cons (by walk_at "ev") (aU.cons (by walk_at "ev") (aU.cons (p:=oB (if base=some oid then none else base)) (Ev.tW (G1:=(L,.frame ρ3)::(rl,.list (rows.map a5))::(a,aI cs t3)::G) (b:=decide (base≠some oid)) ?_ (fun h=>?_) fun h=>?_) aU.nil (by rfl)) (by rfl)) (by rfl)) (by rfl)) (by simp)) aU.nil (by rfl)) (i:=1) rfl (j:=1) rfl (by rw [List.length_map];omega) ?_ rfl rfl rfl rfl)
        · cases base with
          | none=>exact a3 (Tr.cmp (p:=.none) (q:=.bytes oid) (by walk_at "ev") (by walk_at "ev") (fun v u F hv hu=>BX hv hu) (by rfl)) (by simp)
          | some b=>exact a3 (Tr.cmp (p:=.bytes b) (q:=.bytes oid) (by walk_at "ev") (by walk_at "ev") (fun v u F hv hu=>sF hv hu) (by rfl)) (by by_cases e:b=oid <;> simp [e])
        · rw [if_neg (of_decide_eq_true h)];walk_at "ev"
        · rw [if_pos (by simpa using h)];exact Ev.none
        · exact XS.nil (fin _ (by split <;> simp))
  · obtain⟨t',rows,ρ,rfl,l1,l2,hk,hg,h1,h4,htt⟩:=I
    simp only [List.length_nil,Nat.zero_add,Nat.mul_zero,Nat.add_zero] at h1 h4 htt
    show XS _ _ _ _ ((L,.frame ρ)::(rl,.list (rows.map a5))::(a,aI cs t')::G) _
    refine XS.cons (XT.ifN (N2.cmp (aX.draw [_,_] rfl (below:=4) (by walk_at "ev") (by walk_at "evs") (by rfl) R'.less hc (by omega) (by decide) (by decide) fun r hr=>?_) (by rfl)))
    refine aX.of (p:=.int (0:Nat)) (by walk_at "ev") fun v u F hv hu=>T.asB (d7 hv hu) ?_
    by_cases h0:r=0
    · rw [if_pos (by simpa using h0)]
      show XS _ _ _ _ ((L,.frame ρ)::(rl,.list (rows.map a5))::(a,aI cs (t'+1))::G) _
      refine XS.cons (XT.lB (i:=1) (by walk_at "ev") rfl (aX.x8 (by walk_at "ev") ?_ fun xx xx=>rfl) (by rfl) (by rfl) rfl rfl rfl)
      refine aX.draw [_,_] rfl (below:=rows.length) (by walk_at "ev") (aU.cons (by walk_at "ev") (aU.cons (p:=.int (rows.length:Nat)) (cC (p:=.int ((rows.map a5).length:Nat)) (uU (i:=1) (by walk_at "ev") (by walk_at "evs") (by rfl) rfl (by rw [List.length_map];omega)) (by rw [List.length_map])) aU.nil (by rfl)) (by rfl)) (by rfl) R'.less hc (by omega) (by omega) (by omega) fun r2 hr2=>?_
      refine⟨r2,rfl,by omega,1,rows.map a5,a5 rows[r2],rfl,by rw [List.getElem?_map,List.getElem?_eq_getElem hr2];rfl,1,rows.map a5,rfl,by rw [List.length_map];omega,XS.nil ?_⟩
      show XS _ _ _ _ ((L,.frame ρ)::(rl,.list (rows.map a5++[a5 rows[r2]]))::(a,aI cs (t'+1+1))::G) _
      rw [show rows.map a5++[a5 rows[r2]]=(rows++[rows[r2]]).map a5 by simp]
      exact XS.jC rfl rfl l2 ⟨_,_,Drop.refl _,t'+1+1,rows++[rows[r2]],by omega,rfl,rfl,(fun r hr=>(List.mem_append.mp hr).elim (hg r) fun z=>by rw [List.mem_singleton] at z;subst z;exact hg _ (List.getElem_mem _)),by simp,by simp;omega⟩ (by decide)
    · rw [if_neg (by simpa using h0)]
      refine XS.nil ?_
      show XS _ _ _ _ ((L,.frame ρ)::(rl,.list (rows.map a5))::(a,aI cs (t'+1))::G) _
      exact XS.jC rfl rfl l2 ⟨_,_,Drop.refl _,t'+1,rows,by omega,rfl,rfl,hg,h1,by omega⟩ (by decide)
end
section
variable {w:World} {A:Around} {env:Env} {G G0 G1 Γ:Led} {P:Out→Prop} {F:FM} {vs:List Value} {a c:Addr} {np pos apos dp cpos:Pos} {es:List Expr} {value arg e:Expr} {v u:Value} {b:List UInt8} {n j:Nat} {l:List (List UInt8)} {p:PV} {ps:List PV} {ρ:List (Str×PV)} {q:Addr×PO} {N:List PV→Led→Prop} {ss:List Stmt}
theorem pS {P:Params} {F:FM}:∀ {l:List (List UInt8)} {vs:List Value},aS P F (c9 l) vs→∀ i (h:i<vs.length) (h2:i<l.length),∃ t,vs[i]=.bytes l[i].toArray t
  | [],_,h,i,h1,h2=>by cases h2
  | x::l,_,h,i,h1,h2=>by
    obtain⟨v,vs,rfl,⟨t,rfl⟩,b⟩:=aS.aZ h
    cases i with
    | zero=>exact⟨t,rfl⟩
    | succ i=>exact pS b i (by simpa using h1) (by simpa using h2)
open PySem.SeqAt in
theorem H2 (hj:j<l.length) (he:l[j]=b) (hno:∀ m (hm:m<l.length),m<j→l[m]≠b) (hz:l.length≤1000) (hv:(PV.lst (c9 l)).Is w.params F v) (hu:(PV.bytes b).Is w.params F u) :
    T w A F (PySem.call (.builtin "list.index") [v,u]) G G (fun F v=>(PV.int (j:Nat)).Is w.params F v):=T.of fun F1 s h k Q E H l1 S q=>by
  obtain⟨t,rfl⟩:=hu
  obtain⟨a,vs,n,rfl,fa,pvs⟩:=PV.Is.mono l1 hv
  have ho:h.get? a=some (seqObj "list" vs n):=S.sub _ _ fa
  have hlen:vs.length=l.length:=by have:=pvs.length;rw [dA] at this;exact this
  refine call_meets PySem.F.slot_list_index ⟨_,ho,rfl⟩ PySem.F.entry_list_index (PySem.F.args_list_index_2 _ _)
    (list_indexAt a vs.toArray n none #[] (.bytes b.toArray t) (fun y=>match y with | .bytes c _=>decide (c.toList=b) | _=>false) j (by simpa [hlen] using hj) (by omega) ?_ ?_) ⟨ho,fun y hy=>?_,q _ h _ (.refl _) ⟨_,rfl⟩⟩
  · obtain⟨t2,e2⟩:=pS pvs j (by omega) hj
    show(match vs[j] with | .bytes c _=>decide (c.toList=b) | _=>false)=true
    rw [e2];simpa using he
  · intro m hm hlt
    have hm':m<vs.length:=by simpa using hm
    obtain⟨t2,e2⟩:=pS pvs m hm' (by omega)
    show(match vs[m] with | .bytes c _=>decide (c.toList=b) | _=>false)=false
    rw [e2];simpa using hno m (by omega) hlt
  · obtain⟨i,hi,rfl⟩:=List.getElem_of_mem (by simpa using hy:y∈vs)
    obtain⟨t2,e2⟩:=pS pvs i hi (by omega)
    rw [e2]
    intro prog w' E Q hq
    exact eqBool_bytes hq
theorem FA {pl:Sem Bool} (ho:Ev w A env G value (.lst (c9 l)) G) (ha:aU w A env G pos [arg] [.bytes b] G) (hj:j<l.length) (he:l[j]=b) (hno:∀ m (hm:m<l.length),m<j→l[m]≠b) (hz:l.length≤1000) (hp:(backTo pos (starEach [arg] env)).any (fun xx=>xx.1)=false)
    (hc:eval (.Call (.Attribute value "index" apos) [arg] [] pos) env=(do
      let ov ← eval value env
      standAt apos.atName
      let (f,first) ← holding [ov] (getMethod ov "index" pl)
      callWith pos f first (backTo pos (starEach [arg] env)) (backToKw pos (keywordEach [] env)))):Ev w A env G (.Call (.Attribute value "index" apos) [arg] [] pos) (.int (j:Nat)) G :=
  fG (Ty:="list") (id:="list.index") (p:=.lst (c9 l)) ho PySem.F.plainAttrs_list PySem.F.slot_list_index PySem.F.type_list_index (fun v F1 h H pv S=>by
    obtain⟨a,vs,n,rfl,fa,_⟩:=pv
    have ho:=S.sub _ _ fa
    exact⟨fun s hs=>⟨_,by rw [hs];exact ho,rfl⟩,fun a e=>by cases e;exact⟨_,ho,rfl⟩⟩) ha hp (fun v vs F' pv pvs=>by
    obtain⟨u,rfl,hu⟩:=pvs.bH
    exact H2 hj he hno hz pv hu) hc
theorem aL.dictB (hs:∀ a,aL w A env (q::(a,.dB [])::Γ) pos es (fun ps=>N (.val (.ref a)::ps))) (he:starEach (.Dict [] [] dp::es) env=(false,eval (.Dict [] [] dp) env)::starEach es env):aL w A env (q::Γ) pos (.Dict [] [] dp::es) N :=
  aL.cons (TX.gH sL (fun G' F v l n=>by
    obtain⟨a,rfl,rfl⟩:=n
    exact⟨_,⟨.val (.ref a),rfl,hs a⟩,fun F2 h H S=>S.perm (List.Perm.swap _ _ _)⟩) fun xx xx xx xx h=>h.elim) he
theorem XS.NM (ht:Ev w A env ((env.locals,.frame ρ)::(c,.list ps)::Γ) e (.tup [p,.val (.ref c)]) ((env.locals,.frame ρ)::(c,.list ps)::Γ)) (n:P (.ret (.tup [p,.lst ps]) ((env.locals,.frame ρ)::Γ))):XS w A env (.Return (some e) pos::ss) ((env.locals,.frame ρ)::(c,.list ps)::Γ) P :=
  XS.cons (XT.D3 (TX.DM (T.x ht) fun G' F' v h H l n1 S=>by
    obtain⟨rfl,hv⟩:=n1
    obtain⟨a,vs,m,rfl,fa,pvs⟩:=hv
    obtain⟨v0,v1,rfl,p0,p1⟩:=pvs.two
    cases p1
    obtain⟨F'',l2,S2,pv⟩:=c4 (S.perm (List.Perm.swap _ _ _))
    exact⟨_,F'',l2,S2,.tup [p,.lst ps],⟨a,_,m,rfl,l2 _ _ fa,.cons (p0.mono l2) (.one pv)⟩,n⟩))
end
noncomputable abbrev kL:List (List UInt8):=[[99,111,109,109,105,116],[116,114,101,101],[98,108,111,98],[116,97,103]]
theorem MG:∀ n<4,kL[n]?=some (kindB n):=by decide
theorem MH:∀ n<4,∀ m<n,kL[m]?≠some (kindB n):=by decide
inductive LpI (placed:Bool) (rows:List Row) (L kd tl:Addr) (G:Led) (rest:List PV) (G':Led):Prop
  | mk (dn:List Row) (rs:List Row) (ρ:List (Str×PV)) (q0:rows=dn++rs) (q1:rest=rs.map a5) (q2:G'=(L,.frame ρ)::(kd,.dB (qE (a0 placed dn).known))::(tl,.list ((a0 placed dn).told.map a4))::G) (q3:Look ρ "whole" (.bytes (a0 placed dn).whole)) (q4:Look ρ "told" (.val (.ref tl))) (q5:Look ρ "known" (.val (.ref kd))) (q6:Look ρ "is_placed" (.bool placed))
inductive LpM (placed:Bool) (st:St) (r:Row) (rk:Nat×List UInt8×Option Nat×Option (List UInt8)) (L kd tl:Addr) (G:Led) (o:Out):Prop
  | mk (ρ2:List (Str×PV)) (q0:o=.next ((L,.frame ρ2)::(kd,.dB (qE st.known))::(tl,.list (st.told.map a4))::G)) (q1:Look ρ2 "whole" (.bytes st.whole)) (q2:Look ρ2 "told" (.val (.ref tl))) (q3:Look ρ2 "known" (.val (.ref kd))) (q4:Look ρ2 "is_placed" (.bool placed)) (q5:Look ρ2 "octets" (.bytes r.oc)) (q6:Look ρ2 "oid" (.bytes r.oid)) (q7:Look ρ2 "at" (.int (12+st.whole.length:Nat))) (q8:Look ρ2 "number" (.int rk.1)) (q9:Look ρ2 "extra" (.bytes rk.2.1)) (q10:Look ρ2 "base_at" (oN rk.2.2.1)) (q11:Look ρ2 "base_id" (oB rk.2.2.2))
section
variable {w:World} {A:Around} {env:Env} {G G0 G1 Γ:Led} {P P':Out→Prop} {F:FM} {vs:List Value} {st:Stmt} {placed:Bool} {rows:List Row}
theorem XT.imp (h:XT w A env st G P) (i:∀ o,P o→P' o):XT w A env st G P':=TX.imp h (fun G' F' f l n=>by
  cases f with
  | next=>exact i _ n
  | ret v=>obtain⟨p,a,b⟩:=n;exact⟨p,a,i _ b⟩
  | _=>exact n) fun C c p G' n=>i _ n
set_option maxHeartbeats 8000000 in
theorem xY (R:Rm A 2) (hl:rows.length≤40) (hr:∀ r∈rows,gE r) (pv:aS w.params F [.lst (rows.map a5),.bool placed] vs) :
    T w A F (call (.ref 409) vs) G G (fun F v=>(PV.tup [.bytes (a0 placed rows).whole,.lst ((a0 placed rows).told.map a4)]).Is w.params F v):=by
  obtain⟨v0,v1,rfl,p0,p1⟩:=pv.two
  refine T.fn (fn409 _) R.room.room (fun s X=>@KH w s X v0 v1) pv nd409 lc409 nc409 fun L=>?_
  have R':=R.deeper (aT (aK 45) "_law_plain" 409 (fun xx=>[]) (.ref 408) L)
  refine XS.cY (ns:=["whole","told","known"]) R'.quiet rfl (by rfl) (by decide) rfl rfl (by decide) (aL.ev (p:=.bytes []) Ev.bytes (aL.list aU.nil (by simp) (fun tl=>aL.dictB (fun kd=>aL.nil ⟨rfl,_,_,rfl,?_⟩) (by rfl)) (by rfl)) (by rfl))
  refine XS.cons (XT.DJ (ps:=rows.map a5) (LpI placed rows L kd tl G)
    (TX.imp (T.x (show Ev _ _ _ _ _ (.lst (rows.map a5)) _ by walk_at "ev")) (fun G' F v l h=>?_) fun _ _ _ _ (h:False)=>h.elim) cF.deeper rfl (fun xx=>rfl) (fun p rest G' I v F' hv=>?_) fun G' I=>?_)
  · obtain⟨rfl,pv⟩:=h
    exact⟨cV R'.quiet pv,[],rows,_,rfl,rfl,rfl,by walk_at "look",by walk_at "look",by walk_at "look",by walk_at "look"⟩
  · obtain⟨dn,rs,ρ,e,er,rfl,l1,l2,l3,l4⟩:=I
    cases rs with
    | nil=>cases er
    | cons r rs =>
      simp only [List.map_cons,List.cons.injEq] at er
      obtain⟨rfl,rfl⟩:=er
      have hlen:=congrArg List.length e
      simp only [List.length_append,List.length_cons] at hlen
      have rok:=hr r (by rw [e];simp)
      have sok:=nX placed dn.length dn rfl (fun x hx=>hr x (by rw [e];simp [hx])) (by omega)
      have e2:=c6 placed dn r
      have rsok:=sI (placed:=placed) rok sok (by omega)
      refine TX.imp (dS (env:=aT (aK 45) "_law_plain" 409 (fun xx=>[]) (.ref 408) L) (ns:=["oid","kind","octets","base"]) R'.quiet (.cons (.cons (.cons (.cons .nil)))) rfl (dX (by rfl)) hv rfl) (fun G' F v l h=>?_) fun xx xx xx xx h=>h
      subst h
      show XS _ _ _ _ ((L,.frame ((Str.ofString "base",oB r.base)::(Str.ofString "octets",.bytes r.oc)::(Str.ofString "kind",.bytes (kindB r.kind))::(Str.ofString "oid",.bytes r.oid)::ρ))::(kd,.dB (qE (a0 placed dn).known))::(tl,.list ((a0 placed dn).told.map a4))::G) _
      refine gen (((Str.ofString "base",oB r.base)::(Str.ofString "octets",PV.bytes r.oc)::(Str.ofString "kind",.bytes (kindB r.kind))::(Str.ofString "oid",.bytes r.oid)::ρ)) fun ρ1 hρ=>?_
      have l1:Look ρ1 "whole" (.bytes (a0 placed dn).whole):=by rw [← hρ];walk_at "look"
      have l2:Look ρ1 "told" (.val (.ref tl)):=by rw [← hρ];walk_at "look"
      have l3:Look ρ1 "known" (.val (.ref kd)):=by rw [← hρ];walk_at "look"
      have l4:Look ρ1 "is_placed" (.bool placed):=by rw [← hρ];walk_at "look"
      have l5:Look ρ1 "base" (oB r.base):=by rw [← hρ];walk_at "look"
      have l6:Look ρ1 "octets" (.bytes r.oc):=by rw [← hρ];walk_at "look"
      have l7:Look ρ1 "kind" (.bytes (kindB r.kind)):=by rw [← hρ];walk_at "look"
      have l8:Look ρ1 "oid" (.bytes r.oid):=by rw [← hρ];walk_at "look"
      clear hρ
      revert sok e2 rsok l1;refine gen (a0 placed dn) fun st hst=>?_;intro sok e2 rsok l1
      have hk1:=sok.whole
      have hk2:=sok.told
      have hk3:=sok.known
      refine XS.ifs (b:=(kn st.known r.oid).isNone) (a3 (Tr.cmp (p:=.bytes r.oid) (q:=.val (.ref kd)) (by walk_at "ev") (by walk_at "ev") (fun v u F hv hu=>t5 (i:=1) rfl hv hu) (by rfl)) (by rw [cI];cases kn st.known r.oid <;> rfl)) (fun h=>?_) fun h=>XS.nil (XS.nil ?_)
      · have hn:kn st.known r.oid=none:=by simpa using h
        refine XS.cY (ns:=["at","number"]) R'.quiet rfl (by rfl) (by decide) rfl rfl (by decide) (aL.ev (p:=.int (12+st.whole.length:Nat)) (Ev.bin (p:=.int (12:Nat)) (q:=.int (st.whole.length:Nat)) (by walk_at "ev") (by walk_at "ev") fun v u F hv hu=>bF hv hu)
          (aL.ev (p:=.int (r.kind+1:Nat)) (Ev.bin (p:=.int (r.kind:Nat)) (q:=.int (1:Nat)) (FA (l:=kL) (b:=kindB r.kind) (cC (Ev.list (ps:=[.bytes [99,111,109,109,105,116],.bytes [116,114,101,101],.bytes [98,108,111,98],.bytes [116,97,103]]) (by walk_at "evs") (by simp)) (by rfl)) (by walk_at "evs") (by have:=rok.kind;simpa using this) ?_ ?_ (by simp) (by rfl) (by rfl)) (by walk_at "ev") fun v u F hv hu=>bF hv hu) (aL.nil ⟨rfl,_,_,rfl,?_⟩) (by rfl)) (by rfl))
        · exact Option.some.inj ((List.getElem?_eq_getElem _).symm.trans (MG _ rok.kind))
        · exact fun m hm hlt z=>MH _ rok.kind m hlt (by rw [List.getElem?_eq_getElem hm,z])
        · show XS _ _ _ _ ((L,.frame ((Str.ofString "number",.int (r.kind+1:Nat))::(Str.ofString "at",.int (12+st.whole.length:Nat))::ρ1))::(kd,.dB (qE st.known))::(tl,.list (st.told.map a4))::G) _
          refine XS.cons (XT.jE (ns:=["extra","base_at","base_id"]) (TX.imp (T.x (show Ev _ _ _ _ _ (.tup [.bytes [],.none,.none]) _ by walk_at "ev")) (fun G' F v l h=>?_) fun _ _ _ _ (h:False)=>h.elim) R'.quiet (.cons (.cons (.cons .nil))) rfl (dX (by rfl)) rfl rfl)
          obtain⟨rfl,pv⟩:=h
          refine⟨_,_,_,pv,rfl,rfl,?_⟩
          show XS _ _ _ _ ((L,.frame ((Str.ofString "base_id",.none)::(Str.ofString "base_at",.none)::(Str.ofString "extra",.bytes [])::(Str.ofString "number",.int (r.kind+1:Nat))::(Str.ofString "at",.int (12+st.whole.length:Nat))::ρ1))::(kd,.dB (qE st.known))::(tl,.list (st.told.map a4))::G) _
          refine XS.cons (XT.imp (P:=(LpM placed st r (aF placed st r) L kd tl G)) ?_ fun o ho=>?_)
          · cases hb:r.base with
            | none =>
              have ek:aF placed st r=(r.kind+1,[],none,none):=by unfold aF;rw [hb]
              rw [hb] at l5
              refine XT.ifs (b:=false) (a3 (c8 (c:=false) (d:=false) (a3 (by walk_at "tr") (by rfl)) fun h=>by cases h) (by rfl)) (fun h=>by cases h) fun xx=>?_
              refine XS.ifs (b:=false) (a3 (by walk_at "tr") (by rfl)) (fun h=>by cases h) fun xx=>XS.nil (XS.nil ?_)
              rw [ek]
              exact⟨_,rfl,by walk_at "look",by walk_at "look",by walk_at "look",by walk_at "look",by walk_at "look",by walk_at "look",by walk_at "look",by walk_at "look",by walk_at "look",by walk_at "look",by walk_at "look"⟩
            | some b =>
              rw [hb] at l5
              have ebn:(b == ([]:List UInt8))=(b == []):=rfl
              by_cases hpl:placed=true∧∃ o,kn st.known b=some o
              · obtain⟨hp,o,ho⟩:=hpl
                subst hp
                have ek:aF true st r=(6,bb (bk (12+st.whole.length - o)),some o,none):=by unfold aF;rw [hb];simp [ho]
                have hlo:o≤12+st.whole.length:=sok.low _ (uY ho)
                refine XT.ifs (b:=true) (a3 (c8 (c:=true) (d:=true) (a3 (by walk_at "tr") (by rfl)) fun xx=>a3 (c8 (c:=true) (d:=true) (Tr.of (by walk_at "ev") (by rfl)) fun xx=>a3 (c8 (c:=true) (d:=true) (a3 (Tr.cmp (p:=.bytes b) (q:=.val (.ref kd)) (by walk_at "ev") (by walk_at "ev") (fun v u F hv hu=>wY (i:=1) rfl hv hu) (by rfl)) (by rw [cI,ho];rfl)) fun xx=>xG) (by rfl)) (by rfl)) (by rfl)) (fun xx=>?_) fun h=>by cases h
                refine XS.cY (ns:=["number","base_at"]) R'.quiet rfl (by rfl) (by decide) rfl rfl (by decide) (aL.ev (p:=.int (6:Nat)) (by walk_at "ev") (aL.ev (p:=.int (o:Nat)) (lM (i:=1) (kb:=b) (by walk_at "ev") (by walk_at "ev") rfl (by rw [cI,ho];rfl) (fun xx xx=>rfl)) (aL.nil ⟨rfl,_,_,rfl,?_⟩) (by rfl)) (by rfl))
                show XS _ _ _ _ ((L,.frame ((Str.ofString "base_at",.int (o:Nat))::(Str.ofString "number",.int (6:Nat))::(Str.ofString "base_id",.none)::(Str.ofString "base_at",.none)::(Str.ofString "extra",.bytes [])::(Str.ofString "number",.int (r.kind+1:Nat))::(Str.ofString "at",.int (12+st.whole.length:Nat))::ρ1))::(kd,.dB (qE st.known))::(tl,.list (st.told.map a4))::G) _
                refine XS.aE (p:=.bytes (bb (bk (12+st.whole.length - o)))) rfl rfl rfl rfl (Ev.aQ (by walk_at "ev") (aB (by kernel_rfl)) (aU.cons (p:=.int (12+st.whole.length - o:Nat)) (Ev.bin (p:=.int (12+st.whole.length:Nat)) (q:=.int (o:Nat)) (by walk_at "ev") (by walk_at "ev") fun v u F hv hu=>fB hlo hv hu) aU.nil (by rfl)) (by rfl) fun vs F' pvs=>LY R' (by omega) pvs) (XS.nil ?_)
                rw [ek]
                exact⟨_,rfl,by walk_at "look",by walk_at "look",by walk_at "look",by walk_at "look",by walk_at "look",by walk_at "look",by walk_at "look",by walk_at "look",by walk_at "look",by walk_at "look",by walk_at "look"⟩
              · have ek:aF placed st r=(7,b,none,some b):=by
                  unfold aF;rw [hb];dsimp only
                  cases placed with
                  | false=>rfl
                  | true =>
                    cases hk:kn st.known b with
                    | none=>simp
                    | some o=>exact absurd ⟨rfl,o,hk⟩ hpl
                have hno:placed=true→kn st.known b=none:=fun hp=>by
                  cases hk:kn st.known b with
                  | none=>rfl
                  | some o=>exact absurd ⟨hp,o,hk⟩ hpl
                refine XT.ifs (b:=false) (a3 (c8 (c:=true) (d:=false) (a3 (by walk_at "tr") (by rfl)) fun xx=>a3 (c8 (c:=placed) (d:=false) (Tr.of (by walk_at "ev") (by rfl)) fun hp=>a3 (c8 (c:=false) (d:=false) (a3 (Tr.cmp (p:=.bytes b) (q:=.val (.ref kd)) (by walk_at "ev") (by walk_at "ev") (fun v u F hv hu=>wY (i:=1) rfl hv hu) (by rfl)) (by rw [cI,hno hp];rfl)) fun h=>by cases h) (by rfl)) (Bool.and_false _)) (by rfl)) (fun h=>by cases h) fun xx=>?_
                refine XS.ifs (b:=true) (a3 (by walk_at "tr") (by rfl)) (fun xx=>?_) fun h=>by cases h
                refine XS.cY (ns:=["number","base_id","extra"]) R'.quiet rfl (by rfl) (by decide) rfl rfl (by decide) (aL.ev (p:=.int (7:Nat)) (by walk_at "ev") (aL.ev (p:=.bytes b) (by walk_at "ev") (aL.ev (p:=.bytes b) (by walk_at "ev") (aL.nil ⟨rfl,_,_,rfl,?_⟩) (by rfl)) (by rfl)) (by rfl))
                refine XS.nil (XS.nil ?_)
                rw [ek]
                refine⟨(Str.ofString "extra",.bytes b)::(Str.ofString "base_id",.bytes b)::(Str.ofString "number",.int (7:Nat))::(Str.ofString "base_id",.none)::(Str.ofString "base_at",.none)::(Str.ofString "extra",.bytes [])::(Str.ofString "number",.int (r.kind+1:Nat))::(Str.ofString "at",.int (12+st.whole.length:Nat))::ρ1,rfl,by walk_at "look",by walk_at "look",by walk_at "look",by walk_at "look",by walk_at "look",by walk_at "look",by walk_at "look",by walk_at "look",by walk_at "look",by walk_at "look",by walk_at "look"⟩
          · obtain⟨ρ2,rfl,m1,m2,m3,m4,m5,m6,m7,m8,m9,m10,m11⟩:=ho
            show XS _ _ _ _ ((L,.frame ρ2)::(kd,.dB (qE st.known))::(tl,.list (st.told.map a4))::G) _
            have hkf:bJ (qE st.known) r.oid=none:=by rw [cI,hn];rfl
            have er:a6 placed st r=⟨st.whole++aG placed st r,st.told++[⟨12+st.whole.length,(aF placed st r).1,r.oc.length,(aF placed st r).2.2.1,(aF placed st r).2.2.2,r.oc,12+(st.whole++aG placed st r).length⟩],st.known++[(r.oid,12+st.whole.length)]⟩:=by unfold a6;rw [hn]
            have hx:=mP (placed:=placed) rok sok (by omega)
            have hh:=b8 (n:=(aF placed st r).1) (s:=r.oc.length) (by have:=rok.oc;omega)
            have hs:=bW (x:=r.oc) (by have:=rok.oc;omega)
            have hoc:=rok.oc
            have hk8:=A7 (placed:=placed) (st:=st) rok
            have hpl:=fE (placed:=placed) rok sok (by omega)
            refine XS.setItem (p:=.int (12+st.whole.length:Nat)) (qo:=.val (.ref kd)) (qi:=.bytes r.oid) (by walk_at "ev") (by walk_at "ev") (by walk_at "ev") rfl (fun v u t F hv hu ht=>by cases hu;exact w1 (i:=1) rfl hkf (by rw [BP];omega) ht hv) ?_
            rw [yC]
            show XS _ _ _ _ ((L,.frame ρ2)::(kd,.dB (qE (st.known++[(r.oid,12+st.whole.length)])))::(tl,.list (st.told.map a4))::G) _
            refine XS.aE (p:=.bytes (st.whole++aG placed st r)) rfl rfl rfl rfl (cC (Ev.bin (p:=.bytes (st.whole++bb (hd (aF placed st r).1 r.oc.length)++(aF placed st r).2.1)) (q:=.bytes (stored r.oc)) (Ev.bin (p:=.bytes (st.whole++bb (hd (aF placed st r).1 r.oc.length))) (q:=.bytes (aF placed st r).2.1) (Ev.bin (p:=.bytes st.whole) (q:=.bytes (bb (hd (aF placed st r).1 r.oc.length))) (by walk_at "ev")
              (Ev.aQ (by walk_at "ev") (aB (by kernel_rfl)) (aU.cons (p:=.int (aF placed st r).1) (by walk_at "ev") (aU.cons (p:=.int (r.oc.length:Nat)) (by walk_at "ev") aU.nil (by rfl)) (by rfl)) (by rfl) fun vs F' pvs=>lG R' hk8 (by omega) pvs) fun v u F hv hu=>aH (by rw [aM];omega) hv hu)
              (by walk_at "ev") fun v u F hv hu=>aH (by rw [List.length_append,aM];omega) hv hu)
              (Ev.aQ (by walk_at "ev") (aB (by kernel_rfl)) (by walk_at "evs") (by rfl) fun vs F' pvs=>eF R' (by omega) pvs) fun v u F hv hu=>aH (by rw [List.length_append,List.length_append,aM];omega) hv hu) (by simp [aG])) ?_
            have hwl:(st.whole++aG placed st r).length≤100000:=by rw [List.length_append];omega
            refine XS.cons (XT.append (i:=2) (j:=2) (ps:=st.told.map a4) (p:=a4 ⟨12+st.whole.length,(aF placed st r).1,r.oc.length,(aF placed st r).2.2.1,(aF placed st r).2.2.2,r.oc,12+(st.whole++aG placed st r).length⟩) (by walk_at "ev") (aU.cons (Ev.tuple (aU.cons (p:=.int (12+st.whole.length:Nat)) (by walk_at "ev") (aU.cons (by walk_at "ev") (aU.cons (p:=.int (r.oc.length:Nat)) (by walk_at "ev") (aU.cons (by walk_at "ev") (aU.cons (by walk_at "ev") (aU.cons (by walk_at "ev") (aU.cons (p:=.int (12+(st.whole++aG placed st r).length:Nat)) (Ev.bin (p:=.int (12:Nat)) (q:=.int ((st.whole++aG placed st r).length:Nat)) (by walk_at "ev") (lN (by walk_at "ev") (by walk_at "evs") (by rfl) (by omega)) fun v u F hv hu=>bF hv hu) aU.nil (by rfl)) (by rfl)) (by rfl)) (by rfl)) (by rfl)) (by rfl)) (by rfl)) (by simp)) aU.nil (by rfl)) rfl rfl (by rw [List.length_map];omega) ?_ rfl rfl rfl rfl)
            refine XS.nil (XS.nil ?_)
            refine⟨dn++[r],rs,(Str.ofString "whole",.bytes (st.whole++aG placed st r))::ρ2,by rw [e];simp,rfl,?_,?_,?_,?_,?_⟩
            · rw [e2,er];simp only [List.map_append,List.map_cons,List.map_nil];rfl
            · rw [e2,er];walk_at "look"
            · walk_at "look"
            · walk_at "look"
            · walk_at "look"
      · have hn:∃ o,kn st.known r.oid=some o:=by
          cases hk:kn st.known r.oid with
          | none=>rw [hk] at h;cases h
          | some o=>exact⟨o,rfl⟩
        obtain⟨o,hn⟩:=hn
        have er:a6 placed st r=st:=by unfold a6;rw [hn]
        exact⟨dn++[r],rs,ρ1,by rw [e];simp,rfl,by rw [e2,er],by rw [e2,er];exact l1,l2,l3,l4⟩
  · obtain⟨dn,rs,ρ,e,er,rfl,l1,l2,l3,l4⟩:=I
    cases rs with
    | cons t rs=>cases er
    | nil =>
      rw [List.append_nil] at e
      subst e
      show XS _ _ _ _ ((L,.frame ρ)::(kd,.dB (qE (a0 placed rows).known))::(tl,.list ((a0 placed rows).told.map a4))::G) _
      refine XS.pre ?_ (Drop.snd rfl)
      exact XS.NM (by walk_at "ev") ⟨_,_,Drop.refl _,rfl,rfl⟩
end
section
variable {w:World} {A:Around} {env:Env} {G G0 G1 G2 Γ:Led} {P P':Out→Prop} {F:FM} {vs:List Value} {a c:Addr} {x:Str} {pos pos' np sp apos cpos:Pos} {e l r value arg:Expr} {es:List Expr} {ps:List PV} {ρ:List (Str×PV)} {N:PV→Led→Prop} {b:List UInt8}
theorem D9 {N:Addr→List PV→Led→Prop} (ha:aL w A env G pos es (fun ps G1=>ps.length≤1000∧∀ a,N a ps G1)):TX w A F0 (eval (.List es pos) env) G (fun G' F v=>∃ a ps G1,v=.ref a∧G'=(a,.list ps)::G1∧N a ps G1) bG:=by
  show TX w A F0 (do standAt pos;newList (← spliced (backTo pos (starEach es env)))) _ _ _
  exact TX.at (TX.bind ha fun vs F' G1 l ⟨ps,pv,hz,n⟩=>TX.imp (T.yD pv (by omega)) (fun G' F v l h=>by
    obtain⟨a,rfl,rfl⟩:=h
    exact⟨a,ps,G1,rfl,rfl,n a⟩) fun xx xx xx xx h=>h)
theorem XT.EL (he:TX w A F0 (eval e env) G (fun G' F v=>∃ a ps G1,v=.ref a∧G'=(a,.list ps)::G1∧∃ ρ Γ,G1=(env.locals,.frame ρ)::Γ∧P (.next ((env.locals,.frame ((x,.val (.ref a))::ρ))::(a,.list ps)::Γ))) bG)
    (hk:env.scope.kind=.function) (hl:env.scope.names.lookup x=some .local) (hs:swapsWith e (some (.Name x pos')) pos.line env=pure false):XT w A env (.Assign [.Name x pos'] e pos) G P :=
  XT.cE (TX.gH he (fun G' F' v l h=>by
    obtain⟨a,ps,G1,rfl,rfl,ρ,Γ,rfl,n⟩:=h
    exact⟨_,⟨.val (.ref a),ρ,(a,.list ps)::Γ,rfl,rfl,n⟩,fun F2 h H S=>S.perm (List.Perm.swap _ _ _)⟩) fun xx xx xx xx h=>h.elim) hk hl hs
theorem aX.sX (hl:aX w A env G l (fun p G1=>∃ b:List UInt8,p=.bytes b∧aX w A env G1 r (fun q G2=>∃ c:List UInt8,q=.bytes c∧b.length+c.length≤1000000∧N (.bytes (b++c)) G2))):aX w A env G (.BinOp l .Add r pos) N :=
  aX.bin (aX.imp hl fun p G1 ⟨b,e,h⟩=>aX.imp h fun q G2 ⟨c,e2,hz,n⟩ v u F hv hu=>by
    subst e e2
    exact T.pJ (aH (by omega) hv hu) n)
theorem x5 (ho:Ev w A env G value (.bytes b) G1) (hu:Ev w A env G1 e (.int (-1)) G2) (hz:b.length≤16777216) (ht:∀ o r,letTemporaryGo value o r=pure ()) :
    Ev w A env G (.Subscript value (.Slice none (some e) none sp) pos) (.bytes b.dropLast) G2:=cC (Ev.xA ho xM.none (xM.some hu) hz ht) (by
  congr 1
  unfold uH
  simp only [Option.elim,List.drop_zero,Nat.sub_zero]
  rw [List.dropLast_eq_take]
  congr 1
  unfold clipAt
  rw [if_pos (by decide),Int.min_eq_left (by omega)]
  cases h:b.length with
  | zero=>rfl
  | succ m=>rw [Int.max_eq_right (by omega),show(-1+((m+1:Nat):Int))=(m:Int) by omega];rfl)
theorem IW {N:List PV→Led→Prop} (hh:A.handled=none) (he:Ev w A env G e (.val (.ref c)) G) (pm:G.Perm ((c,.list ps)::G1)) (n:N ps G1) (hz:ps.length≤1000000):TX w A F0 (eval e env) G (fun G1 F v=>∃ ps,ps.length≤1000000∧gC w A F v ps∧N ps G1) bG :=
  TX.DM (T.x he) fun G' F' v h H l n1 S=>by
    obtain⟨rfl,hv⟩:=n1
    cases hv
    obtain⟨F'',l2,S2,pv⟩:=c4 (S.perm (pm.append_right H))
    exact⟨_,F'',l2,S2,ps,hz,cV hh pv,n⟩
end
noncomputable def aY (ks:List (List UInt8)) (l:List (List UInt8)):List (List UInt8)×List (List UInt8):=l.foldl (fun q x=>(q.1++[signed q.2 x],bM q.2 x)) ([],ks)
theorem dC (ks l:List (List UInt8)) (x:List UInt8):aY ks (l++[x])=((aY ks l).1++[signed (aY ks l).2 x],bM (aY ks l).2 x):=by simp [aY]
theorem mO (ks:List (List UInt8)) (x:List UInt8):(bM ks x).length≤ks.length+1:=by unfold bM;split <;> simp
theorem pC (ks:List (List UInt8)):∀ (n:Nat) (l:List (List UInt8)),l.length=n→(aY ks l).2.length≤ks.length+n∧(aY ks l).1.length=n:=fun n=>by
  induction n with
  | zero=>intro l e;have:l=[]:=List.length_eq_zero_iff.mp e;subst this;exact⟨Nat.le_refl _,rfl⟩
  | succ n ih =>
    intro l e
    obtain⟨init,last,rfl⟩:∃ i x,l=i++[x]:=⟨l.dropLast,l.getLast (by intro z;subst z;cases e),(List.dropLast_concat_getLast _).symm⟩
    rw [List.length_append,List.length_singleton] at e
    obtain⟨h1,h2⟩:=ih init (by omega)
    rw [dC]
    have:=mO (aY ks init).2 last
    exact⟨by dsimp only;omega,by simp [h2]⟩
theorem iT (ks l:List (List UInt8)):(aY ks l).2.length≤ks.length+l.length:=(pC ks _ l rfl).1
theorem pD (ks l:List (List UInt8)):(aY ks l).1.length=l.length:=(pC ks _ l rfl).2
noncomputable def zf:Nat→Nat
  | 0=>0
  | _=>5
noncomputable def bkvs:List Nat:=[0,1,2,3,4,6,17,18]
noncomputable def tA (r:Nat):Nat:=bkvs.getD r 0
noncomputable def bQ (whole:List UInt8) (n r1 r2 r3 r4 r5 r6:Nat):List (List UInt8) :=
  [aA 2 (n+1+r1) whole,aA 2 (n - 1) whole,aA (4+r2) n whole,[75,67,65,80]++be 2 4++be n 4++whole,aA 2 n (whole++bb [r3]),aA 2 n whole.dropLast,
   aA 2 1 (bb (hd (zf r4) 1)++stored [120]),aA 2 1 (bb (hd 3 (2+r5))++stored [120]),aA 2 2 (bb (hd 3 3)++stored [97,98,99]++bb (hd 6 1)++bb [tA r6]++stored [120])]
theorem aS.four {P:Params} {F:FM} {vs:List Value} {p q r s:PV} (h:aS P F [p,q,r,s] vs):∃ v u t x,vs=[v,u,t,x]∧p.Is P F v∧q.Is P F u∧r.Is P F t∧s.Is P F x:=by
  obtain⟨v,us,rfl,a,b⟩:=aS.aZ h
  obtain⟨u,t,x,rfl,c,e,f⟩:=aS.three b
  exact⟨v,u,t,x,rfl,a,c,e,f⟩
inductive WoN (a:Addr) (cs:List Int) (t:Nat) (d:Addr) (ks:List (List UInt8)) (whole:List UInt8) (m:Nat) (G:Led) (p:PV) (G':Led):Prop
  | mk (t':Nat) (r1:Nat) (r2:Nat) (r3:Nat) (r4:Nat) (r5:Nat) (r6:Nat) (q0:t'≤t+100) (q1:r1<3) (q2:r2<9) (q3:r3<256) (q4:r4<2) (q5:r5<40) (q6:r6<8) (q7:G'=(a,aI cs t')::(d,.dB (a7 (bM (aY ks (bQ whole m r1 r2 r3 r4 r5 r6)).2 (dF++be 2 4))))::G) (q8:p=.lst (c9 ((aY ks (bQ whole m r1 r2 r3 r4 r5 r6)).1++[[],dF,signed (aY ks (bQ whole m r1 r2 r3 r4 r5 r6)).2 (dF++be 2 4)])))
inductive WoC (B ks:List (List UInt8)) (L a d:Addr) (cs:List Int) (t:Nat) (ρ':List (Str×PV)) (G:Led) (rest:List PV) (acc:List PV) (Γ:Led):Prop
  | mk (dn:List (List UInt8)) (rs:List (List UInt8)) (q0:B=dn++rs) (q1:rest=c9 rs) (q2:acc=c9 (aY ks dn).1) (q3:Γ=(L,.frame ρ')::(L+1,.cell (hash d))::(a,aI cs (t+1+1+1+1+1+1))::(d,.dB (a7 (aY ks dn).2))::G)
section
variable {w:World} {A:Around} {env:Env} {G G0 G1 G2 Γ:Led} {P P':Out→Prop} {F:FM} {vs:List Value} {a d:Addr} {cs:List Int} {t:Nat} {ks:List (List UInt8)} {whole:List UInt8} {ps:List PV}
set_option maxHeartbeats 8000000 in
theorem uQ (R:Rm A 4) (hc:cs.length≤1000) (ht:t≤800000) (hk:ks.length≤900) (hw:whole.length≤90000) (h1:1≤ps.length) (h2:ps.length≤1000) (pv:aS w.params F [.val (.ref a),hash d,.bytes whole,.lst ps] vs) :
    TX w A F (call (.ref 435) vs) ((a,aI cs t)::(d,.dB (a7 ks))::G) (fun G' F' v=>∃ p:PV,p.Is w.params F' v∧WoN a cs t d ks whole ps.length G p G') bG:=by
  obtain⟨v0,v1,v2,v3,rfl,p0,p1,p2,p3⟩:=aS.four pv
  refine TX.imp (TC.fnC (ρ:=[(Str.ofString "deck",.val (.ref a)),(Str.ofString "whole",.bytes whole),(Str.ofString "told",.lst ps)]) (N:=(WoN a cs t d ks whole ps.length G)) (X:=bG) (cs:=fun n=>[(Str.ofString "hasher",n+1)])
    (fun xx=>some (hash d)) (fn435 _) R.room.room (LM _ _ _ _ _) (fun n=>?_) (fun n=>by rfl) (fun x p lk=>?_) (fun L nc hm=>?_) fun L oc hoc=>?_).call (fun G' F' v l h=>h) fun xx xx xx xx h=>h
  · intro x hx
    rcases List.mem_cons.mp hx with rfl | hx
    · exact .inl (by rfl)
    · rcases List.mem_cons.mp hx with rfl | hx
      · exact .inr ⟨by rfl,by rfl⟩
      · rcases List.mem_cons.mp hx with rfl | hx
        · exact .inl (by rfl)
        · rcases List.mem_cons.mp hx with rfl | hx
          · exact .inl (by rfl)
          · cases hx
  · cases lk with
    | head=>exact⟨v0,by rfl,p0⟩
    | tail _ lk=>cases lk with
      | head=>exact⟨v2,by rfl,p2⟩
      | tail _ lk=>cases lk with
        | head=>exact⟨v3,by rfl,p3⟩
        | tail _ lk=>cases lk
  · rcases List.mem_cons.mp hm with rfl | hm
    · exact⟨by rfl,v1,by rfl,p1⟩
    · cases hm
  · have R':=R.deeper (aT (aK 49) "_law_wrong_ones" 435 (fun n=>[(Str.ofString "hasher",n+1)]) (.ref 434) L)
    have R1:Rm (A.deeper (aT (aK 49) "_law_wrong_ones" 435 (fun n=>[(Str.ofString "hasher",n+1)]) (.ref 434) L)) 1:=R'.less
    show XS _ _ _ _ ((L,.frame [(Str.ofString "deck",.val (.ref a)),(Str.ofString "whole",.bytes whole),(Str.ofString "told",.lst ps)])::(L+1,.cell (hash d))::(a,aI cs t)::(d,.dB (a7 ks))::G) _
    refine XS.aE (p:=.bytes (be ps.length 4)) rfl rfl rfl rfl (Ev.aQ (by walk_at "ev") (aB (by kernel_rfl)) (by walk_at "evs") (by rfl) fun vs F' pvs=>bL (n:=_) R1 pvs) ?_
    refine XS.cons (XT.EL (D9 ?_) rfl rfl rfl)
    refine aL.cM ?_ (by rfl)
    refine aX.sX (aX.sX (aX.of (p:=.bytes ([80,65,67,75]++be 2 4)) (Ev.bin (p:=.bytes [80,65,67,75]) (q:=.bytes (be 2 4)) (by walk_at "ev") (Ev.aQ (by walk_at "ev") (aB (by kernel_rfl)) (by walk_at "evs") (by rfl) fun vs F' pvs=>bL (n:=2) R1 pvs) fun v u F hv hu=>aH (by simp [aJ]) hv hu) ⟨_,rfl,?_⟩))
    refine aX.call (by walk_at "ev") (aB (by kernel_rfl)) (aL.cM (aX.bin (aX.of (p:=.int (ps.length+1:Nat)) (by walk_at "ev") ?_)) (by rfl)) (by rfl)
    refine aX.draw [_,_] rfl (below:=3) (by walk_at "ev") (by walk_at "evs") (by rfl) R1 hc (by omega) (by decide) (by decide) fun r1 hr1 v u F hv hu=>T.pJ (bF hv hu) (aL.nil fun vs F pvs=>T.pJ (bL R1 pvs) ?_)
    show ∃ c,_∧_∧∃ b,_∧aX _ _ _ ((L,.frame [(Str.ofString "count",.bytes (be ps.length 4)),(Str.ofString "deck",.val (.ref a)),(Str.ofString "whole",.bytes whole),(Str.ofString "told",.lst ps)])::(L+1,.cell (hash d))::(a,aI cs (t+1))::(d,.dB (a7 ks))::G) _ _
    refine⟨_,rfl,by simp [aJ],_,rfl,?_⟩
    refine aX.of (p:=.bytes whole) (by walk_at "ev") ?_
    refine⟨_,rfl,by simp [aJ];omega,aL.nil ⟨by simp,fun sl=>⟨_,_,rfl,?_⟩⟩⟩
    show XS _ _ _ _ ((L,.frame [(Str.ofString "some",.val (.ref sl)),(Str.ofString "count",.bytes (be ps.length 4)),(Str.ofString "deck",.val (.ref a)),(Str.ofString "whole",.bytes whole),(Str.ofString "told",.lst ps)])::(sl,.list (c9 [aA 2 (ps.length+1+r1) whole]))::(L+1,.cell (hash d))::(a,aI cs (t+1))::(d,.dB (a7 ks))::G) _
    refine gen ([(Str.ofString "some",PV.val (.ref sl)),(Str.ofString "count",.bytes (be ps.length 4)),(Str.ofString "deck",.val (.ref a)),(Str.ofString "whole",.bytes whole),(Str.ofString "told",.lst ps)]) fun ρ hρ=>?_
    have l1:Look ρ "some" (.val (.ref sl)):=by rw [← hρ];walk_at "look"
    have l2:Look ρ "count" (.bytes (be ps.length 4)):=by rw [← hρ];walk_at "look"
    have l3:Look ρ "deck" (.val (.ref a)):=by rw [← hρ];walk_at "look"
    have l4:Look ρ "whole" (.bytes whole):=by rw [← hρ];walk_at "look"
    have l5:Look ρ "told" (.lst ps):=by rw [← hρ];walk_at "look"
    clear hρ
    refine XS.cons (XT.append (i:=1) (j:=1) (ps:=c9 [aA 2 (ps.length+1+r1) whole]) (p:=.bytes (aA 2 (ps.length - 1) whole)) (by walk_at "ev") (aU.cons (Ev.bin (p:=.bytes ([80,65,67,75]++be 2 4++be (ps.length - 1) 4)) (Ev.bin (p:=.bytes ([80,65,67,75]++be 2 4)) (Ev.bin (p:=.bytes [80,65,67,75]) (q:=.bytes (be 2 4)) (by walk_at "ev") (Ev.aQ (by walk_at "ev") (aB (by kernel_rfl)) (by walk_at "evs") (by rfl) fun vs F' pvs=>bL (n:=2) R1 pvs) fun v u F hv hu=>aH (by simp [aJ]) hv hu) (Ev.aQ (by walk_at "ev") (aB (by kernel_rfl)) (by walk_at "evs") (by rfl) fun vs F' pvs=>bL (n:=_) R1 pvs) fun v u F hv hu=>aH (by simp [aJ]) hv hu) (by walk_at "ev") fun v u F hv hu=>aH (by simp [aJ];omega) hv hu) aU.nil (by rfl)) rfl rfl (by simp [c9]) ?_ rfl rfl rfl rfl)
    show XS _ _ _ _ ((L,.frame ρ)::(sl,.list (c9 [aA 2 (ps.length+1+r1) whole,aA 2 (ps.length - 1) whole]))::(L+1,.cell (hash d))::(a,aI cs (t+1))::(d,.dB (a7 ks))::G) _
    refine XS.cons (XT.lB (i:=1) (by walk_at "ev") rfl ?_ (by rfl) (by rfl) rfl rfl rfl)
    refine aX.sX (aX.sX (aX.sX (aX.of (p:=.bytes [80,65,67,75]) (by walk_at "ev") ⟨_,rfl,?_⟩)))
    refine aX.call (by walk_at "ev") (aB (by kernel_rfl)) (aL.cM (aX.bin (aX.of (p:=.int (4:Nat)) (by walk_at "ev") ?_)) (by rfl)) (by rfl)
    refine aX.draw [_,_,_] rfl (below:=9) (by walk_at "ev") (by walk_at "evs") (by rfl) R1 hc (by omega) (by decide) (by decide) fun r2 hr2 v u F hv hu=>T.pJ (bF hv hu) (aL.nil fun vs F pvs=>T.pJ (bL R1 pvs) ?_)
    show ∃ c,_∧_∧∃ b,_∧aX _ _ _ ((L,.frame ρ)::(sl,.list (c9 [aA 2 (ps.length+1+r1) whole,aA 2 (ps.length - 1) whole]))::(L+1,.cell (hash d))::(a,aI cs (t+1+1))::(d,.dB (a7 ks))::G) _ _
    refine⟨_,rfl,by simp [aJ],_,rfl,aX.of (p:=.bytes (be ps.length 4)) (by walk_at "ev") ⟨_,rfl,by simp [aJ],_,rfl,aX.of (p:=.bytes whole) (by walk_at "ev") ⟨_,rfl,by simp [aJ];omega,1,_,rfl,by simp [c9],?_⟩⟩⟩
    show XS _ _ _ _ ((L,.frame ρ)::(sl,.list (c9 [aA 2 (ps.length+1+r1) whole,aA 2 (ps.length - 1) whole,aA (4+r2) ps.length whole]))::(L+1,.cell (hash d))::(a,aI cs (t+1+1))::(d,.dB (a7 ks))::G) _
    refine XS.cons (XT.append (i:=1) (j:=1) (ps:=c9 [aA 2 (ps.length+1+r1) whole,aA 2 (ps.length - 1) whole,aA (4+r2) ps.length whole]) (p:=.bytes ([75,67,65,80]++be 2 4++be ps.length 4++whole)) (by walk_at "ev") (aU.cons (Ev.bin (p:=.bytes ([75,67,65,80]++be 2 4++be ps.length 4)) (Ev.bin (p:=.bytes ([75,67,65,80]++be 2 4)) (Ev.bin (p:=.bytes [75,67,65,80]) (q:=.bytes (be 2 4)) (by walk_at "ev") (Ev.aQ (by walk_at "ev") (aB (by kernel_rfl)) (by walk_at "evs") (by rfl) fun vs F' pvs=>bL (n:=2) R1 pvs) fun v u F hv hu=>aH (by simp [aJ]) hv hu) (by walk_at "ev") fun v u F hv hu=>aH (by simp [aJ]) hv hu) (by walk_at "ev") fun v u F hv hu=>aH (by simp [aJ];omega) hv hu) aU.nil (by rfl)) rfl rfl (by simp [c9]) ?_ rfl rfl rfl rfl)
    show XS _ _ _ _ ((L,.frame ρ)::(sl,.list (c9 [aA 2 (ps.length+1+r1) whole,aA 2 (ps.length - 1) whole,aA (4+r2) ps.length whole,[75,67,65,80]++be 2 4++be ps.length 4++whole]))::(L+1,.cell (hash d))::(a,aI cs (t+1+1))::(d,.dB (a7 ks))::G) _
    refine XS.cons (XT.lB (i:=1) (by walk_at "ev") rfl ?_ (by rfl) (by rfl) rfl rfl rfl)
    refine aX.sX (aX.of (p:=.bytes ([80,65,67,75]++be 2 4++be ps.length 4++whole)) (Ev.bin (p:=.bytes ([80,65,67,75]++be 2 4++be ps.length 4)) (Ev.bin (p:=.bytes ([80,65,67,75]++be 2 4)) (Ev.bin (p:=.bytes [80,65,67,75]) (q:=.bytes (be 2 4)) (by walk_at "ev") (Ev.aQ (by walk_at "ev") (aB (by kernel_rfl)) (by walk_at "evs") (by rfl) fun vs F' pvs=>bL (n:=2) R1 pvs) fun v u F hv hu=>aH (by simp [aJ]) hv hu) (by walk_at "ev") fun v u F hv hu=>aH (by simp [aJ]) hv hu) (by walk_at "ev") fun v u F hv hu=>aH (by simp [aJ];omega) hv hu) ⟨_,rfl,?_⟩)
    refine aX.call (by walk_at "ev") aV (aL.cM (aX.list (aL.cM ?_ (by rfl))) (by rfl)) (by rfl)
    refine aX.draw [_,_,_] rfl (below:=256) (by walk_at "ev") (by walk_at "evs") (by rfl) R1 hc (by omega) (by decide) (by decide) fun r3 hr3=>aL.nil ⟨by simp,aL.nil fun vs F pvs=>?_⟩
    obtain⟨v,rfl,hv⟩:=pvs.bH
    refine T.pJ (bV (ns:=[r3]) R'.quiet (by simpa using hr3) (by simp) hv) ⟨_,rfl,by simp [aJ,bb];omega,1,_,rfl,by simp [c9],?_⟩
    rw [show([80,65,67,75]++be 2 4++be ps.length 4++whole++bb [r3]:List UInt8)=aA 2 ps.length (whole++bb [r3]) by simp [aA]]
    show XS _ _ _ _ ((L,.frame ρ)::(sl,.list (c9 [aA 2 (ps.length+1+r1) whole,aA 2 (ps.length - 1) whole,aA (4+r2) ps.length whole,[75,67,65,80]++be 2 4++be ps.length 4++whole,aA 2 ps.length (whole++bb [r3])]))::(L+1,.cell (hash d))::(a,aI cs (t+1+1+1))::(d,.dB (a7 ks))::G) _
    refine XS.cons (XT.append (i:=1) (j:=1) (ps:=c9 [aA 2 (ps.length+1+r1) whole,aA 2 (ps.length - 1) whole,aA (4+r2) ps.length whole,[75,67,65,80]++be 2 4++be ps.length 4++whole,aA 2 ps.length (whole++bb [r3])]) (p:=.bytes (aA 2 ps.length whole.dropLast)) (by walk_at "ev") (aU.cons (Ev.bin (p:=.bytes ([80,65,67,75]++be 2 4++be ps.length 4)) (q:=.bytes whole.dropLast) (Ev.bin (p:=.bytes ([80,65,67,75]++be 2 4)) (Ev.bin (p:=.bytes [80,65,67,75]) (q:=.bytes (be 2 4)) (by walk_at "ev") (Ev.aQ (by walk_at "ev") (aB (by kernel_rfl)) (by walk_at "evs") (by rfl) fun vs F' pvs=>bL (n:=2) R1 pvs) fun v u F hv hu=>aH (by simp [aJ]) hv hu) (by walk_at "ev") fun v u F hv hu=>aH (by simp [aJ]) hv hu) (x5 (by walk_at "ev") (nD Ev.int) (by omega) (fun xx xx=>rfl)) fun v u F hv hu=>aH (by simp [aJ];omega) hv hu) aU.nil (by rfl)) rfl rfl (by simp [c9]) ?_ rfl rfl rfl rfl)
    show XS _ _ _ _ ((L,.frame ρ)::(sl,.list (c9 [aA 2 (ps.length+1+r1) whole,aA 2 (ps.length - 1) whole,aA (4+r2) ps.length whole,[75,67,65,80]++be 2 4++be ps.length 4++whole,aA 2 ps.length (whole++bb [r3]),aA 2 ps.length whole.dropLast]))::(L+1,.cell (hash d))::(a,aI cs (t+1+1+1))::(d,.dB (a7 ks))::G) _
    refine XS.cons (XT.lB (i:=1) (by walk_at "ev") rfl ?_ (by rfl) (by rfl) rfl rfl rfl)
    refine aX.sX (aX.sX (aX.of (p:=.bytes ([80,65,67,75]++be 2 4++be 1 4)) (Ev.bin (p:=.bytes ([80,65,67,75]++be 2 4)) (Ev.bin (p:=.bytes [80,65,67,75]) (q:=.bytes (be 2 4)) (by walk_at "ev") (Ev.aQ (by walk_at "ev") (aB (by kernel_rfl)) (by walk_at "evs") (by rfl) fun vs F' pvs=>bL (n:=2) R1 pvs) fun v u F hv hu=>aH (by simp [aJ]) hv hu) (Ev.aQ (by walk_at "ev") (aB (by kernel_rfl)) (by walk_at "evs") (by rfl) fun vs F' pvs=>bL (n:=1) R1 pvs) fun v u F hv hu=>aH (by simp [aJ]) hv hu) ⟨_,rfl,?_⟩))
    refine aX.call (by walk_at "ev") (aB (by kernel_rfl)) (aL.cM (aX.tX (Ev.list (ps:=[.int 0,.int 5]) (by walk_at "evs") (by simp)) ?_ fun xx xx=>rfl) (by rfl)) (by rfl)
    refine aX.draw [_,_,_] rfl (below:=2) (by walk_at "ev") (by walk_at "evs") (by rfl) R1 hc (by omega) (by decide) (by decide) fun r4 hr4=>⟨r4,rfl,by omega,.int (zf r4:Nat),?_,?_⟩
    · show(([0,5]:List Nat).map fun n:Nat=>PV.int (n:Int))[r4]?=_
      rw [List.getElem?_map,(by decide:∀ r:Fin 2,([0,5]:List Nat)[r.val]?=some (zf r.val)) ⟨r4,hr4⟩];rfl
    have hz8:zf r4<8:=by unfold zf;split <;> decide
    have hhd:=b8 (n:=zf r4) (s:=1) (by omega)
    show aL _ _ _ ((L,.frame ρ)::(sl,.list (c9 [aA 2 (ps.length+1+r1) whole,aA 2 (ps.length - 1) whole,aA (4+r2) ps.length whole,[75,67,65,80]++be 2 4++be ps.length 4++whole,aA 2 ps.length (whole++bb [r3]),aA 2 ps.length whole.dropLast]))::(L+1,.cell (hash d))::(a,aI cs (t+1+1+1+1))::(d,.dB (a7 ks))::G) _ _ _
    refine aL.ev (p:=.int (1:Nat)) (by walk_at "ev") (aL.nil fun vs F pvs=>T.pJ (lG R1 hz8 (by omega) pvs) ⟨_,rfl,by simp [aJ,aM];omega,_,rfl,?_⟩) (by rfl)
    refine aX.of (p:=.bytes (stored [120])) (Ev.aQ (by walk_at "ev") (aB (by kernel_rfl)) (by walk_at "evs") (by rfl) fun vs F' pvs=>eF R1 (by simp) pvs) ⟨_,rfl,by have:=bW (x:=[120]) (by simp);simp [aJ,aM];simp at this;omega,1,_,rfl,by simp [c9],?_⟩
    rw [show([80,65,67,75]++be 2 4++be 1 4++bb (hd (zf r4) 1)++stored [120]:List UInt8)=aA 2 1 (bb (hd (zf r4) 1)++stored [120]) by simp [aA]]
    show XS _ _ _ _ ((L,.frame ρ)::(sl,.list (c9 [aA 2 (ps.length+1+r1) whole,aA 2 (ps.length - 1) whole,aA (4+r2) ps.length whole,[75,67,65,80]++be 2 4++be ps.length 4++whole,aA 2 ps.length (whole++bb [r3]),aA 2 ps.length whole.dropLast,aA 2 1 (bb (hd (zf r4) 1)++stored [120])]))::(L+1,.cell (hash d))::(a,aI cs (t+1+1+1+1))::(d,.dB (a7 ks))::G) _
    refine XS.cons (XT.lB (i:=1) (by walk_at "ev") rfl ?_ (by rfl) (by rfl) rfl rfl rfl)
    refine aX.sX (aX.sX (aX.of (p:=.bytes ([80,65,67,75]++be 2 4++be 1 4)) (Ev.bin (p:=.bytes ([80,65,67,75]++be 2 4)) (Ev.bin (p:=.bytes [80,65,67,75]) (q:=.bytes (be 2 4)) (by walk_at "ev") (Ev.aQ (by walk_at "ev") (aB (by kernel_rfl)) (by walk_at "evs") (by rfl) fun vs F' pvs=>bL (n:=2) R1 pvs) fun v u F hv hu=>aH (by simp [aJ]) hv hu) (Ev.aQ (by walk_at "ev") (aB (by kernel_rfl)) (by walk_at "evs") (by rfl) fun vs F' pvs=>bL (n:=1) R1 pvs) fun v u F hv hu=>aH (by simp [aJ]) hv hu) ⟨_,rfl,?_⟩))
    refine aX.call (by walk_at "ev") (aB (by kernel_rfl)) (aL.ev (p:=.int (3:Nat)) (by walk_at "ev") (aL.cM (aX.bin (aX.of (p:=.int (2:Nat)) (by walk_at "ev") ?_)) (by rfl)) (by rfl)) (by rfl)
    refine aX.draw [_,_,_] rfl (below:=40) (by walk_at "ev") (by walk_at "evs") (by rfl) R1 hc (by omega) (by decide) (by decide) fun r5 hr5 v u F hv hu=>T.pJ (bF hv hu) (aL.nil fun vs F pvs=>T.pJ (lG R1 (by decide) (by omega) pvs) ?_)
    have hhd5:=b8 (n:=3) (s:=2+r5) (by omega)
    show ∃ c,_∧_∧∃ b,_∧aX _ _ _ ((L,.frame ρ)::(sl,.list (c9 [aA 2 (ps.length+1+r1) whole,aA 2 (ps.length - 1) whole,aA (4+r2) ps.length whole,[75,67,65,80]++be 2 4++be ps.length 4++whole,aA 2 ps.length (whole++bb [r3]),aA 2 ps.length whole.dropLast,aA 2 1 (bb (hd (zf r4) 1)++stored [120])]))::(L+1,.cell (hash d))::(a,aI cs (t+1+1+1+1+1))::(d,.dB (a7 ks))::G) _ _
    refine⟨_,rfl,by simp [aJ,aM];omega,_,rfl,?_⟩
    refine aX.of (p:=.bytes (stored [120])) (Ev.aQ (by walk_at "ev") (aB (by kernel_rfl)) (by walk_at "evs") (by rfl) fun vs F' pvs=>eF R1 (by simp) pvs) ⟨_,rfl,by have:=bW (x:=[120]) (by simp);simp [aJ,aM];simp at this;omega,1,_,rfl,by simp [c9],?_⟩
    rw [show([80,65,67,75]++be 2 4++be 1 4++bb (hd 3 (2+r5))++stored [120]:List UInt8)=aA 2 1 (bb (hd 3 (2+r5))++stored [120]) by simp [aA]]
    show XS _ _ _ _ ((L,.frame ρ)::(sl,.list (c9 [aA 2 (ps.length+1+r1) whole,aA 2 (ps.length - 1) whole,aA (4+r2) ps.length whole,[75,67,65,80]++be 2 4++be ps.length 4++whole,aA 2 ps.length (whole++bb [r3]),aA 2 ps.length whole.dropLast,aA 2 1 (bb (hd (zf r4) 1)++stored [120]),aA 2 1 (bb (hd 3 (2+r5))++stored [120])]))::(L+1,.cell (hash d))::(a,aI cs (t+1+1+1+1+1))::(d,.dB (a7 ks))::G) _
    refine XS.cons (XT.iW (aX.tX (Ev.list (ps:=[.int 0,.int 1,.int 2,.int 3,.int 4,.int 6,.int 17,.int 18]) (by walk_at "evs") (by simp)) ?_ fun xx xx=>rfl) rfl rfl rfl)
    refine aX.draw [_,_,_] rfl (below:=8) (by walk_at "ev") (by walk_at "evs") (by rfl) R1 hc (by omega) (by decide) (by decide) fun r6 hr6=>⟨r6,rfl,by omega,.int (tA r6:Nat),?_,_,_,rfl,?_⟩
    · show(([0,1,2,3,4,6,17,18]:List Nat).map fun n:Nat=>PV.int (n:Int))[r6]?=_
      rw [List.getElem?_map,(by decide:∀ r:Fin 8,([0,1,2,3,4,6,17,18]:List Nat)[r.val]?=some (tA r.val)) ⟨r6,hr6⟩];rfl
    have hb6:tA r6<256:=(by decide:∀ r:Fin 8,tA r.val<256) ⟨r6,hr6⟩
    have ha3:=b8 (n:=3) (s:=3) (by omega)
    have ha6:=b8 (n:=6) (s:=1) (by omega)
    have hs1:=bW (x:=[97,98,99]) (by simp)
    have hs2:=bW (x:=[120]) (by simp)
    simp only [List.length_cons,List.length_nil] at hs1 hs2
    show XS _ _ _ _ ((L,.frame ((Str.ofString "back",.int (tA r6:Nat))::ρ))::(sl,.list (c9 [aA 2 (ps.length+1+r1) whole,aA 2 (ps.length - 1) whole,aA (4+r2) ps.length whole,[75,67,65,80]++be 2 4++be ps.length 4++whole,aA 2 ps.length (whole++bb [r3]),aA 2 ps.length whole.dropLast,aA 2 1 (bb (hd (zf r4) 1)++stored [120]),aA 2 1 (bb (hd 3 (2+r5))++stored [120])]))::(L+1,.cell (hash d))::(a,aI cs (t+1+1+1+1+1+1))::(d,.dB (a7 ks))::G) _
    refine XS.aE (p:=.bytes (bb (hd 3 3)++stored [97,98,99]++bb (hd 6 1)++bb [tA r6]++stored [120])) rfl rfl rfl rfl (Ev.bin (p:=.bytes (bb (hd 3 3)++stored [97,98,99]++bb (hd 6 1)++bb [tA r6])) (q:=.bytes (stored [120])) (Ev.bin (p:=.bytes (bb (hd 3 3)++stored [97,98,99]++bb (hd 6 1))) (q:=.bytes (bb [tA r6])) (Ev.bin (p:=.bytes (bb (hd 3 3)++stored [97,98,99])) (q:=.bytes (bb (hd 6 1))) (Ev.bin (p:=.bytes (bb (hd 3 3))) (q:=.bytes (stored [97,98,99]))
        (Ev.aQ (by walk_at "ev") (aB (by kernel_rfl)) (by walk_at "evs") (by rfl) fun vs F' pvs=>lG (n:=3) (s:=3) R1 (by decide) (by omega) pvs)
        (Ev.aQ (by walk_at "ev") (aB (by kernel_rfl)) (by walk_at "evs") (by rfl) fun vs F' pvs=>eF R1 (by simp) pvs) fun v u F hv hu=>aH (by rw [aM];omega) hv hu)
        (Ev.aQ (by walk_at "ev") (aB (by kernel_rfl)) (by walk_at "evs") (by rfl) fun vs F' pvs=>lG (n:=6) (s:=1) R1 (by decide) (by omega) pvs) fun v u F hv hu=>aH (by rw [List.length_append,aM,aM];omega) hv hu)
        (Ev.aQ (by walk_at "ev") aV (aU.cons (p:=.lst (nums [tA r6])) (Ev.list (ps:=[.int (tA r6:Nat)]) (by walk_at "evs") (by simp)) aU.nil (by rfl)) (by rfl) fun vs F' pvs=>by
          obtain⟨v,rfl,hv⟩:=pvs.bH
          exact bV (ns:=[tA r6]) R'.quiet (by simpa using hb6) (by simp) hv) fun v u F hv hu=>aH (by rw [List.length_append,List.length_append,aM,aM,aM];simp only [List.length_cons,List.length_nil];omega) hv hu)
        (Ev.aQ (by walk_at "ev") (aB (by kernel_rfl)) (by walk_at "evs") (by rfl) fun vs F' pvs=>eF R1 (by simp) pvs) fun v u F hv hu=>aH (by rw [List.length_append,List.length_append,List.length_append,aM,aM,aM];simp only [List.length_cons,List.length_nil];omega) hv hu) ?_
    have hlo:(bb (hd 3 3)++stored [97,98,99]++bb (hd 6 1)++bb [tA r6]++stored [120]).length≤200:=by rw [List.length_append,List.length_append,List.length_append,List.length_append,aM,aM,aM];simp only [List.length_cons,List.length_nil];omega
    refine XS.cons (XT.append (i:=1) (j:=1) (ps:=c9 [aA 2 (ps.length+1+r1) whole,aA 2 (ps.length - 1) whole,aA (4+r2) ps.length whole,[75,67,65,80]++be 2 4++be ps.length 4++whole,aA 2 ps.length (whole++bb [r3]),aA 2 ps.length whole.dropLast,aA 2 1 (bb (hd (zf r4) 1)++stored [120]),aA 2 1 (bb (hd 3 (2+r5))++stored [120])]) (p:=.bytes (aA 2 2 (bb (hd 3 3)++stored [97,98,99]++bb (hd 6 1)++bb [tA r6]++stored [120]))) (by walk_at "ev") (aU.cons (Ev.bin (p:=.bytes ([80,65,67,75]++be 2 4++be 2 4)) (q:=.bytes (bb (hd 3 3)++stored [97,98,99]++bb (hd 6 1)++bb [tA r6]++stored [120])) (Ev.bin (p:=.bytes ([80,65,67,75]++be 2 4)) (Ev.bin (p:=.bytes [80,65,67,75]) (q:=.bytes (be 2 4)) (by walk_at "ev") (Ev.aQ (by walk_at "ev") (aB (by kernel_rfl)) (by walk_at "evs") (by rfl) fun vs F' pvs=>bL (n:=2) R1 pvs) fun v u F hv hu=>aH (by simp [aJ]) hv hu) (Ev.aQ (by walk_at "ev") (aB (by kernel_rfl)) (by walk_at "evs") (by rfl) fun vs F' pvs=>bL (n:=2) R1 pvs) fun v u F hv hu=>aH (by simp [aJ]) hv hu) (by walk_at "ev") fun v u F hv hu=>aH (by rw [List.length_append,List.length_append,aJ];simp only [List.length_cons,List.length_nil];omega) hv hu) aU.nil (by rfl)) rfl rfl (by simp [c9]) ?_ rfl rfl rfl rfl)
    show XS _ _ _ _ ((L,.frame _)::(sl,.list (c9 (bQ whole ps.length r1 r2 r3 r4 r5 r6)))::(L+1,.cell (hash d))::(a,aI cs (t+1+1+1+1+1+1))::(d,.dB (a7 ks))::G) _
    have hBl:∀ x∈bQ whole ps.length r1 r2 r3 r4 r5 r6,x.length≤100000:=by
      have hz8:zf r4<8:=by unfold zf;split <;> decide
      have hhd:=b8 (n:=zf r4) (s:=1) (by omega)
      have hhd5:=b8 (n:=3) (s:=2+r5) (by omega)
      intro x hx
      simp only [bQ,List.mem_cons,List.not_mem_nil,or_false] at hx
      rcases hx with rfl | rfl | rfl | rfl | rfl | rfl | rfl | rfl | rfl
      · rw [aO];omega
      · rw [aO];omega
      · rw [aO];omega
      · rw [List.length_append,List.length_append,List.length_append,aJ,aJ];simp only [List.length_cons,List.length_nil];omega
      · rw [aO,List.length_append,aM];simp only [List.length_cons,List.length_nil];omega
      · rw [aO,List.length_dropLast];omega
      · rw [aO,List.length_append,aM];omega
      · rw [aO,List.length_append,aM];omega
      · rw [aO];omega
    have hB9:(bQ whole ps.length r1 r2 r3 r4 r5 r6).length=9:=rfl
    revert hBl hB9;refine gen (bQ whole ps.length r1 r2 r3 r4 r5 r6) fun B hB=>?_;intro hBl hB9
    refine gen (((Str.ofString "lost",PV.bytes (bb (hd 3 3)++stored [97,98,99]++bb (hd 6 1)++bb [tA r6]++stored [120]))::(Str.ofString "back",.int (tA r6:Nat))::ρ)) fun ρ' hρ=>?_
    have l6:Look ρ' "some" (.val (.ref sl)):=by rw [← hρ];walk_at "look"
    clear hρ l1 l2 l3 l4 l5 hlo
    refine XS.cons (XT.NL (aX.bin ?_))
    refine TX.imp (mQ (WoC B ks L a d cs t ρ' G)
      (IW R'.quiet (by walk_at "ev") nY ⟨[],B,rfl,rfl,rfl,rfl⟩ (by rw [dA];omega)) (fun xx=>rfl) (by rfl) (by rfl) (by decide) (by decide) (by rfl) (fun p rest acc Γ C xx I=>?_)) (fun G' F v l h=>?_) fun xx xx xx xx h=>h
    · obtain⟨dn,rs,e,er,rfl,rfl⟩:=I
      cases rs with
      | nil=>cases er
      | cons x rs =>
        simp only [c9,List.map_cons,List.cons.injEq] at er
        obtain⟨rfl,rfl⟩:=er
        have hle:=congrArg List.length e
        simp only [List.length_append,List.length_cons] at hle
        have hsl:=iT ks dn
        refine nZ fun F' l=>?_
        refine TX.imp (T.x (show Ev _ _ _ _ _ (.bytes (signed (aY ks dn).2 x)) _ from Ev.call (by walk_at "ev") (aB (by kernel_rfl)) (by walk_at "evs") (by rfl) fun vs F' pvs=>TX.c5 (lH (ks:=(aY ks dn).2) (x:=x) (d:=d) R'.less (by omega) (hBl x (by rw [e];simp)) pvs) (List.perm_middle (l₁:=[_,_,_,_])) (List.perm_middle (l₁:=[_,_,_,_])).symm)) (fun G' F v l h=>?_) fun _ _ _ _ (h:False)=>h.elim
        obtain⟨rfl,pv⟩:=h
        refine⟨_,_,_,pv,rfl,dn++[x],rs,by rw [e];simp,rfl,?_,by rw [dC];rfl⟩
        rw [dC,← xW]
    · obtain⟨acc,⟨dn,rs,e,er,rfl,rfl⟩,pv⟩:=h
      cases rs with
      | cons x rs=>cases er
      | nil =>
      rw [List.append_nil] at e
      subst e
      have hsl:=iT ks B
      refine⟨_,pv,?_⟩
      refine aX.of (p:=.lst (c9 [[],dF,signed (aY ks B).2 (dF++be 2 4)])) (Ev.list (ps:=[.bytes [],.bytes [80,65,67,75],.bytes (signed (aY ks B).2 ([80,65,67,75]++be 2 4))]) (aU.cons (by walk_at "ev") (aU.cons (by walk_at "ev") (aU.cons (p:=.bytes (signed (aY ks B).2 ([80,65,67,75]++be 2 4)))
        (Ev.call (by walk_at "ev") (aB (by kernel_rfl)) (aU.cons (by walk_at "ev") (aU.cons (p:=.bytes ([80,65,67,75]++be 2 4)) (Ev.bin (p:=.bytes [80,65,67,75]) (q:=.bytes (be 2 4)) (by walk_at "ev") (Ev.aQ (by walk_at "ev") (aB (by kernel_rfl)) (by walk_at "evs") (by rfl) fun vs F' pvs=>bL (n:=2) R1 pvs) fun v u F hv hu=>aH (by simp [aJ]) hv hu) aU.nil (by rfl)) (by rfl)) (by rfl) fun vs F' pvs=>TX.c5 (lH (ks:=(aY ks B).2) (x:=[80,65,67,75]++be 2 4) (d:=d) R'.less (by omega) (by simp [aJ]) pvs) (List.perm_middle (l₁:=[_,_,_])) (List.perm_middle (l₁:=[_,_,_])).symm) aU.nil (by rfl)) (by rfl)) (by rfl)) (by simp)) ?_
      intro v u F hv hu
      refine T.pJ (MS (by rw [dA,dA];have:=pD ks B;simp only [List.length_cons,List.length_nil];omega) hv hu) ?_
      refine⟨_,_,Drop.snd rfl,t+1+1+1+1+1+1,r1,r2,r3,r4,r5,r6,by omega,hr1,hr2,hr3,hr4,hr5,hr6,?_,?_⟩
      · rw [hB];rfl
      · rw [hB];simp [c9]
end
theorem JA {n:Nat} (h:n<256):(n.toUInt8).toNat=n:=by
  rw [Nat.toUInt8,UInt8.toNat_ofNat'];omega
theorem iX (n:Nat) (l:List Nat):bb (n::l)=n.toUInt8::bb l:=rfl
theorem B4:∀ (n i k X:Nat) (t:List UInt8),A5 (bb (d9 n)++t) i k X=some (X+n*2 ^ k,i+(d9 n).length):=fun n=>by
  induction n using Nat.strongRecOn with
  | _ n ih =>
    intro i k X t
    rw [d9]
    by_cases h:n<128
    · rw [if_pos h,iX,List.cons_append,dP,JA (by omega),if_pos h]
      simp only [List.length_cons,List.length_nil]
      rw [Nat.mod_eq_of_lt h]
    · rw [if_neg h,iX,List.cons_append,dP,JA (by omega),if_neg (by omega),ih (n / 128) (by omega)]
      have e:(n % 128+128) % 128=n % 128:=by omega
      rw [e,Nat.pow_add]
      have e2:n % 128*2 ^ k+n / 128*(2 ^ k*2 ^ 7)=n*2 ^ k:=by
        have:n=n % 128+n / 128*128:=by omega
        generalize 2 ^ k=m
        conv=>rhs;rw [this]
        rw [Nat.add_mul,Nat.mul_assoc (n / 128) 128 m,Nat.mul_comm 128 m]
      simp only [List.length_cons,Option.some.injEq,Prod.mk.injEq]
      exact⟨by rw [Nat.add_assoc,e2],by omega⟩
theorem NK:∀ (s p j k X:Nat) (t:List UInt8),p<128→A5 (bb (jU p s)++t) j k X=some (X+(p+128*s)*2 ^ k,j+(jU p s).length):=fun s=>by
  induction s using Nat.strongRecOn with
  | _ s ih =>
    intro p j k X t hp
    rw [jU]
    by_cases h:s=0
    · rw [if_pos h,iX,List.cons_append,dP,JA (by omega),if_pos hp]
      subst h
      simp only [List.length_cons,List.length_nil]
      rw [Nat.mod_eq_of_lt hp];simp
    · rw [if_neg h,iX,List.cons_append,dP,JA (by omega),if_neg (by omega),ih (s / 128) (by omega) _ _ _ _ _ (by omega)]
      have e:(p+128) % 128=p:=by omega
      have e3:s % 128+128*(s / 128)=s:=by omega
      rw [e,e3,Nat.pow_add]
      simp only [List.length_cons,Option.some.injEq,Prod.mk.injEq]
      refine⟨?_,by omega⟩
      generalize 2 ^ k=m
      rw [Nat.add_mul,Nat.mul_comm m,← Nat.mul_assoc,Nat.mul_comm s,Nat.add_assoc]
theorem II (k s i:Nat) (t:List UInt8) (hk:k<8):A4 (bb (hd k s)++t) i=some (k,s,i+(hd k s).length):=by
  unfold hd
  rw [jU]
  by_cases h:s / 16=0
  · rw [if_pos h,iX,List.cons_append]
    unfold A4
    simp only
    rw [JA (by omega +splitMinMax),if_pos (by omega +splitMinMax)]
    simp only [Option.map_some,Option.some.injEq,Prod.mk.injEq,List.length_cons,List.length_nil]
    exact⟨by omega +splitMinMax,by omega +splitMinMax,by simp [bb]⟩
  · rw [if_neg h,iX,List.cons_append]
    unfold A4
    simp only
    rw [JA (by omega +splitMinMax),if_neg (by omega +splitMinMax),NK _ _ _ _ _ _ (by omega +splitMinMax)]
    simp only [Option.map_some,Option.some.injEq,Prod.mk.injEq,List.length_cons]
    exact⟨by omega +splitMinMax,by omega +splitMinMax,by omega +splitMinMax⟩
theorem NJ:∀ (q i:Nat) (t:List UInt8),yZ (bb (pR q).reverse++t) i 0=yZ t (i+(pR q).length) q:=fun q=>by
  induction q using Nat.strongRecOn with
  | _ q ih =>
    intro i t
    rw [pR]
    by_cases h:q=0
    · rw [if_pos h];subst h;rfl
    · rw [if_neg h,List.reverse_cons]
      have e:bb ((pR ((q - 1) / 128)).reverse++[128+(q - 1) % 128])++t=bb (pR ((q - 1) / 128)).reverse++((128+(q - 1) % 128).toUInt8::t):=by simp [bb]
      rw [e,ih ((q - 1) / 128) (by omega),iQ,JA (by omega),if_neg (by omega),List.length_cons]
      congr 1;omega
theorem RH (n i:Nat) (t:List UInt8):yZ (bb (bk n)++t) i 0=some (n,i+(bk n).length):=by
  unfold bk
  rw [List.reverse_cons]
  have e:bb ((pR (n / 128)).reverse++[n % 128])++t=bb (pR (n / 128)).reverse++((n % 128).toUInt8::t):=by simp [bb]
  rw [e,NJ,iQ,JA (by omega),if_pos (by omega)]
  simp only [Option.some.injEq,Prod.mk.injEq,List.length_append,List.length_reverse,List.length_cons,List.length_nil]
  exact⟨by omega,by omega⟩
theorem u8v (n:Nat):(n.toUInt8).toNat=n % 256:=by rw [Nat.toUInt8,UInt8.toNat_ofNat']
theorem eP (n:Nat) (h:n<2 ^ 32):c7 (be n 4) 0=n:=by
  have e:be n 4=[(n / 16777216).toUInt8,(n / 65536).toUInt8,(n / 256).toUInt8,n.toUInt8]:=by
    unfold be;rw [show List.range 4=[0,1,2,3] from rfl];simp
  rw [e]
  unfold c7
  simp only [List.foldl_cons,List.foldl_nil,u8v]
  omega +splitMinMax
theorem BE {n m:Nat} (hn:n<2 ^ 32) (hm:m<2 ^ 32) (e:be n 4=be m 4):n=m:=by
  rw [← eP n hn,e,eP m hm]
noncomputable def JB (x:List UInt8) (pl:Nat):Prop:=∃ r,A4 (x.drop pl) pl=some r∧(r.1=6→∃ o,yZ (x.drop r.2.2) r.2.2 0=some o∧o.2≤r.2.2+7)
noncomputable def bP (x:List UInt8):Nat→List Nat→List lA→Nat→Prop
  | pl,_,[],q=>q=pl
  | pl,sts,e::es,q=>pl<x.length∧JB x pl∧bK x pl sts=some e∧e.pl=pl∧bP x e.behind (sts++[pl]) es q
theorem bP.cJ {x:List UInt8} {n:Nat}:∀ {es:List lA} {pl:Nat} {sts:List Nat} {q:Nat} {acc:List lA},bP x pl sts es q→cJ x (es.length+n) pl sts acc=PackLaw.cJ x n q (sts++es.map (fun xx=>xx.pl)) (acc++es)
  | [],pl,sts,q,acc,h=>by have:q=pl:=h;subst this;simp
  | e::es,pl,sts,q,acc,h=>by
    obtain⟨h1,h2,h3,h4,h5⟩:=h
    rw [List.length_cons,show es.length+1+n=(es.length+n)+1 by omega,cG,if_neg (by omega),h3]
    simp only
    rw [bP.cJ h5,List.map_cons,h4]
    simp
theorem bP.DI {x:List UInt8} {n:Nat}:∀ {es:List lA} {pl:Nat} {sts:List Nat} {q:Nat},bP x pl sts es q→gB x n q (sts++es.map (fun xx=>xx.pl))→gB x (es.length+n) pl sts
  | [],pl,sts,q,h,f=>by have:q=pl:=h;subst this;simpa using f
  | e::es,pl,sts,q,h,f=>by
    obtain⟨h1,h2,h3,h4,h5⟩:=h
    rw [List.length_cons,show es.length+1+n=(es.length+n)+1 by omega]
    intro hp
    refine⟨h2,fun e' he=>?_⟩
    rw [h3] at he;cases he
    refine bP.DI h5 ?_
    rw [List.map_cons,h4] at f
    simpa using f
theorem bP.snoc {x:List UInt8} {e:lA}:∀ {es:List lA} {pl:Nat} {sts:List Nat} {q:Nat},bP x pl sts es q→q<x.length→JB x q→bK x q (sts++es.map (fun xx=>xx.pl))=some e→e.pl=q→bP x pl sts (es++[e]) e.behind
  | [],pl,sts,q,h,h1,h2,h3,h4=>by
    have:q=pl:=h;subst this
    exact⟨h1,h2,by simpa using h3,h4,rfl⟩
  | e'::es,pl,sts,q,h,h1,h2,h3,h4=>by
    obtain⟨g1,g2,g3,g4,g5⟩:=h
    refine⟨g1,g2,g3,g4,bP.snoc g5 h1 h2 ?_ h4⟩
    rw [List.map_cons,g4] at h3
    simpa using h3
theorem bP.init {x:List UInt8} {e:lA}:∀ {es:List lA} {pl:Nat} {sts:List Nat} {q:Nat},bP x pl sts (es++[e]) q→∃ q',bP x pl sts es q'∧q'<x.length
  | [],pl,sts,q,h=>⟨pl,rfl,h.1⟩
  | e'::es,pl,sts,q,h=>by
    obtain⟨g1,g2,g3,g4,g5⟩:=h
    obtain⟨q',a,b⟩:=bP.init g5
    exact⟨q',⟨g1,g2,g3,g4,a⟩,b⟩
theorem jD (oc:List UInt8):stored oc≠[]:=by
  unfold stored;rw [d9];split <;> simp [bb]
theorem sQ (a oc post:List UInt8):xN (a++(stored oc++post)) a.length=some (oc,a.length+(stored oc).length):=by
  unfold xN
  rw [List.drop_left]
  unfold stored
  rw [List.append_assoc,B4]
  simp only [Nat.pow_zero,Nat.mul_one,Nat.zero_add]
  have hl:(bb (d9 oc.length)).length=(d9 oc.length).length:=aM _
  rw [if_neg (by simp only [List.length_append,hl];omega)]
  congr 2
  · rw [show a++(bb (d9 oc.length)++(oc++post))=(a++bb (d9 oc.length))++(oc++post) by simp,show a.length+(d9 oc.length).length=(a++bb (d9 oc.length)).length by simp [hl],List.drop_left,List.take_left]
  · simp only [List.length_append,hl];omega
theorem NT (a oc:List UInt8):xN (a++(stored oc).dropLast) a.length=none:=by
  unfold xN
  rw [List.drop_left]
  cases oc with
  | nil =>
    have:(stored []).dropLast=[]:=by unfold stored;rw [d9];rfl
    rw [this];rfl
  | cons c oc =>
    have e:(stored (c::oc)).dropLast=bb (d9 (c::oc).length)++(c::oc).dropLast:=by
      unfold stored;rw [List.dropLast_append_of_ne_nil (by simp)]
    rw [e,B4]
    have hl:(bb (d9 (c::oc).length)).length=(d9 (c::oc).length).length:=aM _
    simp only [Nat.pow_zero,Nat.mul_one,Nat.zero_add]
    rw [if_pos (by rw [List.length_append,List.length_append,hl,List.length_dropLast];simp only [List.length_cons];omega)]
structure KInv (st:St):Prop where
  known:∀ q∈st.known,q.2∈st.told.map (fun xx=>xx.pl)
  low:∀ q∈st.known,q.2<12+st.whole.length
theorem LS {n:Nat} (h:n<2 ^ 49):(bk n).length≤7:=by
  have:=uJ 6 (n / 128) (by rw [Nat.div_lt_iff_lt_mul (by decide)];omega +splitMinMax)
  simp [bk];omega +splitMinMax
theorem B6 {placed:Bool} {st:St} {r:Row} (K:KInv st) (R:eU r) (hw:st.whole.length≤100000) (pre tail:List UInt8) (hp:pre.length=12+st.whole.length) :
    JB (pre++bb (hd (aF placed st r).1 r.oc.length)++(aF placed st r).2.1++tail) pre.length ∧
    bK (pre++bb (hd (aF placed st r).1 r.oc.length)++(aF placed st r).2.1++tail) pre.length (st.told.map (fun xx=>xx.pl)) =
      gA (pre++bb (hd (aF placed st r).1 r.oc.length)++(aF placed st r).2.1++tail) pre.length (aF placed st r).1 r.oc.length (pre++bb (hd (aF placed st r).1 r.oc.length)++(aF placed st r).2.1).length (aF placed st r).2.2.1 (aF placed st r).2.2.2:=by
  have key:∀ k ex,k<8→A4 ((pre++bb (hd k r.oc.length)++ex++tail).drop pre.length) pre.length=some (k,r.oc.length,pre.length+(hd k r.oc.length).length):=fun k ex hk=>by
    rw [show pre++bb (hd k r.oc.length)++ex++tail=pre++(bb (hd k r.oc.length)++(ex++tail)) by simp,List.drop_left,II _ _ _ _ hk]
  have key2:∀ k ex,(pre++bb (hd k r.oc.length)++ex++tail).drop (pre.length+(hd k r.oc.length).length)=ex++tail:=fun k ex=>by
    rw [show pre.length+(hd k r.oc.length).length=(pre++bb (hd k r.oc.length)).length by simp [aM],show pre++bb (hd k r.oc.length)++ex++tail=(pre++bb (hd k r.oc.length))++(ex++tail) by simp,List.drop_left]
  unfold aF
  cases hb:r.base with
  | none =>
    dsimp only
    have hk:=R.kind
    refine⟨⟨_,key _ _ (by omega),fun h=>by dsimp only at h;omega⟩,?_⟩
    unfold bK
    rw [key _ _ (by omega)]
    dsimp only
    rw [if_neg (by unfold d6;simp;omega),if_neg (by omega),if_neg (by omega)]
    simp [aM]
  | some b =>
    dsimp only
    cases hm:(if placed=true then kn st.known b else none) with
    | some o =>
      dsimp only
      have hkn:kn st.known b=some o:=by
        cases placed with
        | true=>simpa using hm
        | false=>simp at hm
      have h1:=K.known _ (uY hkn)
      have h2:=K.low _ (uY hkn)
      dsimp only at h1 h2
      have hO:yZ ((pre++bb (hd 6 r.oc.length)++bb (bk (12+st.whole.length - o))++tail).drop (pre.length+(hd 6 r.oc.length).length)) (pre.length+(hd 6 r.oc.length).length) 0=some (12+st.whole.length - o,pre.length+(hd 6 r.oc.length).length+(bk (12+st.whole.length - o)).length):=by
        rw [key2,RH]
      have h7:=LS (n:=12+st.whole.length - o) (by omega)
      refine⟨⟨_,key _ _ (by decide),fun xx=>⟨_,hO,by dsimp only;omega⟩⟩,?_⟩
      unfold bK
      rw [key _ _ (by decide)]
      dsimp only
      rw [if_neg (by decide),if_pos rfl,hO]
      dsimp only
      have e:pre.length - (12+st.whole.length - o)=o:=by omega
      rw [e,if_neg (by
        rintro (z | z | z)
        · omega
        · omega
        · exact z h1)]
      simp [aM];rw [Nat.add_assoc]
    | none =>
      dsimp only
      have h4:=R.base b hb
      have e4:(((pre++bb (hd 7 r.oc.length)++b++tail).drop (pre.length+(hd 7 r.oc.length).length)).take 4)=b:=by rw [key2,← h4,List.take_left]
      refine⟨⟨_,key _ _ (by decide),fun h=>by dsimp only at h;omega⟩,?_⟩
      unfold bK
      rw [key _ _ (by decide)]
      dsimp only
      rw [if_neg (by decide),if_neg (by decide),if_pos rfl,e4,if_neg (by omega)]
      simp [aM,h4];rw [Nat.add_assoc]
theorem eU.ok {r:Row} (R:eU r):gE r:=⟨R.kind,by have:=R.oc;omega,by have:=R.oid;omega,fun b e=>by have:=R.base b e;omega⟩
theorem snoc_cases {α:Type} (l:List α):l=[]∨∃ i x,l=i++[x]:=by
  cases l with
  | nil=>exact .inl rfl
  | cons a l=>exact .inr ⟨_,_,(List.dropLast_concat_getLast (List.cons_ne_nil a l)).symm⟩
theorem d5 {placed:Bool} {st:St} {r:Row} (h:kn st.known r.oid=none):a6 placed st r=⟨st.whole++aG placed st r,st.told++[⟨12+st.whole.length,(aF placed st r).1,r.oc.length,(aF placed st r).2.2.1,(aF placed st r).2.2.2,r.oc,12+(st.whole++aG placed st r).length⟩],st.known++[(r.oid,12+st.whole.length)]⟩:=by
  unfold a6;rw [h]
theorem iR {placed:Bool} {st:St} {r:Row} {o:Nat} (h:kn st.known r.oid=some o):a6 placed st r=st:=by
  unfold a6;rw [h]
theorem D0 (placed:Bool) (st:St) (r:Row):0<(aG placed st r).length:=by
  unfold aG
  have:=List.length_pos_iff.mpr (jD r.oc)
  rw [List.length_append];omega
theorem eR (placed:Bool) (H:List UInt8) (hH:H.length=12):∀ (n:Nat) (dn:List Row),dn.length=n→(∀ r∈dn,eU r)→n≤40→KInv (a0 placed dn)∧∀ post,bP (H++(a0 placed dn).whole++post) 12 [] (a0 placed dn).told (12+(a0 placed dn).whole.length):=fun n=>by
  induction n with
  | zero =>
    intro dn e _ _
    have:dn=[]:=List.length_eq_zero_iff.mp e
    subst this
    exact⟨⟨fun q h=>(by cases h),fun q h=>(by cases h)⟩,fun post=>rfl⟩
  | succ n ih =>
    intro dn e hr hn
    rcases snoc_cases dn with rfl | ⟨dn,r,rfl⟩
    · cases e
    rw [List.length_append,List.length_singleton] at e
    obtain⟨K,S⟩:=ih dn (by omega) (fun r h=>hr r (by simp [h])) (by omega)
    have R:=hr r (by simp)
    have ok:=nX placed n dn (by omega) (fun r h=>(hr r (by simp [h])).ok) (by omega)
    have hw:=ok.whole
    rw [c6]
    cases hk:kn (a0 placed dn).known r.oid with
    | some o=>rw [iR hk];exact⟨K,S⟩
    | none =>
      rw [d5 hk]
      generalize hst:a0 placed dn=st at *
      have hpp:=D0 placed st r
      refine⟨⟨fun q hq=>?_,fun q hq=>?_⟩,fun post=>?_⟩
      · rcases List.mem_append.mp hq with h | h
        · have:=K.known q h;simp only [List.map_append,List.mem_append];exact .inl this
        · rw [List.mem_singleton] at h;subst h;simp
      · dsimp only at hq ⊢
        rw [List.length_append]
        rcases List.mem_append.mp hq with h | h
        · have:=K.low q h;omega
        · rw [List.mem_singleton] at h;subst h;dsimp only;omega
      · dsimp only
        have hpre:(H++st.whole).length=12+st.whole.length:=by rw [List.length_append,hH]
        have ex:H++(st.whole++aG placed st r)++post=(H++st.whole)++bb (hd (aF placed st r).1 r.oc.length)++(aF placed st r).2.1++(stored r.oc++post):=by simp [aG]
        obtain⟨g1,g2⟩:=B6 (placed:=placed) K R (by omega) (H++st.whole) (stored r.oc++post) hpre
        have S':=S (aG placed st r++post)
        rw [show H++st.whole++(aG placed st r++post)=H++(st.whole++aG placed st r)++post by simp] at S'
        rw [ex] at S' ⊢
        rw [hpre] at g1 g2
        have:=bP.snoc (e:=⟨12+st.whole.length,(aF placed st r).1,r.oc.length,(aF placed st r).2.2.1,(aF placed st r).2.2.2,r.oc,12+(st.whole++aG placed st r).length⟩) S' (by
          rw [← ex,List.length_append,List.length_append,List.length_append,hH];omega) g1 (by
          rw [List.nil_append,g2]
          unfold gA
          rw [sQ]
          dsimp only
          rw [if_neg (by simp)]
          congr 2
          simp only [aG,List.length_append,hH];omega) rfl
        exact this
theorem yL (placed:Bool):∀ (n:Nat) (rows:List Row),rows.length=n+1→(∀ r∈rows,eU r)→∃ dn r,(∀ r'∈dn,eU r')∧eU r∧dn.length≤n∧kn (a0 placed dn).known r.oid=none∧a0 placed rows=a6 placed (a0 placed dn) r:=fun n=>by
  induction n with
  | zero =>
    intro rows e hr
    match rows,e with
    | [r],_=>exact⟨[],r,(fun r' h=>(by cases h)),hr r (by simp),Nat.le_refl _,rfl,rfl⟩
  | succ n ih =>
    intro rows e hr
    rcases snoc_cases rows with rfl | ⟨dn,r,rfl⟩
    · cases e
    rw [List.length_append,List.length_singleton] at e
    cases hk:kn (a0 placed dn).known r.oid with
    | none=>exact⟨dn,r,fun r h=>hr r (by simp [h]),hr r (by simp),by omega,hk,c6 _ _ _⟩
    | some o =>
      rw [c6,iR hk]
      obtain⟨dn',r',a,b,c,d,e'⟩:=ih dn (by omega) (fun r h=>hr r (by simp [h]))
      exact⟨dn',r',a,b,by omega,d,e'⟩
theorem D1 (placed:Bool):∀ (n:Nat) (rows:List Row),rows.length=n→(∀ r∈rows,eU r)→∀ e∈(a0 placed rows).told,N1 e:=fun n=>by
  induction n with
  | zero =>
    intro rows e _ x hx
    have:rows=[]:=List.length_eq_zero_iff.mp e
    subst this;cases hx
  | succ n ih =>
    intro rows e hr x hx
    rcases snoc_cases rows with rfl | ⟨dn,r,rfl⟩
    · cases e
    rw [List.length_append,List.length_singleton] at e
    have ih:=ih dn (by omega) (fun r h=>hr r (by simp [h]))
    rw [c6] at hx
    cases hk:kn (a0 placed dn).known r.oid with
    | some o=>rw [iR hk] at hx;exact ih x hx
    | none =>
      rw [d5 hk] at hx
      rcases List.mem_append.mp hx with h | h
      · exact ih x h
      · rw [List.mem_singleton] at h;subst h
        have hk4:=(hr r (by simp)).kind
        unfold aF
        cases hb:r.base with
        | none=>exact⟨fun xx=>rfl,fun xx=>rfl⟩
        | some b =>
          dsimp only
          split
          · exact⟨fun h=>absurd rfl h,fun xx=>rfl⟩
          · exact⟨fun xx=>rfl,fun h=>absurd rfl h⟩
theorem lK (ks:List (List UInt8)) (x:List UInt8):(dig ks x).length=4:=aJ _ _
theorem nA {ks:List (List UInt8)} {x D:List UInt8} (hD:D.length=4) (hx:12≤x.length):cnt ks (x++D) =
    if x.take 4≠dF then (none,ks) else if c7 ((x.drop 4).take 4) 0≠2∧c7 ((x.drop 4).take 4) 0≠3 then (none,ks)
    else if dig ks x≠D then (none,bM ks x) else (some (c7 ((x.drop 8).take 4) 0),bM ks x):=by
  have e1:(x++D).length - 4=x.length:=by rw [List.length_append];omega
  have e2:(x++D).take 4=x.take 4:=List.take_append_of_le_length (by omega)
  have e3:((x++D).drop 4).take 4=(x.drop 4).take 4:=by
    rw [List.drop_append_of_le_length (by omega),List.take_append_of_le_length (by rw [List.length_drop];omega)]
  have e4:((x++D).drop 8).take 4=(x.drop 8).take 4:=by
    rw [List.drop_append_of_le_length (by omega),List.take_append_of_le_length (by rw [List.length_drop];omega)]
  unfold cnt
  rw [e1,e2,e3,e4,List.take_left,List.drop_left]
  by_cases h:x.take 4≠dF
  · rw [if_pos (.inr h),if_pos h]
  · rw [if_neg (by rintro (z | z);rw [List.length_append] at z;omega;exact h z),if_neg h]
noncomputable def dE (x:List UInt8):Prop:=∀ ks D,D.length=4→scanP ks (x++D)=none∧∀ n,(cnt ks (x++D)).1=some n→gB ((x++D).take ((x++D).length - 4)) n 12 []
theorem cW {ks:List (List UInt8)} {x:List UInt8} (h:(cnt ks x).1=none):scanP ks x=none∧∀ n,(cnt ks x).1=some n→gB (x.take (x.length - 4)) n 12 []:=by
  refine⟨?_,fun n e=>by rw [h] at e;cases e⟩
  unfold scanP;rw [h]
theorem nF {x:List UInt8} (h:12≤x.length→x.take 4=dF→(c7 ((x.drop 4).take 4) 0=2∨c7 ((x.drop 4).take 4) 0=3)→gB x (c7 ((x.drop 8).take 4) 0) 12 []∧cJ x (c7 ((x.drop 8).take 4) 0) 12 [] []=none):dE x:=by
  intro ks D hD
  by_cases hx:12≤x.length
  · have e:=nA (ks:=ks) hD hx
    by_cases h1:x.take 4=dF
    · by_cases h2:c7 ((x.drop 4).take 4) 0=2∨c7 ((x.drop 4).take 4) 0=3
      · obtain⟨f,s⟩:=h hx h1 h2
        rw [if_neg (by simpa using h1),if_neg (by omega)] at e
        by_cases h3:dig ks x=D
        · rw [if_neg (by simpa using h3)] at e
          have et:(x++D).take ((x++D).length - 4)=x:=by
            rw [show(x++D).length - 4=x.length by rw [List.length_append];omega,List.take_left]
          rw [et]
          refine⟨?_,fun n en=>?_⟩
          · unfold scanP;rw [e];dsimp only;rw [et];exact s
          · rw [e] at en;cases en;exact f
        · rw [if_pos h3] at e
          exact cW (by rw [e])
      · rw [if_neg (by simpa using h1),if_pos (by omega)] at e
        exact cW (by rw [e])
    · rw [if_pos h1] at e
      exact cW (by rw [e])
  · refine cW ?_
    unfold cnt
    rw [if_pos (.inl (by rw [List.length_append];omega))]
theorem iS {ks:List (List UInt8)} {x:List UInt8} (h:x.length<16):scanP ks x=none∧∀ n,(cnt ks x).1=some n→gB (x.take (x.length - 4)) n 12 []:=by
  refine cW ?_
  unfold cnt
  rw [if_pos (.inl h)]
theorem A3 (v n:Nat) (b:List UInt8):(aA v n b).take 4=dF:=by
  unfold aA
  rw [List.append_assoc,List.append_assoc]
  exact List.take_left' (by rfl)
theorem w5 (v n:Nat) (b:List UInt8):((aA v n b).drop 4).take 4=be v 4:=by
  unfold aA
  rw [List.append_assoc,List.append_assoc,List.drop_left' (by rfl),List.take_left' (aJ _ _)]
theorem BZ (v n:Nat) (b:List UInt8):((aA v n b).drop 8).take 4=be n 4:=by
  unfold aA
  rw [List.append_assoc,List.drop_left' (by simp [aJ]),List.take_left' (aJ _ _)]
theorem lO {ks:List (List UInt8)} {v n:Nat} {b:List UInt8} (hv:v=2∨v=3) (hn:n<2 ^ 32):cnt ks (aA v n b++dig ks (aA v n b))=(some n,bM ks (aA v n b)):=by
  rw [nA (lK _ _) (by rw [aO];omega),A3,w5,BZ,eP v (by omega),eP n hn,if_neg (by simp),if_neg (by omega),if_neg (by simp)]
theorem bR (v n:Nat) (b:List UInt8):aA v n b=([80,65,67,75]++be v 4++be n 4)++b:=rfl
theorem bZ (v n:Nat):([80,65,67,75]++be v 4++be n 4:List UInt8).length=12:=by simp [aJ]
section
variable {placed:Bool} {rows:List Row} {v n:Nat}
theorem DK (hr:∀ r∈rows,eU r) (hl:rows.length≤40) (H:List UInt8) (hH:H.length=12):gB (H++(a0 placed rows).whole) (a0 placed rows).told.length 12 []∧cJ (H++(a0 placed rows).whole) (a0 placed rows).told.length 12 [] []=some (a0 placed rows).told:=by
  obtain⟨K,S⟩:=eR placed H hH _ rows rfl hr hl
  have S:=S []
  rw [List.append_nil] at S
  refine⟨bP.DI (n:=0) S trivial,?_⟩
  have:=bP.cJ (n:=0) (acc:=[]) S
  rw [Nat.add_zero] at this
  rw [this,fF,if_pos (by rw [List.length_append,hH])];rfl
theorem qD {ks:List (List UInt8)} (hr:∀ r∈rows,eU r) (hl:rows.length≤40) (hv:v=2∨v=3) (hn:(a0 placed rows).told.length<2 ^ 32) :
    scanP ks (aA v (a0 placed rows).told.length (a0 placed rows).whole++dig ks (aA v (a0 placed rows).told.length (a0 placed rows).whole))=some (a0 placed rows).told ∧
    ∀ n,(cnt ks (aA v (a0 placed rows).told.length (a0 placed rows).whole++dig ks (aA v (a0 placed rows).told.length (a0 placed rows).whole))).1=some n→gB ((aA v (a0 placed rows).told.length (a0 placed rows).whole++dig ks (aA v (a0 placed rows).told.length (a0 placed rows).whole)).take ((aA v (a0 placed rows).told.length (a0 placed rows).whole++dig ks (aA v (a0 placed rows).told.length (a0 placed rows).whole)).length - 4)) n 12 []:=by
  have et:∀ x:List UInt8,(x++dig ks x).take ((x++dig ks x).length - 4)=x:=fun x=>by
    rw [show(x++dig ks x).length - 4=x.length by rw [List.length_append,lK];omega,List.take_left]
  obtain⟨f,s⟩:=DK (placed:=placed) hr hl _ (bZ v (a0 placed rows).told.length)
  rw [← bR] at f s
  refine⟨?_,fun n e=>?_⟩
  · unfold scanP;rw [lO hv hn];dsimp only;rw [et];exact s
  · rw [lO hv hn] at e;cases e;rw [et];exact f
theorem eD {m:Nat} {b:List UInt8} (hm:m<2 ^ 32) (h:gB (aA v m b) m 12 []∧cJ (aA v m b) m 12 [] []=none):dE (aA v m b) :=
  nF fun xx xx xx=>by rw [BZ,eP m hm];exact h
theorem ES {m:Nat} (hr:∀ r∈rows,eU r) (hl:rows.length≤40) (hm:(a0 placed rows).told.length<m) (hm2:m<2 ^ 32):dE (aA v m (a0 placed rows).whole):=by
  refine eD hm2 ?_
  obtain⟨K,S⟩:=eR placed _ (bZ v m) _ rows rfl hr hl
  have S:=S []
  rw [List.append_nil,← bR] at S
  obtain⟨k,rfl⟩:∃ k,m=(a0 placed rows).told.length+(k+1):=⟨m - (a0 placed rows).told.length - 1,by omega +splitMinMax⟩
  have hx:(aA v ((a0 placed rows).told.length+(k+1)) (a0 placed rows).whole).length=12+(a0 placed rows).whole.length:=aO _ _ _
  refine⟨bP.DI S fun h=>?_,?_⟩
  · omega +splitMinMax
  · rw [bP.cJ (n:=k+1) (acc:=[]) S,cG,if_pos (by omega +splitMinMax)]
theorem EP {m:Nat} (hr:∀ r∈rows,eU r) (hl:rows.length≤40) (hm:m+1=(a0 placed rows).told.length) (hm2:m<2 ^ 32):dE (aA v m (a0 placed rows).whole):=by
  refine eD hm2 ?_
  obtain⟨K,S⟩:=eR placed _ (bZ v m) _ rows rfl hr hl
  have S:=S []
  rw [List.append_nil,← bR] at S
  have hx:(aA v m (a0 placed rows).whole).length=12+(a0 placed rows).whole.length:=aO _ _ _
  rcases snoc_cases (a0 placed rows).told with h | ⟨es,e,h⟩
  · rw [h] at hm;cases hm
  rw [h] at S hm
  rw [List.length_append,List.length_singleton] at hm
  obtain⟨q',S',hq⟩:=bP.init S
  have em:m=es.length:=by omega
  have:=bP.cJ (n:=0) (acc:=[]) S'
  have f:=bP.DI (n:=0) S' trivial
  rw [Nat.add_zero,← em] at this f
  exact⟨f,by rw [this,fF,if_neg (by omega)]⟩
theorem EU {c:List UInt8} (hr:∀ r∈rows,eU r) (hl:rows.length≤40) (hc:c≠[]) (hm2:(a0 placed rows).told.length<2 ^ 32):dE (aA v (a0 placed rows).told.length ((a0 placed rows).whole++c)):=by
  refine eD hm2 ?_
  obtain⟨K,S⟩:=eR placed _ (bZ v (a0 placed rows).told.length) _ rows rfl hr hl
  have S:=S c
  rw [List.append_assoc,← bR] at S
  have hx:(aA v (a0 placed rows).told.length ((a0 placed rows).whole++c)).length=12+(a0 placed rows).whole.length+c.length:=by rw [aO,List.length_append];omega
  have:=bP.cJ (n:=0) (acc:=[]) S
  rw [Nat.add_zero] at this
  have hc:=List.length_pos_iff.mpr hc
  exact⟨bP.DI (n:=0) S trivial,by rw [this,fF,if_neg (by omega)]⟩
theorem JG (hr:∀ r∈rows,eU r) (hl:rows.length≤40) (h1:1≤rows.length) (hm2:(a0 placed rows).told.length<2 ^ 32):dE (aA v (a0 placed rows).told.length (a0 placed rows).whole.dropLast):=by
  refine eD hm2 ?_
  obtain⟨dn,r,hd,R,hdl,hk,e⟩:=yL placed (rows.length - 1) rows (by omega) hr
  have ok:=nX placed _ dn rfl (fun r h=>(hd r h).ok) (by omega)
  have hw:=ok.whole
  rw [e,d5 hk]
  dsimp only
  obtain⟨K,S⟩:=eR placed _ (bZ v ((a0 placed dn).told.length+1)) _ dn rfl hd (by omega)
  generalize hst:a0 placed dn=st at *
  rw [List.length_append,List.length_singleton]
  have ex:aA v (st.told.length+1) (st.whole++aG placed st r).dropLast=([80,65,67,75]++be v 4++be (st.told.length+1) 4++st.whole)++bb (PackLaw.hd (aF placed st r).1 r.oc.length)++(aF placed st r).2.1++(stored r.oc).dropLast:=by
    rw [bR]
    unfold aG
    rw [List.append_assoc (bb _),List.dropLast_append_of_ne_nil (by simp [jD]),List.dropLast_append_of_ne_nil (by simp [jD]),List.dropLast_append_of_ne_nil (jD _)]
    simp
  have hpre:([80,65,67,75]++be v 4++be (st.told.length+1) 4++st.whole:List UInt8).length=12+st.whole.length:=by rw [List.length_append,bZ]
  obtain⟨g1,g2⟩:=B6 (placed:=placed) K R (by omega) _ (stored r.oc).dropLast hpre
  have S:=S (bb (PackLaw.hd (aF placed st r).1 r.oc.length)++(aF placed st r).2.1++(stored r.oc).dropLast)
  rw [← List.append_assoc,← List.append_assoc,← ex] at S
  rw [← ex,hpre] at g1 g2
  have hx:=congrArg List.length ex
  have hs:bK (aA v (st.told.length+1) (st.whole++aG placed st r).dropLast) (12+st.whole.length) (st.told.map (fun xx=>xx.pl))=none:=by
    rw [g2,ex]
    unfold gA
    rw [NT]
  refine⟨bP.DI (n:=1) S fun h=>⟨g1,fun e he=>?_⟩,?_⟩
  · rw [List.nil_append,hs] at he;cases he
  · rw [bP.cJ (n:=1) (acc:=[]) S,cG,List.nil_append,hs]
    split <;> rfl
end
theorem hdAt (pre t:List UInt8) (k s:Nat) (hk:k<8):A4 ((pre++(bb (hd k s)++t)).drop pre.length) pre.length=some (k,s,pre.length+(hd k s).length):=by
  rw [List.drop_left,II _ _ _ _ hk]
theorem Q0 {v k s:Nat} {c:List UInt8} (hk:k<8) (h6:k≠6):JB (aA v 1 (bb (hd k s)++stored c)) 12:=by
  have:=hdAt ([80,65,67,75]++be v 4++be 1 4) (stored c) k s hk
  rw [bZ,← bR] at this
  exact⟨_,this,fun h=>absurd h h6⟩
theorem uG {v k s:Nat} {c:List UInt8} (hk:k<8) (h6:k≠6) (h7:k≠7) (h:d6 k=true→c.length≠s):dE (aA v 1 (bb (hd k s)++stored c)):=by
  refine eD (by decide) ?_
  have hh:=hdAt ([80,65,67,75]++be v 4++be 1 4) (stored c) k s hk
  rw [bZ,← bR] at hh
  have hs:bK (aA v 1 (bb (hd k s)++stored c)) 12 []=none:=by
    unfold bK
    rw [hh]
    dsimp only
    by_cases ok:d6 k=false
    · rw [if_pos ok]
    · rw [if_neg ok,if_neg h6,if_neg h7]
      unfold gA
      have:=sQ ([80,65,67,75]++be v 4++be 1 4++bb (hd k s)) c []
      rw [List.append_nil,show([80,65,67,75]++be v 4++be 1 4++bb (hd k s):List UInt8).length=12+(hd k s).length by rw [List.length_append,bZ,aM],show([80,65,67,75]++be v 4++be 1 4++bb (hd k s)++stored c:List UInt8)=aA v 1 (bb (hd k s)++stored c) by simp [aA]] at this
      rw [this]
      dsimp only
      rw [if_pos (h (by simpa using ok))]
  refine⟨fun xx=>⟨Q0 hk h6,fun e he=>trivial⟩,?_⟩
  rw [cG,hs]
  split <;> rfl
theorem bk_ok:∀ r<8,tA r<128∧(tA r=0∨17<tA r∨17 - tA r≠12):=by decide
theorem ER {v b:Nat} (hb:b<128) (hb2:b=0∨17<b∨17 - b≠12):dE (aA v 2 (bb (hd 3 3)++stored [97,98,99]++bb (hd 6 1)++bb [b]++stored [120])):=by
  refine eD (by decide) ?_
  have e3:bb (hd 3 3)=[51]:=by unfold hd;rw [jU];rfl
  have e6:bb (hd 6 1)=[97]:=by unfold hd;rw [jU];rfl
  have es:stored [97,98,99]=[3,97,98,99]:=by unfold stored;rw [d9];rfl
  have ex:stored [120]=[1,120]:=by unfold stored;rw [d9];rfl
  have e:aA v 2 (bb (hd 3 3)++stored [97,98,99]++bb (hd 6 1)++bb [b]++stored [120])=([80,65,67,75]++be v 4++be 2 4)++[51,3,97,98,99,97,b.toUInt8,1,120]:=by
    rw [bR,e3,e6,es,ex];rfl
  rw [e]
  generalize hH:([80,65,67,75]++be v 4++be 2 4:List UInt8)=H
  have hl:H.length=12:=by rw [← hH,bZ]
  have d12:(H++[51,3,97,98,99,97,b.toUInt8,1,120]).drop 12=[51,3,97,98,99,97,b.toUInt8,1,120]:=List.drop_left' hl
  have d13:(H++[51,3,97,98,99,97,b.toUInt8,1,120]).drop 13=[3,97,98,99,97,b.toUInt8,1,120]:=by rw [show 13=12+1 by rfl,← List.drop_drop,d12];rfl
  have d14:(H++[51,3,97,98,99,97,b.toUInt8,1,120]).drop 14=[97,98,99,97,b.toUInt8,1,120]:=by rw [show 14=12+2 by rfl,← List.drop_drop,d12];rfl
  have d17:(H++[51,3,97,98,99,97,b.toUInt8,1,120]).drop 17=[97,b.toUInt8,1,120]:=by rw [show 17=12+5 by rfl,← List.drop_drop,d12];rfl
  have d18:(H++[51,3,97,98,99,97,b.toUInt8,1,120]).drop 18=[b.toUInt8,1,120]:=by rw [show 18=12+6 by rfl,← List.drop_drop,d12];rfl
  have hx:(H++[51,3,97,98,99,97,b.toUInt8,1,120]).length=21:=by rw [List.length_append,hl];rfl
  generalize H++[51,3,97,98,99,97,b.toUInt8,1,120]=x at d12 d13 d14 d17 d18 hx
  have s1:bK x 12 []=some ⟨12,3,3,none,none,[97,98,99],17⟩:=by
    unfold bK
    rw [d12,show A4 [51,3,97,98,99,97,b.toUInt8,1,120] 12=some (3,3,13) from rfl]
    dsimp only
    rw [if_neg (by decide),if_neg (by decide),if_neg (by decide)]
    unfold gA xN
    rw [d13,show A5 [3,97,98,99,97,b.toUInt8,1,120] 13 0 0=some (3,14) from rfl]
    dsimp only
    rw [if_neg (by omega),d14]
    rfl
  have hO:yZ (x.drop 18) 18 0=some (b,19):=by
    rw [d18,iQ,JA (by omega),if_pos hb,Nat.mod_eq_of_lt hb];simp
  have h17:A4 (x.drop 17) 17=some (6,1,18):=by rw [d17];rfl
  have s2:bK x 17 [12]=none:=by
    unfold bK
    rw [h17]
    dsimp only
    rw [if_neg (by decide),if_pos rfl,hO]
    dsimp only
    rw [if_pos (by
      rcases hb2 with z | z | z
      · exact .inl z
      · exact .inr (.inl z)
      · exact .inr (.inr (by simpa using z)))]
  refine⟨fun xx=>⟨⟨(3,3,13),by rw [d12];rfl,fun h=>by cases h⟩,fun e he=>?_⟩,?_⟩
  · rw [s1] at he;cases he
    exact fun xx=>⟨⟨_,h17,fun xx=>⟨_,hO,by dsimp only;omega⟩⟩,fun e he=>trivial⟩
  · rw [cG,if_neg (by omega),s1]
    dsimp only
    rw [cG,if_neg (by omega),List.nil_append,s2]
theorem xU {m n:Nat} {b:List UInt8} (h4:4≤m) (hm:m<2 ^ 32):dE (aA m n b) :=
  nF fun xx xx h=>by rw [w5,eP m hm] at h;omega
theorem ET {x:List UInt8} (h:x.take 4≠dF):dE x:=nF fun xx h' xx=>absurd h' h
theorem ED {placed:Bool} {rows:List Row} {r1 r2 r3 r4 r5 r6:Nat} (hr:∀ r∈rows,eU r) (hl:rows.length≤40) (h1:1≤rows.length) (h2:1≤(a0 placed rows).told.length) (h3:(a0 placed rows).told.length≤1000) (b1:r1<3) (b2:r2<9) (b4:r4<2) (b5:r5<40) (b6:r6<8) :
    ∀ x∈bQ (a0 placed rows).whole (a0 placed rows).told.length r1 r2 r3 r4 r5 r6,dE x:=by
  intro x hx
  simp only [bQ,List.mem_cons,List.not_mem_nil,or_false] at hx
  rcases hx with rfl | rfl | rfl | rfl | rfl | rfl | rfl | rfl | rfl
  · exact ES hr hl (by omega) (by omega)
  · exact EP hr hl (by omega) (by omega)
  · exact xU (by omega) (by omega)
  · refine ET ?_
    rw [List.append_assoc,List.append_assoc,List.take_left' (by rfl)]
    decide
  · exact EU hr hl (by simp [bb]) (by omega)
  · exact JG hr hl h1 (by omega)
  · match r4,b4 with
    | 0,_=>exact uG (by decide) (by decide) (by decide) (fun h=>by revert h;decide)
    | 1,_=>exact uG (by decide) (by decide) (by decide) (fun h=>by revert h;decide)
  · exact uG (by decide) (by decide) (by decide) (fun xx=>by simp;omega)
  · obtain⟨a,b⟩:=bk_ok r6 b6
    exact ER a b
noncomputable def BB (y:List UInt8):Prop:=∀ ks,scanP ks y=none∧∀ n,(cnt ks y).1=some n→gB (y.take (y.length - 4)) n 12 []
theorem pE {ks:List (List UInt8)}:∀ (n:Nat) (l:List (List UInt8)),l.length=n→∀ y∈(aY ks l).1,∃ x∈l,∃ D:List UInt8,D.length=4∧y=x++D:=fun n=>by
  induction n with
  | zero=>intro l e y hy;have:l=[]:=List.length_eq_zero_iff.mp e;subst this;cases hy
  | succ n ih =>
    intro l e y hy
    rcases snoc_cases l with rfl | ⟨i,x,rfl⟩
    · cases e
    rw [List.length_append,List.length_singleton] at e
    rw [dC] at hy
    rcases List.mem_append.mp hy with h | h
    · obtain⟨z,a,b⟩:=ih i (by omega) y h
      exact⟨z,by simp [a],b⟩
    · rw [List.mem_singleton] at h
      exact⟨x,by simp,_,lK _ _,h⟩
theorem tN {placed:Bool} {rows:List Row} {ks:List (List UInt8)} {r1 r2 r3 r4 r5 r6:Nat} (hr:∀ r∈rows,eU r) (hl:rows.length≤40) (h1:1≤rows.length) (h2:1≤(a0 placed rows).told.length) (h3:(a0 placed rows).told.length≤1000) (b1:r1<3) (b2:r2<9) (b4:r4<2) (b5:r5<40) (b6:r6<8) :
    ∀ y∈(aY ks (bQ (a0 placed rows).whole (a0 placed rows).told.length r1 r2 r3 r4 r5 r6)).1++[[],dF,signed (aY ks (bQ (a0 placed rows).whole (a0 placed rows).told.length r1 r2 r3 r4 r5 r6)).2 (dF++be 2 4)],BB y:=by
  intro y hy
  rcases List.mem_append.mp hy with h | h
  · obtain⟨x,hx,D,hD,rfl⟩:=pE _ _ rfl y h
    exact fun ks=>ED hr hl h1 h2 h3 b1 b2 b4 b5 b6 x hx ks D hD
  · simp only [List.mem_cons,List.not_mem_nil,or_false] at h
    rcases h with rfl | rfl | rfl
    · exact fun ks=>iS (by decide)
    · exact fun ks=>iS (by decide)
    · exact fun ks=>iS (by unfold signed;rw [List.length_append,lK,List.length_append,aJ];decide)
theorem EF {placed:Bool} {rows:List Row} {ks:List (List UInt8)} {r1 r2 r3 r4 r5 r6:Nat} (hw:(a0 placed rows).whole.length≤90000) (b4:r4<2) (b5:r5<40) :
    ∀ y∈(aY ks (bQ (a0 placed rows).whole (a0 placed rows).told.length r1 r2 r3 r4 r5 r6)).1++[[],dF,signed (aY ks (bQ (a0 placed rows).whole (a0 placed rows).told.length r1 r2 r3 r4 r5 r6)).2 (dF++be 2 4)],y.length≤100000:=by
  intro y hy
  rcases List.mem_append.mp hy with h | h
  · obtain⟨x,hx,D,hD,rfl⟩:=pE _ _ rfl y h
    have hx2:x.length≤90100:=by
      have hhd:=b8 (n:=zf r4) (s:=1) (by omega)
      have hhd5:=b8 (n:=3) (s:=2+r5) (by omega)
      have ha3:=b8 (n:=3) (s:=3) (by omega)
      have ha6:=b8 (n:=6) (s:=1) (by omega)
      have hs1:=bW (x:=[97,98,99]) (by simp)
      have hs2:=bW (x:=[120]) (by simp)
      simp only [List.length_cons,List.length_nil] at hs1 hs2
      simp only [bQ,List.mem_cons,List.not_mem_nil,or_false] at hx
      rcases hx with rfl | rfl | rfl | rfl | rfl | rfl | rfl | rfl | rfl
      · rw [aO];omega
      · rw [aO];omega
      · rw [aO];omega
      · rw [List.length_append,List.length_append,List.length_append,aJ,aJ];simp only [List.length_cons,List.length_nil];omega
      · rw [aO,List.length_append,aM];simp only [List.length_cons,List.length_nil];omega
      · rw [aO,List.length_dropLast];omega
      · rw [aO,List.length_append,aM];omega
      · rw [aO,List.length_append,aM];omega
      · rw [aO,List.length_append,List.length_append,List.length_append,List.length_append,aM,aM,aM];simp only [List.length_cons,List.length_nil];omega
    rw [List.length_append,hD];omega
  · simp only [List.mem_cons,List.not_mem_nil,or_false] at h
    rcases h with rfl | rfl | rfl
    · decide
    · decide
    · unfold signed;rw [List.length_append,lK,List.length_append,aJ];decide
theorem BI (ks:List (List UInt8)) (x:List UInt8):(cnt ks x).2.length≤ks.length+1:=by
  unfold cnt
  have:=mO ks (x.take (x.length - 4))
  split
  · dsimp only;omega
  · split
    · dsimp only;omega
    · split <;> (dsimp only;omega)
theorem zG (W:List UInt8) (rest:List (List UInt8)):numAt (W::rest) W=1:=by
  unfold numAt bM;rw [if_pos (by simp)];simp
theorem lJ (W:List UInt8) (rest:List (List UInt8)):dig (W::rest) W=be 1 4:=by unfold dig;rw [zG]
theorem LZ (W:List UInt8):dig [] W=be 1 4:=by unfold dig numAt bM;simp
theorem IK (W:List UInt8):bM [] W=[W]:=by unfold bM;simp
theorem d4 {ks:List (List UInt8)} {x:List UInt8} (h:x∈ks):bM ks x=ks:=by unfold bM;rw [if_pos h]
theorem yR {W V:List UInt8} (h:W≠V):bM [W] V=[W,V]:=by unfold bM;rw [if_neg (by simpa using fun z=>h z.symm)];rfl
theorem L4 {W V:List UInt8} (h:W≠V):dig [W] V=be 2 4:=by
  unfold dig numAt;rw [yR h];simp [List.idxOf_cons,beq_eq_false_iff_ne.mpr h]
theorem xZ {W V:List UInt8} (h:W≠V):dig [W,V] V=be 2 4:=by
  unfold dig numAt;rw [d4 (by simp)];simp [List.idxOf_cons,beq_eq_false_iff_ne.mpr h]
theorem RA (n m:Nat) (b c:List UInt8):aA 2 n b≠aA 3 m c:=fun z=>by
  have:=congrArg (fun x:List UInt8=>(x.drop 4).take 4) z
  simp only [w5] at this
  exact absurd (BE (by decide) (by decide) this) (by decide)
theorem FN {W B:List UInt8} {rest:List (List UInt8)} (h:B≠W):numAt (W::rest) B≠1:=by
  unfold numAt
  have:∃ r,bM (W::rest) B=W::r:=by unfold bM;split;exact⟨_,rfl⟩;exact⟨_,rfl⟩
  obtain⟨r,e⟩:=this
  rw [e,List.idxOf_cons,beq_eq_false_iff_ne.mpr (fun z=>h z.symm)]
  simp
theorem FL (ks:List (List UInt8)) (x:List UInt8):numAt ks x≤ks.length+1:=by
  unfold numAt
  have h1:=List.idxOf_lt_length_iff.mpr (yQ ks x)
  have h2:=mO ks x
  omega
theorem sJ {W:List UInt8} {rest:List (List UInt8)} {i:Nat} {c:UInt8} (hw:12≤W.length) (hk:rest.length≤1000) (hi:i<(W++be 1 4).length) (hc:(W++be 1 4)[i]≠c) :
    scanP (W::rest) ((W++be 1 4).take i++[c]++(W++be 1 4).drop (i+1))=none∧∀ n,(cnt (W::rest) ((W++be 1 4).take i++[c]++(W++be 1 4).drop (i+1))).1=some n→gB (((W++be 1 4).take i++[c]++(W++be 1 4).drop (i+1)).take (((W++be 1 4).take i++[c]++(W++be 1 4).drop (i+1)).length - 4)) n 12 []:=by
  have e:(W++be 1 4).take i++[c]++(W++be 1 4).drop (i+1)=(W++be 1 4).set i c:=by
    rw [List.set_eq_take_append_cons_drop,if_pos hi];simp
  rw [e]
  refine cW ?_
  have key:∀ B D:List UInt8,12≤B.length→D.length=4→dig (W::rest) B≠D→(cnt (W::rest) (B++D)).1=none:=fun B D hB hD h=>by
    rw [nA hD hB]
    split
    · rfl
    · split
      · rfl
      · first | rfl | rw [if_pos h]
  rw [List.set_append]
  by_cases h:i<W.length
  · rw [if_pos h]
    refine key _ _ (by rw [List.length_set];exact hw) (aJ _ _) fun z=>?_
    have hne:W.set i c≠W:=fun y=>by
      have:(W.set i c)[i]'(by rw [List.length_set];exact h)=c:=List.getElem_set_self _
      rw [List.getElem_append_left h] at hc
      exact hc (by rw [← this];congr 1;exact y.symm)
    exact FN hne (BE (by have:=FL (W::rest) (W.set i c);rw [List.length_cons] at this;omega) (by decide) z)
  · rw [if_neg h]
    refine key _ _ hw (by rw [List.length_set,aJ]) fun z=>?_
    rw [lJ] at z
    rw [List.getElem_append_right (by omega)] at hc
    rw [List.length_append] at hi
    have:((be 1 4).set (i - W.length) c)[i - W.length]'(by rw [List.length_set];omega)=c:=List.getElem_set_self _
    exact hc (by rw [← this];congr 1)
section
variable {prog:Program} {w:World} {A:Around} {s:Shared}
theorem nB {R:Result→Shared→Prop} {a:Addr} {o:Obj} {fd:FuncData} {body:List Stmt} {vals:List Value} {binds:List (Str×Value)}
    (hroom:A.depth<recursionLimit) (ho:s.heap.get? a=some o) (hdata:o.data=.func fd) (hlim:s.heap.NoLimit) (hcd:s.heap.CodeRec fd.code fd.qualname)
    (hbody:fd.body=.stmts body) (hbind:bindArgs fd ⟨vals,[]⟩=pure binds) (hclo:fd.closure=[])
    (hkind:∀ x∈binds,fd.scope.names.lookup x.1=some .local∨(fd.scope.names.lookup x.1=some .cell∧((cellsFrom (s.heap.objs.size+1) fd.scope.names []).lookup x.1).isSome=true))
    (h:∀ s₁,InCallC s (callEnvC fd s.heap.objs.size a).locals (bindL (callEnvC fd s.heap.objs.size a).kindOf binds fun xx=>none) (callEnvC fd s.heap.objs.size a).cells
        (bindC (callEnvC fd s.heap.objs.size a).kindOf binds fun xx=>none) s₁ →
      bX (model prog w) (A.deeper (callEnvC fd s.heap.objs.size a)) (execs body (callEnvC fd s.heap.objs.size a)) (fun f s'=>R (.ok (.ret (match f with | .ret v=>v | _=>.none))) s')
        (fun e s'=>wpAny (model prog w) (A.deeper (callEnvC fd s.heap.objs.size a)) (leaving (callEnvC fd s.heap.objs.size a) e) (fun xx s''=>R (.error e) s'') (fun e' s''=>R (.error e') s'') s') s₁)
    (hco:fd.scope.isCoroutine=false) (hgen:fd.scope.isGenerator=false) (hk:fd.scope.kind=.function) :
    b0 (model prog w) A (.call (.ref a) ⟨vals,[]⟩) R s:=by
  refine bC rfl ?_
  show bX _ A.in1 (callAny (.ref a) _) _ _ s
  simp only [callAny]
  refine aD (.of (wpAny_load ho ?_))
  obtain⟨c,oc,vs,tq,hc,hoc,hdc,hq⟩:=hcd
  unfold callEnvC at h
  rw [hc] at h
  simp only [hdata,callFunction,hco,hgen,hbody,hc]
  refine aD (m:=field (.ref c) 1) (.of (wpAny_field hoc hdc hq (aD (aR ?_))))
  rw [hbind,hclo]
  refine aD (aR ?_)
  refine aD (.of (wpAny_newFunctionEnv_cells hk hkind fun env he s' x=>?_))
  subst he
  exact aD (.of (wpAny_enterFrame (hlim.keeps x.toInCall.keep) hroom (aR ⟨rfl,qA (h s' x)⟩)))
end
section
variable {w:World} {A:Around} {F:FM} {G:Led}
theorem N0.fnC {N:PV→Led→Prop} {X:Addr→Value→PV→Led→Prop} {a:Addr} {st:Stmt} {q:Str} {cd:Value} {vs:List Value} {bs:List (Str×Value)} {ρ:List (Str×PV)} {cs:Addr→List (Str×Addr)} (cp:Str→Option PV) (I:a8 w.params a st q cd) (hroom:A.depth<recursionLimit)
    (hbind:bindArgs (aN w.params a) ⟨vs,[]⟩=pure bs)
    (hkind:∀ n,∀ x∈bs,(aC st).names.lookup x.1=some .local∨((aC st).names.lookup x.1=some .cell∧((cs n).lookup x.1).isSome=true))
    (hcs:∀ n,cellsFrom (n+1) (aC st).names []=cs n)
    (hloc:∀ x p,Look ρ x p→∃ v,bindL (fun n=>(aC st).names.lookup n) bs (fun xx=>none) x=some v∧p.Is w.params F v)
    (hcell:∀ L,∀ nc∈cs L,(cs L).lookup nc.1=some nc.2∧match cp nc.1 with | some p=>∃ v,bindC (fun n=>(aC st).names.lookup n) bs (fun xx=>none) nc.1=some v∧p.Is w.params F v | none=>bindC (fun n=>(aC st).names.lookup n) bs (fun xx=>none) nc.1=none)
    (h:∀ L oc,(∀ n,(oc n).data=.cell none)→bD w (A.deeper (aT st q a cs cd L)) (aT st q a cs cd L) (cQ st) ((L,.frame ρ)::(iY cp oc (cs L)++G)) (bI L N X)) :
    N0 w A F a vs G (fun G' F' v=>∃ p,p.Is w.params F' v∧N p G') X:=fun F1 H s hh k R l S q0 x0=>by
  obtain⟨oc,od,sl,ho⟩:=I.there
  have henv:callEnvC (aN w.params a) hh.objs.size a=aT st q a cs cd hh.objs.size:=by rw [I.env,show(fun L=>cellsFrom (L+1) (aC st).names [])=cs from funext hcs]
  refine nB (fd:=aN w.params a) (body:=cQ st) hroom (S.kf _ _ ho) rfl S.nolimit (codeRec_of S.kf I.code) I.body hbind I.clo ?_ (fun s₁ hi=>?_)
    (by rw [I.scope];exact I.co) (by rw [I.scope];exact I.gen) (by rw [I.scope];exact I.kind)
  · rw [I.scope];show ∀ x∈bs,_∨(_∧(List.lookup x.1 (cellsFrom (hh.objs.size+1) _ [])).isSome=true);rw [hcs];exact hkind _
  rw [show(sh s hh k).heap.objs.size=hh.objs.size from rfl,henv] at hi ⊢
  have kO:∀ b o,hh.get? b=some o→s₁.heap.get? b=some o:=hi.toInCall.keep
  obtain⟨h₀,tk,rfl⟩:=hi.toInCall.same
  have hns:h₀.Ns hh.objs.size (bindL (fun n=>(aC st).names.lookup n) bs (fun xx=>none)):=hi.toInCall.ns
  have hce:∀ n c,(cs hh.objs.size).lookup n=some c→h₀.IsCell c (bindC (fun n=>(aC st).names.lookup n) bs (fun xx=>none) n):=hi.cell
  have hap:(cs hh.objs.size).Pairwise fun x y=>x.2≠y.2:=hi.apart
  have hab:∀ n c,(n,c)∈cs hh.objs.size→hh.objs.size<c:=hi.above
  clear hi
  generalize hL:hh.objs.size=L at hns hce hap hab ⊢
  obtain⟨envs,he,hf⟩:=S.fr
  have nL:L∉(G++H).map (fun xx=>xx.1):=hL ▸ S.ne_size
  obtain⟨ocs,ho1,B⟩:=S.OA (env':=aT st q a cs cd L) l kO hL (by show(aC st).kind≠_;rw [I.kind];decide) rfl hns hce hap hab hloc (hcell L)
  refine h L ocs ho1 F1 H s h₀ tk _ _ (Le.zero _) B (fun f F' h' k' G' l' S' n=>?_) (fun e C c p F' h' k' G' l' S' n=>?_)
  · cases f with
    | next =>
      obtain⟨ρ,G'',d,nn⟩:=n
      exact q0 _ F' h' k' G'' l' (S.up nL (d _ _ _ _ _ S')) ⟨.none,rfl,nn⟩
    | ret v =>
      obtain⟨p,pv,ρ,G'',d,nn⟩:=n
      exact q0 v F' h' k' G'' l' (S.up nL (d _ _ _ _ _ S')) ⟨p,pv,nn⟩
    | _=>exact n.elim
  · obtain⟨ρ,G'',d,nn⟩:=n
    refine iZ S' (outer:=envs) (by show A.frames.map _=_;rw [he];rfl) rfl fun h'' S'' xx=>?_
    exact x0 e C c p F' h'' k' G'' l' (S.up nL ((d.under S'').perm (List.Perm.swap _ _ _))) nn
theorem Sb.newList {h h':Heap} {vs:List Value} {ps:List PV} {n:Nat} (S:Sb w A F h G) (k:Kp h h') (ho:h'.get? h.objs.size=some (seqObj "list" vs n)) (pv:aS w.params F ps vs):Sb w A F h' ((h.objs.size,.list ps)::G):=by
  have S':=S.ext k
  refine⟨S'.base,S'.sub,fun q hq=>?_,?_,?_⟩
  · rcases List.mem_cons.mp hq with rfl | hq
    · exact⟨⟨vs,n,ho,pv⟩,S.bE⟩
    · exact S'.led q hq
  · rw [List.map_cons,List.nodup_cons];exact⟨S.ne_size,S.nd⟩
  · obtain⟨envs,e,f⟩:=S.fr
    exact⟨envs,e,fun env he=>⟨(f env he).1,let ⟨L,a,b⟩:=(f env he).2;⟨L,a,cP (fun q hq=>List.mem_cons_of_mem _ hq) b⟩⟩⟩
theorem H4 {ps:List PV} {v:Value} (hz:ps.length≤1000000) (hv:(PV.lst ps).Is w.params F v):T w A F (PySem.call (.type "list") [v]) G G (fun F v=>(PV.lst ps).Is w.params F v) :=
  TX.imp (TX.DM (N':=fun G' F' v=>G'=G∧(PV.lst ps).Is w.params F' v) (X:=bG) (N:=fun G' F' v=>∃ a,v=.ref a∧G'=(a,.list ps)::G) (fun F1 H s h k Q E l S q x=>by
    obtain⟨a,vs,n,rfl,fa,pvs⟩:=PV.Is.mono l hv
    refine call_list_seq (s:=sh s h k) a (.inl rfl) (S.sub _ _ fa) rfl rfl (fun h' c' hk ho=>?_) (by rw [List.size_toArray,pvs.length,sizeLine_eq];omega)
    exact q _ F1 h' k _ (.refl _) (Sb.newList S hk ho pvs) ⟨_,rfl,rfl⟩) fun G' F' v h H l n S=>by
      obtain⟨a,rfl,rfl⟩:=n
      obtain⟨F'',l2,S2,pv⟩:=c4 S
      exact⟨G,F'',l2,S2,rfl,pv⟩) (fun G' F' v l h=>h) fun _ _ _ _ (h:False)=>h.elim
end
section
variable {w:World} {A:Around} {env:Env} {G Γ:Led} {P:Out→Prop} {value:Expr} {elts:List Expr} {pos tpos:Pos} {x y:Str} {c:Addr} {k:Nat}
theorem XT.I1 {px py:Pos} (he:TX w A F0 (eval value env) G (fun G' F v=>∃ p1 p2 ρ Γ o Γ2,(PV.tup [p1,p2]).Is w.params F v∧G'=(env.locals,.frame ρ)::Γ∧Γ.Perm ((c,.raw o)::Γ2)∧o.data=.cell none∧P (.next ((env.locals,.frame ((x,p1)::ρ))::(c,.cell p2)::Γ2))) (fun C c p G'=>P (.exc C c p G')))
    (hh:A.handled=none) (hk:env.scope.kind=.function) (hl:env.scope.names.lookup x=some .local) (hl2:env.scope.names.lookup y=some .cell) (hc:env.cells.lookup y=some c)
    (hs:swapsWithSole [.Tuple [.Name x px,.Name y py] k tpos] value pos.line env=pure false) (hw:swappedStores [.Tuple [.Name x px,.Name y py] k tpos] value env=pure none):XT w A env (.Assign [.Tuple [.Name x px,.Name y py] k tpos] value pos) G P:=fun F1 H s h kk Q E l S q0 z =>
  Assign_Tuple (he F1 H s h kk _ E l S (fun v F' h' k' G' l' S' n=>by
    obtain⟨p1,p2,ρ,Γ,o,Γ2,pv,rfl,pm,ho,n⟩:=n
    obtain⟨a,vs,m,rfl,fa,pvs⟩:=pv
    obtain⟨v1,v2,rfl,i1,i2⟩:=pvs.two
    refine assign_Tuple_tuple hh ⟨_,S'.sub _ _ fa,rfl,m,rfl⟩ (by rfl) (by rfl) fun h2 hb=>?_
    have S2:=S'.ext (h':=h2) fun b o e=>hb b o (Nat.ne_of_lt (Heap.lt_size e)) e
    show wpAny (MM w) A (assignInOrder (PySem.assign (Expr.Name x px) env::PySem.assign (Expr.Name y py) env::[]) (v1::v2::[])) _ _ _
    refine assignInOrder_cons (wpAny_assign_Name (Sb.store S2 i1 (fun h3 k3 S3=>?_) hk hl))
    have S4:Sb w A F' h3 ((c,.raw o)::((env.locals,.frame ((x,p1)::ρ))::Γ2++H)):=S3.perm (((pm.cons _).trans (List.Perm.swap _ _ _)).append_right H)
    refine assignInOrder_cons (wpAny_assign_Name (Sb.D6 S4 (.inr ⟨o,rfl,ho⟩) i2 (fun h4 k4 S5=>?_) hk hl2 hc))
    exact assignInOrder_nil (q0 .next F' h4 k4 _ l' (S5.perm (List.Perm.swap _ _ _)) n)) z) hs hw
end
section
variable {w:World} {A:Around} {env:Env} {G G' G1 G2 Γ:Led} {P:Out→Prop} {pos cpos vp tpos:Pos} {e l r:Expr} {es elts:List Expr} {ss:List Stmt} {p q:PV} {ps:List PV} {ρ:List (Str×PV)} {ns:List Str} {F:FM} {N:PV→Led→Prop} {x:Str} {c:Addr}
theorem XT.cY {k k2:Nat} (hh:A.handled=none) (hk:env.scope.kind=.function) (hl:(ns.all fun n=>decide (env.scope.names.lookup n=some .local))=true) (nd:ns.Nodup)
    (hs:swapsWithSole [.Tuple elts k tpos] (.Tuple es k2 vp) pos.line env=pure false) (hw:swappedStores [.Tuple elts k tpos] (.Tuple es k2 vp) env=pure (some ns)) (hz:ns.length≤1000)
    (he:aL w A env G vp es (fun ps G'=>ps.length=ns.length∧∃ ρ Γ,G'=(env.locals,.frame ρ)::Γ∧P (.next ((env.locals,.frame (binds ns ps ρ))::Γ)))):XT w A env (.Assign [.Tuple elts k tpos] (.Tuple es k2 vp) pos) G P:=by
  refine XT.CA (TX.imp (n6 (N:=fun ps G'=>ps.length=ns.length∧∃ ρ Γ,G'=(env.locals,.frame ρ)::Γ∧P (.next ((env.locals,.frame (binds ns ps ρ))::Γ))) (TX.imp he (fun G' F v l h=>?_) fun xx xx xx xx h=>h)) (fun G' F v l h=>?_) fun xx xx xx xx h=>h.elim) hh hk (fun n hn=>of_decide_eq_true (List.all_eq_true.mp hl n hn)) nd hs hw
  · obtain⟨ps,pv,e,n⟩:=h
    exact⟨ps,pv,by omega,e,n⟩
  · obtain⟨ps,pv,e,ρ,Γ,e2,n⟩:=h
    exact⟨ps,ρ,Γ,pv,e,e2,n⟩
theorem aX.cmp {op:CmpOp} (hl:aX w A env G l (fun p G1=>aX w A env G1 r (fun q G2=>∀ v u F,p.Is w.params F v→q.Is w.params F u→TX w A F (compareOp op v u) G2 (fun G3 F v=>∃ R:PV,R.Is w.params F v∧N R G3) bG)))
    (hm:behindInMarks op r=false):aX w A env G (.Compare l [op] [r] pos) N:=by
  unfold aX
  rw [eval_Compare1,markedBehindIn_of_false hm]
  refine TX.bind hl fun v F1 G1 l1 n1=>?_
  obtain⟨p,pv,n1⟩:=n1
  refine TX.bind (TX.holding (n1.low (Le.zero _))) fun u F2 G2 l2 n2=>?_
  obtain⟨q,pu,n2⟩:=n2
  exact TX.at (TX.operate (n2 v u F2 (pv.mono l2) pu))
theorem Sb.jT {h:Heap} {H:Led} {L:Addr} (S:Sb w A F h ((L,.frame ρ)::(c,.list ps)::Γ++H)) (lk:Look ρ x (.val (.ref c))):∃ F'',Le F F''∧Sb w A F'' h ((L,.frame ((x,.lst ps)::ρ))::Γ++H):=by
  obtain⟨F'',l2,S2,pv⟩:=c4 (S.perm (List.Perm.swap _ _ _))
  refine⟨F'',l2,?_⟩
  refine⟨S2.base,S2.sub,fun q hq=>?_,S2.nd,?_⟩
  · rcases List.mem_cons.mp hq with rfl | hq
    · obtain⟨⟨m,n,cc⟩,f⟩:=S2.led _ (.head _)
      refine⟨⟨m,n,fun y py ly=>?_⟩,f⟩
      cases ly with
      | head =>
        obtain⟨v,e,i⟩:=cc _ _ lk
        cases i
        exact⟨_,e,pv⟩
      | tail ne r=>exact cc y py r
    · exact S2.led q (.tail _ hq)
  · obtain⟨envs,e,f⟩:=S2.fr
    refine⟨envs,e,fun env he=>⟨(f env he).1,?_⟩⟩
    obtain⟨L',a,b⟩:=(f env he).2
    refine⟨L',a,?_⟩
    unfold bN at b ⊢
    exact b
theorem bD.jT (lk:Look ρ x (.val (.ref c))) (h:bD w A env ss ((env.locals,.frame ((x,.lst ps)::ρ))::Γ) P):bD w A env ss ((env.locals,.frame ρ)::(c,.list ps)::Γ) P:=fun F1 H s hh k Q E l S q0 y=>by
  obtain⟨F'',l2,S2⟩:=Sb.jT S lk
  exact h F'' H s hh k Q E (Le.zero _) S2 (fun a F' h' k' G' l'=>q0 a F' h' k' G' (l2.trans l')) fun e C c p F' h' k' G' l'=>y e C c p F' h' k' G' (l2.trans l')
end
theorem RO {w:World} {A:Around} {env:Env} {G G' G'':Led} {e:Expr} {b:Bool} (h:Tr w A env G e b G') (i:G'=G''):Tr w A env G e b G'':=i ▸ h
inductive LwI (L el a d:Addr) (cs:List Int) (t1:Nat) (rows:List Row) (placed:Bool) (G:Led) (rest:List PV) (G':Led):Prop
  | mk (dn:List Row) (rs:List Row) (ρ:List (Str×PV)) (q0:rows=dn++rs) (q1:rest=rs.map a5) (q2:G'=(L,.frame ρ)::(el,.list (dn.map a9))::(L+1,.cell (hash d))::(a,aI cs (t1+1))::(d,.dB (a7 []))::G) (q3:Look ρ "entries" (.val (.ref el))) (q4:Look ρ "deck" (.val (.ref a))) (q5:Look ρ "rows" (.lst (rows.map a5))) (q6:Look ρ "is_placed" (.bool placed))
inductive LwC (L a d:Addr) (cs:List Int) (ρ5:List (Str×PV)) (G:Led) (rest:List PV) (acc:List PV) (Γ:Led):Prop
  | mk (rs:List (List UInt8)) (ks:List (List UInt8)) (t':Nat) (q0:acc=[]) (q1:rest=c9 rs) (q2:(∀ y∈rs,BB y∧y.length≤100000)) (q3:ks.length+rs.length≤900) (q4:Γ=(L,.frame ρ5)::(L+1,.cell (hash d))::(a,aI cs t')::(d,.dB (a7 ks))::G)
section
variable {w:World} {A:Around} {G:Led} {F:FM} {vs:List Value} {xs:List Int}
set_option maxHeartbeats 8000000 in
theorem c_law (R:Rc A 11) (hxs:xs.length≤1000) (pv:aS w.params F [.lst (xs.map .int)] vs) :
    bU w A F (call (.ref 440) vs) G (fun G' F' v=>∃ p:PV,p.Is w.params F' v∧p=.bool true) bG:=by
  obtain⟨v0,rfl,p0⟩:=pv.bH
  refine bU.imp (N0.fnC (ρ:=[(Str.ofString "script",.lst (xs.map .int))]) (N:=fun p G'=>p=.bool true) (X:=bG) (cs:=fun n=>[(Str.ofString "hasher",n+1)])
    (fun xx=>none) (fn440 _) R.rm.room.room (LN _ _) (fun n=>?_) (fun n=>by rfl) (fun x p lk=>?_) (fun L nc hm=>?_) fun L oc hoc=>?_).call (fun G' F' v l h=>h) fun xx xx xx xx h=>h
  · intro x hx
    rcases List.mem_cons.mp hx with rfl | hx
    · exact .inl (by rfl)
    · cases hx
  · cases lk with
    | head=>exact⟨v0,by rfl,p0⟩
    | tail _ lk=>cases lk
  · rcases List.mem_cons.mp hm with rfl | hm
    · exact⟨by rfl,by rfl⟩
    · cases hm
  · have R':=R.deeper (aT (aK 50) "law" 440 (fun n=>[(Str.ofString "hasher",n+1)]) (.ref 439) L)
    have RM:=R'.rm
    have R1:=RM.less (m:=1)
    show bD _ _ _ _ ((L,.frame [(Str.ofString "script",.lst (xs.map .int))])::(L+1,.raw (oc (Str.ofString "hasher")))::G) _
    refine bD.step (XT.I1 (x:="deck") (y:="hasher") (c:=L+1) ?_ RM.quiet rfl rfl rfl rfl rfl rfl)
    refine TX.gH (n6 (N:=fun ps G'=>∃ a d,ps=[.val (.ref a),hash d]∧G'=(d,.dB [])::(L,.frame [(Str.ofString "script",.lst (xs.map .int))])::(a,aI (xs.take 48) 0)::(L+1,.raw (oc (Str.ofString "hasher")))::G) ?_) (fun G' F v l h=>?_) fun _ _ _ _ (h:False)=>h.elim
    · refine aL.list (ps:=[.lst ((xs.take 48).map .int),.int (0:Nat)]) (aU.cons (Ev.aQ (by walk_at "ev") aV (aU.cons (p:=.lst ((xs.take 48).map .int)) (cC (Ev.RI (hi:=some 48) (by walk_at "ev") xM.none (xM.some Ev.int) (by rw [List.length_map];omega) (fun xx xx=>rfl)) (by
        congr 1
        simp only [Option.elim,List.drop_zero,Nat.sub_zero,← List.map_take]
        congr 1
        rw [List.length_map]
        have:clipAt xs.length 48=min xs.length 48:=by
          show(max (0:Int) (min (48:Int) (xs.length:Int))).toNat=_
          rcases Nat.le_total xs.length 48 with h | h
          · rw [Int.min_eq_right (by omega),Int.max_eq_right (by omega),Nat.min_eq_left h];rfl
          · rw [Int.min_eq_left (by omega),Nat.min_eq_right h];rfl
        rw [this,← List.take_take,List.take_take,List.take_eq_take_iff];omega)) aU.nil (by rfl)) (by rfl) fun vs F' pvs=>by
          obtain⟨v,rfl,hv⟩:=pvs.bH
          exact H4 (by rw [List.length_map,List.length_take];omega) hv) (by walk_at "evs") (by rfl)) (by simp) (fun a=>?_) (by rfl)
      refine aL.cons (TX.BH (by walk_at "ev") (aB (by kernel_rfl)) (aL.ev (p:=.int (4:Nat)) (by walk_at "ev") (aL.nil fun vs F' pvs=>TX.imp (E0 RM.less pvs) (fun G' F v l h=>?_) fun xx xx xx xx h=>h) (by rfl)) (by rfl)) (by rfl)
      obtain⟨d,pv,rfl⟩:=h
      exact⟨_,pv,aL.nil ⟨by simp,a,d,rfl,rfl⟩⟩
    obtain⟨ps,pv,a,d,rfl,rfl⟩:=h
    refine⟨_,⟨_,_,[(Str.ofString "script",.lst (xs.map .int))],(d,.dB [])::(a,aI (xs.take 48) 0)::(L+1,.raw (oc (Str.ofString "hasher")))::G,oc (Str.ofString "hasher"),(a,aI (xs.take 48) 0)::(d,.dB [])::G,pv,rfl,?_,hoc _,?_⟩,fun F2 h2 H S=>S.perm (List.Perm.swap _ _ _)⟩
    · exact(List.perm_middle (l₁:=[_,_])).trans ((List.Perm.swap _ _ _).cons _)
    have hcs:(xs.take 48).length≤1000:=by rw [List.length_take];omega
    revert hcs;refine gen0 (xs.take 48) fun cs=>?_;intro hcs
    show bD _ _ _ _ ((L,.frame [(Str.ofString "deck",.val (.ref a)),(Str.ofString "script",.lst (xs.map .int))])::(L+1,.cell (hash d))::(a,aI cs 0)::(d,.dB (a7 []))::G) _
    refine bD.step (XT.cY (ns:=["rows","is_placed"]) RM.quiet rfl (by rfl) (by decide) rfl rfl (by decide) ?_)
    refine aL.cM (aX.call (by walk_at "ev") (aB (by kernel_rfl)) (aL.ev (by walk_at "ev") (aL.nil fun vs F pvs=>?_) (by rfl)) (by rfl)) (by rfl)
    refine TX.pre (TX.gH (y6 (a:=a) (cs:=cs) (t:=0) (G:=(L,.frame [(Str.ofString "deck",.val (.ref a)),(Str.ofString "script",.lst (xs.map .int))])::(L+1,.cell (hash d))::(d,.dB (a7 []))::G) RM.less hcs (by omega) pvs) (fun G'' F'' v l h=>?_) fun _ _ _ _ (h:False)=>h.elim) fun F2 h H S=>S.perm (List.Perm.append_right H t7)
    obtain⟨p,pv,t1,rows,ht1,rfl,rfl,hrg,hr1,hr5⟩:=h
    refine⟨(L,.frame [(Str.ofString "deck",.val (.ref a)),(Str.ofString "script",.lst (xs.map .int))])::(L+1,.cell (hash d))::(a,aI cs t1)::(d,.dB (a7 []))::G,⟨_,pv,?_⟩,fun F2 h2 H S=>S.perm (List.Perm.append_right H t7.symm)⟩
    refine aL.cM (aX.cmp (aX.draw [_,_] rfl (below:=2) (by walk_at "ev") (by walk_at "evs") (by rfl) R1 hcs (by omega) (by decide) (by decide) fun r hr=>aX.of (p:=.int (1:Nat)) (by walk_at "ev") ?_) (by rfl)) (by rfl)
    intro v u F hv hu
    refine T.pJ (d7 hv hu) (aL.nil ⟨rfl,_,_,rfl,?_⟩)
    refine gen (decide (r=1)) fun placed hpl=>?_
    show bD _ _ _ _ ((L,.frame [(Str.ofString "is_placed",.bool placed),(Str.ofString "rows",.lst (rows.map a5)),(Str.ofString "deck",.val (.ref a)),(Str.ofString "script",.lst (xs.map .int))])::(L+1,.cell (hash d))::(a,aI cs (t1+1))::(d,.dB (a7 []))::G) _
    refine bD.step (XT.dY (o:=.list []) (cR aU.nil (by simp)) (fun el=>?_) rfl rfl rfl)
    show bD _ _ _ _ ((L,.frame [(Str.ofString "entries",.val (.ref el)),(Str.ofString "is_placed",.bool placed),(Str.ofString "rows",.lst (rows.map a5)),(Str.ofString "deck",.val (.ref a)),(Str.ofString "script",.lst (xs.map .int))])::(el,.list [])::(L+1,.cell (hash d))::(a,aI cs (t1+1))::(d,.dB (a7 []))::G) _
    refine bD.step (XT.DJ (ps:=rows.map a5) (LwI L el a d cs t1 rows placed G)
      (TX.imp (T.x (show Ev _ _ _ _ _ (.lst (rows.map a5)) _ by walk_at "ev")) (fun G' F v l h=>?_) fun _ _ _ _ (h:False)=>h.elim) cF.deeper rfl (fun xx=>rfl) (fun p rest G' I v F' hv=>?_) fun G' I=>?_)
    · obtain⟨rfl,pv⟩:=h
      exact⟨cV RM.quiet pv,[],rows,_,rfl,rfl,rfl,by walk_at "look",by walk_at "look",by walk_at "look",by walk_at "look"⟩
    · obtain⟨dn,rs,ρ,e,er,rfl,l1,l2,l3,l4⟩:=I
      cases rs with
      | nil=>cases er
      | cons r rs =>
        simp only [List.map_cons,List.cons.injEq] at er
        obtain⟨rfl,rfl⟩:=er
        have hlen:=congrArg List.length e
        simp only [List.length_append,List.length_cons] at hlen
        refine TX.imp (dS (env:=aT (aK 50) "law" 440 (fun n=>[(Str.ofString "hasher",n+1)]) (.ref 439) L) (ns:=["oid","kind","octets","base"]) RM.quiet (.cons (.cons (.cons (.cons .nil)))) rfl (dX (by rfl)) hv rfl) (fun G' F v l h=>?_) fun xx xx xx xx h=>h
        subst h
        show XS _ _ _ _ ((L,.frame ((Str.ofString "base",oB r.base)::(Str.ofString "octets",.bytes r.oc)::(Str.ofString "kind",.bytes (kindB r.kind))::(Str.ofString "oid",.bytes r.oid)::ρ))::(el,.list (dn.map a9))::(L+1,.cell (hash d))::(a,aI cs (t1+1))::(d,.dB (a7 []))::G) _
        refine gen (((Str.ofString "base",oB r.base)::(Str.ofString "octets",PV.bytes r.oc)::(Str.ofString "kind",.bytes (kindB r.kind))::(Str.ofString "oid",.bytes r.oid)::ρ)) fun ρ1 hρ=>?_
        have l1:Look ρ1 "entries" (.val (.ref el)):=by rw [← hρ];walk_at "look"
        have l2:Look ρ1 "deck" (.val (.ref a)):=by rw [← hρ];walk_at "look"
        have l3:Look ρ1 "rows" (.lst (rows.map a5)):=by rw [← hρ];walk_at "look"
        have l4:Look ρ1 "is_placed" (.bool placed):=by rw [← hρ];walk_at "look"
        have l5:Look ρ1 "base" (oB r.base):=by rw [← hρ];walk_at "look"
        have l6:Look ρ1 "octets" (.bytes r.oc):=by rw [← hρ];walk_at "look"
        have l7:Look ρ1 "kind" (.bytes (kindB r.kind)):=by rw [← hρ];walk_at "look"
        have l8:Look ρ1 "oid" (.bytes r.oid):=by rw [← hρ];walk_at "look"
        clear hρ
        have done:((L,PO.frame ρ1)::(el,PO.list (dn.map a9++[a9 r]))::(L+1,.cell (hash d))::(a,aI cs (t1+1))::(d,.dB (a7 []))::G:Led)=(L,.frame ρ1)::(el,.list ((dn++[r]).map a9))::(L+1,.cell (hash d))::(a,aI cs (t1+1))::(d,.dB (a7 []))::G:=by simp
        cases hb:r.base with
        | none =>
          rw [hb] at l5
          have l5:Look ρ1 "base" .none:=l5
          have ee:a9 r=.inst 208 xE [.bytes r.oid,.bytes (kindB r.kind),.bytes r.oc,.none,.none]:=by unfold a9;rw [hb]
          refine XS.ifs (b:=true) (a3 (by walk_at "tr") (by rfl)) (fun xx=>?_) fun h=>by cases h
          refine XS.cons (XT.append (i:=1) (j:=1) (ps:=dn.map a9) (p:=a9 r) (by walk_at "ev") (aU.cons (Ev.aQ (by walk_at "ev") (aB (by kernel_rfl)) (by walk_at "evs") (by rfl) fun vs F' pvs=>by rw [ee];exact EY RM.less pvs) aU.nil (by rfl)) rfl rfl (by rw [List.length_map];omega) ?_ rfl rfl rfl rfl)
          exact XS.nil (XS.nil ⟨dn++[r],rs,ρ1,by rw [e];simp,rfl,done,l1,l2,l3,l4⟩)
        | some b =>
          rw [hb] at l5
          have l5:Look ρ1 "base" (.bytes b):=l5
          have ee:a9 r=.inst 208 xE [.bytes r.oid,.bytes (kindB r.kind),.none,.bytes b,.bytes r.oc]:=by unfold a9;rw [hb]
          refine XS.ifs (b:=false) (a3 (by walk_at "tr") (by rfl)) (fun h=>by cases h) fun xx=>?_
          refine XS.cons (XT.append (i:=1) (j:=1) (ps:=dn.map a9) (p:=a9 r) (by walk_at "ev") (aU.cons (Ev.aQ (by walk_at "ev") (aB (by kernel_rfl)) (by walk_at "evs") (by rfl) fun vs F' pvs=>by rw [ee];exact EZ RM.less pvs) aU.nil (by rfl)) rfl rfl (by rw [List.length_map];omega) ?_ rfl rfl rfl rfl)
          exact XS.nil (XS.nil ⟨dn++[r],rs,ρ1,by rw [e];simp,rfl,done,l1,l2,l3,l4⟩)
    · obtain⟨dn,rs,ρ,e,er,rfl,l1,l2,l3,l4⟩:=I
      cases rs with
      | cons t rs=>cases er
      | nil =>
      rw [List.append_nil] at e
      subst e
      refine bD.jT l1 ?_
      show bD _ _ _ _ ((L,.frame ((Str.ofString "entries",.lst (rows.map a9))::ρ))::(L+1,.cell (hash d))::(a,aI cs (t1+1))::(d,.dB (a7 []))::G) _
      clear l1
      refine gen (((Str.ofString "entries",PV.lst (rows.map a9))::ρ)) fun ρ1 hρ=>?_
      have l1:Look ρ1 "entries" (.lst (rows.map a9)):=by rw [← hρ];walk_at "look"
      have l2:Look ρ1 "deck" (.val (.ref a)):=by rw [← hρ];walk_at "look"
      have l3:Look ρ1 "rows" (.lst (rows.map a5)):=by rw [← hρ];walk_at "look"
      have l4:Look ρ1 "is_placed" (.bool placed):=by rw [← hρ];walk_at "look"
      clear hρ
      have hrok:∀ r∈rows,gE r:=fun r h=>(hrg r h).ok
      have ok:=nX placed _ rows rfl hrok (by omega)
      have hw:=ok.whole
      have htl:=ok.told
      have htld:=D1 placed _ rows rfl hrg
      have h1t:1≤(a0 placed rows).told.length:=by
        obtain⟨dn,r,_,_,_,hk,e⟩:=yL placed (rows.length - 1) rows (by omega) hrg
        rw [e,d5 hk];simp
      refine bD.step (XT.jE (ns:=["whole","told"]) (TX.imp (T.x (show Ev _ _ _ _ _ (.tup [.bytes (a0 placed rows).whole,.lst ((a0 placed rows).told.map a4)]) _ from Ev.aQ (by walk_at "ev") (aB (by kernel_rfl)) (by walk_at "evs") (by rfl) fun vs F' pvs=>xY RM.less (by omega) hrok pvs)) (fun G' F v l h=>?_) fun _ _ _ _ (h:False)=>h.elim) RM.quiet (.cons (.cons .nil)) rfl (dX (by rfl)) rfl rfl)
      obtain⟨rfl,pv⟩:=h
      refine⟨_,_,_,pv,rfl,rfl,?_⟩
      show bD _ _ _ _ ((L,.frame ((Str.ofString "told",.lst ((a0 placed rows).told.map a4))::(Str.ofString "whole",.bytes (a0 placed rows).whole)::ρ1))::(L+1,.cell (hash d))::(a,aI cs (t1+1))::(d,.dB (a7 []))::G) _
      refine bD.cons (iV.cE (bU.imp (sO (N:=fun G' F v=>G'=(L,.frame ((Str.ofString "told",.lst ((a0 placed rows).told.map a4))::(Str.ofString "whole",.bytes (a0 placed rows).whole)::ρ1))::(L+1,.cell (hash d))::(a,aI cs (t1+1))::(d,.dB (a7 (bM [] (aA 2 (a0 placed rows).told.length (a0 placed rows).whole))))::G∧(PV.bytes (signed [] (aA 2 (a0 placed rows).told.length (a0 placed rows).whole))).Is w.params F v) (X:=bG) (ps:=[.lst (rows.map a9),hash d,tC,.bool placed]) (by walk_at "ev") (aB (by kernel_rfl)) (aU.cons (by walk_at "ev") (aU.cons (by walk_at "ev") (aU.cons (p:=tC) (Ev.aQ (by walk_at "ev") (aB (by kernel_rfl)) (by walk_at "evs") (by rfl) fun vs F' pvs=>by
        cases pvs.cT
        exact xC (by kernel_rfl) (by kernel_rfl)) (aU.cons (by walk_at "ev") aU.nil (by rfl)) (by rfl)) (by rfl)) (by rfl)) (by rfl) fun vs F' pvs=>?_) (fun G' F v l h=>?_) fun _ _ _ _ (h:False)=>h.elim) rfl rfl rfl)
      · exact bU.c5 (uP (d:=d) (ks:=[]) R'.less hrok (by omega) (by simp) pvs) (List.perm_middle (l₁:=[_,_,_])) (List.perm_middle (l₁:=[_,_,_])).symm
      obtain⟨rfl,pv⟩:=h
      refine⟨_,_,_,pv,rfl,?_⟩
      revert ok hw htl htld h1t;refine gen (a0 placed rows) fun st hst=>?_;intro ok hw htl htld h1t
      show bD _ _ _ _ ((L,.frame ((Str.ofString "pack",.bytes (signed [] (aA 2 st.told.length st.whole)))::(Str.ofString "told",.lst (st.told.map a4))::(Str.ofString "whole",.bytes st.whole)::ρ1))::(L+1,.cell (hash d))::(a,aI cs (t1+1))::(d,.dB (a7 (bM [] (aA 2 st.told.length st.whole))))::G) _
      clear l1 l3
      have hW:aA 2 st.told.length st.whole≠aA 3 st.told.length st.whole:=RA _ _ _ _
      have jG:signed [] (aA 2 st.told.length st.whole)=aA 2 st.told.length st.whole++be 1 4:=by unfold signed;rw [LZ]
      have hs1:signed [aA 2 st.told.length st.whole] (aA 2 st.told.length st.whole)=aA 2 st.told.length st.whole++be 1 4:=by unfold signed;rw [lJ]
      have hs3:signed [aA 2 st.told.length st.whole] (aA 3 st.told.length st.whole)=aA 3 st.told.length st.whole++be 2 4:=by unfold signed;rw [L4 hW]
      have hr1:bM [aA 2 st.told.length st.whole] (aA 2 st.told.length st.whole)=[aA 2 st.told.length st.whole]:=d4 (by simp)
      have hr3:bM [aA 2 st.told.length st.whole] (aA 3 st.told.length st.whole)=[aA 2 st.told.length st.whole,aA 3 st.told.length st.whole]:=yR hW
      rw [jG,IK]
      refine gen (((Str.ofString "pack",PV.bytes (aA 2 st.told.length st.whole++be 1 4))::(Str.ofString "told",.lst (st.told.map a4))::(Str.ofString "whole",.bytes st.whole)::ρ1)) fun ρ2 hρ=>?_
      have m1:Look ρ2 "pack" (.bytes (aA 2 st.told.length st.whole++be 1 4)):=by rw [← hρ];walk_at "look"
      have m2:Look ρ2 "told" (.lst (st.told.map a4)):=by rw [← hρ];walk_at "look"
      have m3:Look ρ2 "whole" (.bytes st.whole):=by rw [← hρ];walk_at "look"
      have m4:Look ρ2 "deck" (.val (.ref a)):=by rw [← hρ];walk_at "look"
      clear hρ l2 l4
      have hwl2:(aA 2 st.told.length st.whole++be 1 4).length=16+st.whole.length:=by rw [List.length_append,aO,aJ];omega
      have hwl3:(aA 3 st.told.length st.whole++be 2 4).length=16+st.whole.length:=by rw [List.length_append,aO,aJ];omega
      refine bD.step (XT.ifs (b:=false) (G':=(L,.frame ρ2)::(L+1,.cell (hash d))::(a,aI cs (t1+1))::(d,.dB (a7 [aA 2 st.told.length st.whole]))::G) ?_ (fun h=>by cases h) fun xx=>XS.nil ?_)
      · refine RO (G':=(L,.frame ρ2)::(L+1,.cell (hash d))::(a,aI cs (t1+1))::(d,.dB (a7 (bM [aA 2 st.told.length st.whole] (aA 2 st.told.length st.whole))))::G) (a3 (Tr.cmp (p:=.bytes (aA 2 st.told.length st.whole++be 1 4)) (q:=.bytes (signed [aA 2 st.told.length st.whole] (aA 2 st.told.length st.whole))) (by walk_at "ev") (Ev.call (G1:=(L,.frame ρ2)::(L+1,.cell (hash d))::(a,aI cs (t1+1))::(d,.dB (a7 [aA 2 st.told.length st.whole]))::G) (by walk_at "ev") (aB (by kernel_rfl)) (aU.cons (by walk_at "ev") (aU.cons (p:=.bytes (aA 2 st.told.length st.whole)) (Ev.bin (p:=.bytes ([80,65,67,75]++be 2 4++be st.told.length 4)) (q:=.bytes st.whole) (Ev.bin (p:=.bytes ([80,65,67,75]++be 2 4)) (Ev.bin (p:=.bytes [80,65,67,75]) (q:=.bytes (be 2 4)) (by walk_at "ev") (Ev.aQ (by walk_at "ev") (aB (by kernel_rfl)) (by walk_at "evs") (by rfl) fun vs F' pvs=>bL (n:=2) R1 pvs) fun v u F hv hu=>aH (by simp [aJ]) hv hu) (Ev.aQ (by walk_at "ev") (aB (by kernel_rfl)) (aU.cons (p:=.int (st.told.length:Nat)) (cC (p:=.int ((st.told.map a4).length:Nat)) (uT (by walk_at "ev") (by walk_at "evs") (by rfl) (by rw [List.length_map];omega)) (by rw [List.length_map])) aU.nil (by rfl)) (by rfl) fun vs F' pvs=>bL (n:=st.told.length) R1 pvs) fun v u F hv hu=>aH (by simp [aJ]) hv hu) (by walk_at "ev") fun v u F hv hu=>aH (by simp [aJ];omega) hv hu) aU.nil (by rfl)) (by rfl)) (by rfl) fun vs F' pvs=>TX.c5 (lH (ks:=[aA 2 st.told.length st.whole]) (x:=aA 2 st.told.length st.whole) (d:=d) RM.less (by simp) (by rw [aO];omega) pvs) (List.perm_middle (l₁:=[_,_,_])) (List.perm_middle (l₁:=[_,_,_])).symm) (fun v u F hv hu=>sF hv hu) (by rfl)) (by rw [hs1];simp)) (by rw [hr1])
      show bD _ _ _ _ ((L,.frame ρ2)::(L+1,.cell (hash d))::(a,aI cs (t1+1))::(d,.dB (a7 [aA 2 st.told.length st.whole]))::G) _
      refine bD.step (XT.iW (aX.of (p:=.bytes (signed [aA 2 st.told.length st.whole] (aA 3 st.told.length st.whole))) (Ev.call (G1:=(L,.frame ρ2)::(L+1,.cell (hash d))::(a,aI cs (t1+1))::(d,.dB (a7 [aA 2 st.told.length st.whole]))::G) (by walk_at "ev") (aB (by kernel_rfl)) (aU.cons (by walk_at "ev") (aU.cons (p:=.bytes (aA 3 st.told.length st.whole)) (Ev.bin (p:=.bytes ([80,65,67,75]++be 3 4++be st.told.length 4)) (q:=.bytes st.whole) (Ev.bin (p:=.bytes ([80,65,67,75]++be 3 4)) (Ev.bin (p:=.bytes [80,65,67,75]) (q:=.bytes (be 3 4)) (by walk_at "ev") (Ev.aQ (by walk_at "ev") (aB (by kernel_rfl)) (by walk_at "evs") (by rfl) fun vs F' pvs=>bL (n:=3) R1 pvs) fun v u F hv hu=>aH (by simp [aJ]) hv hu) (Ev.aQ (by walk_at "ev") (aB (by kernel_rfl)) (aU.cons (p:=.int (st.told.length:Nat)) (cC (p:=.int ((st.told.map a4).length:Nat)) (uT (by walk_at "ev") (by walk_at "evs") (by rfl) (by rw [List.length_map];omega)) (by rw [List.length_map])) aU.nil (by rfl)) (by rfl) fun vs F' pvs=>bL (n:=st.told.length) R1 pvs) fun v u F hv hu=>aH (by simp [aJ]) hv hu) (by walk_at "ev") fun v u F hv hu=>aH (by simp [aJ];omega) hv hu) aU.nil (by rfl)) (by rfl)) (by rfl) fun vs F' pvs=>TX.c5 (lH (ks:=[aA 2 st.told.length st.whole]) (x:=aA 3 st.told.length st.whole) (d:=d) RM.less (by simp) (by rw [aO];omega) pvs) (List.perm_middle (l₁:=[_,_,_])) (List.perm_middle (l₁:=[_,_,_])).symm) ?_) rfl rfl rfl)
      rw [hs3,hr3]
      refine⟨_,_,rfl,?_⟩
      show bD _ _ _ _ ((L,.frame ((Str.ofString "three",.bytes (aA 3 st.told.length st.whole++be 2 4))::ρ2))::(L+1,.cell (hash d))::(a,aI cs (t1+1))::(d,.dB (a7 [aA 2 st.told.length st.whole,aA 3 st.told.length st.whole]))::G) _
      have htlen:st.told.length≤40:=by omega
      obtain⟨s2,f2⟩:=qD (placed:=placed) (rows:=rows) (v:=2) (ks:=[aA 2 st.told.length st.whole,aA 3 st.told.length st.whole]) hrg (by omega) (.inl rfl) (by rw [hst];omega)
      obtain⟨s3,f3⟩:=qD (placed:=placed) (rows:=rows) (v:=3) (ks:=[aA 2 st.told.length st.whole,aA 3 st.told.length st.whole]) hrg (by omega) (.inr rfl) (by rw [hst];omega)
      have c2:=lO (ks:=[aA 2 st.told.length st.whole,aA 3 st.told.length st.whole]) (v:=2) (n:=st.told.length) (b:=st.whole) (.inl rfl) (by omega)
      have c3:=lO (ks:=[aA 2 st.told.length st.whole,aA 3 st.told.length st.whole]) (v:=3) (n:=st.told.length) (b:=st.whole) (.inr rfl) (by omega)
      rw [hst,lJ] at s2 f2
      rw [hst,xZ hW] at s3 f3
      rw [lJ,d4 (by simp)] at c2
      rw [xZ hW,d4 (by simp)] at c3
      refine gen (((Str.ofString "three",PV.bytes (aA 3 st.told.length st.whole++be 2 4))::ρ2)) fun ρ3 hρ=>?_
      have k1:Look ρ3 "pack" (.bytes (aA 2 st.told.length st.whole++be 1 4)):=by rw [← hρ];walk_at "look"
      have k2:Look ρ3 "told" (.lst (st.told.map a4)):=by rw [← hρ];walk_at "look"
      have k3:Look ρ3 "whole" (.bytes st.whole):=by rw [← hρ];walk_at "look"
      have k4:Look ρ3 "deck" (.val (.ref a)):=by rw [← hρ];walk_at "look"
      have k5:Look ρ3 "three" (.bytes (aA 3 st.told.length st.whole++be 2 4)):=by rw [← hρ];walk_at "look"
      clear hρ m1 m2 m3 m4
      have hK3:([aA 2 st.told.length st.whole,aA 3 st.told.length st.whole]:List (List UInt8)).length≤1000:=by simp
      have hK3e:∃ rest,rest.length≤1∧[aA 2 st.told.length st.whole,aA 3 st.told.length st.whole]=aA 2 st.told.length st.whole::rest:=⟨_,by simp,rfl⟩
      revert s2 f2 s3 f3 c2 c3 hK3 hK3e;refine gen ([aA 2 st.told.length st.whole,aA 3 st.told.length st.whole]) fun K3 hK=>?_;intro s2 f2 s3 f3 c2 c3 hK3 hK3e
      refine bD.step (XT.ifs (b:=false) (a3 (dR (c:=false) (d:=false) (RO (G':=(L,.frame ρ3)::(L+1,.cell (hash d))::(a,aI cs (t1+1))::(d,.dB (a7 (cnt K3 (aA 2 st.told.length st.whole++be 1 4)).2))::G) (Tr.cmp (p:=.lst (st.told.map a4)) (q:=.lst (st.told.map a4)) (Ev.call (G1:=(L,.frame ρ3)::(L+1,.cell (hash d))::(a,aI cs (t1+1))::(d,.dB (a7 K3))::G) (G2:=(L,.frame ρ3)::(L+1,.cell (hash d))::(a,aI cs (t1+1))::(d,.dB (a7 (cnt K3 (aA 2 st.told.length st.whole++be 1 4)).2))::G) (by walk_at "ev") (aB (by kernel_rfl)) (by walk_at "evs") (by rfl) fun vs F' pvs=>TX.c5 (tQ (ks:=K3) (x:=aA 2 st.told.length st.whole++be 1 4) (d:=d) RM (by omega) hK3 f2 s2 htld (by omega) pvs) (List.perm_middle (l₁:=[_,_,_])) (List.perm_middle (l₁:=[_,_,_])).symm) (by walk_at "ev") (fun v u F hv hu=>H9 (by have:=RM.room.units;show _<9900;omega) hv hu) (by rfl)) (by rw [c2])) fun xx=>a3 (dR (c:=false) (d:=false) (RO (G':=(L,.frame ρ3)::(L+1,.cell (hash d))::(a,aI cs (t1+1))::(d,.dB (a7 (cnt K3 (aA 3 st.told.length st.whole++be 2 4)).2))::G) (Tr.cmp (p:=.lst (st.told.map a4)) (q:=.lst (st.told.map a4)) (Ev.call (G1:=(L,.frame ρ3)::(L+1,.cell (hash d))::(a,aI cs (t1+1))::(d,.dB (a7 K3))::G) (G2:=(L,.frame ρ3)::(L+1,.cell (hash d))::(a,aI cs (t1+1))::(d,.dB (a7 (cnt K3 (aA 3 st.told.length st.whole++be 2 4)).2))::G) (by walk_at "ev") (aB (by kernel_rfl)) (by walk_at "evs") (by rfl) fun vs F' pvs=>TX.c5 (tQ (ks:=K3) (x:=aA 3 st.told.length st.whole++be 2 4) (d:=d) RM (by omega) hK3 f3 s3 htld (by omega) pvs) (List.perm_middle (l₁:=[_,_,_])) (List.perm_middle (l₁:=[_,_,_])).symm) (by walk_at "ev") (fun v u F hv hu=>H9 (by have:=RM.room.units;show _<9900;omega) hv hu) (by rfl)) (by rw [c3])) fun xx=>kY) (by rfl)) (by rfl)) (fun h=>by cases h) fun xx=>XS.nil ?_)
      show bD _ _ _ _ ((L,.frame ρ3)::(L+1,.cell (hash d))::(a,aI cs (t1+1))::(d,.dB (a7 K3))::G) _
      clear s2 s3 f2 f3 c2 c3
      refine bD.step (XT.iW ?_ rfl rfl rfl)
      refine aX.draw [_,_] rfl (below:=16+st.whole.length) (by walk_at "ev") (aU.cons (by walk_at "ev") (aU.cons (p:=.int (16+st.whole.length:Nat)) (cC (p:=.int ((aA 2 st.told.length st.whole++be 1 4).length:Nat)) (lN (by walk_at "ev") (by walk_at "evs") (by rfl) (by omega)) (by rw [hwl2])) aU.nil (by rfl)) (by rfl)) (by rfl) R1 hcs (by omega) (by omega) (by omega) fun i hi=>?_
      refine⟨_,_,rfl,?_⟩
      show bD _ _ _ _ ((L,.frame ((Str.ofString "place",.int (i:Nat))::ρ3))::(L+1,.cell (hash d))::(a,aI cs (t1+1+1))::(d,.dB (a7 K3))::G) _
      have hil:i<(aA 2 st.told.length st.whole++be 1 4).length:=by rw [hwl2];exact hi
      obtain⟨rest,hrl,rfl⟩:=hK3e
      clear hK
      have k6:Look ((Str.ofString "place",.int (i:Nat))::ρ3) "place" (.int (i:Nat)):=.head
      have k1:Look ((Str.ofString "place",.int (i:Nat))::ρ3) "pack" (.bytes (aA 2 st.told.length st.whole++be 1 4)):=.tail (by decide) k1
      have k2:Look ((Str.ofString "place",.int (i:Nat))::ρ3) "told" (.lst (st.told.map a4)):=.tail (by decide) k2
      have k3:Look ((Str.ofString "place",.int (i:Nat))::ρ3) "whole" (.bytes st.whole):=.tail (by decide) k3
      have k4:Look ((Str.ofString "place",.int (i:Nat))::ρ3) "deck" (.val (.ref a)):=.tail (by decide) k4
      clear k5
      revert k6 k1 k2 k3 k4;refine gen0 (((Str.ofString "place",PV.int (i:Nat))::ρ3)) fun ρ4=>?_;intro k6 k1 k2 k3 k4
      refine bD.step (XT.iW (aX.call (by walk_at "ev") aV (aL.cM (aX.list (aL.cM (aX.bin (aX.bin (aX.of (p:=.int ((((aA 2 st.told.length st.whole++be 1 4).getD i 0).toNat+1:Nat))) (by walk_at "ev") ?_))) (by rfl))) (by rfl)) (by rfl)) rfl rfl rfl)
      refine aX.draw [_,_] rfl (below:=255) (by walk_at "ev") (by walk_at "evs") (by rfl) R1 hcs (by omega) (by decide) (by decide) fun r2 hr2 v u F hv hu=>T.pJ (bF hv hu) (aX.of (p:=.int (256:Nat)) (by walk_at "ev") ?_)
      intro v u F hv hu
      refine T.pJ (BW (k:=256) (by decide) hv hu) (aL.nil ⟨by simp,aL.nil fun vs F pvs=>?_⟩)
      obtain⟨v,rfl,hv⟩:=pvs.bH
      refine T.pJ (bV (ns:=[(((aA 2 st.told.length st.whole++be 1 4).getD i 0).toNat+1+r2) % 256]) RM.quiet (by simp;omega) (by simp) hv) ⟨_,_,rfl,?_⟩
      have hne:(aA 2 st.told.length st.whole++be 1 4)[i]≠((((aA 2 st.told.length st.whole++be 1 4).getD i 0).toNat+1+r2) % 256).toUInt8:=fun z=>by
        have e1:(aA 2 st.told.length st.whole++be 1 4).getD i 0=(aA 2 st.told.length st.whole++be 1 4)[i]:=by rw [List.getD_eq_getElem?_getD,List.getElem?_eq_getElem hil];rfl
        have e2:=congrArg UInt8.toNat z
        rw [JA (by omega),e1] at e2
        have:=UInt8.toNat_lt (aA 2 st.told.length st.whole++be 1 4)[i]
        omega
      have hb1:bb [(((aA 2 st.told.length st.whole++be 1 4).getD i 0).toNat+1+r2) % 256]=[((((aA 2 st.told.length st.whole++be 1 4).getD i 0).toNat+1+r2) % 256).toUInt8]:=rfl
      rw [hb1]
      revert hne;refine gen0 (((((aA 2 st.told.length st.whole++be 1 4).getD i 0).toNat+1+r2) % 256).toUInt8) fun c=>?_;intro hne
      show bD _ _ _ _ ((L,.frame ((Str.ofString "fresh",.bytes [c])::ρ4))::(L+1,.cell (hash d))::(a,aI cs (t1+1+1+1))::(d,.dB (a7 (aA 2 st.told.length st.whole::rest)))::G) _
      obtain⟨ts,tf⟩:=sJ (W:=aA 2 st.told.length st.whole) (rest:=rest) (i:=i) (c:=c) (by rw [aO];omega) (by omega) hil hne
      have htl:((aA 2 st.told.length st.whole++be 1 4).take i++[c]++(aA 2 st.told.length st.whole++be 1 4).drop (i+1)).length≤100000:=by
        rw [List.length_append,List.length_append,List.length_take,List.length_drop,hwl2];simp only [List.length_cons,List.length_nil];omega
      have hk4:=BI (aA 2 st.told.length st.whole::rest) ((aA 2 st.told.length st.whole++be 1 4).take i++[c]++(aA 2 st.told.length st.whole++be 1 4).drop (i+1))
      rw [List.length_cons] at hk4
      refine bD.step (XT.ifs (b:=false) (G':=(L,.frame ((Str.ofString "fresh",.bytes [c])::ρ4))::(L+1,.cell (hash d))::(a,aI cs (t1+1+1+1))::(d,.dB (a7 (cnt (aA 2 st.told.length st.whole::rest) ((aA 2 st.told.length st.whole++be 1 4).take i++[c]++(aA 2 st.told.length st.whole++be 1 4).drop (i+1))).2))::G)
        (a3 (Tr.not (Tr.of (b:=true) (Ev.call (G1:=(L,.frame ((Str.ofString "fresh",.bytes [c])::ρ4))::(L+1,.cell (hash d))::(a,aI cs (t1+1+1+1))::(d,.dB (a7 (aA 2 st.told.length st.whole::rest)))::G) (by walk_at "ev") (aB (by kernel_rfl)) (aU.cons (p:=.bytes ((aA 2 st.told.length st.whole++be 1 4).take i++[c]++(aA 2 st.told.length st.whole++be 1 4).drop (i+1))) (Ev.bin (p:=.bytes ((aA 2 st.told.length st.whole++be 1 4).take i++[c])) (q:=.bytes ((aA 2 st.told.length st.whole++be 1 4).drop (i+1))) (Ev.bin (p:=.bytes ((aA 2 st.told.length st.whole++be 1 4).take i)) (q:=.bytes [c]) (by walk_at "ev") (by walk_at "ev") fun v u F hv hu=>aH (by rw [List.length_take];simp only [List.length_cons,List.length_nil];omega) hv hu) (by walk_at "ev") fun v u F hv hu=>aH (by rw [List.length_append,List.length_take,List.length_drop];simp only [List.length_cons,List.length_nil];omega) hv hu) (aU.cons (by walk_at "ev") aU.nil (by rfl)) (by rfl)) (by rfl) fun vs F' pvs =>
          TX.c5 (lF (ks:=aA 2 st.told.length st.whole::rest) (x:=(aA 2 st.told.length st.whole++be 1 4).take i++[c]++(aA 2 st.told.length st.whole++be 1 4).drop (i+1)) (d:=d) RM htl (by rw [List.length_cons];omega) tf ts pvs) (List.perm_middle (l₁:=[_,_,_])) (List.perm_middle (l₁:=[_,_,_])).symm) (by rfl))) (by rfl)) (fun h=>by cases h) fun xx=>XS.nil ?_)
      revert hk4;refine gen0 ((cnt (aA 2 st.told.length st.whole::rest) ((aA 2 st.told.length st.whole++be 1 4).take i++[c]++(aA 2 st.told.length st.whole++be 1 4).drop (i+1))).2) fun K4=>?_;intro hk4
      have k1:Look ((Str.ofString "fresh",.bytes [c])::ρ4) "told" (.lst (st.told.map a4)):=.tail (by decide) k2
      have k3:Look ((Str.ofString "fresh",.bytes [c])::ρ4) "whole" (.bytes st.whole):=.tail (by decide) k3
      have k4:Look ((Str.ofString "fresh",.bytes [c])::ρ4) "deck" (.val (.ref a)):=.tail (by decide) k4
      clear k2 k6
      revert k1 k3 k4;refine gen0 (((Str.ofString "fresh",PV.bytes [c])::ρ4)) fun ρ5=>?_;intro k1 k3 k4
      show bD _ _ _ _ ((L,.frame ρ5)::(L+1,.cell (hash d))::(a,aI cs (t1+1+1+1))::(d,.dB (a7 K4))::G) _
      refine bD.step (XT.NL (aX.cmp ?_ (by rfl)))
      refine TX.imp (mQ (LwC L a d cs ρ5 G)
        (TX.BH (by walk_at "ev") (aB (by kernel_rfl)) (aL.ev (p:=.val (.ref a)) (by walk_at "ev") (aL.ev (p:=hash d) (by walk_at "ev") (aL.ev (p:=.bytes st.whole) (by walk_at "ev") (aL.ev (p:=.lst (st.told.map a4)) (by walk_at "ev") (aL.nil fun vs F' pvs=>?_) (by rfl)) (by rfl)) (by rfl)) (by rfl)) (by rfl)) (fun xx=>rfl) (by rfl) (by rfl) (by decide) (by decide) (by rfl) (fun p rest acc Γ C xx I=>?_)) (fun G' F v l h=>?_) fun xx xx xx xx h=>h
      · refine TX.pre (TX.gH (uQ (a:=a) (d:=d) (cs:=cs) (t:=t1+1+1+1) (ks:=K4) (whole:=st.whole) (ps:=st.told.map a4) (G:=(L,.frame ρ5)::(L+1,.cell (hash d))::G) RM.less hcs (by omega) (by omega) (by omega) (by rw [List.length_map];exact h1t) (by rw [List.length_map];omega) pvs) (fun G'' F'' v l h=>?_) fun _ _ _ _ (h:False)=>h.elim) fun F2 h H S=>S.perm (List.Perm.append_right H (List.Perm.append_right G (List.perm_append_comm (l₁:=[_,_]) (l₂:=[_,_]))))
        obtain⟨p,pv,t',r1,r2,r3,r4,r5,r6,ht',b1,b2,b3,b4,b5,b6,rfl,rfl⟩:=h
        rw [List.length_map] at *
        have hre:=tN (placed:=placed) (rows:=rows) (ks:=K4) (r1:=r1) (r2:=r2) (r3:=r3) (r4:=r4) (r5:=r5) (r6:=r6) hrg (by omega) (by omega) (by rw [hst];exact h1t) (by rw [hst];omega) b1 b2 b4 b5 b6
        have hle:=EF (placed:=placed) (rows:=rows) (ks:=K4) (r1:=r1) (r2:=r2) (r3:=r3) (r4:=r4) (r5:=r5) (r6:=r6) (by rw [hst];omega) b4 b5
        rw [hst] at hre hle
        have hfl:=pD K4 (bQ st.whole st.told.length r1 r2 r3 r4 r5 r6)
        have hsl:=iT K4 (bQ st.whole st.told.length r1 r2 r3 r4 r5 r6)
        have h9:(bQ st.whole st.told.length r1 r2 r3 r4 r5 r6).length=9:=rfl
        have hrl:=mO (aY K4 (bQ st.whole st.told.length r1 r2 r3 r4 r5 r6)).2 (dF++be 2 4)
        refine⟨(L,.frame ρ5)::(L+1,.cell (hash d))::(a,aI cs t')::(d,.dB (a7 (bM (aY K4 (bQ st.whole st.told.length r1 r2 r3 r4 r5 r6)).2 (dF++be 2 4))))::G,⟨_,?_,cV RM.quiet pv,_,_,t',rfl,rfl,fun y hy=>⟨hre y hy,hle y hy⟩,?_,rfl⟩,fun F2 h2 H S=>S.perm (List.Perm.append_right H (List.Perm.append_right G (List.perm_append_comm (l₁:=[_,_]) (l₂:=[_,_]))))⟩
        · rw [dA,List.length_append,hfl,h9];simp
        · rw [List.length_append,hfl,h9];simp only [List.length_cons,List.length_nil];omega
      · obtain⟨rs,ks,t',rfl,er,hre,hks,rfl⟩:=I
        cases rs with
        | nil=>cases er
        | cons y rs =>
          simp only [c9,List.map_cons,List.cons.injEq] at er
          obtain⟨rfl,rfl⟩:=er
          obtain⟨hy,hyl⟩:=hre y (by simp)
          rw [List.length_cons] at hks
          have hcl:=BI ks y
          refine EB ?_
          refine TX.imp (T.x (show Tr _ _ _ _ _ false ((C,.frame [(Str.ofString "it",.bytes y)])::(L,.frame ρ5)::(L+1,.cell (hash d))::(a,aI cs t')::(d,.dB (a7 (cnt ks y).2))::G) from a3 (Tr.not (Tr.of (b:=true) (Ev.call (G1:=(C,.frame [(Str.ofString "it",.bytes y)])::(L,.frame ρ5)::(L+1,.cell (hash d))::(a,aI cs t')::(d,.dB (a7 ks))::G) (by walk_at "ev") (aB (by kernel_rfl)) (by walk_at "evs") (by rfl) fun vs F' pvs =>
            TX.c5 (lF (ks:=ks) (x:=y) (d:=d) RM hyl (by omega) (hy ks).2 (hy ks).1 pvs) (List.perm_middle (l₁:=[_,_,_,_])) (List.perm_middle (l₁:=[_,_,_,_])).symm) (by rfl))) (by rfl))) (fun G' F v l h=>?_) fun _ _ _ _ (h:False)=>h.elim
          obtain⟨rfl,rfl⟩:=h
          exact⟨_,_,rfl,rs,(cnt ks y).2,t',rfl,rfl,(fun z hz=>hre z (by simp [hz])),by omega,rfl⟩
      · obtain⟨acc,⟨rs,ks,t',rfl,er,_,_,rfl⟩,pv⟩:=h
        refine⟨_,pv,?_⟩
        refine aX.of (p:=.lst []) (Ev.list aU.nil (by simp)) fun v u F hv hu=>T.pJ (MW (by have:=RM.room.units;show _<9900;omega) hv hu) ?_
        exact⟨_,_,Drop.refl _,rfl⟩
end
noncomputable abbrev pT:Ctx:=⟨.builtin "claim.caller" {},none,none,[],none⟩
theorem sU {M:Model} {t:Sem Fin} {R:Result→Shared→Prop} {s:Shared}
    (h:bX M callerA t (fun fin s'=>∃ f,fin=.done f∧R (.ok f) s') (fun e s'=>R (.error e) s') s) (p:Pos) :
    Sem.wp M pT t (Sem.finPost M pT R) (fun e xx s'=>R (.error e) s') p s:=by
  refine Sem.wp_mono M pT t (fun fin p' s' h'=>?_) (fun xx xx xx h'=>h') p s (h pT p caller_in (by decide +kernel) (fun q hq=>by cases hq))
  obtain⟨f,rfl,hf⟩:=h'
  exact hf
theorem tK {prog:Program} {w:World} {t:Sem Fin} {s:Shared} {R:Result→Shared→Prop} (hreg:s.asleep) (hG:leftWithCleanup s.gens=false)
    (h:bX (model prog w) callerA t (fun fin s'=>∃ f,fin=.done f∧(R (.ok f) s'∧s'.gens=#[])) (fun e s'=>R (.error e) s'∧s'.gens=#[]) { s with gens:=#[] }) :
    ∃ n r s',schedN (denote table) prog w n (.single s ⟨t,.builtin "claim.caller" {},default,[]⟩)=.halted (outcomeOf r) { s' with gens:=s.gens }∧s'.heap.life=s.heap.life∧R r s':=by
  have h':=sU (R:=fun r s'=>(R r s'∧s'.gens=#[])∧leftWithCleanup s'.gens=false)
    (bY h (fun _ _ ⟨f,e,a,b⟩=>⟨f,e,⟨a,b⟩,by rw [b];simp [leftWithCleanup]⟩) fun _ _ ⟨a,b⟩=>⟨⟨a,b⟩,by rw [b];simp [leftWithCleanup]⟩) default
  obtain⟨n,r,s₁,hn,hR,hg⟩:=(wp_iff_halts (M:=model prog w) (R:=fun r s'=>R r s'∧s'.gens=#[]) ..).mp h'
  obtain⟨s₂,hr,hf,hc⟩:=runNI_real _ _ _ hn (outcomeOf_ends r)
  obtain rfl:s₂=s₁:=Shared.eq_of_forget_eq hf hg
  exact⟨n,r,s₂,sched_gens (s:={ s with gens:=#[] }) hG hr (outcomeOf_ends r) hg rfl hc hreg,runN_life (s:={ s with gens:=#[] }) _ _ _ hr,hR⟩
theorem lI {c:ClaimW} {tree:List Value→Sem Fin} {w:World} {s:Shared} {free:Addr→Prop} {gens:Prop} {kept:Heap→Prop} (hz:s.asleep) (hG:leftWithCleanup s.gens=false)
    (hspec:∀ args,c.pre args=true→WData.layableAll args=true →
      ∀ ord:List DictEntry→List DictEntry,(∀ l,(ord l).Perm l) →
      ∃ vs s₁,layAllW c.records (classAt s.heap) w.params ord args s=some (vs,s₁) ∧
        bX (model c.prog w) callerA (tree vs) (fun fin s'=>∃ f,fin=.done f∧(c.Ends s args vs s₁ (.ok f) s'∧s'.os=s.os∧s'.gens=#[]∧kept s'.heap))
          (fun e s'=>c.Ends s args vs s₁ (.error e) s'∧s'.os=s.os∧s'.gens=#[]∧kept s'.heap) { s₁ with gens:=#[] }) :
    c.CallFrom (fun vs=>⟨tree vs,.builtin "claim.caller" {},default,[]⟩) w free gens kept s:=by
  intro args hpre hlay ord hord
  refine Classical.byContradiction fun nG=>?_
  obtain⟨vs,s₁,hlaid,hcode⟩:=hspec args hpre hlay ord hord
  have hal:=layAllW_rest _ _ _ hlaid
  obtain⟨k,r,s',hsched,hlife,hcase,hos,hkp⟩:=tK (prog:=c.prog) (w:=w) (t:=tree vs) (s:=s₁) (R:=fun r s'=>c.Ends s args vs s₁ r s'∧s'.os=s.os∧kept s'.heap)
    (Shared.asleep_of_life hal.2.2.2 hz) (by rw [show s₁.gens=s.gens from hal.1];exact hG)
    (bY hcode (fun xx xx q=>q.imp fun xx q=>⟨q.1,⟨q.2.1,q.2.2.1,q.2.2.2.2⟩,q.2.2.2.1⟩) fun xx xx q=>⟨⟨q.1,q.2.1,q.2.2.2⟩,q.2.2.1⟩)
  refine nG ⟨vs,s₁,hlaid,k,_,_,hsched,?_,(fun xx i x hx=>by rw [← hx];exact congrArg (·[i]?) hal.1),hkp,congrArg Life.seen (hlife.trans hal.2.2.2),Shared.rest_eq hos⟩
  exact hcase.imp (fun q=>q.imp fun v q=>⟨congrArg outcomeOf q.1,q.2.1,q.2.2.1,q.2.2.2.1,fun b o y xx=>q.2.2.2.2.1 b o y,q.2.2.2.2.2⟩) fun q=>q.imp fun e q=>q.imp fun ob q=>q.imp fun cls q=>⟨congrArg outcomeOf q.1,q.2.1,q.2.2.1,q.2.2.2.1,q.2.2.2.2.1,fun b o y xx=>q.2.2.2.2.2 b o y⟩
theorem DZ {r:RowW} {tree:List Value→Sem Fin} {q:Program} {loose defs kps:List Str} {writes:Bool} {Xt:Shared→Bool} {XP:(Str→Option Value)→Heap→Prop} {α:Type} {Yf:Shared→α} {Ya:World→α} {YP:World→Heap→Prop} {N:Nat}
    (left:LeftO r.prog q loose Xt Yf Ya N) (hY:∀ w s,Yf s=Ya w→YP w s.heap) (hYk:∀ w h h',YP w h→(∀ b o,h.get? b=some o→h'.get? b=some o)→YP w h') (hX:∀ s,Xt s=true→XP (s.heap.nsMap mainGlobals) s.heap)
    (hRf:∀ s,Xt s=true→RecFacts r.records s.heap) (hwr:(!writes || r.records.isEmpty)=true) (ok:(chainsOk q && opensWell r.prog && (frees r && r.within.isEmpty))=true) (hb:r.prog.bare) (hw:r.promised)
    (pin:∀ w s,s.heap.isNs mainGlobals=true→Ground q loose [] XP w s (s.heap.nsMap mainGlobals) (s.heap.nsMap builtinsNs) s.heap→∀ n∈defs,isTheDefsW r.prog s.heap n)
    (call:∀ (w:World) (s₀ s₁:Shared),YP w s₁.heap→∀ (args:List WData) (vs:List Value) (ord:List DictEntry→List DictEntry),
      r.claim.pre args=true→WData.layableAll args=true→layAllW r.records (classAt s₀.heap) w.params ord args s₀=some (vs,s₁) →
        bX (model r.prog w) callerA (tree vs) (fun fin s'=>∃ v,fin=.done (.ret v)∧GoodW r.claim (classAt s₀.heap) (ExcName.means s₀.heap) args { s₁ with gens:=#[] } (.ok (.ret v)) s')
          (fun e s'=>GoodW r.claim (classAt s₀.heap) (ExcName.means s₀.heap) args { s₁ with gens:=#[] } (.error e) s') { s₁ with gens:=#[] }):r.claim.HoldsOpenBy (fun vs=>⟨tree vs,.builtin "claim.caller" {},default,[]⟩) defs kps writes:=by
  obtain⟨ok,k5⟩:=Bool.and_eq_true_iff.mp ok
  obtain⟨hch,o1⟩:=Bool.and_eq_true_iff.mp ok
  obtain⟨k5,k6⟩:=Bool.and_eq_true_iff.mp k5
  obtain⟨hsame,hu,ha,hap,hm⟩:=frees_parts k5
  refine⟨⟨hb,o1,by show r.makers.map _=[];rw [hm];rfl⟩,hw.witness,fun w=>⟨(left.behind hX hch w).1,fun s' hs'=>?_⟩⟩
  refine Classical.byContradiction fun nG=>?_
  obtain⟨s₀,hf,hg0,s,hT,hz,hgens,hg,G00,y⟩:=(left.behind (XP:=fun mg h=>XP mg h∧RecFacts r.records h) (fun s hs=>⟨hX s hs,hRf s hs⟩) hch w).2 s' hs'
  have G0:Ground q loose [] XP w s (s.heap.nsMap mainGlobals) (s.heap.nsMap builtinsNs) s.heap:=⟨G00.T,G00.B,G00.D,G00.TE,G00.TD,G00.W,G00.X.1,G00.cls,G00.has,G00.apart,G00.once,G00.K⟩
  have RF:=G00.X.2
  have hT':=hT
  refine nG ⟨s₀,hf,hg0,s,hT,pin w s hg G0,RF.1,RF.2.1,?_⟩
  clear nG
  have hgens:s.gens=#[]:=Array.eq_empty_of_size_eq_zero (beq_iff_eq.mp hgens)
  have G:Ground q loose r.records XP w s _ _ s.heap:=RF.ground G0
  refine lI (c:=r.claim) hz (by rw [hgens];simp [leftWithCleanup]) fun args hpre hlay ord hord=>?_
  obtain⟨⟨vs,s₁⟩,hlaid⟩:=Option.isSome_iff_exists.mp (layAllW_isSome (P:=w.params) (ord:=ord) G.has args r.args s (pre_splitW hpre).1)
  have keeps:=layAllW_keeps _ _ _ hlaid
  have hal:=layAllW_rest _ _ _ hlaid
  obtain⟨as,hrd,hin,hold⟩:=reads_layAllW hord _ _ _ hlaid hlay s₁.heap (fun xx xx e=>e)
  have hi:=ident_freeW hu ha hap
  have hwi:r.claim.within=[]:=List.isEmpty_iff.mp k6
  exact⟨vs,s₁,hlaid,bY (call w s s₁ (hYk _ _ _ (hY w s y) keeps) args vs ord hpre hlay hlaid) (fun fin s' ⟨v,e,g⟩=>⟨_,e,have z:=g.endsN (c:=r.claim) hsame hwi hi hrd hold hal.2.2.1;⟨z.1,z.2.1,z.2.2,fun q=>⟨namesKept_of hT' hg kps keeps fun b o e=>.inl (g.2.1 b o e),noTable hwr q⟩⟩⟩)
    fun e s' g=>have z:=g.endsN (c:=r.claim) hsame hwi hi hrd hold hal.2.2.1;⟨z.1,z.2.1,z.2.2,fun q=>⟨namesKept_of hT' hg kps keeps fun b o e=>.inl (g.2.1 b o e),noTable hwr q⟩⟩⟩
theorem uX {r:OpenRow} {q:Program} {loose:List Str} {Xt:Shared→Bool} {XP:(Str→Option Value)→Heap→Prop} {α:Type} {Yf:Shared→α} {Ya:World→α} {YP:World→Heap→Prop} {d:DefRec} {kwd:List (Str×Expr)} {N:Nat}
    (left:LeftO r.prog q loose Xt Yf Ya N) (hY:∀ w s,Yf s=Ya w→YP w s.heap) (hYk:∀ w h h',YP w h→(∀ b o,h.get? b=some o→h'.get? b=some o)→YP w h')
    (hX:∀ s,Xt s=true→XP (s.heap.nsMap mainGlobals) s.heap)
    (hdef:defOf q r.name=some (d,kwd)) (hp:r.prog.theDef r.name=some (d.params,d.body,d.scope)) (hk:kwWritten? d.params.kwonlyargs d.params.kw_defaults=some kwd) (hRf:∀ s,Xt s=true→RecFacts r.records s.heap) (hwr:(!r.writes || r.records.isEmpty)=true)
    (k1:r.wellSaid=true) (ok:(chainsOk q && opensWell r.prog && (frees r.toRowW && r.within.isEmpty))=true) (hb:r.prog.bare) (hw:r.toRowW.promised)
    (call:∀ (w:World) (s₀ s₁:Shared),YP w s₁.heap→∀ (args:List WData) (vs:List Value) (ord:List DictEntry→List DictEntry),
      r.claim.pre args=true→WData.layableAll args=true→layAllW r.records (classAt s₀.heap) w.params ord args s₀=some (vs,s₁) →
        bX (model r.prog w) callerA (do match ← nsGet mainNs r.name with
            | some f=>do ret (← PySem.call f vs)
            | none=>unsupported "claim.caller:no-such-global") (fun fin s'=>∃ v,fin=.done (.ret v)∧GoodW r.claim (classAt s₀.heap) (ExcName.means s₀.heap) args { s₁ with gens:=#[] } (.ok (.ret v)) s')
          (fun e s'=>GoodW r.claim (classAt s₀.heap) (ExcName.means s₀.heap) args { s₁ with gens:=#[] } (.error e) s') { s₁ with gens:=#[] }):r.Holds:=by
  refine⟨k1,hw,DZ (r:=r.toRowW) (tree:=fun vs=>do match ← nsGet mainNs r.name with
      | some f=>do ret (← PySem.call f vs)
      | none=>unsupported "claim.caller:no-such-global") left hY hYk hX hRf hwr ok hb hw
    (fun w s hg G n hn=>?_) call⟩
  obtain rfl:n=r.name:=by split at hn <;> simp_all
  exact pinned_of_view hg G hdef hp hk
set_option tactic.hygienic true in
theorem lay_ints {R:WRecords} {cl:Str→Option Addr} {P P':Params} {F:FM} {ord:List DictEntry→List DictEntry}:∀ {xs:List WData} {s:Shared} {r:List Value×Shared},WShape.hasItems R xs .int=true→layAllW R cl P ord xs s=some r→∃ is:List Int,xs.length=is.length∧aS P' F (is.map .int) r.1
  | [],s,r,_,e=>by
    unfold layAllW at e
    cases e
    exact⟨[],rfl,.nil⟩
  | x::xs,s,r,h,e=>by
    obtain⟨h1,h2⟩:=Bool.and_eq_true_iff.mp (show(WShape.has R x .int && WShape.hasItems R xs .int)=true from h)
    cases x with
    | int i =>
      unfold layAllW layW at e
      dsimp only at e
      split at e
      · rename_i r2 e2
        cases e
        obtain⟨is,hl,pv⟩:=lay_ints h2 e2
        exact⟨i::is,by simp [hl],.cons ⟨_,rfl⟩ pv⟩
      · cases e
    | _=>exact Bool.noConfusion (show false=true from h1)
theorem MK {R:WRecords} {cl:Str→Option Addr} {P P':Params} {F:FM} {ord:List DictEntry→List DictEntry} {args:List WData} {s s₁:Shared} {vs:List Value} (hsh:WShape.hasAll R args [.list .int]=true) (hl:layAllW R cl P ord args s=some (vs,s₁)) :
    ∃ (xs:List WData) (is:List Int) (rs:List Value) (a:Addr),args=[.list xs]∧xs.length=is.length∧vs=[.ref a]∧s₁.heap.get? a=some (seqObj "list" rs 0)∧aS P' F (is.map PV.int) rs:=by
  match args with
  | []=>exact Bool.noConfusion (show false=true from hsh)
  | [x] =>
    obtain⟨h1,_⟩:=Bool.and_eq_true_iff.mp (show(WShape.has R x (.list .int) && WShape.hasAll R [] [])=true from hsh)
    cases x with
    | list xs =>
      have h2:WShape.hasItems R xs .int=true:=(Bool.or_false _).symm.trans h1
      unfold layAllW layW at hl
      dsimp only at hl
      cases e:layAllW R cl P ord xs s with
      | none=>rw [e] at hl;cases hl
      | some r =>
        rw [e] at hl
        unfold layAllW at hl
        cases hl
        obtain⟨is,hle,pv⟩:=lay_ints (P':=P') (F:=F) h2 e
        exact⟨xs,is,r.1,_,rfl,hle,rfl,Heap.get?_push_size _ rfl,pv⟩
    | _=>exact Bool.noConfusion (show false=true from h1)
  | x::y::r =>
    obtain⟨_,h2⟩:=Bool.and_eq_true_iff.mp (show(WShape.has R x (.list .int) && WShape.hasAll R (y::r) [])=true from hsh)
    exact Bool.noConfusion (show false=true from h2)
theorem DC (w:World) (h h':Heap) (x:∀ a o,(jG w.params).get? a=some o→h.get? a=some o) (k:∀ b o,h.get? b=some o→h'.get? b=some o):∀ a o,(jG w.params).get? a=some o→h'.get? a=some o:=fun a o e=>k a o (x a o e)
theorem len63 {xs:List WData} (h:(PySem.Challenge.rw_nt0281_01.row.pre).holds [] { args:=[.list xs] }=true):xs.length≤63:=by
  by_cases c:xs.length≤63
  · exact c
  · exfalso
    have:(PySem.Challenge.rw_nt0281_01.row.pre).holds [] { args:=[.list xs] }=false:=by
      show WTm.holds [] (.and (.not (.lt (.lit (.int 63)) (.len (.arg 0)))) (.lit (.bool true))) { args:=[.list xs] }=false
      have e:Num.less? (WData.int 63) (WData.int (xs.length:Int))=some (decide ((63:Int)<xs.length)):=by rfl
      have e2:decide ((63:Int)<xs.length)=true:=by simp;omega
      simp [WTm.holds,WTm.value,less?]
      rw [e,e2]
      rfl
    rw [this] at h;cases h
theorem FG (w:World) (s₀ s₁:Shared) (Y:∀ a o,(jG w.params).get? a=some o→s₁.heap.get? a=some o) (args:List WData) (vs:List Value) (ord:List DictEntry→List DictEntry)
    (hpre:PySem.Challenge.rw_nt0281_01.row.toRowW.claim.pre args=true) (hlaid:layAllW PySem.Challenge.rw_nt0281_01.row.records (classAt s₀.heap) w.params ord args s₀=some (vs,s₁)) :
    bX (MM w) callerA (do match ← nsGet mainNs (Str.ofString "law") with
            | some f=>do ret (← PySem.call f vs)
            | none=>unsupported "claim.caller:no-such-global") (fun fin s'=>∃ v,fin=.done (.ret v)∧GoodW PySem.Challenge.rw_nt0281_01.row.toRowW.claim (classAt s₀.heap) (ExcName.means s₀.heap) args { s₁ with gens:=#[] } (.ok (.ret v)) s')
          (fun e s'=>GoodW PySem.Challenge.rw_nt0281_01.row.toRowW.claim (classAt s₀.heap) (ExcName.means s₀.heap) args { s₁ with gens:=#[] } (.error e) s') { s₁ with gens:=#[] }:=by
  obtain⟨hsh,hcond⟩:=pre_splitW hpre
  have S:Sb w callerA (fun b=>s₁.heap.get? b) s₁.heap ([]++[]):=⟨fun a o e=>Y a o e,fun a o e=>e,(fun q hq=>(by cases hq)),List.nodup_nil,[],rfl,(fun env he=>(by cases he))⟩
  obtain⟨xs,is,rs,a,rfl,hle,rfl,ha,pv⟩:=MK (P':=w.params) (F:=fun b=>s₁.heap.get? b) hsh hlaid
  have h63:=len63 hcond
  have hpost:PySem.Challenge.rw_nt0281_01.row.toRowW.claim.post [WData.list xs] (WData.bool true) [WData.list xs]=true:=by
    show(WShape.has [] (.bool true) .bool && WTm.holds [] (.eq .res (.lit (.bool true))) { args:=[.list xs],res:=some (.bool true),after:=[.list xs] })=true
    refine Bool.and_eq_true_iff.mpr ⟨rfl,?_⟩
    simp [WTm.holds,WTm.value,same]
  refine aD (.of (wpAny_nsGet (uZ S) ?_))
  obtain⟨v,hv,hp⟩:=BM (w:=w) S.base (x:=Str.ofString "law") (p:=.val (.ref 440)) (by rfl)
  cases hp
  rw [hv]
  have R:Rc callerA 11:=⟨⟨⟨by decide,by decide⟩,rfl⟩,rfl⟩
  have y:=c_law (w:=w) (A:=callerA) (G:=[]) (F:=fun b=>s₁.heap.get? b) (vs:=[.ref a]) (xs:=is) R (by omega) (.one ⟨a,rs,0,rfl,ha,pv⟩)
  refine aD (y (fun b=>s₁.heap.get? b) [] { s₁ with gens:=#[] } s₁.heap s₁.toks _ _ (Le.refl _) S (fun v F' h' k' G' l' S' n=>?_) fun e C c p F' h' k' G' l' S' n=>n.elim)
  obtain⟨p,hpv,rfl⟩:=n
  cases hpv
  exact aR ⟨.bool true,rfl,.inl ⟨.bool true,.bool true,[],rfl,fun xx=>rfl,.bool true,hpost,fun xx=>⟨List.nodup_nil,fun a ha=>(by cases ha)⟩⟩,fun b o e=>S'.sub b o (l' b o e),rfl,rfl⟩
theorem DP:looksOpen PySem.Challenge.rw_nt0281_01.row.prog=true:=by
  rw [PySem.W.Fast.te12908688711261696721]
  delta PySem.W.Fast.tw12908688711261696721
  (repeat' (with_reducible refine look_both ?_ ?_)) <;> decide +kernel
theorem FH:PySem.Challenge.rw_nt0281_01.row.partSaid=true:=by
  rw [PySem.W.Fast.te2436336058641802641]
  delta PySem.W.Fast.tw2436336058641802641
  (repeat' (with_reducible refine look_both ?_ ?_)) <;> first | (rw [← PySem.W.Fast.te12908688711261696721];exact DP) | decide +kernel
theorem MJ:PySem.Challenge.rw_nt0281_01.row.wellSaid=true:=by
  rw [PySem.W.Fast.te17960256430627541270]
  delta PySem.W.Fast.tw17960256430627541270
  (repeat' (with_reducible refine look_both ?_ ?_)) <;> first | (rw [← PySem.W.Fast.te2436336058641802641];exact FH) | decide +kernel
theorem FI:PySem.Challenge.rw_nt0281_01.wellSaid=true:=by
  rw [PySem.W.Fast.te9446332074065402090]
  delta PySem.W.Fast.tw9446332074065402090
  (repeat' (with_reducible refine look_both ?_ ?_)) <;> first | (rw [← PySem.W.Fast.te17960256430627541270];exact MJ) | decide +kernel
end PackLaw
open PySem PySem.W PySem.Calls PyProof.Rows PackLaw
set_option maxHeartbeats 8000000 in
theorem PySem.Challenge.cw_nt0281_01_holds : PySem.Challenge.rw_nt0281_01.Holds := by
  refine holds_law FI fun said=>?_
  refine uX (q:=qv) (loose:=loose) (Xt:=fun xx=>true) (XP:=fun xx xx=>True) (Yf:=fun s=>s.heap) (Ya:=fun w=>jG w.params) (YP:=fun w h=>∀ a o,(jG w.params).get? a=some o→h.get? a=some o) (N:=8000)
    left (fun w s e=>by intro a o h;rw [← e] at h;exact h) DC (fun xx xx=>trivial) (by rfl) (by rfl) (by rfl) (fun s e=>recFacts_nil rfl) (by rfl) (by assumption) (by decide +kernel) ⟨rfl,rfl,rfl,rfl,rfl,by decide +kernel⟩ ?hw ?hc
  case hw=>w_witness2
  case hc =>
    intro w s₀ s₁ Y args vs ord hpre hlay hlaid
    exact FG w s₀ s₁ Y args vs ord hpre hlaid
