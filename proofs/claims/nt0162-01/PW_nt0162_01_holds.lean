import PyProof.Rows.All
import Wide.All
import OpenK.AllK
import Wide.FinOn
import PySem.Challenge.RW_nt0162_01
open PySem PySem.W PyProof.Rows
open PySem.Calls
set_option Elab.async false
namespace Mine
set_option maxRecDepth 100000
set_option maxHeartbeats 8000000
/-- the def at place i of the text -/
def FnIs (i : Nat) (p : Arguments) (b : List Stmt) (c : Scope) : Prop := ∃ n d r t ts bi ps, PySem.Challenge.pw_nt0162_01.main.body[i]? = some (.FunctionDef n p b d r t c ts bi ps)
/-- the first def of the class at place i of the text -/
def MethIs (i : Nat) (p : Arguments) (b : List Stmt) (c : Scope) : Prop := ∃ n d r t ts bi ps l n' k1 k2 k3 k4 k5 k6 k7 k8 k9, PySem.Challenge.pw_nt0162_01.main.body[i]? = some (.ClassDef n' k1 k2 (.FunctionDef n p b d r t c ts bi ps :: l) k3 k4 k5 k6 k7 k8 k9)
noncomputable def KK : Params → Frag :=
  (fun {p28 : Arguments} {b28 : List Stmt} {s28 : Scope} {p48 : Arguments} {b48 : List Stmt} {s48 : Scope} {p67 : Arguments} {b67 : List Stmt} {s67 : Scope} {p86 : Arguments} {b86 : List Stmt} {s86 : Scope} {p100 : Arguments} {b100 : List Stmt} {s100 : Scope} {p107 : Arguments} {b107 : List Stmt} {s107 : Scope} {p114 : Arguments} {b114 : List Stmt} {s114 : Scope} {p121 : Arguments} {b121 : List Stmt} {s121 : Scope} {p128 : Arguments} {b128 : List Stmt} {s128 : Scope} {p135 : Arguments} {b135 : List Stmt} {s135 : Scope} {p142 : Arguments} {b142 : List Stmt} {s142 : Scope} {p149 : Arguments} {b149 : List Stmt} {s149 : Scope} {p156 : Arguments} {b156 : List Stmt} {s156 : Scope} {p163 : Arguments} {b163 : List Stmt} {s163 : Scope} {p170 : Arguments} {b170 : List Stmt} {s170 : Scope} {p177 : Arguments} {b177 : List Stmt} {s177 : Scope} {p184 : Arguments} {b184 : List Stmt} {s184 : Scope} {p191 : Arguments} {b191 : List Stmt} {s191 : Scope} {p198 : Arguments} {b198 : List Stmt} {s198 : Scope} {p205 : Arguments} {b205 : List Stmt} {s205 : Scope} {p212 : Arguments} {b212 : List Stmt} {s212 : Scope} {p219 : Arguments} {b219 : List Stmt} {s219 : Scope} {p226 : Arguments} {b226 : List Stmt} {s226 : Scope} {p233 : Arguments} {b233 : List Stmt} {s233 : Scope} {p240 : Arguments} {b240 : List Stmt} {s240 : Scope} {p247 : Arguments} {b247 : List Stmt} {s247 : Scope} {p254 : Arguments} {b254 : List Stmt} {s254 : Scope} {p261 : Arguments} {b261 : List Stmt} {s261 : Scope} {p266 : Arguments} {b266 : List Stmt} {s266 : Scope} {p273 : Arguments} {b273 : List Stmt} {s273 : Scope} {p280 : Arguments} {b280 : List Stmt} {s280 : Scope} {p287 : Arguments} {b287 : List Stmt} {s287 : Scope} {p292 : Arguments} {b292 : List Stmt} {s292 : Scope} (_ : MethIs 1 p28 b28 s28) (_ : MethIs 2 p48 b48 s48) (_ : MethIs 3 p67 b67 s67) (_ : MethIs 6 p86 b86 s86) (_ : FnIs 7 p100 b100 s100) (_ : FnIs 8 p107 b107 s107) (_ : FnIs 9 p114 b114 s114) (_ : FnIs 10 p121 b121 s121) (_ : FnIs 11 p128 b128 s128) (_ : FnIs 12 p135 b135 s135) (_ : FnIs 13 p142 b142 s142) (_ : FnIs 14 p149 b149 s149) (_ : FnIs 15 p156 b156 s156) (_ : FnIs 16 p163 b163 s163) (_ : FnIs 17 p170 b170 s170) (_ : FnIs 18 p177 b177 s177) (_ : FnIs 19 p184 b184 s184) (_ : FnIs 20 p191 b191 s191) (_ : FnIs 21 p198 b198 s198) (_ : FnIs 22 p205 b205 s205) (_ : FnIs 23 p212 b212 s212) (_ : FnIs 24 p219 b219 s219) (_ : FnIs 25 p226 b226 s226) (_ : FnIs 26 p233 b233 s233) (_ : FnIs 28 p240 b240 s240) (_ : FnIs 29 p247 b247 s247) (_ : FnIs 30 p254 b254 s254) (_ : FnIs 31 p261 b261 s261) (_ : FnIs 32 p266 b266 s266) (_ : FnIs 33 p273 b273 s273) (_ : FnIs 34 p280 b280 s280) (_ : FnIs 35 p287 b287 s287) (_ : FnIs 36 p292 b292 s292) (P : Params) => (
    (nat_lit 2, Obj.mk Value.none none (Data.dict #[DictEntry.mk (PyData.keyHash P (.ofString "type.__subclasses__.Exception.0")) (Value.str (.ofString "type.__subclasses__.Exception.0") 216) (Value.int 31 0), DictEntry.mk (PyData.keyHash P (.ofString "type.__subclasses__.Exception.n")) (Value.str (.ofString "type.__subclasses__.Exception.n") 217) (Value.int 1 0)] 2) #[]) ::
    (nat_lit 3, Obj.mk (Value.type "dict") none (Data.dict #[DictEntry.mk (PyData.keyHash P (.ofString "__name__")) (Value.str (.ofString "__name__") 165) (Value.str (.ofString "law_nt0162_01") 486), DictEntry.mk (PyData.keyHash P (.ofString "__doc__")) (Value.str (.ofString "__doc__") 166) Value.none, DictEntry.mk (PyData.keyHash P (.ofString "__package__")) (Value.str (.ofString "__package__") 167) Value.none, DictEntry.mk (PyData.keyHash P (.ofString "__loader__")) (Value.str (.ofString "__loader__") 168) (Value.builtin "__main__.__loader__#opaque"), DictEntry.mk (PyData.keyHash P (.ofString "__spec__")) (Value.str (.ofString "__spec__") 169) Value.none, DictEntry.mk (PyData.keyHash P (.ofString "__annotations__")) (Value.str (.ofString "__annotations__") 170) (Value.ref 6), DictEntry.mk (PyData.keyHash P (.ofString "__builtins__")) (Value.str (.ofString "__builtins__") 171) (Value.ref 4), DictEntry.mk (PyData.keyHash P (.ofString "__file__")) (Value.str (.ofString "__file__") 173) (Value.str (.ofString "/claim/cut.py") 172), DictEntry.mk (PyData.keyHash P (.ofString "__cached__")) (Value.str (.ofString "__cached__") 174) Value.none, DictEntry.mk (PyData.keyHash P (.ofString "SchemeError")) (Value.str (.ofString "SchemeError") 219) (Value.ref 31), DictEntry.mk (PyData.keyHash P (.ofString "OutOfRange")) (Value.str (.ofString "OutOfRange") 248) (Value.ref 51), DictEntry.mk (PyData.keyHash P (.ofString "OutOfDomain")) (Value.str (.ofString "OutOfDomain") 273) (Value.ref 70), DictEntry.mk (PyData.keyHash P (.ofString "REACH")) (Value.str (.ofString "REACH") 279) (Value.int 65536 278), DictEntry.mk (PyData.keyHash P (.ofString "Real")) (Value.str (.ofString "Real") 310) (Value.ref 89), DictEntry.mk (PyData.keyHash P (.ofString "size_of")) (Value.str (.ofString "size_of") 317) (Value.ref 100), DictEntry.mk (PyData.keyHash P (.ofString "sign_of_whole")) (Value.str (.ofString "sign_of_whole") 324) (Value.ref 107), DictEntry.mk (PyData.keyHash P (.ofString "zeros_below")) (Value.str (.ofString "zeros_below") 331) (Value.ref 114), DictEntry.mk (PyData.keyHash P (.ofString "lean")) (Value.str (.ofString "lean") 341) (Value.ref 121), DictEntry.mk (PyData.keyHash P (.ofString "nearest_shift")) (Value.str (.ofString "nearest_shift") 352) (Value.ref 128), DictEntry.mk (PyData.keyHash P (.ofString "shifted_round")) (Value.str (.ofString "shifted_round") 362) (Value.ref 135), DictEntry.mk (PyData.keyHash P (.ofString "place_of")) (Value.str (.ofString "place_of") 369) (Value.ref 142), DictEntry.mk (PyData.keyHash P (.ofString "sign_of")) (Value.str (.ofString "sign_of") 376) (Value.ref 149), DictEntry.mk (PyData.keyHash P (.ofString "negative")) (Value.str (.ofString "negative") 383) (Value.ref 156), DictEntry.mk (PyData.keyHash P (.ofString "magnitude")) (Value.str (.ofString "magnitude") 390) (Value.ref 163), DictEntry.mk (PyData.keyHash P (.ofString "compare_magnitudes")) (Value.str (.ofString "compare_magnitudes") 399) (Value.ref 170), DictEntry.mk (PyData.keyHash P (.ofString "compare_reals")) (Value.str (.ofString "compare_reals") 407) (Value.ref 177), DictEntry.mk (PyData.keyHash P (.ofString "far_sum")) (Value.str (.ofString "far_sum") 417) (Value.ref 184), DictEntry.mk (PyData.keyHash P (.ofString "add_reals")) (Value.str (.ofString "add_reals") 431) (Value.ref 191), DictEntry.mk (PyData.keyHash P (.ofString "subtract_reals")) (Value.str (.ofString "subtract_reals") 440) (Value.ref 198), DictEntry.mk (PyData.keyHash P (.ofString "full_mantissa")) (Value.str (.ofString "full_mantissa") 449) (Value.ref 205), DictEntry.mk (PyData.keyHash P (.ofString "farther")) (Value.str (.ofString "farther") 459) (Value.ref 212), DictEntry.mk (PyData.keyHash P (.ofString "nearer")) (Value.str (.ofString "nearer") 469) (Value.ref 219), DictEntry.mk (PyData.keyHash P (.ofString "above")) (Value.str (.ofString "above") 477) (Value.ref 226), DictEntry.mk (PyData.keyHash P (.ofString "below")) (Value.str (.ofString "below") 485) (Value.ref 233), DictEntry.mk (PyData.keyHash P (.ofString "_law_odd")) (Value.str (.ofString "_law_odd") 495) (Value.ref 240), DictEntry.mk (PyData.keyHash P (.ofString "_law_pair")) (Value.str (.ofString "_law_pair") 506) (Value.ref 247), DictEntry.mk (PyData.keyHash P (.ofString "_law_whole")) (Value.str (.ofString "_law_whole") 514) (Value.ref 254), DictEntry.mk (PyData.keyHash P (.ofString "_law_near")) (Value.str (.ofString "_law_near") 527) (Value.ref 261), DictEntry.mk (PyData.keyHash P (.ofString "_law_beside")) (Value.str (.ofString "_law_beside") 533) (Value.ref 266), DictEntry.mk (PyData.keyHash P (.ofString "_law_told")) (Value.str (.ofString "_law_told") 540) (Value.ref 273), DictEntry.mk (PyData.keyHash P (.ofString "_law_is_sum_right")) (Value.str (.ofString "_law_is_sum_right") 554) (Value.ref 280), DictEntry.mk (PyData.keyHash P (.ofString "_law_is_next_right")) (Value.str (.ofString "_law_is_next_right") 569) (Value.ref 287), DictEntry.mk (PyData.keyHash P (.ofString "law")) (Value.str (.ofString "law") 575) (Value.ref 292)] 43) #[]) ::
    (nat_lit 15, Obj.mk (Value.type "tuple") none (Data.seq #[Value.type "Exception"]) #[]) ::
    (nat_lit 22, Obj.mk (Value.type "tuple") none (Data.seq #[]) #[]) ::
    (nat_lit 24, Obj.mk (Value.type "tuple") none (Data.seq #[Value.str (.ofString "self") 204, Value.str (.ofString "word") 205, Value.str (.ofString "irritants") 206]) #[]) ::
    (nat_lit 25, Obj.mk (Value.type "tuple") none (Data.seq #[]) #[]) ::
    (nat_lit 27, Obj.mk (Value.type "code") none (Data.fields #[Value.str (.ofString "__init__") 201, Value.str (.ofString "SchemeError.__init__") 202, Value.str (.ofString "/claim/cut.py") 203, Value.int 4 0, Value.int 3 0, Value.int 0 0, Value.int 0 0, Value.int 3 0, Value.ref 22, Value.bool Bool.true, Value.int 181 0, Value.ref 23, Value.none, Value.ref 24, Value.ref 25, Value.ref 26, Value.int 207 0, Value.int 4 0, Value.str (.ofString "/claim/cut.py") 208]) #[]) ::
    (nat_lit 28, Obj.mk (Value.type "function") none (Data.func (FuncData.mk (.ofString "__init__") (.ofString "SchemeError.__init__") p28 (FuncBody.stmts b28) s28 3 [] Value.none Value.none Value.none (Value.str (.ofString "scheme.errors") 187) none (Value.ref 27) Value.none 0)) #[]) ::
    (nat_lit 29, Obj.mk (Value.type "tuple") none (Data.seq #[Value.str (.ofString "irritants") 210, Value.str (.ofString "word") 211]) #[]) ::
    (nat_lit 30, Obj.mk (Value.type "dict") none (Data.dict #[DictEntry.mk (PyData.keyHash P (.ofString "__module__")) (Value.str (.ofString "__module__") 196) (Value.str (.ofString "scheme.errors") 187), DictEntry.mk (PyData.keyHash P (.ofString "__firstlineno__")) (Value.str (.ofString "__firstlineno__") 200) (Value.int 2 199), DictEntry.mk (PyData.keyHash P (.ofString "__init__")) (Value.str (.ofString "__init__") 209) (Value.ref 28), DictEntry.mk (PyData.keyHash P (.ofString "__static_attributes__")) (Value.str (.ofString "__static_attributes__") 212) (Value.ref 29), DictEntry.mk (PyData.keyHash P (.ofString "__weakref__")) (Value.str (.ofString "__weakref__") 214) (Value.ref 32), DictEntry.mk (PyData.keyHash P (.ofString "__doc__")) (Value.str (.ofString "__doc__") 215) Value.none] 3) #[]) ::
    (nat_lit 31, Obj.mk (Value.type "type") none (Data.cls (ClassData.mk (.ofString "SchemeError") [Value.type "Exception"] [Value.ref 31, Value.type "Exception", Value.type "BaseException", Value.type "object"] 30 (.ofString "SchemeError") Bool.true [] [Value.ref 51, Value.ref 70] Bool.false none Bool.false)) #[some (Value.ref 15), none, some (Value.str (.ofString "SchemeError") 189), some (Value.str (.ofString "SchemeError") 197), some (Value.builtin "Exception.__new__"), some (Value.bool Bool.true)]) ::
    (nat_lit 32, Obj.mk (Value.type "getset_descriptor") none (Data.fields #[Value.str (.ofString "__weakref__") 213, Value.ref 31, Value.builtin "ExceptionGroup.__weakref__", Value.none]) #[]) ::
    (nat_lit 35, Obj.mk (Value.type "tuple") none (Data.seq #[Value.ref 31]) #[]) ::
    (nat_lit 42, Obj.mk (Value.type "tuple") none (Data.seq #[]) #[]) ::
    (nat_lit 44, Obj.mk (Value.type "tuple") none (Data.seq #[Value.str (.ofString "self") 235, Value.str (.ofString "name") 236, Value.str (.ofString "place") 237, Value.str (.ofString "datum") 238]) #[]) ::
    (nat_lit 45, Obj.mk (Value.type "tuple") none (Data.seq #[]) #[]) ::
    (nat_lit 47, Obj.mk (Value.type "code") none (Data.fields #[Value.str (.ofString "__init__") 232, Value.str (.ofString "OutOfRange.__init__") 233, Value.str (.ofString "/claim/cut.py") 234, Value.int 9 0, Value.int 4 0, Value.int 0 0, Value.int 0 0, Value.int 3 0, Value.ref 42, Value.bool Bool.true, Value.int 181 0, Value.ref 43, Value.none, Value.ref 44, Value.ref 45, Value.ref 46, Value.int 239 0, Value.int 9 0, Value.str (.ofString "/claim/cut.py") 240]) #[]) ::
    (nat_lit 48, Obj.mk (Value.type "function") none (Data.func (FuncData.mk (.ofString "__init__") (.ofString "OutOfRange.__init__") p48 (FuncBody.stmts b48) s48 3 [] Value.none Value.none Value.none (Value.str (.ofString "scheme.errors") 187) none (Value.ref 47) Value.none 0)) #[]) ::
    (nat_lit 49, Obj.mk (Value.type "tuple") none (Data.seq #[Value.str (.ofString "datum") 242, Value.str (.ofString "name") 243, Value.str (.ofString "place") 244]) #[]) ::
    (nat_lit 50, Obj.mk (Value.type "dict") none (Data.dict #[DictEntry.mk (PyData.keyHash P (.ofString "__module__")) (Value.str (.ofString "__module__") 227) (Value.str (.ofString "scheme.errors") 187), DictEntry.mk (PyData.keyHash P (.ofString "__firstlineno__")) (Value.str (.ofString "__firstlineno__") 231) (Value.int 7 230), DictEntry.mk (PyData.keyHash P (.ofString "__init__")) (Value.str (.ofString "__init__") 241) (Value.ref 48), DictEntry.mk (PyData.keyHash P (.ofString "__static_attributes__")) (Value.str (.ofString "__static_attributes__") 245) (Value.ref 49), DictEntry.mk (PyData.keyHash P (.ofString "__doc__")) (Value.str (.ofString "__doc__") 246) Value.none] 2) #[]) ::
    (nat_lit 51, Obj.mk (Value.type "type") none (Data.cls (ClassData.mk (.ofString "OutOfRange") [Value.ref 31] [Value.ref 51, Value.ref 31, Value.type "Exception", Value.type "BaseException", Value.type "object"] 50 (.ofString "OutOfRange") Bool.true [] [] Bool.false none Bool.false)) #[some (Value.ref 35), none, some (Value.str (.ofString "OutOfRange") 220), some (Value.str (.ofString "OutOfRange") 228), some (Value.builtin "Exception.__new__"), some (Value.bool Bool.true)]) ::
    (nat_lit 54, Obj.mk (Value.type "tuple") none (Data.seq #[Value.ref 31]) #[]) ::
    (nat_lit 61, Obj.mk (Value.type "tuple") none (Data.seq #[]) #[]) ::
    (nat_lit 63, Obj.mk (Value.type "tuple") none (Data.seq #[Value.str (.ofString "self") 264, Value.str (.ofString "name") 265]) #[]) ::
    (nat_lit 64, Obj.mk (Value.type "tuple") none (Data.seq #[]) #[]) ::
    (nat_lit 66, Obj.mk (Value.type "code") none (Data.fields #[Value.str (.ofString "__init__") 261, Value.str (.ofString "OutOfDomain.__init__") 262, Value.str (.ofString "/claim/cut.py") 263, Value.int 16 0, Value.int 2 0, Value.int 0 0, Value.int 0 0, Value.int 3 0, Value.ref 61, Value.bool Bool.true, Value.int 181 0, Value.ref 62, Value.none, Value.ref 63, Value.ref 64, Value.ref 65, Value.int 266 0, Value.int 16 0, Value.str (.ofString "/claim/cut.py") 267]) #[]) ::
    (nat_lit 67, Obj.mk (Value.type "function") none (Data.func (FuncData.mk (.ofString "__init__") (.ofString "OutOfDomain.__init__") p67 (FuncBody.stmts b67) s67 3 [] Value.none Value.none Value.none (Value.str (.ofString "scheme.errors") 187) none (Value.ref 66) Value.none 0)) #[]) ::
    (nat_lit 68, Obj.mk (Value.type "tuple") none (Data.seq #[Value.str (.ofString "name") 269]) #[]) ::
    (nat_lit 69, Obj.mk (Value.type "dict") none (Data.dict #[DictEntry.mk (PyData.keyHash P (.ofString "__module__")) (Value.str (.ofString "__module__") 256) (Value.str (.ofString "scheme.errors") 187), DictEntry.mk (PyData.keyHash P (.ofString "__firstlineno__")) (Value.str (.ofString "__firstlineno__") 260) (Value.int 14 259), DictEntry.mk (PyData.keyHash P (.ofString "__init__")) (Value.str (.ofString "__init__") 268) (Value.ref 67), DictEntry.mk (PyData.keyHash P (.ofString "__static_attributes__")) (Value.str (.ofString "__static_attributes__") 270) (Value.ref 68), DictEntry.mk (PyData.keyHash P (.ofString "__doc__")) (Value.str (.ofString "__doc__") 271) Value.none] 2) #[]) ::
    (nat_lit 70, Obj.mk (Value.type "type") none (Data.cls (ClassData.mk (.ofString "OutOfDomain") [Value.ref 31] [Value.ref 70, Value.ref 31, Value.type "Exception", Value.type "BaseException", Value.type "object"] 69 (.ofString "OutOfDomain") Bool.true [] [] Bool.false none Bool.false)) #[some (Value.ref 54), none, some (Value.str (.ofString "OutOfDomain") 249), some (Value.str (.ofString "OutOfDomain") 257), some (Value.builtin "Exception.__new__"), some (Value.bool Bool.true)]) ::
    (nat_lit 80, Obj.mk (Value.type "tuple") none (Data.seq #[]) #[]) ::
    (nat_lit 82, Obj.mk (Value.type "tuple") none (Data.seq #[Value.str (.ofString "self") 295, Value.str (.ofString "mantissa") 296, Value.str (.ofString "exponent") 297]) #[]) ::
    (nat_lit 83, Obj.mk (Value.type "tuple") none (Data.seq #[]) #[]) ::
    (nat_lit 85, Obj.mk (Value.type "code") none (Data.fields #[Value.str (.ofString "__init__") 292, Value.str (.ofString "Real.__init__") 293, Value.str (.ofString "/claim/cut.py") 294, Value.int 23 0, Value.int 3 0, Value.int 0 0, Value.int 0 0, Value.int 3 0, Value.ref 80, Value.bool Bool.true, Value.int 181 0, Value.ref 81, Value.none, Value.ref 82, Value.ref 83, Value.ref 84, Value.int 298 0, Value.int 23 0, Value.str (.ofString "/claim/cut.py") 299]) #[]) ::
    (nat_lit 86, Obj.mk (Value.type "function") none (Data.func (FuncData.mk (.ofString "__init__") (.ofString "Real.__init__") p86 (FuncBody.stmts b86) s86 3 [] Value.none Value.none Value.none (Value.str (.ofString "scheme.binary") 274) none (Value.ref 85) Value.none 0)) #[]) ::
    (nat_lit 87, Obj.mk (Value.type "tuple") none (Data.seq #[Value.str (.ofString "exponent") 301, Value.str (.ofString "mantissa") 302]) #[]) ::
    (nat_lit 88, Obj.mk (Value.type "dict") none (Data.dict #[DictEntry.mk (PyData.keyHash P (.ofString "__module__")) (Value.str (.ofString "__module__") 287) (Value.str (.ofString "scheme.binary") 274), DictEntry.mk (PyData.keyHash P (.ofString "__firstlineno__")) (Value.str (.ofString "__firstlineno__") 291) (Value.int 21 290), DictEntry.mk (PyData.keyHash P (.ofString "__init__")) (Value.str (.ofString "__init__") 300) (Value.ref 86), DictEntry.mk (PyData.keyHash P (.ofString "__static_attributes__")) (Value.str (.ofString "__static_attributes__") 303) (Value.ref 87), DictEntry.mk (PyData.keyHash P (.ofString "__dict__")) (Value.str (.ofString "__dict__") 305) (Value.ref 90), DictEntry.mk (PyData.keyHash P (.ofString "__weakref__")) (Value.str (.ofString "__weakref__") 307) (Value.ref 91), DictEntry.mk (PyData.keyHash P (.ofString "__doc__")) (Value.str (.ofString "__doc__") 308) Value.none] 4) #[]) ::
    (nat_lit 89, Obj.mk (Value.type "type") none (Data.cls (ClassData.mk (.ofString "Real") [Value.type "object"] [Value.ref 89, Value.type "object"] 88 (.ofString "Real") Bool.true [] [] Bool.false none Bool.false)) #[none, none, some (Value.str (.ofString "Real") 280), some (Value.str (.ofString "Real") 288), some (Value.builtin "object.__new__"), some (Value.bool Bool.true)]) ::
    (nat_lit 90, Obj.mk (Value.type "getset_descriptor") none (Data.fields #[Value.str (.ofString "__dict__") 304, Value.ref 89, Value.builtin "function.__dict__", Value.builtin "function.__dict__#set"]) #[]) ::
    (nat_lit 91, Obj.mk (Value.type "getset_descriptor") none (Data.fields #[Value.str (.ofString "__weakref__") 306, Value.ref 89, Value.builtin "ExceptionGroup.__weakref__", Value.none]) #[]) ::
    (nat_lit 94, Obj.mk (Value.type "tuple") none (Data.seq #[]) #[]) ::
    (nat_lit 96, Obj.mk (Value.type "tuple") none (Data.seq #[Value.str (.ofString "number") 314]) #[]) ::
    (nat_lit 97, Obj.mk (Value.type "tuple") none (Data.seq #[]) #[]) ::
    (nat_lit 99, Obj.mk (Value.type "code") none (Data.fields #[Value.str (.ofString "size_of") 311, Value.str (.ofString "size_of") 312, Value.str (.ofString "/claim/cut.py") 313, Value.int 26 0, Value.int 1 0, Value.int 0 0, Value.int 0 0, Value.int 3 0, Value.ref 94, Value.bool Bool.true, Value.int 181 0, Value.ref 95, Value.none, Value.ref 96, Value.ref 97, Value.ref 98, Value.int 315 0, Value.int 26 0, Value.str (.ofString "/claim/cut.py") 316]) #[]) ::
    (nat_lit 100, Obj.mk (Value.type "function") none (Data.func (FuncData.mk (.ofString "size_of") (.ofString "size_of") p100 (FuncBody.stmts b100) s100 3 [] Value.none Value.none Value.none (Value.str (.ofString "scheme.binary") 274) none (Value.ref 99) Value.none 0)) #[]) ::
    (nat_lit 101, Obj.mk (Value.type "tuple") none (Data.seq #[]) #[]) ::
    (nat_lit 103, Obj.mk (Value.type "tuple") none (Data.seq #[Value.str (.ofString "number") 321]) #[]) ::
    (nat_lit 104, Obj.mk (Value.type "tuple") none (Data.seq #[]) #[]) ::
    (nat_lit 106, Obj.mk (Value.type "code") none (Data.fields #[Value.str (.ofString "sign_of_whole") 318, Value.str (.ofString "sign_of_whole") 319, Value.str (.ofString "/claim/cut.py") 320, Value.int 28 0, Value.int 1 0, Value.int 0 0, Value.int 0 0, Value.int 3 0, Value.ref 101, Value.bool Bool.true, Value.int 181 0, Value.ref 102, Value.none, Value.ref 103, Value.ref 104, Value.ref 105, Value.int 322 0, Value.int 28 0, Value.str (.ofString "/claim/cut.py") 323]) #[]) ::
    (nat_lit 107, Obj.mk (Value.type "function") none (Data.func (FuncData.mk (.ofString "sign_of_whole") (.ofString "sign_of_whole") p107 (FuncBody.stmts b107) s107 3 [] Value.none Value.none Value.none (Value.str (.ofString "scheme.binary") 274) none (Value.ref 106) Value.none 0)) #[]) ::
    (nat_lit 108, Obj.mk (Value.type "tuple") none (Data.seq #[]) #[]) ::
    (nat_lit 110, Obj.mk (Value.type "tuple") none (Data.seq #[Value.str (.ofString "number") 328]) #[]) ::
    (nat_lit 111, Obj.mk (Value.type "tuple") none (Data.seq #[]) #[]) ::
    (nat_lit 113, Obj.mk (Value.type "code") none (Data.fields #[Value.str (.ofString "zeros_below") 325, Value.str (.ofString "zeros_below") 326, Value.str (.ofString "/claim/cut.py") 327, Value.int 30 0, Value.int 1 0, Value.int 0 0, Value.int 0 0, Value.int 3 0, Value.ref 108, Value.bool Bool.true, Value.int 181 0, Value.ref 109, Value.none, Value.ref 110, Value.ref 111, Value.ref 112, Value.int 329 0, Value.int 30 0, Value.str (.ofString "/claim/cut.py") 330]) #[]) ::
    (nat_lit 114, Obj.mk (Value.type "function") none (Data.func (FuncData.mk (.ofString "zeros_below") (.ofString "zeros_below") p114 (FuncBody.stmts b114) s114 3 [] Value.none Value.none Value.none (Value.str (.ofString "scheme.binary") 274) none (Value.ref 113) Value.none 0)) #[]) ::
    (nat_lit 115, Obj.mk (Value.type "tuple") none (Data.seq #[]) #[]) ::
    (nat_lit 117, Obj.mk (Value.type "tuple") none (Data.seq #[Value.str (.ofString "mantissa") 335, Value.str (.ofString "exponent") 336, Value.str (.ofString "gone") 337, Value.str (.ofString "place") 338]) #[]) ::
    (nat_lit 118, Obj.mk (Value.type "tuple") none (Data.seq #[]) #[]) ::
    (nat_lit 120, Obj.mk (Value.type "code") none (Data.fields #[Value.str (.ofString "lean") 332, Value.str (.ofString "lean") 333, Value.str (.ofString "/claim/cut.py") 334, Value.int 32 0, Value.int 2 0, Value.int 0 0, Value.int 0 0, Value.int 3 0, Value.ref 115, Value.bool Bool.true, Value.int 181 0, Value.ref 116, Value.none, Value.ref 117, Value.ref 118, Value.ref 119, Value.int 339 0, Value.int 32 0, Value.str (.ofString "/claim/cut.py") 340]) #[]) ::
    (nat_lit 121, Obj.mk (Value.type "function") none (Data.func (FuncData.mk (.ofString "lean") (.ofString "lean") p121 (FuncBody.stmts b121) s121 3 [] Value.none Value.none Value.none (Value.str (.ofString "scheme.binary") 274) none (Value.ref 120) Value.none 0)) #[]) ::
    (nat_lit 122, Obj.mk (Value.type "tuple") none (Data.seq #[]) #[]) ::
    (nat_lit 124, Obj.mk (Value.type "tuple") none (Data.seq #[Value.str (.ofString "number") 345, Value.str (.ofString "gone") 346, Value.str (.ofString "kept") 347, Value.str (.ofString "rest") 348, Value.str (.ofString "half") 349]) #[]) ::
    (nat_lit 125, Obj.mk (Value.type "tuple") none (Data.seq #[]) #[]) ::
    (nat_lit 127, Obj.mk (Value.type "code") none (Data.fields #[Value.str (.ofString "nearest_shift") 342, Value.str (.ofString "nearest_shift") 343, Value.str (.ofString "/claim/cut.py") 344, Value.int 39 0, Value.int 2 0, Value.int 0 0, Value.int 0 0, Value.int 3 0, Value.ref 122, Value.bool Bool.true, Value.int 181 0, Value.ref 123, Value.none, Value.ref 124, Value.ref 125, Value.ref 126, Value.int 350 0, Value.int 39 0, Value.str (.ofString "/claim/cut.py") 351]) #[]) ::
    (nat_lit 128, Obj.mk (Value.type "function") none (Data.func (FuncData.mk (.ofString "nearest_shift") (.ofString "nearest_shift") p128 (FuncBody.stmts b128) s128 3 [] Value.none Value.none Value.none (Value.str (.ofString "scheme.binary") 274) none (Value.ref 127) Value.none 0)) #[]) ::
    (nat_lit 129, Obj.mk (Value.type "tuple") none (Data.seq #[]) #[]) ::
    (nat_lit 131, Obj.mk (Value.type "tuple") none (Data.seq #[Value.str (.ofString "precision") 356, Value.str (.ofString "mantissa") 357, Value.str (.ofString "exponent") 358, Value.str (.ofString "gone") 359]) #[]) ::
    (nat_lit 132, Obj.mk (Value.type "tuple") none (Data.seq #[]) #[]) ::
    (nat_lit 134, Obj.mk (Value.type "code") none (Data.fields #[Value.str (.ofString "shifted_round") 353, Value.str (.ofString "shifted_round") 354, Value.str (.ofString "/claim/cut.py") 355, Value.int 44 0, Value.int 3 0, Value.int 0 0, Value.int 0 0, Value.int 3 0, Value.ref 129, Value.bool Bool.true, Value.int 181 0, Value.ref 130, Value.none, Value.ref 131, Value.ref 132, Value.ref 133, Value.int 360 0, Value.int 44 0, Value.str (.ofString "/claim/cut.py") 361]) #[]) ::
    (nat_lit 135, Obj.mk (Value.type "function") none (Data.func (FuncData.mk (.ofString "shifted_round") (.ofString "shifted_round") p135 (FuncBody.stmts b135) s135 3 [] Value.none Value.none Value.none (Value.str (.ofString "scheme.binary") 274) none (Value.ref 134) Value.none 0)) #[]) ::
    (nat_lit 136, Obj.mk (Value.type "tuple") none (Data.seq #[]) #[]) ::
    (nat_lit 138, Obj.mk (Value.type "tuple") none (Data.seq #[Value.str (.ofString "real") 366]) #[]) ::
    (nat_lit 139, Obj.mk (Value.type "tuple") none (Data.seq #[]) #[]) ::
    (nat_lit 141, Obj.mk (Value.type "code") none (Data.fields #[Value.str (.ofString "place_of") 363, Value.str (.ofString "place_of") 364, Value.str (.ofString "/claim/cut.py") 365, Value.int 49 0, Value.int 1 0, Value.int 0 0, Value.int 0 0, Value.int 3 0, Value.ref 136, Value.bool Bool.true, Value.int 181 0, Value.ref 137, Value.none, Value.ref 138, Value.ref 139, Value.ref 140, Value.int 367 0, Value.int 49 0, Value.str (.ofString "/claim/cut.py") 368]) #[]) ::
    (nat_lit 142, Obj.mk (Value.type "function") none (Data.func (FuncData.mk (.ofString "place_of") (.ofString "place_of") p142 (FuncBody.stmts b142) s142 3 [] Value.none Value.none Value.none (Value.str (.ofString "scheme.binary") 274) none (Value.ref 141) Value.none 0)) #[]) ::
    (nat_lit 143, Obj.mk (Value.type "tuple") none (Data.seq #[]) #[]) ::
    (nat_lit 145, Obj.mk (Value.type "tuple") none (Data.seq #[Value.str (.ofString "real") 373]) #[]) ::
    (nat_lit 146, Obj.mk (Value.type "tuple") none (Data.seq #[]) #[]) ::
    (nat_lit 148, Obj.mk (Value.type "code") none (Data.fields #[Value.str (.ofString "sign_of") 370, Value.str (.ofString "sign_of") 371, Value.str (.ofString "/claim/cut.py") 372, Value.int 51 0, Value.int 1 0, Value.int 0 0, Value.int 0 0, Value.int 3 0, Value.ref 143, Value.bool Bool.true, Value.int 181 0, Value.ref 144, Value.none, Value.ref 145, Value.ref 146, Value.ref 147, Value.int 374 0, Value.int 51 0, Value.str (.ofString "/claim/cut.py") 375]) #[]) ::
    (nat_lit 149, Obj.mk (Value.type "function") none (Data.func (FuncData.mk (.ofString "sign_of") (.ofString "sign_of") p149 (FuncBody.stmts b149) s149 3 [] Value.none Value.none Value.none (Value.str (.ofString "scheme.binary") 274) none (Value.ref 148) Value.none 0)) #[]) ::
    (nat_lit 150, Obj.mk (Value.type "tuple") none (Data.seq #[]) #[]) ::
    (nat_lit 152, Obj.mk (Value.type "tuple") none (Data.seq #[Value.str (.ofString "real") 380]) #[]) ::
    (nat_lit 153, Obj.mk (Value.type "tuple") none (Data.seq #[]) #[]) ::
    (nat_lit 155, Obj.mk (Value.type "code") none (Data.fields #[Value.str (.ofString "negative") 377, Value.str (.ofString "negative") 378, Value.str (.ofString "/claim/cut.py") 379, Value.int 53 0, Value.int 1 0, Value.int 0 0, Value.int 0 0, Value.int 3 0, Value.ref 150, Value.bool Bool.true, Value.int 181 0, Value.ref 151, Value.none, Value.ref 152, Value.ref 153, Value.ref 154, Value.int 381 0, Value.int 53 0, Value.str (.ofString "/claim/cut.py") 382]) #[]) ::
    (nat_lit 156, Obj.mk (Value.type "function") none (Data.func (FuncData.mk (.ofString "negative") (.ofString "negative") p156 (FuncBody.stmts b156) s156 3 [] Value.none Value.none Value.none (Value.str (.ofString "scheme.binary") 274) none (Value.ref 155) Value.none 0)) #[]) ::
    (nat_lit 157, Obj.mk (Value.type "tuple") none (Data.seq #[]) #[]) ::
    (nat_lit 159, Obj.mk (Value.type "tuple") none (Data.seq #[Value.str (.ofString "real") 387]) #[]) ::
    (nat_lit 160, Obj.mk (Value.type "tuple") none (Data.seq #[]) #[]) ::
    (nat_lit 162, Obj.mk (Value.type "code") none (Data.fields #[Value.str (.ofString "magnitude") 384, Value.str (.ofString "magnitude") 385, Value.str (.ofString "/claim/cut.py") 386, Value.int 55 0, Value.int 1 0, Value.int 0 0, Value.int 0 0, Value.int 3 0, Value.ref 157, Value.bool Bool.true, Value.int 181 0, Value.ref 158, Value.none, Value.ref 159, Value.ref 160, Value.ref 161, Value.int 388 0, Value.int 55 0, Value.str (.ofString "/claim/cut.py") 389]) #[]) ::
    (nat_lit 163, Obj.mk (Value.type "function") none (Data.func (FuncData.mk (.ofString "magnitude") (.ofString "magnitude") p163 (FuncBody.stmts b163) s163 3 [] Value.none Value.none Value.none (Value.str (.ofString "scheme.binary") 274) none (Value.ref 162) Value.none 0)) #[]) ::
    (nat_lit 164, Obj.mk (Value.type "tuple") none (Data.seq #[]) #[]) ::
    (nat_lit 166, Obj.mk (Value.type "tuple") none (Data.seq #[Value.str (.ofString "one") 394, Value.str (.ofString "other") 395, Value.str (.ofString "low") 396]) #[]) ::
    (nat_lit 167, Obj.mk (Value.type "tuple") none (Data.seq #[]) #[]) ::
    (nat_lit 169, Obj.mk (Value.type "code") none (Data.fields #[Value.str (.ofString "compare_magnitudes") 391, Value.str (.ofString "compare_magnitudes") 392, Value.str (.ofString "/claim/cut.py") 393, Value.int 57 0, Value.int 2 0, Value.int 0 0, Value.int 0 0, Value.int 3 0, Value.ref 164, Value.bool Bool.true, Value.int 181 0, Value.ref 165, Value.none, Value.ref 166, Value.ref 167, Value.ref 168, Value.int 397 0, Value.int 57 0, Value.str (.ofString "/claim/cut.py") 398]) #[]) ::
    (nat_lit 170, Obj.mk (Value.type "function") none (Data.func (FuncData.mk (.ofString "compare_magnitudes") (.ofString "compare_magnitudes") p170 (FuncBody.stmts b170) s170 3 [] Value.none Value.none Value.none (Value.str (.ofString "scheme.binary") 274) none (Value.ref 169) Value.none 0)) #[]) ::
    (nat_lit 171, Obj.mk (Value.type "tuple") none (Data.seq #[]) #[]) ::
    (nat_lit 173, Obj.mk (Value.type "tuple") none (Data.seq #[Value.str (.ofString "one") 403, Value.str (.ofString "other") 404]) #[]) ::
    (nat_lit 174, Obj.mk (Value.type "tuple") none (Data.seq #[]) #[]) ::
    (nat_lit 176, Obj.mk (Value.type "code") none (Data.fields #[Value.str (.ofString "compare_reals") 400, Value.str (.ofString "compare_reals") 401, Value.str (.ofString "/claim/cut.py") 402, Value.int 62 0, Value.int 2 0, Value.int 0 0, Value.int 0 0, Value.int 3 0, Value.ref 171, Value.bool Bool.true, Value.int 181 0, Value.ref 172, Value.none, Value.ref 173, Value.ref 174, Value.ref 175, Value.int 405 0, Value.int 62 0, Value.str (.ofString "/claim/cut.py") 406]) #[]) ::
    (nat_lit 177, Obj.mk (Value.type "function") none (Data.func (FuncData.mk (.ofString "compare_reals") (.ofString "compare_reals") p177 (FuncBody.stmts b177) s177 3 [] Value.none Value.none Value.none (Value.str (.ofString "scheme.binary") 274) none (Value.ref 176) Value.none 0)) #[]) ::
    (nat_lit 178, Obj.mk (Value.type "tuple") none (Data.seq #[]) #[]) ::
    (nat_lit 180, Obj.mk (Value.type "tuple") none (Data.seq #[Value.str (.ofString "precision") 411, Value.str (.ofString "great") 412, Value.str (.ofString "small") 413, Value.str (.ofString "shift") 414]) #[]) ::
    (nat_lit 181, Obj.mk (Value.type "tuple") none (Data.seq #[]) #[]) ::
    (nat_lit 183, Obj.mk (Value.type "code") none (Data.fields #[Value.str (.ofString "far_sum") 408, Value.str (.ofString "far_sum") 409, Value.str (.ofString "/claim/cut.py") 410, Value.int 68 0, Value.int 3 0, Value.int 0 0, Value.int 0 0, Value.int 3 0, Value.ref 178, Value.bool Bool.true, Value.int 181 0, Value.ref 179, Value.none, Value.ref 180, Value.ref 181, Value.ref 182, Value.int 415 0, Value.int 68 0, Value.str (.ofString "/claim/cut.py") 416]) #[]) ::
    (nat_lit 184, Obj.mk (Value.type "function") none (Data.func (FuncData.mk (.ofString "far_sum") (.ofString "far_sum") p184 (FuncBody.stmts b184) s184 3 [] Value.none Value.none Value.none (Value.str (.ofString "scheme.binary") 274) none (Value.ref 183) Value.none 0)) #[]) ::
    (nat_lit 185, Obj.mk (Value.type "tuple") none (Data.seq #[]) #[]) ::
    (nat_lit 187, Obj.mk (Value.type "tuple") none (Data.seq #[Value.str (.ofString "precision") 421, Value.str (.ofString "one") 422, Value.str (.ofString "other") 423, Value.str (.ofString "great") 424, Value.str (.ofString "small") 425, Value.str (.ofString "last") 426, Value.str (.ofString "low") 427, Value.str (.ofString "total") 428]) #[]) ::
    (nat_lit 188, Obj.mk (Value.type "tuple") none (Data.seq #[]) #[]) ::
    (nat_lit 190, Obj.mk (Value.type "code") none (Data.fields #[Value.str (.ofString "add_reals") 418, Value.str (.ofString "add_reals") 419, Value.str (.ofString "/claim/cut.py") 420, Value.int 71 0, Value.int 3 0, Value.int 0 0, Value.int 0 0, Value.int 3 0, Value.ref 185, Value.bool Bool.true, Value.int 181 0, Value.ref 186, Value.none, Value.ref 187, Value.ref 188, Value.ref 189, Value.int 429 0, Value.int 71 0, Value.str (.ofString "/claim/cut.py") 430]) #[]) ::
    (nat_lit 191, Obj.mk (Value.type "function") none (Data.func (FuncData.mk (.ofString "add_reals") (.ofString "add_reals") p191 (FuncBody.stmts b191) s191 3 [] Value.none Value.none Value.none (Value.str (.ofString "scheme.binary") 274) none (Value.ref 190) Value.none 0)) #[]) ::
    (nat_lit 192, Obj.mk (Value.type "tuple") none (Data.seq #[]) #[]) ::
    (nat_lit 194, Obj.mk (Value.type "tuple") none (Data.seq #[Value.str (.ofString "precision") 435, Value.str (.ofString "one") 436, Value.str (.ofString "other") 437]) #[]) ::
    (nat_lit 195, Obj.mk (Value.type "tuple") none (Data.seq #[]) #[]) ::
    (nat_lit 197, Obj.mk (Value.type "code") none (Data.fields #[Value.str (.ofString "subtract_reals") 432, Value.str (.ofString "subtract_reals") 433, Value.str (.ofString "/claim/cut.py") 434, Value.int 81 0, Value.int 3 0, Value.int 0 0, Value.int 0 0, Value.int 3 0, Value.ref 192, Value.bool Bool.true, Value.int 181 0, Value.ref 193, Value.none, Value.ref 194, Value.ref 195, Value.ref 196, Value.int 438 0, Value.int 81 0, Value.str (.ofString "/claim/cut.py") 439]) #[]) ::
    (nat_lit 198, Obj.mk (Value.type "function") none (Data.func (FuncData.mk (.ofString "subtract_reals") (.ofString "subtract_reals") p198 (FuncBody.stmts b198) s198 3 [] Value.none Value.none Value.none (Value.str (.ofString "scheme.binary") 274) none (Value.ref 197) Value.none 0)) #[]) ::
    (nat_lit 199, Obj.mk (Value.type "tuple") none (Data.seq #[]) #[]) ::
    (nat_lit 201, Obj.mk (Value.type "tuple") none (Data.seq #[Value.str (.ofString "precision") 444, Value.str (.ofString "real") 445, Value.str (.ofString "shift") 446]) #[]) ::
    (nat_lit 202, Obj.mk (Value.type "tuple") none (Data.seq #[]) #[]) ::
    (nat_lit 204, Obj.mk (Value.type "code") none (Data.fields #[Value.str (.ofString "full_mantissa") 441, Value.str (.ofString "full_mantissa") 442, Value.str (.ofString "/claim/cut.py") 443, Value.int 83 0, Value.int 2 0, Value.int 0 0, Value.int 0 0, Value.int 3 0, Value.ref 199, Value.bool Bool.true, Value.int 181 0, Value.ref 200, Value.none, Value.ref 201, Value.ref 202, Value.ref 203, Value.int 447 0, Value.int 83 0, Value.str (.ofString "/claim/cut.py") 448]) #[]) ::
    (nat_lit 205, Obj.mk (Value.type "function") none (Data.func (FuncData.mk (.ofString "full_mantissa") (.ofString "full_mantissa") p205 (FuncBody.stmts b205) s205 3 [] Value.none Value.none Value.none (Value.str (.ofString "scheme.binary") 274) none (Value.ref 204) Value.none 0)) #[]) ::
    (nat_lit 206, Obj.mk (Value.type "tuple") none (Data.seq #[]) #[]) ::
    (nat_lit 208, Obj.mk (Value.type "tuple") none (Data.seq #[Value.str (.ofString "precision") 453, Value.str (.ofString "real") 454, Value.str (.ofString "found") 455, Value.str (.ofString "exponent") 456]) #[]) ::
    (nat_lit 209, Obj.mk (Value.type "tuple") none (Data.seq #[]) #[]) ::
    (nat_lit 211, Obj.mk (Value.type "code") none (Data.fields #[Value.str (.ofString "farther") 450, Value.str (.ofString "farther") 451, Value.str (.ofString "/claim/cut.py") 452, Value.int 86 0, Value.int 2 0, Value.int 0 0, Value.int 0 0, Value.int 3 0, Value.ref 206, Value.bool Bool.true, Value.int 181 0, Value.ref 207, Value.none, Value.ref 208, Value.ref 209, Value.ref 210, Value.int 457 0, Value.int 86 0, Value.str (.ofString "/claim/cut.py") 458]) #[]) ::
    (nat_lit 212, Obj.mk (Value.type "function") none (Data.func (FuncData.mk (.ofString "farther") (.ofString "farther") p212 (FuncBody.stmts b212) s212 3 [] Value.none Value.none Value.none (Value.str (.ofString "scheme.binary") 274) none (Value.ref 211) Value.none 0)) #[]) ::
    (nat_lit 213, Obj.mk (Value.type "tuple") none (Data.seq #[]) #[]) ::
    (nat_lit 215, Obj.mk (Value.type "tuple") none (Data.seq #[Value.str (.ofString "precision") 463, Value.str (.ofString "real") 464, Value.str (.ofString "found") 465, Value.str (.ofString "exponent") 466]) #[]) ::
    (nat_lit 216, Obj.mk (Value.type "tuple") none (Data.seq #[]) #[]) ::
    (nat_lit 218, Obj.mk (Value.type "code") none (Data.fields #[Value.str (.ofString "nearer") 460, Value.str (.ofString "nearer") 461, Value.str (.ofString "/claim/cut.py") 462, Value.int 89 0, Value.int 2 0, Value.int 0 0, Value.int 0 0, Value.int 3 0, Value.ref 213, Value.bool Bool.true, Value.int 181 0, Value.ref 214, Value.none, Value.ref 215, Value.ref 216, Value.ref 217, Value.int 467 0, Value.int 89 0, Value.str (.ofString "/claim/cut.py") 468]) #[]) ::
    (nat_lit 219, Obj.mk (Value.type "function") none (Data.func (FuncData.mk (.ofString "nearer") (.ofString "nearer") p219 (FuncBody.stmts b219) s219 3 [] Value.none Value.none Value.none (Value.str (.ofString "scheme.binary") 274) none (Value.ref 218) Value.none 0)) #[]) ::
    (nat_lit 220, Obj.mk (Value.type "tuple") none (Data.seq #[]) #[]) ::
    (nat_lit 222, Obj.mk (Value.type "tuple") none (Data.seq #[Value.str (.ofString "precision") 473, Value.str (.ofString "real") 474]) #[]) ::
    (nat_lit 223, Obj.mk (Value.type "tuple") none (Data.seq #[]) #[]) ::
    (nat_lit 225, Obj.mk (Value.type "code") none (Data.fields #[Value.str (.ofString "above") 470, Value.str (.ofString "above") 471, Value.str (.ofString "/claim/cut.py") 472, Value.int 94 0, Value.int 2 0, Value.int 0 0, Value.int 0 0, Value.int 3 0, Value.ref 220, Value.bool Bool.true, Value.int 181 0, Value.ref 221, Value.none, Value.ref 222, Value.ref 223, Value.ref 224, Value.int 475 0, Value.int 94 0, Value.str (.ofString "/claim/cut.py") 476]) #[]) ::
    (nat_lit 226, Obj.mk (Value.type "function") none (Data.func (FuncData.mk (.ofString "above") (.ofString "above") p226 (FuncBody.stmts b226) s226 3 [] Value.none Value.none Value.none (Value.str (.ofString "scheme.binary") 274) none (Value.ref 225) Value.none 0)) #[]) ::
    (nat_lit 227, Obj.mk (Value.type "tuple") none (Data.seq #[]) #[]) ::
    (nat_lit 229, Obj.mk (Value.type "tuple") none (Data.seq #[Value.str (.ofString "precision") 481, Value.str (.ofString "real") 482]) #[]) ::
    (nat_lit 230, Obj.mk (Value.type "tuple") none (Data.seq #[]) #[]) ::
    (nat_lit 232, Obj.mk (Value.type "code") none (Data.fields #[Value.str (.ofString "below") 478, Value.str (.ofString "below") 479, Value.str (.ofString "/claim/cut.py") 480, Value.int 98 0, Value.int 2 0, Value.int 0 0, Value.int 0 0, Value.int 3 0, Value.ref 227, Value.bool Bool.true, Value.int 181 0, Value.ref 228, Value.none, Value.ref 229, Value.ref 230, Value.ref 231, Value.int 483 0, Value.int 98 0, Value.str (.ofString "/claim/cut.py") 484]) #[]) ::
    (nat_lit 233, Obj.mk (Value.type "function") none (Data.func (FuncData.mk (.ofString "below") (.ofString "below") p233 (FuncBody.stmts b233) s233 3 [] Value.none Value.none Value.none (Value.str (.ofString "scheme.binary") 274) none (Value.ref 232) Value.none 0)) #[]) ::
    (nat_lit 234, Obj.mk (Value.type "tuple") none (Data.seq #[]) #[]) ::
    (nat_lit 236, Obj.mk (Value.type "tuple") none (Data.seq #[Value.str (.ofString "mantissa") 491, Value.str (.ofString "exponent") 492]) #[]) ::
    (nat_lit 237, Obj.mk (Value.type "tuple") none (Data.seq #[]) #[]) ::
    (nat_lit 239, Obj.mk (Value.type "code") none (Data.fields #[Value.str (.ofString "_law_odd") 488, Value.str (.ofString "_law_odd") 489, Value.str (.ofString "/claim/cut.py") 490, Value.int 101 0, Value.int 2 0, Value.int 0 0, Value.int 0 0, Value.int 3 0, Value.ref 234, Value.bool Bool.true, Value.int 181 0, Value.ref 235, Value.none, Value.ref 236, Value.ref 237, Value.ref 238, Value.int 493 0, Value.int 101 0, Value.str (.ofString "/claim/cut.py") 494]) #[]) ::
    (nat_lit 240, Obj.mk (Value.type "function") none (Data.func (FuncData.mk (.ofString "_law_odd") (.ofString "_law_odd") p240 (FuncBody.stmts b240) s240 3 [] Value.none Value.none Value.none (Value.str (.ofString "law_nt0162_01") 486) none (Value.ref 239) Value.none 0)) #[]) ::
    (nat_lit 241, Obj.mk (Value.type "tuple") none (Data.seq #[]) #[]) ::
    (nat_lit 243, Obj.mk (Value.type "tuple") none (Data.seq #[Value.str (.ofString "bits") 499, Value.str (.ofString "code") 500, Value.str (.ofString "size") 501, Value.str (.ofString "mantissa") 502, Value.str (.ofString "exponent") 503]) #[]) ::
    (nat_lit 244, Obj.mk (Value.type "tuple") none (Data.seq #[]) #[]) ::
    (nat_lit 246, Obj.mk (Value.type "code") none (Data.fields #[Value.str (.ofString "_law_pair") 496, Value.str (.ofString "_law_pair") 497, Value.str (.ofString "/claim/cut.py") 498, Value.int 107 0, Value.int 2 0, Value.int 0 0, Value.int 0 0, Value.int 3 0, Value.ref 241, Value.bool Bool.true, Value.int 181 0, Value.ref 242, Value.none, Value.ref 243, Value.ref 244, Value.ref 245, Value.int 504 0, Value.int 107 0, Value.str (.ofString "/claim/cut.py") 505]) #[]) ::
    (nat_lit 247, Obj.mk (Value.type "function") none (Data.func (FuncData.mk (.ofString "_law_pair") (.ofString "_law_pair") p247 (FuncBody.stmts b247) s247 3 [] Value.none Value.none Value.none (Value.str (.ofString "law_nt0162_01") 486) none (Value.ref 246) Value.none 0)) #[]) ::
    (nat_lit 248, Obj.mk (Value.type "tuple") none (Data.seq #[]) #[]) ::
    (nat_lit 250, Obj.mk (Value.type "tuple") none (Data.seq #[Value.str (.ofString "pair") 510, Value.str (.ofString "low") 511]) #[]) ::
    (nat_lit 251, Obj.mk (Value.type "tuple") none (Data.seq #[]) #[]) ::
    (nat_lit 253, Obj.mk (Value.type "code") none (Data.fields #[Value.str (.ofString "_law_whole") 507, Value.str (.ofString "_law_whole") 508, Value.str (.ofString "/claim/cut.py") 509, Value.int 114 0, Value.int 2 0, Value.int 0 0, Value.int 0 0, Value.int 3 0, Value.ref 248, Value.bool Bool.true, Value.int 181 0, Value.ref 249, Value.none, Value.ref 250, Value.ref 251, Value.ref 252, Value.int 512 0, Value.int 114 0, Value.str (.ofString "/claim/cut.py") 513]) #[]) ::
    (nat_lit 254, Obj.mk (Value.type "function") none (Data.func (FuncData.mk (.ofString "_law_whole") (.ofString "_law_whole") p254 (FuncBody.stmts b254) s254 3 [] Value.none Value.none Value.none (Value.str (.ofString "law_nt0162_01") 486) none (Value.ref 253) Value.none 0)) #[]) ::
    (nat_lit 255, Obj.mk (Value.type "tuple") none (Data.seq #[]) #[]) ::
    (nat_lit 257, Obj.mk (Value.type "tuple") none (Data.seq #[Value.str (.ofString "bits") 518, Value.str (.ofString "whole") 519, Value.str (.ofString "low") 520, Value.str (.ofString "minus") 521, Value.str (.ofString "unit") 522, Value.str (.ofString "base") 523, Value.str (.ofString "rest") 524]) #[]) ::
    (nat_lit 258, Obj.mk (Value.type "tuple") none (Data.seq #[]) #[]) ::
    (nat_lit 260, Obj.mk (Value.type "code") none (Data.fields #[Value.str (.ofString "_law_near") 515, Value.str (.ofString "_law_near") 516, Value.str (.ofString "/claim/cut.py") 517, Value.int 116 0, Value.int 3 0, Value.int 0 0, Value.int 0 0, Value.int 3 0, Value.ref 255, Value.bool Bool.true, Value.int 181 0, Value.ref 256, Value.none, Value.ref 257, Value.ref 258, Value.ref 259, Value.int 525 0, Value.int 116 0, Value.str (.ofString "/claim/cut.py") 526]) #[]) ::
    (nat_lit 261, Obj.mk (Value.type "function") none (Data.func (FuncData.mk (.ofString "_law_near") (.ofString "_law_near") p261 (FuncBody.stmts b261) s261 3 [] Value.none Value.none Value.none (Value.str (.ofString "law_nt0162_01") 486) none (Value.ref 260) Value.none 0)) #[]) ::
    (nat_lit 262, Obj.mk (Value.type "tuple") none (Data.seq #[]) #[]) ::
    (nat_lit 265, Obj.mk (Value.type "code") none (Data.fields #[Value.str (.ofString "_law_beside") 528, Value.str (.ofString "_law_beside") 529, Value.str (.ofString "/claim/cut.py") 530, Value.int 125 0, Value.int 2 0, Value.int 0 0, Value.int 0 0, Value.int 3 0, Value.ref 262, Value.bool Bool.true, Value.int 181 0, Value.ref 263, Value.none, Value.none, Value.none, Value.ref 264, Value.int 531 0, Value.int 125 0, Value.str (.ofString "/claim/cut.py") 532]) #[]) ::
    (nat_lit 266, Obj.mk (Value.type "function") none (Data.func (FuncData.mk (.ofString "_law_beside") (.ofString "_law_beside") p266 (FuncBody.stmts b266) s266 3 [] Value.none Value.none Value.none (Value.str (.ofString "law_nt0162_01") 486) none (Value.ref 265) Value.none 0)) #[]) ::
    (nat_lit 267, Obj.mk (Value.type "tuple") none (Data.seq #[]) #[]) ::
    (nat_lit 269, Obj.mk (Value.type "tuple") none (Data.seq #[Value.str (.ofString "real") 537]) #[]) ::
    (nat_lit 270, Obj.mk (Value.type "tuple") none (Data.seq #[]) #[]) ::
    (nat_lit 272, Obj.mk (Value.type "code") none (Data.fields #[Value.str (.ofString "_law_told") 534, Value.str (.ofString "_law_told") 535, Value.str (.ofString "/claim/cut.py") 536, Value.int 135 0, Value.int 1 0, Value.int 0 0, Value.int 0 0, Value.int 3 0, Value.ref 267, Value.bool Bool.true, Value.int 181 0, Value.ref 268, Value.none, Value.ref 269, Value.ref 270, Value.ref 271, Value.int 538 0, Value.int 135 0, Value.str (.ofString "/claim/cut.py") 539]) #[]) ::
    (nat_lit 273, Obj.mk (Value.type "function") none (Data.func (FuncData.mk (.ofString "_law_told") (.ofString "_law_told") p273 (FuncBody.stmts b273) s273 3 [] Value.none Value.none Value.none (Value.str (.ofString "law_nt0162_01") 486) none (Value.ref 272) Value.none 0)) #[]) ::
    (nat_lit 274, Obj.mk (Value.type "tuple") none (Data.seq #[]) #[]) ::
    (nat_lit 276, Obj.mk (Value.type "tuple") none (Data.seq #[Value.str (.ofString "bits") 544, Value.str (.ofString "one") 545, Value.str (.ofString "other") 546, Value.str (.ofString "left") 547, Value.str (.ofString "right") 548, Value.str (.ofString "low") 549, Value.str (.ofString "first") 550, Value.str (.ofString "second") 551]) #[]) ::
    (nat_lit 277, Obj.mk (Value.type "tuple") none (Data.seq #[]) #[]) ::
    (nat_lit 279, Obj.mk (Value.type "code") none (Data.fields #[Value.str (.ofString "_law_is_sum_right") 541, Value.str (.ofString "_law_is_sum_right") 542, Value.str (.ofString "/claim/cut.py") 543, Value.int 137 0, Value.int 3 0, Value.int 0 0, Value.int 0 0, Value.int 3 0, Value.ref 274, Value.bool Bool.true, Value.int 181 0, Value.ref 275, Value.none, Value.ref 276, Value.ref 277, Value.ref 278, Value.int 552 0, Value.int 137 0, Value.str (.ofString "/claim/cut.py") 553]) #[]) ::
    (nat_lit 280, Obj.mk (Value.type "function") none (Data.func (FuncData.mk (.ofString "_law_is_sum_right") (.ofString "_law_is_sum_right") p280 (FuncBody.stmts b280) s280 3 [] Value.none Value.none Value.none (Value.str (.ofString "law_nt0162_01") 486) none (Value.ref 279) Value.none 0)) #[]) ::
    (nat_lit 281, Obj.mk (Value.type "tuple") none (Data.seq #[]) #[]) ::
    (nat_lit 283, Obj.mk (Value.type "tuple") none (Data.seq #[Value.str (.ofString "bits") 558, Value.str (.ofString "pair") 559, Value.str (.ofString "real") 560, Value.str (.ofString "due") 561, Value.str (.ofString "other") 562, Value.str (.ofString "low") 563, Value.str (.ofString "middle") 564, Value.str (.ofString "half") 565, Value.str (.ofString "found") 566]) #[]) ::
    (nat_lit 284, Obj.mk (Value.type "tuple") none (Data.seq #[]) #[]) ::
    (nat_lit 286, Obj.mk (Value.type "code") none (Data.fields #[Value.str (.ofString "_law_is_next_right") 555, Value.str (.ofString "_law_is_next_right") 556, Value.str (.ofString "/claim/cut.py") 557, Value.int 146 0, Value.int 2 0, Value.int 0 0, Value.int 0 0, Value.int 3 0, Value.ref 281, Value.bool Bool.true, Value.int 181 0, Value.ref 282, Value.none, Value.ref 283, Value.ref 284, Value.ref 285, Value.int 567 0, Value.int 146 0, Value.str (.ofString "/claim/cut.py") 568]) #[]) ::
    (nat_lit 287, Obj.mk (Value.type "function") none (Data.func (FuncData.mk (.ofString "_law_is_next_right") (.ofString "_law_is_next_right") p287 (FuncBody.stmts b287) s287 3 [] Value.none Value.none Value.none (Value.str (.ofString "law_nt0162_01") 486) none (Value.ref 286) Value.none 0)) #[]) ::
    (nat_lit 288, Obj.mk (Value.type "tuple") none (Data.seq #[]) #[]) ::
    (nat_lit 291, Obj.mk (Value.type "code") none (Data.fields #[Value.str (.ofString "law") 570, Value.str (.ofString "law") 571, Value.str (.ofString "/claim/cut.py") 572, Value.int 159 0, Value.int 1 0, Value.int 0 0, Value.int 0 0, Value.int 3 0, Value.ref 288, Value.bool Bool.true, Value.int 181 0, Value.ref 289, Value.none, Value.none, Value.none, Value.ref 290, Value.int 573 0, Value.int 159 0, Value.str (.ofString "/claim/cut.py") 574]) #[]) ::
    (nat_lit 292, Obj.mk (Value.type "function") none (Data.func (FuncData.mk (.ofString "law") (.ofString "law") p292 (FuncBody.stmts b292) s292 3 [] Value.none Value.none Value.none (Value.str (.ofString "law_nt0162_01") 486) none (Value.ref 291) Value.none 0)) #[]) :: [] : Frag))
    ⟨_, _, _, _, _, _, _, _, _, _, _, _, _, _, _, _, _, _, rfl⟩ ⟨_, _, _, _, _, _, _, _, _, _, _, _, _, _, _, _, _, _, rfl⟩ ⟨_, _, _, _, _, _, _, _, _, _, _, _, _, _, _, _, _, _, rfl⟩ ⟨_, _, _, _, _, _, _, _, _, _, _, _, _, _, _, _, _, _, rfl⟩ ⟨_, _, _, _, _, _, _, rfl⟩ ⟨_, _, _, _, _, _, _, rfl⟩ ⟨_, _, _, _, _, _, _, rfl⟩ ⟨_, _, _, _, _, _, _, rfl⟩ ⟨_, _, _, _, _, _, _, rfl⟩ ⟨_, _, _, _, _, _, _, rfl⟩ ⟨_, _, _, _, _, _, _, rfl⟩ ⟨_, _, _, _, _, _, _, rfl⟩ ⟨_, _, _, _, _, _, _, rfl⟩ ⟨_, _, _, _, _, _, _, rfl⟩ ⟨_, _, _, _, _, _, _, rfl⟩ ⟨_, _, _, _, _, _, _, rfl⟩ ⟨_, _, _, _, _, _, _, rfl⟩ ⟨_, _, _, _, _, _, _, rfl⟩ ⟨_, _, _, _, _, _, _, rfl⟩ ⟨_, _, _, _, _, _, _, rfl⟩ ⟨_, _, _, _, _, _, _, rfl⟩ ⟨_, _, _, _, _, _, _, rfl⟩ ⟨_, _, _, _, _, _, _, rfl⟩ ⟨_, _, _, _, _, _, _, rfl⟩ ⟨_, _, _, _, _, _, _, rfl⟩ ⟨_, _, _, _, _, _, _, rfl⟩ ⟨_, _, _, _, _, _, _, rfl⟩ ⟨_, _, _, _, _, _, _, rfl⟩ ⟨_, _, _, _, _, _, _, rfl⟩ ⟨_, _, _, _, _, _, _, rfl⟩ ⟨_, _, _, _, _, _, _, rfl⟩ ⟨_, _, _, _, _, _, _, rfl⟩ ⟨_, _, _, _, _, _, _, rfl⟩

/-- the written part's places -/
def aa : List Addr := [2, 3, 15, 22, 24, 25, 27, 28, 29, 30, 31, 32, 35, 42, 44, 45, 47, 48, 49, 50, 51, 54, 61, 63, 64, 66, 67, 68, 69, 70, 80, 82, 83, 85, 86, 87, 88, 89, 90, 91, 94, 96, 97, 99, 100, 101, 103, 104, 106, 107, 108, 110, 111, 113, 114, 115, 117, 118, 120, 121, 122, 124, 125, 127, 128, 129, 131, 132, 134, 135, 136, 138, 139, 141, 142, 143, 145, 146, 148, 149, 150, 152, 153, 155, 156, 157, 159, 160, 162, 163, 164, 166, 167, 169, 170, 171, 173, 174, 176, 177, 178, 180, 181, 183, 184, 185, 187, 188, 190, 191, 192, 194, 195, 197, 198, 199, 201, 202, 204, 205, 206, 208, 209, 211, 212, 213, 215, 216, 218, 219, 220, 222, 223, 225, 226, 227, 229, 230, 232, 233, 234, 236, 237, 239, 240, 241, 243, 244, 246, 247, 248, 250, 251, 253, 254, 255, 257, 258, 260, 261, 262, 265, 266, 267, 269, 270, 272, 273, 274, 276, 277, 279, 280, 281, 283, 284, 286, 287, 288, 291, 292]
/-- the text without the three lines that name the module -/
def vw : Program := view PySem.Challenge.pw_nt0162_01 [1,2,3,5,6,7,8,9,10,11,12,13,14,15,16,17,18,19,20,21,22,23,24,25,26,28,29,30,31,32,33,34,35,36]
def lv : List (Str × WData) := [(.ofString "REACH", .int 65536)]
theorem aa_is (P : Params) : aa = (KK P).map (·.1) := by kernel_rfl
noncomputable abbrev hookK : Hook := kHook KK aa aa_is
/-- the top's run, checked at once; the library's quick twins of the machine stand in for it -/
theorem left_ok : LeftO PySem.Challenge.pw_nt0162_01 vw [.ofString "REACH"] (fun s => xlAt vw lv s && recOk (RowW.records PySem.Challenge.rw_nt0162_01.row.toRowW) s) (Hook.obs hookK) (Hook.val hookK) 3900 := by
  intro w
  unfold openEnds fencedOpening topFrom
  rw [PySem.W.Fast.te14082659384304107361, PySem.W.Fast.te10274390034422433532, PySem.W.Fast.te14289696077712309145, PySem.W.Fast.te14364793385576792824, PySem.W.Fast.te4187177175401517315]
  kernel_rfl
theorem said_ok : PySem.Challenge.rw_nt0162_01.wellSaid = true := by
  rw [PySem.W.Fast.te9446332074065402090]
  kernel_rfl

local macro_rules | `(tactic| walk_at $s:str) => `(tactic| k_extra $s)
theorem fill_all : (PySem.Challenge.rw_nt0162_01 = PySem.Challenge.rw_nt0162_01) ∧ KK = KK := by
  k_fill
  exact ⟨rfl, rfl⟩
section
/-- the object at e holds none in its third field -/
def NoCtx (e : Addr) (h : Heap) : Prop := ∃ oe vs, h.get? e = some oe ∧ oe.data = .fields vs ∧ vs[2]? = some Value.none
/-- whatever a tree ends in, e's third field is still none -/
def Kp (e : Addr) {α : Type} (t : Sem α) : Prop := ∀ M Γ Q E p s, Sem.wp M Γ t Q E p s → NoCtx e s.heap → Sem.wp M Γ t (fun a p' s' => Q a p' s' ∧ NoCtx e s'.heap) E p s
variable {e : Addr} {α β : Type}
theorem Kp.pure (a : α) : Kp e (Pure.pure a : Sem α) := fun _ _ _ _ _ _ h c => ⟨h, c⟩
theorem Kp.bad (w : String) : Kp e (unsupported w : Sem α) := fun _ _ _ _ _ _ h _ => h.elim
theorem Kp.bind {m : Sem α} {f : α → Sem β} (hm : Kp e m) (hf : ∀ a, Kp e (f a)) : Kp e (m >>= f) := fun M Γ Q E p s h c => by
  rw [Sem.wp_bind'] at h ⊢
  exact Sem.wp_mono M Γ m (fun a p' s' x => hf a M Γ Q E p' s' x.1 x.2) (fun _ _ _ x => x) p s (hm M Γ _ E p s h c)
theorem Kp.load (a : Addr) : Kp e (load a) := fun _ _ _ _ _ _ ⟨o, ho, h⟩ c => ⟨o, ho, h, c⟩
theorem Kp.stack : Kp e stack := fun _ _ _ _ _ _ h c => ⟨h, c⟩
theorem Kp.alloc (o : Obj) : Kp e (alloc o) := fun _ _ _ _ _ _ h ⟨oe, vs, h1, h2, h3⟩ => ⟨h, oe, vs, Heap.get?_push_of_some _ h1, h2, h3⟩
theorem Kp.register (a : Addr) : Kp e (register a) := fun _ _ _ _ _ _ h _ => h.elim
theorem Kp.update (a : Addr) (f : Obj → Obj) (hf : ∀ o vs, o.data = .fields vs → vs[2]? = some Value.none → ∃ vs', (f o).data = .fields vs' ∧ vs'[2]? = some Value.none) : Kp e (update a f) := fun M Γ Q E p s h c => by
  obtain ⟨hs, hq⟩ := h
  refine ⟨hs, hq, ?_⟩
  obtain ⟨oe, vs, h1, h2, h3⟩ := c
  by_cases q : a = e
  · subst q
    obtain ⟨vs', f1, f2⟩ := hf oe vs h2 h3
    exact ⟨_, vs', Heap.get?_update_self _ h1 (Obj.isFreed_of_fields f1), f1, f2⟩
  · exact ⟨oe, vs, (Heap.get?_update_other _ _ q).trans h1, h2, h3⟩
  local macro_rules | `(tactic| walk_at "mine kp") => `(tactic| repeat' (first | exact Kp.pure _ | exact Kp.bad _ | exact Kp.load _ | exact Kp.stack | exact Kp.alloc _ | exact Kp.register _ | with_reducible assumption | (with_reducible apply_assumption; done) | (with_reducible refine Kp.bind ?_ fun _ => ?_) | split))
theorem Kp.setField (v : Value) (i : Nat) (x : Value) (hi : i ≠ 2) : Kp e (setField v i x) := by
  have u : ∀ a, Kp e (PySem.update a (Obj.mapFields (·.setIfInBounds i x))) := fun a => Kp.update _ _ fun o vs h2 h3 => ⟨vs.setIfInBounds i x, Obj.data_mapFields h2 _, by rw [Array.getElem?_setIfInBounds_ne hi]; exact h3⟩
  unfold PySem.setField updateField
  walk_at "mine kp"
theorem Kp.field (v : Value) (i : Nat) : Kp e (field v i) := by
  unfold PySem.field fieldsOf
  walk_at "mine kp"
theorem Kp.flight (v : Value) (f : Option Addr) : Kp e (setFlight v f) := by
  unfold setFlight
  have a := Kp.field (e := e) v 1
  have b := fun t x => Kp.setField (e := e) t 3 x (by decide)
  walk_at "mine kp"
theorem Kp.ready : ∀ l : List Env, Kp e (readyFrames l)
  | [] => Kp.pure _
  | env :: outer => by
    have a := fun v i => Kp.field (e := e) v i
    have r := Kp.ready outer
    have u : ∀ b (f : Obj → Array (Option Value)), Kp e (PySem.update b fun o => { o with slots := f o }) := fun b f => Kp.update _ _ fun o vs h2 h3 => ⟨vs, h2, h3⟩
    unfold readyFrames behindIsImport keptBack underTheClaimsCaller
    walk_at "mine kp"
    all_goals first | exact u _ (fun _ => _) | trace_state
theorem Kp.newFields (ty : String) (vs : List Value) : Kp e (newFields ty vs) := by
  unfold PySem.newFields newObj newObjAsIs
  dsimp only
  walk_at "mine kp"
theorem Kp.frameOf (env : Env) : Kp e (frameOf env) := by
  unfold PySem.frameOf frameObject frameEnvs
  have r := fun l => Kp.ready (e := e) l
  walk_at "mine kp"
theorem Kp.place (f : Addr) (b : Bool) : Kp e (entryPlaceOf f b) := by
  unfold entryPlaceOf
  walk_at "mine kp"
theorem Kp.note (v : Value) (env : Env) : Kp e (noteFrame v env) := by
  unfold noteFrame EntryCells.newEntry
  have a := fun v i => Kp.field (e := e) v i
  have b := fun t x => Kp.setField (e := e) t 3 x (by decide)
  have b1 := fun t x => Kp.setField (e := e) t 1 x (by decide)
  have c := Kp.frameOf (e := e) env
  have d := fun f b => Kp.place (e := e) f b
  have n := fun vs => Kp.newFields (e := e) "traceback" vs
  walk_at "mine kp"
theorem Kp.leaving (v : Value) (env : Env) : Kp e (leaving env v) := Kp.bind (Kp.note v env) fun _ => Kp.flight v none
theorem Kp.any {M : Model} {A : Around} {t : Sem α} {Q : α → Shared → Prop} {E : Value → Shared → Prop} {s : Shared} (k : Kp e t) (c : NoCtx e s.heap) (h : wpAny M A t Q E s) : wpAny M A t (fun a s' => Q a s' ∧ NoCtx e s'.heap) E s :=
  fun Γ p hΓ => Sem.wp_mono M Γ t (fun _ _ _ x => x) (fun _ _ _ x => x) p s (k M Γ _ _ p s (h Γ p hΓ) c)
end
abbrev ar (hh : Option Value) (dp un : Nat) (gd : Option (List Code)) (cn : Str) (cs : Scope) (L a : Addr) (ccd : Value) (cl : List (Str × Addr)) (outer : List Env) : Around :=
  { handled := hh, depth := dp, frames := some (envX cn cs L a ccd cl :: outer), guards := gd, units := un }

abbrev bmD : List Value := [.ref 31, .type "Exception", .type "BaseException", .type "object"]
abbrev excObj (t : Addr) (dd : Option Addr) : Obj := { cls := .ref 70, dict := dd, data := .fields #[.ref t, .none, .none, .none, .bool false, .none] }
abbrev tupObj (vs : List Value) : Obj := { cls := .type "tuple", data := .seq vs.toArray }

section
variable {prog : Program} {w : World} {A : Around} {R : Result → Shared → Prop} {h : Heap} {g : Array GenState} {d : Drawn} {t : Nat} {os : OsState} {E : Value → Shared → Prop}

theorem dom_class (X : (KK w.params).In h) : ∃ nm q bs sn sub ab col dd k0 k1 k2 k3 k5, h.get? 70 = some (excClassObj nm q 70 69 bs bmD true sn sub ab col dd k0 k1 k2 k3 k5 "Exception.__new__") :=
  ⟨_, _, _, _, _, _, _, _, _, _, _, _, _, X 70 _ (by k_is)⟩

theorem dom_new {v : Value} (X : (KK w.params).In h)
    (hq : R (.ok (.ret (.ref (h.objs.size + 1)))) ⟨(h.push (tupObj [v])).push (excObj h.objs.size none), g, d, t, os⟩) :
    codeAny (model prog w) A (.builtin "Exception.__new__" ⟨[.ref 70, v], []⟩) R ⟨h, g, d, t, os⟩ := by
  obtain ⟨nm, q, bs, sn, sub, ab, col, dd, k0, k1, k2, k3, k5, hC⟩ := dom_class X
  have Fn := PySem.F.excBase_Exception
  have hends := Fn.ends
  have hcB : (Value.ref 70 :: bmD).contains (.type "Exception") = true := by decide +kernel
  have hcA : (Value.ref 70 :: bmD).contains (.type "AttributeError") = false := by decide +kernel
  have hcN : (Value.ref 70 :: bmD).contains (.type "NameError") = false := by decide +kernel
  have hrest : [v].length ≤ sizeLine := by rw [sizeLine_eq]; simp
  refine codeAny_builtinAt Fn.entry ?_
  unfold Builtin.«BaseException.__new__»
  refine PySem.wpAt_bind ?_
  show PySem.wpAt _ _ _ (stack >>= _) _ _ _
  refine PySem.wpAt_bind (PySem.wpAt_stack fun p below => PySem.wpAt_of_wpAny ?_)
  wp_walk
  refine PySem.wpAt_of_wpAny ?_
  rw [Fn.owner]
  repeat (first | with_reducible refine wpAny_madeHere_exc Fn.canon hC ?_ | with_reducible refine wpAny_loadPart_at hC ?_ | (with_reducible refine wpAny_isSubtype_exc hC ?_; first | rw [hcB] | rw [hcA] | rw [hcN]) | wp_step)
  show R _ _
  rw [Heap.size_push]
  exact hq

theorem dom_core {v : Value} (X : (KK w.params).In h)
    (hq : codeAny (model prog w) (A.under (.builtin "type.__call__" ⟨[.ref 70, v], []⟩)) (.call (.ref 67) ⟨[.ref (h.objs.size + 1), v], []⟩) (InitBack (h.objs.size + 1) R) ⟨(h.push (tupObj [v])).push (excObj h.objs.size none), g, d, t, os⟩) :
    codeAny (model prog w) A (.call (.ref 70) ⟨[v], []⟩) R ⟨h, g, d, t, os⟩ := by
  have hC := X 70 _ (by k_is)
  have call : Looks (model prog w) h (specialOf (.ref 70) "__call__") (some (.builtin "type.__call__")) := looks_specialIn X (by k_is)
  have typ : Looks (model prog w) h (isInstance (.ref 70) (.type "type")) true := looks_instIn X (by k_is)
  refine codeAny_of_tree ?_
  show wpAny _ _ (callAny (.ref 70) _) _ _ _
  refine nd_load hC ?_
  show wpAny _ _ (callAny.viaDunder (.ref 70) _) _ _ _
  unfold callAny.viaDunder
  refine wpAny_bind (call.at ?_)
  dsimp only
  rw [tc_bind]
  refine wpAny_bind (wpAny_pure (wpAny_bind (wpAny_pure ?_)))
  refine wpAny_pure (a := Fin.again (.call (.builtin "type.__call__") ⟨[.ref 70, v], []⟩)) (And.intro rfl ?_)
  refine codeAny_call_builtin_at (Code.quiet_builtin _ (by decide +kernel)) entry_typeCall (check_slot tc_kind tc_split typ (tc_args _ _ _) ?_)
  obtain ⟨nm, q, bs, sn, sub, ab, col, dd, k0, k1, k2, k3, k5, hC⟩ := dom_class X
  have Fn := PySem.F.excBase_Exception
  repeat (first | with_reducible refine wpAny_loadPart_at hC ?_ | with_reducible refine wpAny_madeBy_exc hC ?_ | wp_step)
  refine codeAny_call_builtin_code (Code.quiet_builtin _ Fn.quiet) (wpAny_check_new_subU Fn (bmB := bmD) (by decide +kernel) .base hC ?_)
  refine dom_new X ?_
  have k : ∀ b o, h.get? b = some o → ((h.push (tupObj [v])).push (excObj h.objs.size none)).get? b = some o := fun b o e => Heap.get?_push_of_some _ (Heap.get?_push_of_some _ e)
  have hx : ((h.push (tupObj [v])).push (excObj h.objs.size none)).get? (h.objs.size + 1) = some (excObj h.objs.size none) := by heap_get
  have X' := X.keeps k
  have t1 : Looks (model prog w) ((h.push (tupObj [v])).push (excObj h.objs.size none)) (typeOf (.ref (h.objs.size + 1))) (.ref 70) := (Looks.ld hx).andThen .now
  have s1 : Looks (model prog w) ((h.push (tupObj [v])).push (excObj h.objs.size none)) (isSubtype (.ref 70) (.ref 70)) true := looks_subIn X' (by k_is)
  have i1 : Looks (model prog w) ((h.push (tupObj [v])).push (excObj h.objs.size none)) (typeLookup (.ref 70) "__init__") (some (.ref 67)) := looks_findIn X' (by k_is)
  have b1 : Looks (model prog w) ((h.push (tupObj [v])).push (excObj h.objs.size none)) (bindSpecial (.ref 67) (.ref (h.objs.size + 1))) (.ref 67, [.ref (h.objs.size + 1)]) := bind_fn X' _ (by k_is)
  show wpAny _ _ _ _ _ _
  unfold isInstance callSpecial? specialOf
  repeat (first | with_reducible refine wpAny_call ?_ | lk)
  refine codeAny_mono hq fun r s' z => ?_
  rcases r with e | (v | _ | _ | _) <;> first | exact z | exact z.elim | skip
  obtain ⟨rfl, z⟩ := z
  exact wpAny_pure (wpAny_pure z)
end

section
variable {prog : Program} {w : World} {A : Around} {R : Result → Shared → Prop} {s : Shared} {E : Value → Shared → Prop} {h₀ : Heap} {L x : Addr} {m : Str → Option Value} {name : Str} {v : Value} {tk : Tok}

theorem exc_open {ox : Obj} {od : Option Obj} (X : (KK w.params).In s.heap) (I : InstAt s.heap x ox 70 od) (ht : takerIn (KK w.params) 70 name = some none)
    (h : ∀ b, wpAny (model prog w) A.in1 (Builtin.ObjectAttr.storeInOwnDict (.ref x) (.ref 70) (.str name tk) name v b)
      (fun fin s' => match fin with | .done f => R (.ok f) s' | .again c' => c'.quiet = true ∧ codeAny (model prog w) A c' R s') (fun e s' => R (.error e) s') s) :
    codeAny (model prog w) A (.call (.builtin "object.__setattr__") ⟨[.ref x, .str name tk, v], []⟩) R s := by
  have SF := PySem.F.store_object
  have sub : Looks (model prog w) s.heap (isInstance (.ref x) (.type "object")) true := I.type.andThen (looks_mroIn X (by k_is))
  refine codeAny_call_builtin SF.slot.plain SF.entry (@check_slot (model prog w) _ _ s "object.__setattr__" "object" "__setattr__" (.ref x) [.str name tk, v] [] _ SF.kind SF.split sub (SF.args (.ref x) (.str name tk) v) ?_)
  obtain ⟨attr, ha, hr⟩ := Option.bind_eq_some_iff.mp ht
  have hm : Looks (model prog w) s.heap (mroOf (.ref 70)) (.ref 70 :: bmD) := (looks_clsIn X (by k_is)).andThen .now
  have L3 : Looks (model prog w) s.heap (Builtin.ObjectAttr.storeTaker? attr) none := by
    cases attr with
    | none => exact .now
    | some a =>
      obtain ⟨b, hb, hb'⟩ := Option.map_eq_some_iff.mp hr
      refine (looks_takesIn X hb).andThen ?_
      cases b
      · exact .now
      · cases hb'
  rw [osa_eq, refuse_eq]
  refine wpAny_bind (wpAny_bind (I.type.here (wpAny_bind (hm.here ?_))))
  rw [refuseLoop_ref, refuseLoop_ref, PySem.F.store_Exception.passes]
  refine wpAny_pure (wpAny_bind (I.type.here (wpAny_bind ((looks_findIn X ha).here (wpAny_bind (L3.here ?_))))))
  exact h _

theorem exc_put {D : Addr} {es es' : List DictEntry} {n n' : Nat} {M : Model} {Q : Fin → Shared → Prop} (hD : s.heap.get? D = some (dictOf es n)) (hl : (getL name es).isSome = true)
    (e : Obj.putName name (PyData.keyHash M.w.params name) (.str name s.toks) v (dictOf es n) = dictOf es' n') (hz : es'.length ≤ 1000)
    (h : Q (.done (.ret .none)) { s with heap := s.heap.update D (Obj.putName name (PyData.keyHash M.w.params name) (.str name s.toks) v), toks := s.toks + 1 }) :
    wpAny M A (Builtin.ObjectAttr.storeInDict D (.str name tk) name v) Q E s := by
  unfold Builtin.ObjectAttr.storeInDict Builtin.ObjectAttr.newKeyGuard
  refine wpAny_bind (wpAny_pure (wpAny_bind ?_))
  unfold nsSet
  refine wpAny_bind (wpAny_bind (wpAny_askSetting (wpAny_pure (wpAny_bind (wpAny_mkText (wpAny_bind (wpAny_loadPart hD ?_)))))))
  have c : (!es.any (·.key.isStr name) && es.any (·.refKey)) = false := by
    unfold getL at hl
    split at hl
    · rename_i en he
      rw [List.any_eq_true.mpr ⟨en, List.mem_of_find?_eq_some he, List.find?_some he⟩]; rfl
    · split at hl
      · cases hl
      · rename_i z; rw [Bool.not_eq_true] at z; rw [z, Bool.and_false]
  dsimp only
  rw [aRefKeyMayBeTheName_at, List.any_toArray, List.any_toArray, c]
  refine wpAny_updatePart hD ?_
  have hD' : ((s.heap.update D (Obj.putName name (PyData.keyHash M.w.params name) (.str name s.toks) v))).get? D = some (dictOf es' n') := by
    rw [Heap.get?_update_self _ hD (by rw [e]; rfl), e]
  refine wpAny_bind (wpAny_lookBehind hD' (pastItsLine_dict (by rw [List.size_toArray, sizeLine_eq]; omega)) ?_)
  exact wpAny_pure h
end

section
variable {prog : Program} {w : World} {A : Around} {s : Shared} {E : Value → Shared → Prop} {h₀ : Heap} {L x t : Addr} {m : Str → Option Value} {name : Str} {v : Value} {news : List (Addr × Obj)}

theorem exc_set1 {D : Addr} {pre post : List (Addr × Obj)} {es es' : List DictEntry} {n n' : Nat} {Q : Unit → Shared → Prop} (F : Fr h₀ L s.heap m) (X₀ : (KK w.params).In h₀) (N : News h₀ L s.heap (pre ++ (D, dictOf es n) :: post))
    (he : (x, excObj t (some D)) ∈ pre ++ (D, dictOf es n) :: post) (h1 : ∀ p ∈ pre, p.1 ≠ D) (h2 : ∀ p ∈ post, p.1 ≠ D)
    (ht : takerIn (KK w.params) 70 name = some none) (hl : (getL name es).isSome = true)
    (e : (putL name (PyData.keyHash w.params name) (.str name (s.toks + 1)) v es, putN name es n) = (es', n')) (hz : es'.length ≤ 1000)
    (h : ∀ h', Fr h₀ L h' m → News h₀ L h' (pre ++ (D, dictOf es' n') :: post) → Q () { s with heap := h', toks := s.toks + 2 }) :
    wpAny (model prog w) A (setAttr (.ref x) name v) Q E s := by
  have X := X₀.keeps F.keep
  have hx := (N _ he).1
  have hD := (N (D, dictOf es n) (by simp)).1
  have I : InstAt s.heap x (excObj t (some D)) 70 (some (dictOf es n)) := ⟨hx, rfl, rfl, hD⟩
  obtain ⟨e1, e2⟩ := Prod.mk.inj e
  have e3 : Obj.putName name (PyData.keyHash w.params name) (.str name (s.toks + 1)) v (dictOf es n) = dictOf es' n' := by rw [putName_dict, e1, e2]
  refine set_plain X I (by k_is) (exc_open (s := { s with toks := s.toks + 1 }) X I ht fun b => ?_)
  obtain ⟨U1, U2⟩ := news_upd (f := Obj.putName name (PyData.keyHash w.params name) (.str name (s.toks + 1)) v) F N h1 h2 e3 rfl
  unfold Builtin.ObjectAttr.storeInOwnDict Builtin.ObjectAttr.ownDictForStores instanceDict
  obtain ⟨hp, g, d, tk, os⟩ := s
  have hc : Looks (model prog w) hp (classData 70) _ := looks_clsIn X (by k_is)
  refine wpAny_bind (wpAny_pure (wpAny_bind (wpAny_bind (wpAny_loadPart hx (wpAny_bind (hc.at ?_))))))
  refine wpAny_pure (a := some D) (exc_put (M := model prog w) (s := ⟨hp, g, d, tk + 1, os⟩) hD hl e3 hz ?_)
  exact h _ U1 U2

theorem exc_set0 {pre post : List (Addr × Obj)} {Q : Unit → Shared → Prop} (F : Fr h₀ L s.heap m) (X₀ : (KK w.params).In h₀) (N : News h₀ L s.heap (pre ++ (x, excObj t none) :: post))
    (h1 : ∀ p ∈ pre, p.1 ≠ x) (h2 : ∀ p ∈ post, p.1 ≠ x) (ht : takerIn (KK w.params) 70 name = some none)
    (h : ∀ D h', (∀ p ∈ pre, p.1 < D) → x < D → (∀ p ∈ post, p.1 < D) → Fr h₀ L h' m → News h₀ L h' ((D, dictOf [⟨PyData.keyHash w.params name, .str name (s.toks + 1), v⟩] 1) :: (pre ++ (x, excObj t (some D)) :: post)) → Q () { s with heap := h', toks := s.toks + 2 }) :
    wpAny (model prog w) A (setAttr (.ref x) name v) Q E s := by
  have X := X₀.keeps F.keep
  have hx := (N (x, excObj t none) (by simp)).1
  have I : InstAt s.heap x (excObj t none) 70 none := ⟨hx, rfl, rfl, trivial⟩
  refine set_plain X I (by k_is) (exc_open (s := { s with toks := s.toks + 1 }) X I ht fun b => ?_)
  unfold Builtin.ObjectAttr.storeInOwnDict Builtin.ObjectAttr.ownDictForStores instanceDict
  obtain ⟨hp, g, d, tk, os⟩ := s
  have hc : Looks (model prog w) hp (classData 70) _ := looks_clsIn X (by k_is)
  refine wpAny_bind (wpAny_pure (wpAny_bind (wpAny_bind (wpAny_loadPart hx (wpAny_bind (hc.at ?_))))))
  have F1 := F.push emptyDict
  have N1 := N.push F emptyDict
  have N1' : News h₀ L (hp.push emptyDict) (((hp.objs.size, emptyDict) :: pre) ++ (x, excObj t none) :: post) := N1
  have lt : ∀ p ∈ pre ++ (x, excObj t none) :: post, p.1 < hp.objs.size := fun p hp' => Heap.lt_size (N p hp').1
  have hxne : hp.objs.size ≠ x := Nat.ne_of_gt (lt (x, excObj t none) (by simp))
  obtain ⟨F2, N2⟩ := news_upd (o' := excObj t (some hp.objs.size)) (f := fun o => { o with dict := some hp.objs.size }) F1 N1' (by
    intro p hp'
    rcases List.mem_cons.mp hp' with rfl | hp'
    · exact hxne
    · exact h1 p hp') h2 rfl rfl
  refine wpAny_bind (wpAny_alloc' (wpAny_bind (wpAny_update' (N1' (x, excObj t none) (by simp)).1 ?_)))
  refine wpAny_pure (a := some hp.objs.size) ?_
  have N2' : News h₀ L ((hp.push emptyDict).update x fun o => { o with dict := some hp.objs.size }) ([] ++ (hp.objs.size, dictOf [] 0) :: (pre ++ (x, excObj t (some hp.objs.size)) :: post)) := N2
  have e3 : Obj.putName name (PyData.keyHash w.params name) (.str name (tk + 1)) v (dictOf [] 0) = dictOf [⟨PyData.keyHash w.params name, .str name (tk + 1), v⟩] 1 := by rw [putName_dict]; rfl
  obtain ⟨F3, N3⟩ := news_upd (o' := dictOf [⟨PyData.keyHash w.params name, .str name (tk + 1), v⟩] 1) (f := Obj.putName name (PyData.keyHash w.params name) (.str name (tk + 1)) v) F2 N2' (by intro p hp'; cases hp') (by
    intro p hp'
    rcases List.mem_append.mp hp' with q | q
    · exact Nat.ne_of_lt (lt p (List.mem_append_left _ q))
    · rcases List.mem_cons.mp q with rfl | q
      · exact hxne.symm
      · exact Nat.ne_of_lt (lt p (List.mem_append_right _ (.tail _ q)))) e3 rfl
  refine exc_put (M := model prog w) (s := ⟨_, g, d, tk + 1, os⟩) (N2' (hp.objs.size, dictOf [] 0) (by simp)).1 rfl e3 (by simp) ?_
  exact h _ _ (fun p q => lt p (List.mem_append_left _ q)) (lt (x, excObj t none) (by simp)) (fun p q => lt p (List.mem_append_right _ (.tail _ q))) F3 N3
end

section
variable {prog : Program} {w : World} {p : Program} {loose : List Str} {mean : ExcName → Option Value} {mg mb : Str → Option Value}
  {hh : Option Value} {dp un : Nat} {gd : Option (List Code)} {cn : Str} {cs : Scope} {a : Addr} {ccd : Value} {cl : List (Str × Addr)} {outer : List Env} {A₀ : Around} {base h₀ : Heap} {L : Addr} {m : Str → Option Value} {news : List (Addr × Obj)} {s : Shared} {Q E : Value → Shared → Prop}

theorem ne_lt_all {t d : Addr} {news : List (Addr × Obj)} (h : AllLt t news) (hd : @LE.le Nat _ t d) : ∀ p ∈ news, p.1 ≠ d := fun p hp => Nat.ne_of_lt (Nat.lt_of_lt_of_le (ktn_ltOf h p hp) hd)
  local macro_rules | `(tactic| k_all) => `(tactic| exact ne_lt_all (by assumption) (by omega))


  local macro_rules | `(tactic| walk_at "mine enter") => `(tactic| (refine' code_def ?k1 ?k2 ?k3 ?k4 ?k5 ?kA ?kF ?kK ?k6 ?k7 ?k8 ?k9 ?kB ?_ ?c2 ?c3 ?c4 ?c5; (case kA => exact rfl); (case kF => exact rfl); (case kK => first | exact rfl | assumption); (case k1 => k_asm); (case k2 => k_asm); (case k3 => k_asm); (case k4 => k_asm); (case k5 => k_asm); (case k6 => k_is); (case k7 => k_is); (case k8 => ktr_room); (case k9 => exact BindsTo.of_eq rfl); (case c5 => decide); (case kB => exact locs rfl); (case c2 => exact rfl); (case c3 => exact rfl); (case c4 => exact rfl); k_whole; intro g' L' h' FG' F' N' B' X' T'; (try dsimp only); (try k_fold)))
  local macro_rules | `(tactic| walk_at "call ref") => `(tactic| (k_here; (with_reducible show wpAny _ _ (call (Value.ref 28) _ _) _ _ _); refine wpAny_call ?_; k_dflt (walk_at "mine enter")))
  local macro_rules | `(tactic| walk_at "mine exc0") => `(tactic| first | refine' exc_set0 (pre := []) ?k1 ?k2 ?k3 ?k4 ?k5 ?k6 ?_; (case k1 => k_asm); (case k2 => k_asm); (case k3 => k_asm); (case k4 => k_all); (case k5 => k_all); (case k6 => k_is); k_whole | refine' exc_set0 (pre := [_]) ?k1 ?k2 ?k3 ?k4 ?k5 ?k6 ?_; (case k1 => k_asm); (case k2 => k_asm); (case k3 => k_asm); (case k4 => k_all); (case k5 => k_all); (case k6 => k_is); k_whole)
  local macro_rules | `(tactic| walk_at "setAttr ref") => `(tactic| (k_here; k_dflt (walk_at "mine exc0"); intro D' h' l1 l2 l3 F' N'; (try k_lt2 l2); (simp only [List.cons_append, List.nil_append] at N'); (try k_lt l1); (try k_lt l3); (try k_sweep)))
  local macro_rules | `(tactic| walk_at "setAttr ref") => `(tactic| (k_here; k_dflt (refine' exc_set1 (pre := []) ?k1 ?k2 ?k3 ?k4 ?k5 ?k6 ?k7 ?k8 ?k9 ?k10 ?_; (case k1 => k_asm); (case k2 => k_asm); (case k3 => k_asm); (case k4 => simp only [List.nil_append]; k_mem); (case k5 => exact fun _ h => nomatch h); (case k6 => k_all); (case k7 => k_is); (case k8 => k_get); (case k9 => k_put); (case k10 => exact Nat.le_of_ble_eq_true rfl); k_whole); intro h' F' N'; (simp only [List.nil_append] at N'); (try k_sweep)))
  local macro_rules | `(tactic| walk_at "mine sub") => `(tactic| (intro p9 h9; simp only [List.mem_cons] at h9 ⊢; first | (simp only [h9, true_or, or_true]; done) | (rcases h9 with h9 | h9 <;> (simp only [h9, true_or, or_true]; done)) | (rcases h9 with h9 | h9 | h9 <;> (simp only [h9, true_or, or_true]; done)) | grind))
theorem dom_init {e t : Addr} {v : Value} {A : Around} {R : Result → Shared → Prop} {nv : Str} {tn : Tok} (hA : A = (ar hh dp un gd cn cs L a ccd cl outer).under (.builtin "type.__call__" ⟨[.ref 70, v], []⟩)) (B : Below A₀ base outer h₀) (F : Fr h₀ L s.heap m) (X : (KK w.params).In h₀) (N : News h₀ L s.heap ((e, excObj t none) :: (t, tupObj [.str nv tn]) :: news)) (T : Top p loose mean mg mb h₀) (hk : cs.kind = .function)
    (hlt : t < e) (hnew : ∀ p ∈ news, p.1 < t)
    (hd' : dp + 3 < recursionLimit) (hu : un + 30 < cLine)
    (k : ∀ D h' tk', Fr h₀ L h' m → News h₀ L h' ((e, excObj t (some D)) :: news) → R (.ok (.ret .none)) { s with heap := h', toks := tk' }) :
    codeAny (model prog w) A (.call (.ref 67) ⟨[.ref e, .str nv tn], []⟩) R s := by
  subst hA
  replace hnew := allLt_of hnew
  k_lt2 hlt
  k_dflt ktr_enter
  k_steps
  exact k _ _ _ (by k_asm) (cb_drop (by assumption) (List.forall_mem_cons.mpr ⟨by k_mem, fun p hp => .tail _ (.tail _ (.tail _ (.tail _ hp)))⟩))

theorem dom_call {nv : Str} {tn : Tok} (B : Below A₀ base outer h₀) (F : Fr h₀ L s.heap m) (X : (KK w.params).In h₀) (N : News h₀ L s.heap news) (T : Top p loose mean mg mb h₀) (hk : cs.kind = .function)
    (hd' : dp + 3 < recursionLimit) (hu : un + 30 < cLine)
    (k : ∀ e t D h' tk', (∀ q ∈ news, q.1 < e) → h₀.get? e = none → Fr h₀ L h' m → News h₀ L h' news → h'.get? e = some (excObj t (some D)) → Q (.ref e) { s with heap := h', toks := tk' }) :
    wpAny (model prog w) (ar hh dp un gd cn cs L a ccd cl outer) (call (.ref 70) [.str nv tn]) Q E s := by
  obtain ⟨hp, g, d, tk, os⟩ := s
  refine wpAny_call (dom_core (X.keeps F.keep) ?_)
  have N1 := (N.push F (tupObj [.str nv tn])).push (F.push _) (excObj hp.objs.size none)
  rw [Heap.size_push] at N1
  have lt : ∀ q ∈ news, q.1 < hp.objs.size := fun q hq => Heap.lt_size (N q hq).1
  refine dom_init (t := hp.objs.size) rfl B ((F.push _).push _) X N1 T hk (Nat.lt_succ_self _) lt hd' hu ?_
  intro D h' tk' F' N'
  refine ⟨rfl, ?_⟩
  exact k _ _ _ _ _ (fun q hq => Nat.lt_succ_of_lt (lt q hq)) (N' _ (.head _)).2.2 F' (cb_drop N' fun p hp => .tail _ hp) (N' _ (.head _)).1
end

section
variable {prog : Program} {w : World} {A : Around} {s : Shared} {E : Value → Shared → Prop} {env : Env}
theorem raise_dom {x : Expr} {pos : Pos} {Q : Flow → Shared → Prop} (hh : A.handled = none)
    (h : wpAny (model prog w) A (eval x env) (fun v s₁ => ∃ e t D, v = .ref e ∧ s₁.heap.get? e = some (excObj t (some D)) ∧ (KK w.params).In s₁.heap ∧ E (.ref e) s₁) E s) :
    wpAny (model prog w) A (exec (.Raise (some x) none pos) env) Q E s := by
  show wpAny _ A (do standAt pos; raiseStmt env (some (do let v ← eval x env; standAt pos; pure v)) none) Q E s
  refine wpAny_bind (wpAny_standAt ?_)
  unfold raiseStmt
  dsimp only
  refine wpAny_bind (wpAny_bind (wpAny_mono h (fun v s₁ h₁ => wpAny_bind (wpAny_standAt (wpAny_pure ?_))) fun _ _ x => x))
  obtain ⟨e, t, D, rfl, he, X, hE⟩ := h₁
  obtain ⟨hp, g, d, tk, os⟩ := s₁
  obtain ⟨nm, q, bs, sn, sub, ab, col, dd, k0, k1, k2, k3, k5, hC⟩ := dom_class X
  have hcB : (Value.ref 70 :: bmD).contains (.type "BaseException") = true := by decide +kernel
  repeat (first | with_reducible refine wpAny_loadPart_at he ?_ | with_reducible refine wpAny_loadPart_at hC ?_ | (with_reducible refine wpAny_isSubtype_exc hC ?_; rw [hcB]) | wp_step)
  exact wpAny_raiseNew_none hh hE
end

section
variable {M : Model} {A : Around} {E : Value → Shared → Prop} {s' : Shared} {base g g₂ h : Heap} {outer : List Env} {L a e t : Addr} {m : Str → Option Value} {name : Str} {scope : Scope} {cd : Value} {Q : Unit → Shared → Prop} {news : List (Addr × Obj)}
theorem leave_dom {D : Addr} (K : Below A base outer g) (he : s'.heap.get? e = some (excObj t (some D))) (hg : g.get? e = none) (hne : ∀ q ∈ news, q.1 ≠ e) (F : Fr g L s'.heap m) (N : News g L s'.heap news)
    (hQ : ∀ h', RaisedN base outer e (.ref 70) news h' → NoCtx e h' → g.UpToSlots h' → Q () { s' with heap := h' }) (hk : scope.kind = .function := by rfl) :
    wpAny M (A.deeper (envOf name scope L a cd)) (leaving (envOf name scope L a cd) (.ref e)) Q E s' := by
  have K' := K.push (name := name) (a := a) (cd := cd) F hk
  have eb : base.get? e = none := fresh_of_stays K.stays hg
  have hin : ∀ env ∈ (envOf name scope L a cd :: outer), ∀ b, env.frame = some b → b ∈ (envOf name scope L a cd :: outer).filterMap (·.frame) := fun env he b hb => List.mem_filterMap.mpr ⟨env, he, hb⟩
  have st : base.StaysIn (hideAll s'.heap (e :: (envOf name scope L a cd :: outer).filterMap (·.frame))) := fun b o q => hideAll_get _ (K'.stays b o q) fun hm => by
    rcases List.mem_cons.mp hm with rfl | hm
    · rw [eb] at q; cases q
    · rw [(K'.frames.mem hm).1] at q; cases q
  have hl : ∀ q ∈ news, (hideAll s'.heap (e :: (envOf name scope L a cd :: outer).filterMap (·.frame))).get? q.1 = some q.2 ∧ base.get? q.1 = none := fun q hq => by
    refine ⟨hideAll_get _ (N q hq).1 fun hm => ?_, fresh_of_stays K.stays (N q hq).2.2⟩
    rcases List.mem_cons.mp hm with h1 | hm
    · exact hne q hq h1
    obtain ⟨env, he, hf⟩ := List.mem_filterMap.mp hm
    rcases List.mem_cons.mp he with rfl | he
    · exact (N q hq).2.1 (Option.some.inj hf).symm
    · obtain ⟨o, ho, _⟩ := (K.frames.mem (List.mem_filterMap.mpr ⟨env, he, hf⟩)).2
      rw [(N q hq).2.2] at ho; cases ho
  have hen : (hideAll s'.heap (e :: (envOf name scope L a cd :: outer).filterMap (·.frame))).get? e = none := hideAll_none _ (.head _)
  refine wpAny_mono (Kp.any (Kp.leaving (e := e) _ _) ⟨_, _, he, rfl, rfl⟩ (wpAny_leaving_firstW (a0 := .ref t) (Q := fun _ s'' => ∃ h', s'' = { s' with heap := h' } ∧ RaisedN base outer e (.ref 70) news h' ∧ g.UpToSlots h') K'.stack (funFrames_hide K'.frames fun env he b hb => .tail _ (hin env he b hb)) rfl he (fun b o hb => of_hideAll _ hb) hen rfl rfl rfl fun h' hL => ?_)) (fun _ s'' q => ?_) fun _ _ q => q
  · obtain ⟨k1, ⟨_, _, k2⟩, k3, k4⟩ := hL
    exact ⟨h', rfl, ⟨_, .ref t, st, hl, k1, hen, k2, k3⟩, (Heap.UpToSlots.of_keeps F.keep).trans k4⟩
  · obtain ⟨⟨h', rfl, R, U⟩, c⟩ := q
    exact hQ h' R c U
end
/-- the dict of a Real -/
abbrev rdict (w : World) (M E : Int) (k1 k2 t1 t2 : Tok) : Obj := dictOf [⟨PyData.keyHash w.params (Str.ofString "mantissa"), .str (Str.ofString "mantissa") k1, .int M t1⟩, ⟨PyData.keyHash w.params (Str.ofString "exponent"), .str (Str.ofString "exponent") k2, .int E t2⟩] 2

section
variable {prog : Program} {w : World} {p : Program} {loose : List Str} {mean : ExcName → Option Value} {mg mb : Str → Option Value}
  {hh : Option Value} {dp un : Nat} {gd : Option (List Code)} {cn : Str} {cs : Scope} {a : Addr} {ccd : Value} {cl : List (Str × Addr)} {outer : List Env} {A₀ : Around} {base h₀ : Heap} {L : Addr} {m : Str → Option Value} {news : List (Addr × Obj)} {s : Shared} {Q E : Value → Shared → Prop}

  local macro_rules | `(tactic| walk_at "exec Raise some none") => `(tactic| (k_here; refine raise_dom rfl ?_))
  local macro_rules | `(tactic| walk_at "call ref") => `(tactic| (k_here; (with_reducible show wpAny _ _ (call (Value.ref 70) _ _) _ _ _); k_dflt (refine' dom_call ?k1 ?k2 ?k3 ?k4 ?k5 ?k6 ?k7 ?k8 ?_; (case k1 => k_asm); (case k2 => k_asm); (case k3 => k_asm); (case k4 => k_asm); (case k5 => k_asm); (case k6 => first | exact rfl | assumption); (case k7 => ktr_room); (case k8 => ktr_units); k_whole); intro e' t' D' h' tk' l1 n1 F' N' he'))

theorem above_raises {x d : Addr} {bits : Int} {t0 t1 t2 k1 k2 : Tok} (B : Below A₀ base outer h₀) (F : Fr h₀ L s.heap m) (X : (KK w.params).In h₀) (N : News h₀ L s.heap ((x, instObj 89 d) :: (d, rdict w 0 0 k1 k2 t1 t2) :: news)) (T : Top p loose mean mg mb h₀) (hk : cs.kind = .function)
    (hd' : dp + 4 < recursionLimit) (hu : un + 40 < cLine)
    (k : ∀ g e h' tk', Fr h₀ L g m → RaisedN base (envX cn cs L a ccd cl :: outer) e (.ref 70) news h' → NoCtx e h' → g.UpToSlots h' → E (.ref e) { s with heap := h', toks := tk' }) :
    wpAny (model prog w) (ar none dp un gd cn cs L a ccd cl outer) (call (.ref 226) [.int bits t0, .ref x]) Q E s := by
  refine wpAny_call ?_
  k_dflt ktr_enter
  k_steps
  rename_i e' t' D' h' tk' l1 n1 F' N' he'
  exact leave_dom (by assumption) he' n1 (fun q hq => Nat.ne_of_lt (l1 q (.tail _ (.tail _ hq)))) F' (cb_drop N' fun q hq => .tail _ (.tail _ hq)) fun h2 R C U => k _ _ _ _ (by assumption) R C U
end

section
variable {prog : Program} {w : World} {A : Around} {E : Value → Shared → Prop} {s' : Shared} {h₀ h : Heap} {outer : List Env} {L a e : Addr} {m : Str → Option Value} {cn : Str} {cs : Scope} {ccd : Value} {cl : List (Str × Addr)}
  {b₀ : Stmt} {suite : List Stmt} {pos np : Pos} {rest : List ExceptHandler} {Q : Flow → Shared → Prop} {news : List (Addr × Obj)}
  {p : Program} {loose : List Str} {mean : ExcName → Option Value} {mg mb : Str → Option Value}
theorem caught_dom (hfr : A.frames = some (envX cn cs L a ccd cl :: outer)) (F : Fr h₀ L h m) (hsm : h.UpToSlots s'.heap) (R : RaisedN h₀ (envX cn cs L a ccd cl :: outer) e (.ref 70) news s'.heap) (hc : NoCtx e s'.heap)
    (X : (KK w.params).In h₀) (T : TopRead p loose mg mb h₀)
    (k : ∀ oe vs h', oe.data = .fields vs → vs[2]? = some .none → Fr h₀ L h' m → News h₀ L h' ((e, oe) :: news) → wpAny (model prog w) (A.mark (some (.ref e))) (execs (b₀ :: suite) (envX cn cs L a ccd cl)) Q E { s' with heap := h' })
    (hk : cs.kind = .function := by rfl) (hx : (envX cn cs L a ccd cl).kindOf (Str.ofString "OutOfDomain") = some .globalImplicit := by rfl)
    (hE : PassesOwnAt (model prog w) (A.mark (some (.ref e))) A (envX cn cs L a ccd cl) E := by passes_own) :
    wpAny (model prog w) A (noteFrame (.ref e) (envX cn cs L a ccd cl))
      (fun _ s₂ => wpAny (model prog w) A (setFlight (.ref e) none) (fun _ s₃ =>
        wpAny (model prog w) A (handleBy (.ref e) (envX cn cs L a ccd cl) (.ExceptHandler (some (.Name (Str.ofString "OutOfDomain") np)) none (b₀ :: suite) pos :: rest)) Q E s₃) E s₂) E s' := by
  obtain ⟨B, a0, hB, hl, hfl⟩ := R
  have hL : B.get? L = none := by
    obtain ⟨_, ⟨L', _, hf, hn', _⟩, _⟩ := hfl.2.2.1
    obtain rfl : L = L' := Option.some.inj hf
    exact hn'
  refine wpAny_mono (Kp.any (Kp.note _ _) hc (wpAny_looks_onW (Q := fun _ s'' => ∃ h4, s'' = { s' with heap := h4 } ∧ Heap.HeldW B (envX cn cs L a ccd cl :: outer) e (.ref 70) a0 L h4 ∧ s'.heap.UpToSlots h4) hfr rfl hfl fun h4 x1 x2 => ⟨h4, rfl, x1, x2⟩)) (fun _ s4 q => ?_) fun _ _ q => q
  obtain ⟨⟨h4, rfl, held4, sm4⟩, c4⟩ := q
  refine wpAny_mono (Kp.any (Kp.flight _ _) c4 (wpAny_landsW (Q := fun _ s'' => ∃ h5, s'' = { s' with heap := h5 } ∧ Heap.FlyingW B (envX cn cs L a ccd cl :: outer) e (.ref 70) a0 h5 ∧ h4.UpToSlots h5) held4 fun h5 x1 x2 => ⟨h5, rfl, x1, x2⟩)) (fun _ s5 q => ?_) fun _ _ q => q
  obtain ⟨⟨h5, rfl, held5, sm5⟩, c5⟩ := q
  replace sm5 := sm4.trans sm5
  have held' := flyingW_base hB held5
  have F5 := F.of_stays held'.1 (hsm.trans sm5)
  obtain ⟨ob, hob, hobc⟩ := held'.there
  refine wpAny_handleBy_cons (codeAny_handlers_test (nameX_K F5 X T (by k_is) ?_ hk hx (by decide))) (by intro q; cases q)
  obtain ⟨nm, q, bs, sn, sub, ab, col, dd, k0, k1, k2, k3, k5, hC⟩ := dom_class (X.keeps F5.keep)
  refine wpAny_excMatches_sub_self hC hob hobc (by decide +kernel) (codeAny_handlers_suite ?_)
  refine wpAny_mono (Kp.any (Kp.flight _ _) c5 (lands_againW (Q := fun _ s'' => ∃ h6, s'' = { s' with heap := h6 } ∧ Heap.FlyingW B (envX cn cs L a ccd cl :: outer) e (.ref 70) a0 h6 ∧ h5.UpToSlots h6) held5 fun h6 x1 x2 => ⟨h6, rfl, x1, x2⟩)) (fun _ s6 q => ?_) fun _ _ q => q
  obtain ⟨⟨h6, rfl, fl6, sm6⟩, oe, vs, c6, c7, c8⟩ := q
  have F6 := F.of_stays (flyingW_base hB fl6).1 ((hsm.trans sm5).trans sm6)
  refine wpAny_passesOwnAt hE (k oe vs h6 c7 c8 F6 fun q hq => ?_)
  rcases List.mem_cons.mp hq with rfl | hq
  · refine ⟨c6, fun z => ?_, (flyingW_base hB fl6).2.1⟩
    obtain ⟨o, es, ep, ho, hd, _⟩ := F6.ns
    rw [← z] at ho
    rw [show h6.get? e = some oe from c6] at ho
    cases ho
    rw [c7] at hd; cases hd
  · exact ⟨fl6.1 _ _ (hl q hq).1, (fun z => by have := (hl q hq).1; rw [z, hL] at this; cases this), (hl q hq).2⟩
end
/-- what is being handled: nothing, or an exception whose context is none -/
def HOk (hh : Option Value) (h : Heap) : Prop := hh = none ∨ ∃ e oe vs, hh = some (.ref e) ∧ h.get? e = some oe ∧ oe.data = .fields vs ∧ vs[2]? = some .none
/-- the same, told of the ledger -/
def HIn (hh : Option Value) (news : List (Addr × Obj)) : Prop := hh = none ∨ ∃ e oe vs, hh = some (.ref e) ∧ (e, oe) ∈ news ∧ oe.data = .fields vs ∧ vs[2]? = some .none
theorem HIn.up {hh : Option Value} {news news' : List (Addr × Obj)} (H : HIn hh news) (k : ∀ q ∈ news, q ∈ news') : HIn hh news' :=
  H.imp id fun ⟨e, oe, vs, h1, h2, h3⟩ => ⟨e, oe, vs, h1, k _ h2, h3⟩
theorem HIn.ok {hh : Option Value} {news : List (Addr × Obj)} {h₀ h : Heap} {L : Addr} (H : HIn hh news) (N : News h₀ L h news) : HOk hh h :=
  H.imp id fun ⟨e, oe, vs, h1, h2, h3⟩ => ⟨e, oe, vs, h1, (N _ h2).1, h3⟩
theorem HOk.keeps {hh : Option Value} {h h' : Heap} (H : HOk hh h) (k : ∀ b o, h.get? b = some o → h'.get? b = some o) : HOk hh h' :=
  H.imp id fun ⟨e, oe, vs, h1, h2, h3⟩ => ⟨e, oe, vs, h1, k _ _ h2, h3⟩
theorem HOk.keepsBut {hh : Option Value} {h h' : Heap} {x : Addr} (H : HOk hh h) (hx : ∀ e, hh = some (.ref e) → e ≠ x) (k : ∀ b o, b ≠ x → h.get? b = some o → h'.get? b = some o) : HOk hh h' :=
  H.imp id fun ⟨e, oe, vs, h1, h2, h3⟩ => ⟨e, oe, vs, h1, k _ _ (hx e h1) h2, h3⟩

theorem unchain_entry : entryFor table "proto.unchain" = some Builtin.«proto.unchain» := entryFor_of_tree (by kernel_rfl)

section
variable {prog : Program} {w : World} {A : Around} {E : Value → Shared → Prop} {s : Shared}

theorem raiseNew_H {α : Type} {x : Addr} {ox : Obj} {vx : Array Value} {Q : α → Shared → Prop} (H : HOk A.handled s.heap) (hx : s.heap.get? x = some ox) (hd : ox.data = .fields vx) (hsz : 2 < vx.size)
    (hne : ∀ e, A.handled = some (.ref e) → e ≠ x)
    (hE : ∀ h', (∀ b o, b ≠ x → s.heap.get? b = some o → h'.get? b = some o) → (∃ o', h'.get? x = some o' ∧ o'.cls = ox.cls) → E (.ref x) { s with heap := h' }) :
    wpAny (model prog w) A (raiseNew (.ref x) : Sem α) Q E s := by
  unfold raiseNew
  refine wpAny_bind (wpAny_handled ?_)
  rcases H with H | ⟨e, oe, vs, H, he, hde, h2⟩
  · rw [H]
    exact wpAny_bind (wpAny_pure (wpAny_throw (hE s.heap (fun _ _ _ h => h) ⟨ox, hx, rfl⟩)))
  · rw [H]
    have hn : e ≠ x := hne e H
    dsimp only
    rw [if_pos (show (Value.ref e != Value.ref x) = true from by simp [hn])]
    refine wpAny_bind (wpAny_holding (wpAny_runValue (codeAny_builtin unchain_entry ?_)))
    unfold Builtin.«proto.unchain»
    refine wpAny_bind (wpAny_field he hde h2 ?_)
    rw [if_pos (show (Value.none == Value.none) = true from rfl)]
    refine wpAny_bind (wpAny_pure (wpAny_pure ?_))
    show wpAny _ _ (updateField x 2 (.ref e) >>= _) _ _ _
    unfold updateField
    refine wpAny_bind (wpAny_bind (wpAny_load hx ?_))
    rw [hd]
    dsimp only
    rw [if_pos hsz]
    refine wpAny_update hx (wpAny_throw (hE _ (fun b o hb h => (Heap.get?_update_other _ _ (Ne.symm hb)).trans h) ⟨_, Heap.get?_update_self _ hx (Obj.isFreed_of_fields (Obj.data_mapFields hd _)), Obj.cls_mapFields ..⟩))

theorem next_end_H {it t : Addr} {i : Nat} {items} {Q : Option Value → Shared → Prop} (H : HOk A.handled s.heap) (hne : ∀ e, A.handled = some (.ref e) → e ≠ it)
    (hit : s.heap.IsTupleIter it t i) (ht : s.heap.IsTuple t items) (hx : items[i]? = none)
    (hQ : ∀ h', Heap.ExtBut it s.heap h' → Q none { s with heap := h' }) : wpAny (model prog w) A (pyNext (.ref it)) Q E s := by
  obtain ⟨o, ho, hc, hd⟩ := id hit
  obtain ⟨ol, hol, _, nl, hdl⟩ := ht
  unfold pyNext
  refine wpAny_bind (wpAny_attempt (wpAny_callSpecial?_slot (name := Str.ofString "__next__") hit.typeIs F.slot_tuple_iterator_next
    (wpAny_call_entry F.slot_tuple_iterator_next hit.typeIs F.entry_tuple_iterator_next ?_ (F.args_tuple_iterator_next_1 _))))
  show wpAny _ _ (field (.ref it) 0 >>= _) _ _ s
  refine wpAny_bind (wpAny_field ho hd (x := .ref t) rfl ?_)
  show wpAny _ _ (if (Value.ref t == Value.none) = true then _ else _) _ _ s
  rw [if_neg (show ¬ ((Value.ref t == Value.none) = true) from Bool.false_ne_true)]
  show wpAny _ _ (field (.ref it) 1 >>= _) _ _ s
  refine wpAny_bind (wpAny_field ho hd (x := .int i 0) rfl ?_)
  show wpAny _ _ (seqItems? (.ref t) >>= _) _ _ s
  refine wpAny_bind (wpAny_seqItems hol hdl ?_)
  simp only [Int.toNat_natCast, hx]
  refine wpAny_bind (wpAny_rule (wpAny_bind (wpAny_setField ho hd (by simp) ?_)))
  show wpAny _ _ (newExc (.type "StopIteration") [] >>= _) _ _ _
  refine wpAny_bind ?_
  simp only [newExc, newTuple]
  refine wpAny_bind (wpAny_newObj_type ?_ (by size_fits))
  refine wpAny_bind (m := firstArgMember _ _) (wpAny_of_eq (a := Value.none) (by first | rfl | (simp only [firstArgMember]; rfl)) ?_)
  refine wpAny_newObj_type ?_ (by size_fits)
  have k1 : Heap.ExtBut it s.heap (s.heap.update it (Obj.mapFields (·.setIfInBounds 0 Value.none))) := (Heap.SameBut.update ..).extBut
  have k2 := (k1.push { cls := .type "tuple", data := .seq #[] }).push { cls := .type "StopIteration", data := .fields (#[.ref (s.heap.update it (Obj.mapFields (·.setIfInBounds 0 Value.none))).objs.size, .none, .none, .none, .bool false, .none] ++ ownMembersOf (.type "StopIteration") []) }
  have hlt : ∀ b o, s.heap.get? b = some o → b < ((s.heap.update it (Obj.mapFields (·.setIfInBounds 0 Value.none))).push { cls := .type "tuple", data := .seq #[] }).objs.size := fun b o e => by
    rw [Heap.size_push, Heap.size_after_update]; exact Nat.lt_succ_of_lt (Heap.lt_size e)
  refine raiseNew_H (A := A.in1) (H.keepsBut hne k2) (Heap.get?_push_size _ rfl) rfl (by simp; omega) (fun e he => ?_) fun h' k3 ⟨o', ho', hc'⟩ => ?_
  · rcases H with H | ⟨e₁, oe, vs, H, he₁, _⟩
    · rw [show A.in1.handled = A.handled from rfl, H] at he; cases he
    · rw [show A.in1.handled = A.handled from rfl, H] at he
      cases he
      exact Nat.ne_of_lt (hlt _ _ he₁)
  · refine wpAny_bind (wpAny_isInstance (T := "StopIteration") (b := true) ⟨_, ho', hc'⟩ isSubtype_stop ?_)
    exact wpAny_pure (hQ _ fun b o hb e => k3 b o (Nat.ne_of_lt (hlt b o e)) (k2 b o hb e))

theorem unpack_H {t : Addr} {items : Array Value} {Q : List Value → Shared → Prop} (H : HOk A.handled s.heap) (ht : IsTup s.heap t items)
    (hQ : ∀ h', Heap.ExtBut s.heap.objs.size s.heap h' → Q items.toList { s with heap := h' }) : wpAny (model prog w) A (unpackItems (.ref t) items.size none) Q E s := by
  have hlt : t ≠ s.heap.objs.size := by obtain ⟨o, ho, _⟩ := ht; exact Nat.ne_of_lt (Heap.lt_size ho)
  have hne : ∀ e, A.handled = some (.ref e) → e ≠ s.heap.objs.size := fun e he => by
    rcases H with H | ⟨e₁, oe, vs, H, he₁, _⟩
    · rw [H] at he; cases he
    · rw [H] at he
      cases he
      exact Nat.ne_of_lt (Heap.lt_size he₁)
  unfold unpackItems
  refine wpAny_bind ?_
  unfold notIterableAtAll
  refine wpAny_bind (wpAny_specialOf ht.typeIs slot_tuple_iter.lookup ?_)
  refine wpAny_pure ?_
  simp only [Bool.false_eq_true, if_false]
  refine wpAny_bind (wpAny_holding (iter_tuple ht ?_))
  refine wpAny_bind (wpAny_holding (draw_tuple hlt items.size 0 _ _ ⟨_, Heap.get?_push_size _ rfl, rfl, rfl⟩ (ht.push _) (by omega) fun h₁ hit₁ hs₁ => ?_))
  have hall : List.take items.size (List.drop 0 items.toList) = items.toList := by
    rw [List.drop_zero]; exact List.take_of_length_le (by simp)
  rw [hall]
  rw [if_neg (by simp)]
  have ht₁ : IsTup h₁ t items := (ht.push _).extBut hs₁.extBut hlt
  have hex : Heap.ExtBut s.heap.objs.size s.heap h₁ := fun b o hb e => hs₁.extBut b o hb (Heap.get?_push_of_some _ e)
  refine wpAny_bind (wpAny_holding (next_end_H (s := { s with heap := h₁ }) (H.keepsBut hne hex) hne hit₁ ht₁ (by simp) fun h₂ he₂ => ?_))
  simp only [Option.isSome_none, Bool.false_eq_true, if_false]
  refine wpAny_pure (hQ h₂ fun b o hb e => he₂ b o hb (hex b o hb e))

theorem unpackN_H {h₀ : Heap} {L : Addr} {m : Str → Option Value} {news : List (Addr × Obj)} {t : Addr} {items : Array Value} {n : Nat} {Q : List Value → Shared → Prop} (H : HIn A.handled news) (F : Fr h₀ L s.heap m) (N : News h₀ L s.heap news) (ht : IsTup s.heap t items)
    (hn : n = items.size) (h : ∀ h', Fr h₀ L h' m → News h₀ L h' news → Q items.toList { s with heap := h' }) : wpAny (model prog w) A (unpackItems (.ref t) n none) Q E s := by
  subst hn
  exact unpack_H (H.ok N) ht fun h' he => h h' (F.extBut he (Nat.le_refl _)) (N.extBut he (Nat.le_refl _))

theorem assignT_H {h₀ : Heap} {L : Addr} {m : Str → Option Value} {news : List (Addr × Obj)} {env : Env} {elts : List Expr} {k : Nat} {pos : Pos} {t : Addr} {items : Array Value} {Q : Unit → Shared → Prop} (H : HIn A.handled news) (F : Fr h₀ L s.heap m) (N : News h₀ L s.heap news) (ht : IsTup s.heap t items)
    (hn : (assignEach elts env).length = items.size) (hstar : (assignEach elts env).findIdx? (·.1) = none)
    (h : ∀ h', Fr h₀ L h' m → News h₀ L h' news → wpAny (model prog w) A (assignInOrder ((assignEach elts env).map (·.2)) items.toList) Q E { s with heap := h' }) :
    wpAny (model prog w) A (assign (.Tuple elts k pos) env (.ref t)) Q E s := by
  rw [assign_Tuple]
  refine wpAny_bind (wpAny_standAt ?_)
  unfold unpack
  rw [hn, hstar]
  exact wpAny_bind (wpAny_holding (unpackN_H H F N ht rfl h))

theorem walks_tuple_H {x : Option Addr} (I ax : Addr) (hne : ax ≠ I) (items : Array Value) (hx : ∀ e, A.handled = some (.ref e) → x = some e ∧ e ≠ I) :
    Walks prog w A I (I :: ax :: x.toList) [I] items.size (fun i v => items[i]? = some v) (fun i h => h.IsTupleIter I ax i ∧ h.IsTuple ax items ∧ HOk A.handled h) where
  sub := fun b hb => by simp at hb; simp [hb]
  frame := fun _ _ _ st hk => ⟨st.1.at fun o e => hk I (by simp) o e, st.2.1.at fun o e => hk ax (by simp) o e, st.2.2.imp id fun ⟨e, oe, vs, h1, h2, h3⟩ => ⟨e, oe, vs, h1, hk e (by rw [(hx e h1).1]; simp) oe h2, h3⟩⟩
  item := fun i s Q E hi st hQ => by
    refine wpAny_pyNext_tuple_item st.1 st.2.1 (x := items[i]) (by simp [hi]) fun h' hit' hs' => ?_
    exact hQ _ h' s.toks (by simp [hi]) ⟨hit', st.2.1.extBut hs'.extBut hne, st.2.2.keepsBut (fun e he => (hx e he).2) hs'.extBut⟩ fun b o hb e => hs'.extBut b o (fun h => hb (by simp [h])) e
  done := fun s Q E st hQ => next_end_H st.2.2 (fun e he => (hx e he).2) st.1 st.2.1 (by simp) fun h' he' => hQ h' s.toks fun b o hb e => he' b o (fun h => hb (by simp [h])) e
  self := fun _ _ _ _ st hQ => wpAny_pyIter_tupleiter st.1 hQ

theorem min_H {h₀ : Heap} {L : Addr} {m : Str → Option Value} {news : List (Addr × Obj)} {a b : Int} {t u : Tok} {Q : Value → Shared → Prop} (H : HIn A.handled news) (F : Fr h₀ L s.heap m) (N : News h₀ L s.heap news)
    (h : ∀ t' h' tk, Fr h₀ L h' m → News h₀ L h' news → Q (.int (min a b) t') { s with heap := h', toks := tk }) :
    wpAny (model prog w) A (call (.builtin "min") [.int a t, .int b u]) Q E s := by
  have HO := H.ok N
  obtain ⟨x, hxe, hxs⟩ : ∃ x : Option Addr, (∀ e, A.handled = some (.ref e) → x = some e) ∧ ∀ e, x = some e → e < s.heap.objs.size := by
    rcases HO with H | ⟨e, oe, vs, H, he, _⟩
    · exact ⟨none, ⟨fun e he => (by rw [H] at he; cases he), fun e he => (by cases he)⟩⟩
    · exact ⟨some e, ⟨fun e' he' => (by rw [H] at he'; cases he'; rfl), fun e' he' => (by cases he'; exact Heap.lt_size he)⟩⟩
  have hT : (s.heap.push { cls := .type "tuple", data := .seq #[.int a t, .int b u] }).IsTuple s.heap.objs.size (intItems #[(a, t), (b, u)]) := ⟨_, Heap.get?_push_size _ rfl, rfl, 0, by simp [intItems]⟩
  refine call_min_two (wpAny_pyIter_tuple hT ?_)
  have hsz : (s.heap.push { cls := .type "tuple", data := .seq #[.int a t, .int b u] }).objs.size = s.heap.objs.size + 1 := Heap.size_push ..
  refine ⟨_, _ :: s.heap.objs.size :: x.toList, [_], _, _, _, _, rfl, walks_tuple_H (A := A.in1) (x := x) _ s.heap.objs.size (by rw [hsz]; exact Nat.ne_of_lt (Nat.lt_succ_self _)) (intItems #[(a, t), (b, u)]) (fun e he => ⟨hxe e he, by have := hxs e (hxe e he); rw [hsz]; exact Nat.ne_of_lt (Nat.lt_succ_of_lt this)⟩),
    ⟨⟨_, Heap.get?_push_size _ rfl, rfl, rfl⟩, hT.push _, HO.keeps fun c o e => Heap.get?_push_of_some _ (Heap.get?_push_of_some _ e)⟩, fun c hc => ?_, by simp [intItems], CmpOf.ints_lt (numAt #[(a, t), (b, u)]) (fun _ _ => intItems_at), fun v h' tk hP hk => ?_⟩
  · show c < ((s.heap.push _).push _).objs.size
    rw [Heap.size_push, hsz]
    rcases List.mem_cons.mp hc with rfl | hc
    · rw [hsz]; exact Nat.lt_succ_self _
    · rcases List.mem_cons.mp hc with rfl | hc
      · exact Nat.lt_succ_of_lt (Nat.lt_succ_self _)
      · exact Nat.lt_succ_of_lt (Nat.lt_succ_of_lt (hxs c (by simpa using hc)))
  · have hold : ∀ c o, s.heap.get? c = some o → h'.get? c = some o := fun c o e => by
      refine hk c o (fun hm => ?_) (Heap.get?_push_of_some _ (Heap.get?_push_of_some _ e))
      rcases List.mem_cons.mp hm with e1 | hm
      · have := Heap.lt_size e; rw [e1, hsz] at this; exact Nat.lt_irrefl _ (Nat.lt_of_succ_lt this)
      · cases hm
    have this := fun t' => h t' h' tk (F.grownK hold) (N.grown hold)
    have hP' : (intItems #[(a, t), (b, u)])[argBest (fun i j => decide (numAt #[(a, t), (b, u)] i < numAt #[(a, t), (b, u)] j)) 1]? = some v := by
      have hsz2 : (intItems #[(a, t), (b, u)]).size - 1 = 1 := by simp [intItems]
      rw [← hsz2]; exact hP
    by_cases hba : b < a
    · have e : argBest (fun i j => decide (numAt #[(a, t), (b, u)] i < numAt #[(a, t), (b, u)] j)) 1 = 1 := by simp [argBest, numAt]; first | omega | exact hba
      rw [e] at hP'
      have hv : v = .int b u := by simpa [intItems] using hP'.symm
      rw [hv]
      have e2 : min a b = b := by omega
      rw [e2] at this
      exact this u
    · have e : argBest (fun i j => decide (numAt #[(a, t), (b, u)] i < numAt #[(a, t), (b, u)] j)) 1 = 0 := by simp [argBest, numAt]; omega
      rw [e] at hP'
      have hv : v = .int a t := by simpa [intItems] using hP'.symm
      rw [hv]
      have e2 : min a b = a := by omega
      rw [e2] at this
      exact this t

theorem max_H {h₀ : Heap} {L : Addr} {m : Str → Option Value} {news : List (Addr × Obj)} {a b : Int} {t u : Tok} {Q : Value → Shared → Prop} (H : HIn A.handled news) (F : Fr h₀ L s.heap m) (N : News h₀ L s.heap news)
    (h : ∀ t' h' tk, Fr h₀ L h' m → News h₀ L h' news → Q (.int (max a b) t') { s with heap := h', toks := tk }) :
    wpAny (model prog w) A (call (.builtin "max") [.int a t, .int b u]) Q E s := by
  have HO := H.ok N
  obtain ⟨x, hxe, hxs⟩ : ∃ x : Option Addr, (∀ e, A.handled = some (.ref e) → x = some e) ∧ ∀ e, x = some e → e < s.heap.objs.size := by
    rcases HO with H | ⟨e, oe, vs, H, he, _⟩
    · exact ⟨none, ⟨fun e he => (by rw [H] at he; cases he), fun e he => (by cases he)⟩⟩
    · exact ⟨some e, ⟨fun e' he' => (by rw [H] at he'; cases he'; rfl), fun e' he' => (by cases he'; exact Heap.lt_size he)⟩⟩
  have hT : (s.heap.push { cls := .type "tuple", data := .seq #[.int a t, .int b u] }).IsTuple s.heap.objs.size (intItems #[(a, t), (b, u)]) := ⟨_, Heap.get?_push_size _ rfl, rfl, 0, by simp [intItems]⟩
  refine call_max_two (wpAny_pyIter_tuple hT ?_)
  have hsz : (s.heap.push { cls := .type "tuple", data := .seq #[.int a t, .int b u] }).objs.size = s.heap.objs.size + 1 := Heap.size_push ..
  refine ⟨_, _ :: s.heap.objs.size :: x.toList, [_], _, _, _, _, rfl, walks_tuple_H (A := A.in1) (x := x) _ s.heap.objs.size (by rw [hsz]; exact Nat.ne_of_lt (Nat.lt_succ_self _)) (intItems #[(a, t), (b, u)]) (fun e he => ⟨hxe e he, by have := hxs e (hxe e he); rw [hsz]; exact Nat.ne_of_lt (Nat.lt_succ_of_lt this)⟩),
    ⟨⟨_, Heap.get?_push_size _ rfl, rfl, rfl⟩, hT.push _, HO.keeps fun c o e => Heap.get?_push_of_some _ (Heap.get?_push_of_some _ e)⟩, fun c hc => ?_, by simp [intItems], CmpOf.ints_gt (numAt #[(a, t), (b, u)]) (fun _ _ => intItems_at), fun v h' tk hP hk => ?_⟩
  · show c < ((s.heap.push _).push _).objs.size
    rw [Heap.size_push, hsz]
    rcases List.mem_cons.mp hc with rfl | hc
    · rw [hsz]; exact Nat.lt_succ_self _
    · rcases List.mem_cons.mp hc with rfl | hc
      · exact Nat.lt_succ_of_lt (Nat.lt_succ_self _)
      · exact Nat.lt_succ_of_lt (Nat.lt_succ_of_lt (hxs c (by simpa using hc)))
  · have hold : ∀ c o, s.heap.get? c = some o → h'.get? c = some o := fun c o e => by
      refine hk c o (fun hm => ?_) (Heap.get?_push_of_some _ (Heap.get?_push_of_some _ e))
      rcases List.mem_cons.mp hm with e1 | hm
      · have := Heap.lt_size e; rw [e1, hsz] at this; exact Nat.lt_irrefl _ (Nat.lt_of_succ_lt this)
      · cases hm
    have this := fun t' => h t' h' tk (F.grownK hold) (N.grown hold)
    have hP' : (intItems #[(a, t), (b, u)])[argBest (fun i j => decide (numAt #[(a, t), (b, u)] i > numAt #[(a, t), (b, u)] j)) 1]? = some v := by
      have hsz2 : (intItems #[(a, t), (b, u)]).size - 1 = 1 := by simp [intItems]
      rw [← hsz2]; exact hP
    by_cases hba : b > a
    · have e : argBest (fun i j => decide (numAt #[(a, t), (b, u)] i > numAt #[(a, t), (b, u)] j)) 1 = 1 := by simp [argBest, numAt]; first | omega | exact hba
      rw [e] at hP'
      have hv : v = .int b u := by simpa [intItems] using hP'.symm
      rw [hv]
      have e2 : max a b = b := by omega
      rw [e2] at this
      exact this u
    · have e : argBest (fun i j => decide (numAt #[(a, t), (b, u)] i > numAt #[(a, t), (b, u)] j)) 1 = 0 := by simp [argBest, numAt]; omega
      rw [e] at hP'
      have hv : v = .int a t := by simpa [intItems] using hP'.symm
      rw [hv]
      have e2 : max a b = a := by omega
      rw [e2] at this
      exact this t
end
/-- how many bits -/
def sz (n : Int) : Int := (Builtin.Int.intBits (if n < 0 then -n else n) : Nat)
/-- -1, 0, 1 -/
def sg (n : Int) : Int := b2i (decide (0 < n)) - b2i (decide (n < 0))
/-- the lowest bit's place -/
def zb (n : Int) : Int := (Builtin.Int.intBits (Builtin.bitAnd n (0 - n)) : Nat) - 1
def leanM (m : Int) : Int := if m = 0 then 0 else m.fdiv (2 ^ (zb m).toNat)
def leanE (m e : Int) : Int := if m = 0 then 0 else e + zb m
def rne (n g : Int) : Int :=
  if 1 * 2 ^ (g - 1).toNat < Builtin.bitAnd n (1 * 2 ^ g.toNat - 1) ∨ (Builtin.bitAnd n (1 * 2 ^ g.toNat - 1) = 1 * 2 ^ (g - 1).toNat ∧ Builtin.bitAnd (n.fdiv (2 ^ g.toNat)) 1 = 1) then n.fdiv (2 ^ g.toNat) + 1 else n.fdiv (2 ^ g.toNat)
/-- a number without its sign -/
def ab (n : Int) : Int := if n < 0 then -n else n
def srM (p m : Int) : Int := if sz m - p ≤ 0 then leanM m else leanM (sg m * rne (ab m) (sz m - p))
def srE (p m e : Int) : Int := if sz m - p ≤ 0 then leanE m e else leanE (sg m * rne (ab m) (sz m - p)) (e + (sz m - p))

/-- what a call hands back: an int, nothing kept -/
abbrev RetI (h₀ : Heap) (L : Addr) (m : Str → Option Value) (news : List (Addr × Obj)) (s : Shared) (Q : Value → Shared → Prop) (n : Int) : Prop :=
  ∀ t h' tk', Fr h₀ L h' m → News h₀ L h' news → Q (.int n t) { s with heap := h', toks := tk' }
abbrev RetB (h₀ : Heap) (L : Addr) (m : Str → Option Value) (news : List (Addr × Obj)) (s : Shared) (Q : Value → Shared → Prop) (b : Bool) : Prop :=
  ∀ h' tk', Fr h₀ L h' m → News h₀ L h' news → Q (.bool b) { s with heap := h', toks := tk' }
abbrev RetR (w : World) (h₀ : Heap) (L : Addr) (m : Str → Option Value) (news : List (Addr × Obj)) (s : Shared) (Q : Value → Shared → Prop) (M E : Int) : Prop :=
  ∀ x d k1 k2 t1 t2 h' tk', Fr h₀ L h' m → News h₀ L h' ((x, instObj 89 d) :: (d, rdict w M E k1 k2 t1 t2) :: news) → Q (.ref x) { s with heap := h', toks := tk' }
abbrev RetT (h₀ : Heap) (L : Addr) (m : Str → Option Value) (news : List (Addr × Obj)) (s : Shared) (Q : Value → Shared → Prop) (a b : Int) : Prop :=
  ∀ x t1 t2 h' tk', Fr h₀ L h' m → News h₀ L h' ((x, tupObj [.int a t1, .int b t2]) :: news) → Q (.ref x) { s with heap := h', toks := tk' }

theorem intBits_ite (n : Int) : Builtin.Int.intBits (if n < 0 then -n else n) = Builtin.Int.intBits n := by
  unfold Builtin.Int.intBits
  split
  · rw [show ((-n == 0) = (n == 0)) from by rw [Bool.eq_iff_iff]; simp, Int.natAbs_neg]
  · rfl
theorem sz_eq (n : Int) : sz n = Builtin.Int.intBits n := by unfold sz; rw [intBits_ite]
theorem sz_pos (n : Int) : 0 ≤ sz n := by unfold sz; omega
theorem low_pos (n : Int) (h : n ≠ 0) : 0 < Builtin.bitAnd n (0 - n) := by
  have key : ∀ k : Nat, ∀ x : Int, x.natAbs = k → x ≠ 0 → ∃ j a, x = 2 ^ j * (2 * a + 1) := by
    intro k
    induction k using Nat.strongRecOn with
    | ind k ih =>
      intro x hx h0
      by_cases h1 : x % 2 = 1
      · exact ⟨0, x / 2, by rw [Int.pow_zero, Int.one_mul]; omega⟩
      · obtain ⟨j, a, e⟩ := ih (x / 2).natAbs (by omega) (x / 2) rfl (by omega)
        refine ⟨j + 1, a, ?_⟩
        rw [Int.pow_succ, Int.mul_comm (2 ^ j) 2, Int.mul_assoc, ← e]
        omega
  obtain ⟨j, a, rfl⟩ := key _ n rfl h
  rw [Int.zero_sub, kbt_low]
  exact kbt_pos j
theorem zb_pos (n : Int) (h : n ≠ 0) : 0 ≤ zb n := by
  have := low_pos n h
  unfold zb Builtin.Int.intBits
  rw [if_neg (by simpa using Int.ne_of_gt this)]
  omega
theorem retR_end {w : World} {h₀ h' : Heap} {L x d : Addr} {m : Str → Option Value} {news : List (Addr × Obj)} {s : Shared} {Q : Value → Shared → Prop} {M E M' E' : Int} {k1 k2 t1 t2 : Tok} {tk' : Nat} (k : RetR w h₀ L m news s Q M E)
    (F : Fr h₀ L h' m) (N : News h₀ L h' ((x, instObj 89 d) :: (d, rdict w M' E' k1 k2 t1 t2) :: news)) (hM : M' = M) (hE : E' = E) : Q (.ref x) { s with heap := h', toks := tk' } := by
  subst hM hE
  exact k _ _ _ _ _ _ _ _ F N
theorem retT_end {h₀ h' : Heap} {L x : Addr} {m : Str → Option Value} {news : List (Addr × Obj)} {s : Shared} {Q : Value → Shared → Prop} {M E M' E' : Int} {t1 t2 : Tok} {tk' : Nat} (k : RetT h₀ L m news s Q M E)
    (F : Fr h₀ L h' m) (N : News h₀ L h' ((x, tupObj [.int M' t1, .int E' t2]) :: news)) (hM : M' = M) (hE : E' = E) : Q (.ref x) { s with heap := h', toks := tk' } := by
  subst hM hE
  exact k _ _ _ _ _ F N
theorem retI_end {h₀ h' : Heap} {L : Addr} {m : Str → Option Value} {news : List (Addr × Obj)} {s : Shared} {Q : Value → Shared → Prop} {n n' : Int} {t : Tok} {tk' : Nat} (k : RetI h₀ L m news s Q n)
    (F : Fr h₀ L h' m) (N : News h₀ L h' news) (hn : n' = n) : Q (.int n' t) { s with heap := h', toks := tk' } := by
  subst hn
  exact k _ _ _ F N
theorem retB_end {h₀ h' : Heap} {L : Addr} {m : Str → Option Value} {news : List (Addr × Obj)} {s : Shared} {Q : Value → Shared → Prop} {n n' : Bool} {tk' : Nat} (k : RetB h₀ L m news s Q n)
    (F : Fr h₀ L h' m) (N : News h₀ L h' news) (hn : n' = n) : Q (.bool n') { s with heap := h', toks := tk' } := by
  subst hn
  exact k _ _ F N
theorem drop2 {h₀ h : Heap} {L : Addr} {a b : Addr × Obj} {news : List (Addr × Obj)} (N : News h₀ L h (a :: b :: news)) : News h₀ L h news := cb_drop N fun _ h => .tail _ (.tail _ h)

local macro_rules | `(tactic| k_mem) => `(tactic| first | exact List.Mem.head _ | assumption | (refine List.mem_cons_of_mem _ ?_; k_mem))
theorem rows_1 : True := by
  k_with "mine enter" => (refine' code_def ?k1 ?k2 ?k3 ?k4 ?k5 ?kA ?kF ?kK ?k6 ?k7 ?k8 ?k9 ?kB ?_ ?c2 ?c3 ?c4 ?c5; (case kA => exact rfl); (case kF => exact rfl); (case kK => first | exact rfl | assumption); (case k1 => k_asm); (case k2 => k_asm); (case k3 => k_asm); (case k4 => k_asm); (case k5 => k_asm); (case k6 => k_is); (case k7 => k_is); (case k8 => ktr_room); (case k9 => exact BindsTo.of_eq rfl); (case c5 => decide); (case kB => exact locs rfl); (case c2 => exact rfl); (case c3 => exact rfl); (case c4 => exact rfl); k_whole; intro g' L' h' FG' F' N' B' X' T'; (try dsimp only); (try k_fold))
  k_with "mine call" => (refine wpAny_call ?_; k_dflt (walk_at "mine enter"); k_steps)
  k_with "mine tail" => (intro p9 h9; repeat (first | exact h9 | refine List.Mem.tail _ ?_))
  k_with "mine retR" => ((try dsimp only); refine retR_end (by assumption) (by k_asm) (cb_drop (by k_asm) (List.forall_mem_cons.mpr ⟨by k_mem, List.forall_mem_cons.mpr ⟨by k_mem, by walk_at "mine tail"⟩⟩)) ?_ ?_)
  k_with "mine retT" => ((try dsimp only); refine retT_end (by assumption) (by k_asm) (cb_drop (by k_asm) (List.forall_mem_cons.mpr ⟨by k_mem, by walk_at "mine tail"⟩)) ?_ ?_)
  k_with "mine retI" => ((try dsimp only); refine retI_end (by assumption) (by k_asm) (cb_drop (by k_asm) (by walk_at "mine tail")) ?_)
  k_with "mine retB" => ((try dsimp only); refine retB_end (by assumption) (by k_asm) (cb_drop (by k_asm) (by walk_at "mine tail")) ?_)
  trivial
section
variable {prog : Program} {w : World} {p : Program} {loose : List Str} {mean : ExcName → Option Value} {mg mb : Str → Option Value}
  {hh : Option Value} {dp un : Nat} {gd : Option (List Code)} {cn : Str} {cs : Scope} {a : Addr} {ccd : Value} {cl : List (Str × Addr)} {outer : List Env} {A₀ : Around} {base h₀ : Heap} {L : Addr} {m : Str → Option Value} {news : List (Addr × Obj)} {s : Shared} {Q E : Value → Shared → Prop}
variable (B : Below A₀ base outer h₀) (F : Fr h₀ L s.heap m) (X : (KK w.params).In h₀) (N : News h₀ L s.heap news) (T : Top p loose mean mg mb h₀) (hk : cs.kind = .function)
include B F X N T hk
theorem sign_c {n : Int} {t0 : Tok} (hd' : dp + 1 < recursionLimit) (hu : un + 20 < cLine) (k : RetI h₀ L m news s Q (sg n)) :
    wpAny (model prog w) (ar hh dp un gd cn cs L a ccd cl outer) (call (.ref 107) [.int n t0]) Q E s := by
  walk_at "mine call"
  exact k _ _ _ (by k_asm) (by k_asm)

theorem size_c {n : Int} {t0 : Tok} (hd' : dp + 1 < recursionLimit) (hu : un + 20 < cLine) (k : RetI h₀ L m news s Q (sz n)) :
    wpAny (model prog w) (ar hh dp un gd cn cs L a ccd cl outer) (call (.ref 100) [.int n t0]) Q E s := by
  walk_at "mine call"
  exact k _ _ _ (by k_asm) (by k_asm)

theorem zeros_c {n : Int} {t0 : Tok} (hd' : dp + 1 < recursionLimit) (hu : un + 20 < cLine) (k : RetI h₀ L m news s Q (zb n)) :
    wpAny (model prog w) (ar hh dp un gd cn cs L a ccd cl outer) (call (.ref 114) [.int n t0]) Q E s := by
  walk_at "mine call"
  exact k _ _ _ (by k_asm) (by k_asm)

theorem real_c {n e : Int} {t0 t1 : Tok} (hd' : dp + 2 < recursionLimit) (hu : un + 30 < cLine) (k : RetR w h₀ L m news s Q n e) :
    wpAny (model prog w) (ar hh dp un gd cn cs L a ccd cl outer) (call (.ref 89) [.int n t0, .int e t1]) Q E s := by
  k_dflt (refine' call_cls ?k1 ?k2 ?k3 ?k4 ?k5 ?k6 ?_; (case k1 => k_asm); (case k2 => k_asm); (case k3 => k_asm); (case k4 => k_is); (case k5 => k_is); (case k6 => k_is); k_whole; intro x' d' h' F' N' l1 l2; (replace l1 := allLt_of l1); (try k_lt2 l2); (try k_sweep))
  k_dflt (walk_at "mine enter")
  k_steps
  exact k _ _ _ _ _ _ _ _ (by k_asm) (by k_asm)

end
theorem rows_2 : True := by
  k_with "call ref" => (k_here; (with_reducible show wpAny _ _ (call (Value.ref 107) _ _) _ _ _); k_dflt (refine' sign_c (by k_asm) (by k_asm) (by k_asm) (by k_asm) (by k_asm) (by first | exact rfl | assumption) (by ktr_room) (by ktr_units) ?_); intro t' h' tk' F' N'; (try k_sweep))
  k_with "call ref" => (k_here; (with_reducible show wpAny _ _ (call (Value.ref 100) _ _) _ _ _); k_dflt (refine' size_c (by k_asm) (by k_asm) (by k_asm) (by k_asm) (by k_asm) (by first | exact rfl | assumption) (by ktr_room) (by ktr_units) ?_); intro t' h' tk' F' N'; (try k_sweep))
  k_with "call ref" => (k_here; (with_reducible show wpAny _ _ (call (Value.ref 114) _ _) _ _ _); k_dflt (refine' zeros_c (by k_asm) (by k_asm) (by k_asm) (by k_asm) (by k_asm) (by first | exact rfl | assumption) (by ktr_room) (by ktr_units) ?_); intro t' h' tk' F' N'; (try k_sweep))
  k_with "call ref" => (k_here; (with_reducible show wpAny _ _ (call (Value.ref 89) _ _) _ _ _); k_dflt (refine' real_c (by k_asm) (by k_asm) (by k_asm) (by k_asm) (by k_asm) (by first | exact rfl | assumption) (by ktr_room) (by ktr_units) ?_); intro x' d' k1' k2' t1' t2' h' tk' F' N'; (try k_sweep))
  k_with "mine hin" => exact HIn.up (by assumption) (by intro p9 h9; repeat (first | exact h9 | refine List.Mem.tail _ ?_))
  k_with "unpackItems ref" => (k_here; k_dflt (refine' unpackN_H ?k0 ?k1 ?k2 ?k3 ?k5 ?_; (case k1 => k_asm); (case k2 => k_asm); (case k0 => walk_at "mine hin"); (case k3 => kun_tup); (case k5 => exact rfl); k_whole); intro h' F' N'; (try k_sweep))
  k_with "assign Tuple" => (k_here; (with_reducible show wpAny _ _ (assign (Expr.Tuple _ _ _) _ (Value.ref _)) _ _ _); k_dflt (refine' assignT_H ?k0 ?k1 ?k2 ?k3 ?k5 ?k6 ?_; (case k1 => k_asm); (case k2 => k_asm); (case k0 => walk_at "mine hin"); (case k3 => kun_tup); (case k5 => exact rfl); (case k6 => exact rfl); k_whole); intro h' F' N'; (try k_sweep))
  k_with "call builtin:min" => (k_here; (with_reducible show wpAny _ _ (call (Value.builtin _) [Value.int _ _, Value.int _ _]) _ _ _); k_dflt (refine' min_H ?k0 ?k1 ?k2 ?_; (case k1 => k_asm); (case k2 => k_asm); (case k0 => walk_at "mine hin"); k_whole); intro t' h' tk' F' N'; (try k_sweep))
  k_with "call builtin:max" => (k_here; (with_reducible show wpAny _ _ (call (Value.builtin _) [Value.int _ _, Value.int _ _]) _ _ _); k_dflt (refine' max_H ?k0 ?k1 ?k2 ?_; (case k1 => k_asm); (case k2 => k_asm); (case k0 => walk_at "mine hin"); k_whole); intro t' h' tk' F' N'; (try k_sweep))
  trivial
section
variable {prog : Program} {w : World} {p : Program} {loose : List Str} {mean : ExcName → Option Value} {mg mb : Str → Option Value}
  {hh : Option Value} {dp un : Nat} {gd : Option (List Code)} {cn : Str} {cs : Scope} {a : Addr} {ccd : Value} {cl : List (Str × Addr)} {outer : List Env} {A₀ : Around} {base h₀ : Heap} {L : Addr} {m : Str → Option Value} {news : List (Addr × Obj)} {s : Shared} {Q E : Value → Shared → Prop}
variable (B : Below A₀ base outer h₀) (F : Fr h₀ L s.heap m) (X : (KK w.params).In h₀) (N : News h₀ L s.heap news) (T : Top p loose mean mg mb h₀) (hk : cs.kind = .function)
include B F X N T hk
variable (H : HIn hh news)
include H
theorem lean_c {n e : Int} {t0 t1 : Tok} (hn : Builtin.Int.intBits n ≤ 400) (he1 : -10000 ≤ e) (he2 : e ≤ 10000) (hd' : dp + 3 < recursionLimit) (hu : un + 40 < cLine) (k : RetR w h₀ L m news s Q (leanM n) (leanE n e)) :
    wpAny (model prog w) (ar hh dp un gd cn cs L a ccd cl outer) (call (.ref 121) [.int n t0, .int e t1]) Q E s := by
  have h1 := zb_pos n
  have h2 := sz_pos n
  have h3 := sz_eq n
  walk_at "mine call"
  · walk_at "mine retR"
    · simp only [leanM, if_pos ‹n = 0›]
    · simp only [leanE, if_pos ‹n = 0›]
  · walk_at "mine retR"
    · simp only [leanM, if_neg ‹¬ n = 0›]
    · simp only [leanE, if_neg ‹¬ n = 0›]
end
theorem rows_3 : True := by
  k_with "mine bits" => first | assumption | (refine Nat.le_trans (by assumption) (by decide)) | decide | bits_by_make
  k_with "binaryOp LShift int int" => (k_here; (with_reducible refine lshift_int ?kbn ?kbs ?_); (case kbn => l_bnd); (case kbs => (refine' kbm_shl (m := 1000) ?kba ?kbc ?kbd; (case kba => walk_at "mine bits"); (case kbc => l_bnd); (case kbd => decide))))
  k_with "binaryOp Mult int int" => (k_here; with_reducible refine mul_int ?_ (mulOk_of_bits (m := 1000) (n := 1000) (by walk_at "mine bits") (by walk_at "mine bits") (by decide)))
  k_with "call ref" => (k_here; (with_reducible show wpAny _ _ (call (Value.ref 121) _ _) _ _ _); k_dflt (refine' lean_c (by k_asm) (by k_asm) (by k_asm) (by k_asm) (by k_asm) (by first | exact rfl | assumption) (by walk_at "mine hin") (by first | assumption | walk_at "mine bits") (by l_bnd) (by l_bnd) (by ktr_room) (by ktr_units) ?_); intro x' d' k1' k2' t1' t2' h' tk' F' N'; (try k_sweep))
  trivial
section
variable {prog : Program} {w : World} {p : Program} {loose : List Str} {mean : ExcName → Option Value} {mg mb : Str → Option Value}
  {hh : Option Value} {dp un : Nat} {gd : Option (List Code)} {cn : Str} {cs : Scope} {a : Addr} {ccd : Value} {cl : List (Str × Addr)} {outer : List Env} {A₀ : Around} {base h₀ : Heap} {L : Addr} {m : Str → Option Value} {news : List (Addr × Obj)} {s : Shared} {Q E : Value → Shared → Prop}
variable (B : Below A₀ base outer h₀) (F : Fr h₀ L s.heap m) (X : (KK w.params).In h₀) (N : News h₀ L s.heap news) (T : Top p loose mean mg mb h₀) (hk : cs.kind = .function)
include B F X N T hk
variable (H : HIn hh news)
include H
theorem nearest_c {n g : Int} {t0 t1 : Tok} (hn : Builtin.Int.intBits n ≤ 400) (hg1 : 1 ≤ g) (hg2 : g ≤ 1000) (hd' : dp + 1 < recursionLimit) (hu : un + 20 < cLine) (k : RetI h₀ L m news s Q (rne n g)) :
    wpAny (model prog w) (ar hh dp un gd cn cs L a ccd cl outer) (call (.ref 128) [.int n t0, .int g t1]) Q E s := by
  have h1 : Builtin.Int.intBits (1 : Int) ≤ 1000 := by decide
  walk_at "mine call"
  all_goals (walk_at "mine retI"; unfold rne; split <;> first | rfl | (exfalso; omega))
end
theorem rows_4 : True := by
  k_with "call ref" => (k_here; (with_reducible show wpAny _ _ (call (Value.ref 128) _ _) _ _ _); k_dflt (refine' nearest_c (by k_asm) (by k_asm) (by k_asm) (by k_asm) (by k_asm) (by first | exact rfl | assumption) (by walk_at "mine hin") (by first | assumption | walk_at "mine bits") (by l_bnd) (by l_bnd) (by ktr_room) (by ktr_units) ?_); intro t' h' tk' F' N'; (try k_sweep))
  trivial
theorem bits_ab {n : Int} {k : Nat} (h : Builtin.Int.intBits n ≤ k) : Builtin.Int.intBits (if n < 0 then -n else n) ≤ k := by rw [intBits_ite]; exact h
theorem bits_sg (n : Int) : Builtin.Int.intBits (sg n) ≤ 1000 := by
  unfold sg b2i
  by_cases h1 : 0 < n <;> by_cases h2 : n < 0 <;> simp only [h1, h2] <;> decide
theorem bits_rne {n g : Int} {k : Nat} (h : Builtin.Int.intBits n ≤ k) : Builtin.Int.intBits (rne n g) ≤ k + 1 := by
  have h1 := intBits_le_iff.mp (PySem.intBits_fdiv_le (y := 2 ^ g.toNat) h)
  refine intBits_le_iff.mpr ?_
  have h2 : 2 ^ (k + 1) = 2 * 2 ^ k := by rw [Nat.pow_succ, Nat.mul_comm]
  unfold rne
  split <;> omega
theorem bits_sg_mul {n x : Int} {k : Nat} (h : Builtin.Int.intBits x ≤ k) : Builtin.Int.intBits (sg n * x) ≤ k := by
  have h1 := intBits_le_iff.mp h
  refine intBits_le_iff.mpr ?_
  unfold sg b2i
  by_cases h1 : 0 < n <;> by_cases h2 : n < 0 <;> simp only [h1, h2] <;> simp <;> omega
section
variable {prog : Program} {w : World} {p : Program} {loose : List Str} {mean : ExcName → Option Value} {mg mb : Str → Option Value}
  {hh : Option Value} {dp un : Nat} {gd : Option (List Code)} {cn : Str} {cs : Scope} {a : Addr} {ccd : Value} {cl : List (Str × Addr)} {outer : List Env} {A₀ : Around} {base h₀ : Heap} {L : Addr} {m : Str → Option Value} {news : List (Addr × Obj)} {s : Shared} {Q E : Value → Shared → Prop}
variable (B : Below A₀ base outer h₀) (F : Fr h₀ L s.heap m) (X : (KK w.params).In h₀) (N : News h₀ L s.heap news) (T : Top p loose mean mg mb h₀) (hk : cs.kind = .function)
include B F X N T hk
variable (H : HIn hh news)
include H
theorem shifted_c {p' m' e : Int} {t0 t1 t2 : Tok} (hm : Builtin.Int.intBits m' ≤ 300) (hp1 : 0 ≤ p') (hp2 : p' ≤ 100) (he1 : -5000 ≤ e) (he2 : e ≤ 5000) (hd' : dp + 4 < recursionLimit) (hu : un + 60 < cLine) (k : RetR w h₀ L m news s Q (srM p' m') (srE p' m' e)) :
    wpAny (model prog w) (ar hh dp un gd cn cs L a ccd cl outer) (call (.ref 135) [.int p' t0, .int m' t1, .int e t2]) Q E s := by
  have f1 : Builtin.Int.intBits m' ≤ 400 := by omega
  have f2 : Builtin.Int.intBits (if m' < 0 then -m' else m') ≤ 400 := bits_ab f1
  have f3 := bits_sg m'
  have f4 : Builtin.Int.intBits (rne (if m' < 0 then -m' else m') (sz m' - p')) ≤ 1000 := Nat.le_trans (bits_rne (bits_ab hm)) (by omega)
  have f5 : Builtin.Int.intBits (sg m' * rne (if m' < 0 then -m' else m') (sz m' - p')) ≤ 400 := Nat.le_trans (bits_sg_mul (bits_rne (bits_ab hm))) (by omega)
  have f6 := sz_eq m'
  have f7 := sz_pos m'
  walk_at "mine call"
  · walk_at "mine retR"
    · exact (if_pos (by omega)).symm
    · exact (if_pos (by omega)).symm
  · walk_at "mine retR"
    · exact (if_neg (by omega)).symm
    · exact (if_neg (by omega)).symm
end
theorem rows_5 : True := by
  k_with "call ref" => (k_here; (with_reducible show wpAny _ _ (call (Value.ref 135) _ _) _ _ _); k_dflt (refine' shifted_c (by k_asm) (by k_asm) (by k_asm) (by k_asm) (by k_asm) (by first | exact rfl | assumption) (by walk_at "mine hin") (by walk_at "mine bits") (by l_bnd) (by l_bnd) (by l_bnd) (by l_bnd) (by ktr_room) (by ktr_units) ?_); intro x' d' k1' k2' t1' t2' h' tk' F' N'; (try k_sweep))
  trivial
section
variable {prog : Program} {w : World} {p : Program} {loose : List Str} {mean : ExcName → Option Value} {mg mb : Str → Option Value}
  {hh : Option Value} {dp un : Nat} {gd : Option (List Code)} {cn : Str} {cs : Scope} {a : Addr} {ccd : Value} {cl : List (Str × Addr)} {outer : List Env} {A₀ : Around} {base h₀ : Heap} {L : Addr} {m : Str → Option Value} {news : List (Addr × Obj)} {s : Shared} {Q E : Value → Shared → Prop}
variable (B : Below A₀ base outer h₀) (F : Fr h₀ L s.heap m) (X : (KK w.params).In h₀) (N : News h₀ L s.heap news) (T : Top p loose mean mg mb h₀) (hk : cs.kind = .function)
include B F X N T hk
variable {x d : Addr} {M E₁ : Int} {k1 k2 t1 t2 : Tok} (hx : (x, instObj 89 d) ∈ news) (hdx : (d, rdict w M E₁ k1 k2 t1 t2) ∈ news)
include hx hdx
theorem place_c (hd' : dp + 2 < recursionLimit) (hu : un + 30 < cLine) (k : RetI h₀ L m news s Q (sz M + E₁)) :
    wpAny (model prog w) (ar hh dp un gd cn cs L a ccd cl outer) (call (.ref 142) [.ref x]) Q E s := by
  walk_at "mine call"
  walk_at "mine retI"
  rfl
theorem signof_c (hd' : dp + 2 < recursionLimit) (hu : un + 30 < cLine) (k : RetI h₀ L m news s Q (sg M)) :
    wpAny (model prog w) (ar hh dp un gd cn cs L a ccd cl outer) (call (.ref 149) [.ref x]) Q E s := by
  walk_at "mine call"
  walk_at "mine retI"
  rfl
theorem negative_c (hd' : dp + 3 < recursionLimit) (hu : un + 40 < cLine) (k : RetR w h₀ L m news s Q (0 - M) E₁) :
    wpAny (model prog w) (ar hh dp un gd cn cs L a ccd cl outer) (call (.ref 156) [.ref x]) Q E s := by
  walk_at "mine call"
  walk_at "mine retR" <;> rfl
theorem magnitude_c (hd' : dp + 3 < recursionLimit) (hu : un + 40 < cLine) (k : RetR w h₀ L m news s Q (ab M) E₁) :
    wpAny (model prog w) (ar hh dp un gd cn cs L a ccd cl outer) (call (.ref 163) [.ref x]) Q E s := by
  walk_at "mine call"
  walk_at "mine retR" <;> rfl
end
theorem rows_6 : True := by
  k_with "call ref" => (k_here; (with_reducible show wpAny _ _ (call (Value.ref 142) _ _) _ _ _); k_dflt (refine' place_c (by k_asm) (by k_asm) (by k_asm) (by k_asm) (by k_asm) (by first | exact rfl | assumption) (by k_mem) (by k_mem) (by ktr_room) (by ktr_units) ?_); intro t' h' tk' F' N'; (try k_sweep))
  k_with "call ref" => (k_here; (with_reducible show wpAny _ _ (call (Value.ref 149) _ _) _ _ _); k_dflt (refine' signof_c (by k_asm) (by k_asm) (by k_asm) (by k_asm) (by k_asm) (by first | exact rfl | assumption) (by k_mem) (by k_mem) (by ktr_room) (by ktr_units) ?_); intro t' h' tk' F' N'; (try k_sweep))
  k_with "call ref" => (k_here; (with_reducible show wpAny _ _ (call (Value.ref 156) _ _) _ _ _); k_dflt (refine' negative_c (by k_asm) (by k_asm) (by k_asm) (by k_asm) (by k_asm) (by first | exact rfl | assumption) (by k_mem) (by k_mem) (by ktr_room) (by ktr_units) ?_); intro x' d' k1' k2' t1' t2' h' tk' F' N'; (try k_sweep))
  k_with "call ref" => (k_here; (with_reducible show wpAny _ _ (call (Value.ref 163) _ _) _ _ _); k_dflt (refine' magnitude_c (by k_asm) (by k_asm) (by k_asm) (by k_asm) (by k_asm) (by first | exact rfl | assumption) (by k_mem) (by k_mem) (by ktr_room) (by ktr_units) ?_); intro x' d' k1' k2' t1' t2' h' tk' F' N'; (try k_sweep))
  trivial
theorem bits_shl {a n : Int} {k j : Nat} (h : Builtin.Int.intBits a ≤ k) (hn : n ≤ j) : Builtin.Int.intBits (a * 2 ^ n.toNat) ≤ k + j := by
  have h1 := intBits_le_iff.mp h
  refine intBits_le_iff.mpr ?_
  have h2 : ((2 : Int) ^ n.toNat).natAbs = 2 ^ n.toNat := by rw [Int.natAbs_pow]; rfl
  rw [Int.natAbs_mul, h2, Nat.pow_add]
  exact Nat.lt_of_lt_of_le (Nat.mul_lt_mul_of_pos_right h1 (Nat.two_pow_pos _)) (Nat.mul_le_mul_left _ (Nat.pow_le_pow_right (by decide) (by omega)))
/-- the order of two magnitudes -/
def cmM (M₁ E₁ M₂ E₂ : Int) : Int :=
  if sz M₁ + E₁ ≠ sz M₂ + E₂ then (if sz M₂ + E₂ < sz M₁ + E₁ then 1 else -1)
  else sg (M₁ * 2 ^ (E₁ - min E₁ E₂).toNat - M₂ * 2 ^ (E₂ - min E₁ E₂).toNat)
def cmR (M₁ E₁ M₂ E₂ : Int) : Int :=
  if sg M₁ ≠ sg M₂ then (if sg M₂ < sg M₁ then 1 else -1)
  else if sg M₁ = 0 then 0 else sg M₁ * cmM (ab M₁) E₁ (ab M₂) E₂
theorem bits_cmM (M₁ E₁ M₂ E₂ : Int) : Builtin.Int.intBits (cmM M₁ E₁ M₂ E₂) ≤ 1000 := by
  unfold cmM
  split
  · split <;> decide
  · exact bits_sg _
section
variable {prog : Program} {w : World} {p : Program} {loose : List Str} {mean : ExcName → Option Value} {mg mb : Str → Option Value}
  {hh : Option Value} {dp un : Nat} {gd : Option (List Code)} {cn : Str} {cs : Scope} {a : Addr} {ccd : Value} {cl : List (Str × Addr)} {outer : List Env} {A₀ : Around} {base h₀ : Heap} {L : Addr} {m : Str → Option Value} {news : List (Addr × Obj)} {s : Shared} {Q E : Value → Shared → Prop}
variable (B : Below A₀ base outer h₀) (F : Fr h₀ L s.heap m) (X : (KK w.params).In h₀) (N : News h₀ L s.heap news) (T : Top p loose mean mg mb h₀) (hk : cs.kind = .function)
include B F X N T hk
variable (H : HIn hh news)
include H
variable {x d : Addr} {M₁ E₁ : Int} {k1 k2 t1 t2 : Tok} (hx : (x, instObj 89 d) ∈ news) (hdx : (d, rdict w M₁ E₁ k1 k2 t1 t2) ∈ news)
variable {y e : Addr} {M₂ E₂ : Int} {k3 k4 t3 t4 : Tok} (hy : (y, instObj 89 e) ∈ news) (hdy : (e, rdict w M₂ E₂ k3 k4 t3 t4) ∈ news)
include hx hdx hy hdy
theorem cmpmag_c (b1 : Builtin.Int.intBits M₁ ≤ 300) (b2 : Builtin.Int.intBits M₂ ≤ 300) (e1 : -400 ≤ E₁) (e2 : E₁ ≤ 400) (e3 : -400 ≤ E₂) (e4 : E₂ ≤ 400) (hd' : dp + 3 < recursionLimit) (hu : un + 50 < cLine) (k : RetI h₀ L m news s Q (cmM M₁ E₁ M₂ E₂)) :
    wpAny (model prog w) (ar hh dp un gd cn cs L a ccd cl outer) (call (.ref 170) [.ref x, .ref y]) Q E s := by
  walk_at "mine call"
  all_goals (walk_at "mine retI"; unfold cmM; (split <;> (try split)) <;> first | rfl | (exfalso; omega))
end
theorem rows_7 : True := by
  k_with "call ref" => (k_here; (with_reducible show wpAny _ _ (call (Value.ref 170) _ _) _ _ _); k_dflt (refine' cmpmag_c (by k_asm) (by k_asm) (by k_asm) (by k_asm) (by k_asm) (by first | exact rfl | assumption) (by walk_at "mine hin") (by k_mem) (by k_mem) (by k_mem) (by k_mem) (by walk_at "mine bits") (by walk_at "mine bits") (by l_bnd) (by l_bnd) (by l_bnd) (by l_bnd) (by ktr_room) (by ktr_units) ?_); intro t' h' tk' F' N'; (try k_sweep))
  trivial
section
variable {prog : Program} {w : World} {p : Program} {loose : List Str} {mean : ExcName → Option Value} {mg mb : Str → Option Value}
  {hh : Option Value} {dp un : Nat} {gd : Option (List Code)} {cn : Str} {cs : Scope} {a : Addr} {ccd : Value} {cl : List (Str × Addr)} {outer : List Env} {A₀ : Around} {base h₀ : Heap} {L : Addr} {m : Str → Option Value} {news : List (Addr × Obj)} {s : Shared} {Q E : Value → Shared → Prop}
variable (B : Below A₀ base outer h₀) (F : Fr h₀ L s.heap m) (X : (KK w.params).In h₀) (N : News h₀ L s.heap news) (T : Top p loose mean mg mb h₀) (hk : cs.kind = .function)
include B F X N T hk
variable (H : HIn hh news)
include H
variable {x d : Addr} {M₁ E₁ : Int} {k1 k2 t1 t2 : Tok} (hx : (x, instObj 89 d) ∈ news) (hdx : (d, rdict w M₁ E₁ k1 k2 t1 t2) ∈ news)
variable {y e : Addr} {M₂ E₂ : Int} {k3 k4 t3 t4 : Tok} (hy : (y, instObj 89 e) ∈ news) (hdy : (e, rdict w M₂ E₂ k3 k4 t3 t4) ∈ news)
include hx hdx hy hdy
theorem cmpreal_c (b1 : Builtin.Int.intBits M₁ ≤ 300) (b2 : Builtin.Int.intBits M₂ ≤ 300) (e1 : -400 ≤ E₁) (e2 : E₁ ≤ 400) (e3 : -400 ≤ E₂) (e4 : E₂ ≤ 400) (hd' : dp + 4 < recursionLimit) (hu : un + 60 < cLine) (k : RetI h₀ L m news s Q (cmR M₁ E₁ M₂ E₂)) :
    wpAny (model prog w) (ar hh dp un gd cn cs L a ccd cl outer) (call (.ref 177) [.ref x, .ref y]) Q E s := by
  have f1 : Builtin.Int.intBits (ab M₁) ≤ 300 := bits_ab b1
  have f2 : Builtin.Int.intBits (ab M₂) ≤ 300 := bits_ab b2
  have f3 := bits_sg M₁
  have f4 := bits_cmM (ab M₁) E₁ (ab M₂) E₂
  walk_at "mine call"
  all_goals (walk_at "mine retI"; unfold cmR; (split <;> (try split)) <;> first | rfl | (exfalso; omega))
end
/-- the sum of a great and a far small one -/
def farM (p M₁ M₂ : Int) : Int := srM p (2 * (M₁ * 2 ^ (max 0 (p + 3 - sz M₁)).toNat) + sg M₂)
def farE (p M₁ E₁ M₂ : Int) : Int := srE p (2 * (M₁ * 2 ^ (max 0 (p + 3 - sz M₁)).toNat) + sg M₂) (E₁ - max 0 (p + 3 - sz M₁) - 1)
theorem bits_two {a b : Int} {k : Nat} (h : Builtin.Int.intBits a ≤ k) (hb : Builtin.Int.intBits b ≤ 1) : Builtin.Int.intBits (2 * a + b) ≤ k + 2 := by
  have h1 := intBits_le_iff.mp h
  have h3 := intBits_le_iff.mp hb
  refine intBits_le_iff.mpr ?_
  have h2 : 2 ^ (k + 2) = 4 * 2 ^ k := by rw [Nat.pow_succ, Nat.pow_succ]; omega
  omega
theorem bits_sg1 (n : Int) : Builtin.Int.intBits (sg n) ≤ 1 := by
  unfold sg b2i
  by_cases h1 : 0 < n <;> by_cases h2 : n < 0 <;> simp only [h1, h2] <;> decide
section
variable {prog : Program} {w : World} {p : Program} {loose : List Str} {mean : ExcName → Option Value} {mg mb : Str → Option Value}
  {hh : Option Value} {dp un : Nat} {gd : Option (List Code)} {cn : Str} {cs : Scope} {a : Addr} {ccd : Value} {cl : List (Str × Addr)} {outer : List Env} {A₀ : Around} {base h₀ : Heap} {L : Addr} {m : Str → Option Value} {news : List (Addr × Obj)} {s : Shared} {Q E : Value → Shared → Prop}
variable (B : Below A₀ base outer h₀) (F : Fr h₀ L s.heap m) (X : (KK w.params).In h₀) (N : News h₀ L s.heap news) (T : Top p loose mean mg mb h₀) (hk : cs.kind = .function)
include B F X N T hk
variable (H : HIn hh news)
include H
variable {x d : Addr} {M₁ E₁ : Int} {k1 k2 t1 t2 : Tok} (hx : (x, instObj 89 d) ∈ news) (hdx : (d, rdict w M₁ E₁ k1 k2 t1 t2) ∈ news)
variable {y e : Addr} {M₂ E₂ : Int} {k3 k4 t3 t4 : Tok} (hy : (y, instObj 89 e) ∈ news) (hdy : (e, rdict w M₂ E₂ k3 k4 t3 t4) ∈ news)
include hx hdx hy hdy
theorem far_c {p' : Int} {t0 : Tok} (hp1 : 0 ≤ p') (hp2 : p' ≤ 50) (b1 : Builtin.Int.intBits M₁ ≤ 100) (e1 : -400 ≤ E₁) (e2 : E₁ ≤ 400) (hd' : dp + 5 < recursionLimit) (hu : un + 70 < cLine) (k : RetR w h₀ L m news s Q (farM p' M₁ M₂) (farE p' M₁ E₁ M₂)) :
    wpAny (model prog w) (ar hh dp un gd cn cs L a ccd cl outer) (call (.ref 184) [.int p' t0, .ref x, .ref y]) Q E s := by
  have f0 := sz_pos M₁
  have f1 : Builtin.Int.intBits (M₁ * 2 ^ (max 0 (p' + 3 - sz M₁)).toNat) ≤ 160 := bits_shl (j := 60) b1 (by omega)
  have f2 : Builtin.Int.intBits (2 * (M₁ * 2 ^ (max 0 (p' + 3 - sz M₁)).toNat) + sg M₂) ≤ 300 := Nat.le_trans (bits_two f1 (bits_sg1 _)) (by decide)
  walk_at "mine call"
  all_goals (walk_at "mine retR" <;> rfl)
end
theorem rows_8 : True := by
  k_with "call ref" => (k_here; (with_reducible show wpAny _ _ (call (Value.ref 184) _ _) _ _ _); k_dflt (refine' far_c (by k_asm) (by k_asm) (by k_asm) (by k_asm) (by k_asm) (by first | exact rfl | assumption) (by walk_at "mine hin") (by k_mem) (by k_mem) (by k_mem) (by k_mem) (by l_bnd) (by l_bnd) (by walk_at "mine bits") (by l_bnd) (by l_bnd) (by ktr_room) (by ktr_units) ?_); intro x' d' k1' k2' t1' t2' h' tk' F' N'; (try k_sweep))
  trivial
theorem rows_9 : True := by
  k_with "call ref" => (k_here; (with_reducible show wpAny _ _ (call (Value.ref 177) _ _) _ _ _); k_dflt (refine' cmpreal_c (by k_asm) (by k_asm) (by k_asm) (by k_asm) (by k_asm) (by first | exact rfl | assumption) (by walk_at "mine hin") (by k_mem) (by k_mem) (by k_mem) (by k_mem) (by walk_at "mine bits") (by walk_at "mine bits") (by l_bnd) (by l_bnd) (by l_bnd) (by l_bnd) (by ktr_room) (by ktr_units) ?_); intro t' h' tk' F' N'; (try k_sweep))
  trivial
/-- the sum where neither is nought: the great one first -/
def gsM (p M₁ E₁ M₂ E₂ : Int) : Int := if sz M₂ + E₂ < min E₁ (sz M₁ + E₁ - p - 3) then farM p M₁ M₂ else srM p (M₁ * 2 ^ (E₁ - min E₁ E₂).toNat + M₂ * 2 ^ (E₂ - min E₁ E₂).toNat)
def gsE (p M₁ E₁ M₂ E₂ : Int) : Int := if sz M₂ + E₂ < min E₁ (sz M₁ + E₁ - p - 3) then farE p M₁ E₁ M₂ else srE p (M₁ * 2 ^ (E₁ - min E₁ E₂).toNat + M₂ * 2 ^ (E₂ - min E₁ E₂).toNat) (min E₁ E₂)
def adM (p M₁ E₁ M₂ E₂ : Int) : Int := if sg M₁ = 0 ∨ sg M₂ = 0 then srM p (M₁ + M₂) else if sz M₂ + E₂ ≤ sz M₁ + E₁ then gsM p M₁ E₁ M₂ E₂ else gsM p M₂ E₂ M₁ E₁
def adE (p M₁ E₁ M₂ E₂ : Int) : Int := if sg M₁ = 0 ∨ sg M₂ = 0 then srE p (M₁ + M₂) (E₁ + E₂) else if sz M₂ + E₂ ≤ sz M₁ + E₁ then gsE p M₁ E₁ M₂ E₂ else gsE p M₂ E₂ M₁ E₁
theorem bits_sum {a b n k : Int} {i j : Nat} (ha : Builtin.Int.intBits a ≤ i) (hb : Builtin.Int.intBits b ≤ i) (hn : n ≤ j) (hk : k ≤ j) : Builtin.Int.intBits (a * 2 ^ n.toNat + b * 2 ^ k.toNat) ≤ i + j + 1 :=
  Nat.le_trans (PySem.intBits_add_le (bits_shl ha hn) (bits_shl hb hk)) (by omega)
section
variable {prog : Program} {w : World} {p : Program} {loose : List Str} {mean : ExcName → Option Value} {mg mb : Str → Option Value}
  {hh : Option Value} {dp un : Nat} {gd : Option (List Code)} {cn : Str} {cs : Scope} {a : Addr} {ccd : Value} {cl : List (Str × Addr)} {outer : List Env} {A₀ : Around} {base h₀ : Heap} {L : Addr} {m : Str → Option Value} {news : List (Addr × Obj)} {s : Shared} {Q E : Value → Shared → Prop}
variable (B : Below A₀ base outer h₀) (F : Fr h₀ L s.heap m) (X : (KK w.params).In h₀) (N : News h₀ L s.heap news) (T : Top p loose mean mg mb h₀) (hk : cs.kind = .function)
include B F X N T hk
variable (H : HIn hh news)
include H
variable {x d : Addr} {M₁ E₁ : Int} {k1 k2 t1 t2 : Tok} (hx : (x, instObj 89 d) ∈ news) (hdx : (d, rdict w M₁ E₁ k1 k2 t1 t2) ∈ news)
variable {y e : Addr} {M₂ E₂ : Int} {k3 k4 t3 t4 : Tok} (hy : (y, instObj 89 e) ∈ news) (hdy : (e, rdict w M₂ E₂ k3 k4 t3 t4) ∈ news)
include hx hdx hy hdy
theorem add_c {p' : Int} {t0 : Tok} (hp1 : 0 ≤ p') (hp2 : p' ≤ 50) (b1 : Builtin.Int.intBits M₁ ≤ 99) (b2 : Builtin.Int.intBits M₂ ≤ 99) (e1 : -80 ≤ E₁) (e2 : E₁ ≤ 80) (e3 : -80 ≤ E₂) (e4 : E₂ ≤ 80) (hd' : dp + 6 < recursionLimit) (hu : un + 80 < cLine) (k : RetR w h₀ L m news s Q (adM p' M₁ E₁ M₂ E₂) (adE p' M₁ E₁ M₂ E₂)) :
    wpAny (model prog w) (ar hh dp un gd cn cs L a ccd cl outer) (call (.ref 191) [.int p' t0, .ref x, .ref y]) Q E s := by
  have f0 : Builtin.Int.intBits (M₁ + M₂) ≤ 300 := Nat.le_trans (PySem.intBits_add_le b1 b2) (by decide)
  have f1 : Builtin.Int.intBits (M₁ * 2 ^ (E₁ - min E₁ E₂).toNat + M₂ * 2 ^ (E₂ - min E₁ E₂).toNat) ≤ 300 := Nat.le_trans (bits_sum (j := 160) b1 b2 (by omega) (by omega)) (by decide)
  have f2 : Builtin.Int.intBits (M₂ * 2 ^ (E₂ - min E₂ E₁).toNat + M₁ * 2 ^ (E₁ - min E₂ E₁).toNat) ≤ 300 := Nat.le_trans (bits_sum (j := 160) b2 b1 (by omega) (by omega)) (by decide)
  have f3 : Builtin.Int.intBits M₁ ≤ 100 := by omega
  have f4 : Builtin.Int.intBits M₂ ≤ 100 := by omega
  walk_at "mine call"
  all_goals (walk_at "mine retR" <;> (first | unfold adM gsM | unfold adE gsE) <;> ((repeat' split) <;> first | rfl | (exfalso; omega)))
end
theorem bits_neg0 {a : Int} {k : Nat} (h : Builtin.Int.intBits a ≤ k) : Builtin.Int.intBits (0 - a) ≤ k := by
  rw [Int.zero_sub]; exact PySem.intBits_neg_le h
theorem rows_10 : True := by
  k_with "call ref" => (k_here; (with_reducible show wpAny _ _ (call (Value.ref 191) _ _) _ _ _); k_dflt (refine' add_c (by k_asm) (by k_asm) (by k_asm) (by k_asm) (by k_asm) (by first | exact rfl | assumption) (by walk_at "mine hin") (by k_mem) (by k_mem) (by k_mem) (by k_mem) (by l_bnd) (by l_bnd) (by first | exact bits_neg0 (by assumption) | walk_at "mine bits") (by first | exact bits_neg0 (by assumption) | walk_at "mine bits") (by l_bnd) (by l_bnd) (by l_bnd) (by l_bnd) (by ktr_room) (by ktr_units) ?_); intro x' d' k1' k2' t1' t2' h' tk' F' N'; (try k_sweep))
  trivial
section
variable {prog : Program} {w : World} {p : Program} {loose : List Str} {mean : ExcName → Option Value} {mg mb : Str → Option Value}
  {hh : Option Value} {dp un : Nat} {gd : Option (List Code)} {cn : Str} {cs : Scope} {a : Addr} {ccd : Value} {cl : List (Str × Addr)} {outer : List Env} {A₀ : Around} {base h₀ : Heap} {L : Addr} {m : Str → Option Value} {news : List (Addr × Obj)} {s : Shared} {Q E : Value → Shared → Prop}
variable (B : Below A₀ base outer h₀) (F : Fr h₀ L s.heap m) (X : (KK w.params).In h₀) (N : News h₀ L s.heap news) (T : Top p loose mean mg mb h₀) (hk : cs.kind = .function)
include B F X N T hk
variable (H : HIn hh news)
include H
variable {x d : Addr} {M₁ E₁ : Int} {k1 k2 t1 t2 : Tok} (hx : (x, instObj 89 d) ∈ news) (hdx : (d, rdict w M₁ E₁ k1 k2 t1 t2) ∈ news)
variable {y e : Addr} {M₂ E₂ : Int} {k3 k4 t3 t4 : Tok} (hy : (y, instObj 89 e) ∈ news) (hdy : (e, rdict w M₂ E₂ k3 k4 t3 t4) ∈ news)
include hx hdx hy hdy
theorem sub_c {p' : Int} {t0 : Tok} (hp1 : 0 ≤ p') (hp2 : p' ≤ 50) (b1 : Builtin.Int.intBits M₁ ≤ 99) (b2 : Builtin.Int.intBits M₂ ≤ 99) (e1 : -80 ≤ E₁) (e2 : E₁ ≤ 80) (e3 : -80 ≤ E₂) (e4 : E₂ ≤ 80) (hd' : dp + 7 < recursionLimit) (hu : un + 90 < cLine) (k : RetR w h₀ L m news s Q (adM p' M₁ E₁ (0 - M₂) E₂) (adE p' M₁ E₁ (0 - M₂) E₂)) :
    wpAny (model prog w) (ar hh dp un gd cn cs L a ccd cl outer) (call (.ref 198) [.int p' t0, .ref x, .ref y]) Q E s := by
  walk_at "mine call"
  all_goals (walk_at "mine retR" <;> rfl)
end
theorem rows_11 : True := by
  k_with "call ref" => (k_here; (with_reducible show wpAny _ _ (call (Value.ref 198) _ _) _ _ _); k_dflt (refine' sub_c (by k_asm) (by k_asm) (by k_asm) (by k_asm) (by k_asm) (by first | exact rfl | assumption) (by walk_at "mine hin") (by k_mem) (by k_mem) (by k_mem) (by k_mem) (by l_bnd) (by l_bnd) (by walk_at "mine bits") (by walk_at "mine bits") (by l_bnd) (by l_bnd) (by l_bnd) (by l_bnd) (by ktr_room) (by ktr_units) ?_); intro x' d' k1' k2' t1' t2' h' tk' F' N'; (try k_sweep))
  trivial
/-- a mantissa of so many bits and its exponent -/
def fmM (p M : Int) : Int := ab M * 2 ^ (p - sz M).toNat
def fmE (p M E : Int) : Int := E - (p - sz M)
section
variable {prog : Program} {w : World} {p : Program} {loose : List Str} {mean : ExcName → Option Value} {mg mb : Str → Option Value}
  {hh : Option Value} {dp un : Nat} {gd : Option (List Code)} {cn : Str} {cs : Scope} {a : Addr} {ccd : Value} {cl : List (Str × Addr)} {outer : List Env} {A₀ : Around} {base h₀ : Heap} {L : Addr} {m : Str → Option Value} {news : List (Addr × Obj)} {s : Shared} {Q E : Value → Shared → Prop}
variable (B : Below A₀ base outer h₀) (F : Fr h₀ L s.heap m) (X : (KK w.params).In h₀) (N : News h₀ L s.heap news) (T : Top p loose mean mg mb h₀) (hk : cs.kind = .function)
include B F X N T hk
variable (H : HIn hh news)
include H
variable {x d : Addr} {M E₁ : Int} {k1 k2 t1 t2 : Tok} (hx : (x, instObj 89 d) ∈ news) (hdx : (d, rdict w M E₁ k1 k2 t1 t2) ∈ news)
include hx hdx
theorem full_c {p' : Int} {t0 : Tok} (b1 : Builtin.Int.intBits M ≤ 100) (hs : sz M ≤ p') (hp2 : p' ≤ 100) (hd' : dp + 2 < recursionLimit) (hu : un + 30 < cLine) (k : RetT h₀ L m news s Q (fmM p' M) (fmE p' M E₁)) :
    wpAny (model prog w) (ar hh dp un gd cn cs L a ccd cl outer) (call (.ref 205) [.int p' t0, .ref x]) Q E s := by
  have f0 := sz_pos M
  have f1 : Builtin.Int.intBits (if M < 0 then -M else M) ≤ 100 := bits_ab b1
  walk_at "mine call"
  walk_at "mine retT" <;> rfl
end
theorem rows_12 : True := by
  k_with "call ref" => (k_here; (with_reducible show wpAny _ _ (call (Value.ref 205) _ _) _ _ _); k_dflt (refine' full_c (by k_asm) (by k_asm) (by k_asm) (by k_asm) (by k_asm) (by first | exact rfl | assumption) (by walk_at "mine hin") (by k_mem) (by k_mem) (by walk_at "mine bits") (by l_bnd) (by l_bnd) (by ktr_room) (by ktr_units) ?_); intro x' t1' t2' h' tk' F' N'; (try k_sweep))
  trivial
def ftM (p M : Int) : Int := leanM (sg M * (fmM p M + 1))
def ftE (p M E : Int) : Int := leanE (sg M * (fmM p M + 1)) (fmE p M E)
def nrM (p M : Int) : Int := if fmM p M = 1 * 2 ^ (p - 1).toNat then leanM (sg M * (2 * fmM p M - 1)) else leanM (sg M * (fmM p M - 1))
def nrE (p M E : Int) : Int := if fmM p M = 1 * 2 ^ (p - 1).toNat then leanE (sg M * (2 * fmM p M - 1)) (fmE p M E - 1) else leanE (sg M * (fmM p M - 1)) (fmE p M E)
def avM (p M : Int) : Int := if 0 < M then ftM p M else nrM p M
def avE (p M E : Int) : Int := if 0 < M then ftE p M E else nrE p M E
theorem bits_fm {p M : Int} (hs : sz M ≤ p) (hp : p ≤ 100) : Builtin.Int.intBits (fmM p M) ≤ 200 := by
  have f0 := sz_pos M
  have f1 := sz_eq M
  exact Nat.le_trans (bits_shl (k := 100) (j := 100) (bits_ab (by omega)) (by omega)) (by decide)
theorem bits_lin {a c : Int} {k : Nat} (h : Builtin.Int.intBits a ≤ k) (hc1 : -2 ≤ c) (hc2 : c ≤ 2) : Builtin.Int.intBits (a + c) ≤ k + 2 := by
  have h1 := intBits_le_iff.mp h
  refine intBits_le_iff.mpr ?_
  have h2 : 2 ^ (k + 2) = 4 * 2 ^ k := by rw [Nat.pow_succ, Nat.pow_succ]; omega
  omega
section
variable {prog : Program} {w : World} {p : Program} {loose : List Str} {mean : ExcName → Option Value} {mg mb : Str → Option Value}
  {hh : Option Value} {dp un : Nat} {gd : Option (List Code)} {cn : Str} {cs : Scope} {a : Addr} {ccd : Value} {cl : List (Str × Addr)} {outer : List Env} {A₀ : Around} {base h₀ : Heap} {L : Addr} {m : Str → Option Value} {news : List (Addr × Obj)} {s : Shared} {Q E : Value → Shared → Prop}
variable (B : Below A₀ base outer h₀) (F : Fr h₀ L s.heap m) (X : (KK w.params).In h₀) (N : News h₀ L s.heap news) (T : Top p loose mean mg mb h₀) (hk : cs.kind = .function)
include B F X N T hk
variable (H : HIn hh news)
include H
variable {x d : Addr} {M E₁ : Int} {k1 k2 t1 t2 : Tok} (hx : (x, instObj 89 d) ∈ news) (hdx : (d, rdict w M E₁ k1 k2 t1 t2) ∈ news)
include hx hdx
theorem farther_c {p' : Int} {t0 : Tok} (hs : sz M ≤ p') (hp2 : p' ≤ 100) (e1 : -1000 ≤ E₁) (e2 : E₁ ≤ 1000) (hd' : dp + 4 < recursionLimit) (hu : un + 60 < cLine) (k : RetR w h₀ L m news s Q (ftM p' M) (ftE p' M E₁)) :
    wpAny (model prog w) (ar hh dp un gd cn cs L a ccd cl outer) (call (.ref 212) [.int p' t0, .ref x]) Q E s := by
  have f0 := sz_pos M
  have f1 := sz_eq M
  have f2 : Builtin.Int.intBits M ≤ 100 := by omega
  have f3 := bits_sg M
  have f4 := bits_fm hs hp2
  have f5 : Builtin.Int.intBits (fmM p' M + 1) ≤ 202 := bits_lin f4 (by decide) (by decide)
  have f6 : Builtin.Int.intBits (sg M * (fmM p' M + 1)) ≤ 202 := bits_sg_mul f5
  have f7 : fmE p' M E₁ = E₁ - (p' - sz M) := rfl
  walk_at "mine call"
  all_goals (walk_at "mine retR" <;> rfl)
theorem nearer_c {p' : Int} {t0 : Tok} (hp1 : 1 ≤ p') (hs : sz M ≤ p') (hp2 : p' ≤ 100) (e1 : -1000 ≤ E₁) (e2 : E₁ ≤ 1000) (hd' : dp + 4 < recursionLimit) (hu : un + 60 < cLine) (k : RetR w h₀ L m news s Q (nrM p' M) (nrE p' M E₁)) :
    wpAny (model prog w) (ar hh dp un gd cn cs L a ccd cl outer) (call (.ref 219) [.int p' t0, .ref x]) Q E s := by
  have f0 := sz_pos M
  have f1 := sz_eq M
  have f2 : Builtin.Int.intBits M ≤ 100 := by omega
  have f3 := bits_sg M
  have f4 := bits_fm hs hp2
  have f5 : Builtin.Int.intBits (fmM p' M - 1) ≤ 202 := bits_lin (c := -1) f4 (by decide) (by decide)
  have f6 : Builtin.Int.intBits (sg M * (fmM p' M - 1)) ≤ 202 := bits_sg_mul f5
  have f8 : Builtin.Int.intBits (2 * fmM p' M - 1) ≤ 202 := bits_two (b := -1) f4 (by decide)
  have f9 : Builtin.Int.intBits (sg M * (2 * fmM p' M - 1)) ≤ 202 := bits_sg_mul f8
  have f10 : Builtin.Int.intBits (1 : Int) ≤ 1000 := by decide
  have f7 : fmE p' M E₁ = E₁ - (p' - sz M) := rfl
  walk_at "mine call"
  all_goals (walk_at "mine retR" <;> first | exact (if_pos ‹_›).symm | exact (if_neg ‹_›).symm)
end
theorem rows_13 : True := by
  k_with "call ref" => (k_here; (with_reducible show wpAny _ _ (call (Value.ref 212) _ _) _ _ _); k_dflt (refine' farther_c (by k_asm) (by k_asm) (by k_asm) (by k_asm) (by k_asm) (by first | exact rfl | assumption) (by walk_at "mine hin") (by k_mem) (by k_mem) (by l_bnd) (by l_bnd) (by l_bnd) (by l_bnd) (by ktr_room) (by ktr_units) ?_); intro x' d' k1' k2' t1' t2' h' tk' F' N'; (try k_sweep))
  k_with "call ref" => (k_here; (with_reducible show wpAny _ _ (call (Value.ref 219) _ _) _ _ _); k_dflt (refine' nearer_c (by k_asm) (by k_asm) (by k_asm) (by k_asm) (by k_asm) (by first | exact rfl | assumption) (by walk_at "mine hin") (by k_mem) (by k_mem) (by l_bnd) (by l_bnd) (by l_bnd) (by l_bnd) (by l_bnd) (by ktr_room) (by ktr_units) ?_); intro x' d' k1' k2' t1' t2' h' tk' F' N'; (try k_sweep))
  trivial
section
variable {prog : Program} {w : World} {p : Program} {loose : List Str} {mean : ExcName → Option Value} {mg mb : Str → Option Value}
  {hh : Option Value} {dp un : Nat} {gd : Option (List Code)} {cn : Str} {cs : Scope} {a : Addr} {ccd : Value} {cl : List (Str × Addr)} {outer : List Env} {A₀ : Around} {base h₀ : Heap} {L : Addr} {m : Str → Option Value} {news : List (Addr × Obj)} {s : Shared} {Q E : Value → Shared → Prop}
variable (B : Below A₀ base outer h₀) (F : Fr h₀ L s.heap m) (X : (KK w.params).In h₀) (N : News h₀ L s.heap news) (T : Top p loose mean mg mb h₀) (hk : cs.kind = .function)
include B F X N T hk
variable (H : HIn hh news)
include H
variable {x d : Addr} {M E₁ : Int} {k1 k2 t1 t2 : Tok} (hx : (x, instObj 89 d) ∈ news) (hdx : (d, rdict w M E₁ k1 k2 t1 t2) ∈ news)
include hx hdx
theorem above_c {p' : Int} {t0 : Tok} (hM : M ≠ 0) (hp1 : 1 ≤ p') (hs : sz M ≤ p') (hp2 : p' ≤ 100) (e1 : -1000 ≤ E₁) (e2 : E₁ ≤ 1000) (hd' : dp + 5 < recursionLimit) (hu : un + 70 < cLine) (k : RetR w h₀ L m news s Q (avM p' M) (avE p' M E₁)) :
    wpAny (model prog w) (ar hh dp un gd cn cs L a ccd cl outer) (call (.ref 226) [.int p' t0, .ref x]) Q E s := by
  walk_at "mine call"
  all_goals first | (exact absurd ‹M = 0› hM) | (walk_at "mine retR" <;> first | exact (if_pos ‹_›).symm | exact (if_neg ‹_›).symm)
end
theorem sz_neg (M : Int) : sz (0 - M) = sz M := by
  rw [sz_eq, sz_eq]
  unfold Builtin.Int.intBits
  rw [Int.zero_sub, show ((-M == 0) = (M == 0)) from by rw [Bool.eq_iff_iff]; simp, Int.natAbs_neg]
theorem rows_14 : True := by
  k_with "call ref" => (k_here; (with_reducible show wpAny _ _ (call (Value.ref 226) _ _) _ _ _); k_dflt (refine' above_c (by k_asm) (by k_asm) (by k_asm) (by k_asm) (by k_asm) (by first | exact rfl | assumption) (by walk_at "mine hin") (by k_mem) (by k_mem) (by l_bnd) (by l_bnd) (by first | (rw [sz_neg]; l_bnd) | l_bnd) (by l_bnd) (by l_bnd) (by l_bnd) (by ktr_room) (by ktr_units) ?_); intro x' d' k1' k2' t1' t2' h' tk' F' N'; (try k_sweep))
  trivial
section
variable {prog : Program} {w : World} {p : Program} {loose : List Str} {mean : ExcName → Option Value} {mg mb : Str → Option Value}
  {hh : Option Value} {dp un : Nat} {gd : Option (List Code)} {cn : Str} {cs : Scope} {a : Addr} {ccd : Value} {cl : List (Str × Addr)} {outer : List Env} {A₀ : Around} {base h₀ : Heap} {L : Addr} {m : Str → Option Value} {news : List (Addr × Obj)} {s : Shared} {Q E : Value → Shared → Prop}
variable (B : Below A₀ base outer h₀) (F : Fr h₀ L s.heap m) (X : (KK w.params).In h₀) (N : News h₀ L s.heap news) (T : Top p loose mean mg mb h₀) (hk : cs.kind = .function)
include B F X N T hk
variable (H : HIn hh news)
include H
variable {x d : Addr} {M E₁ : Int} {k1 k2 t1 t2 : Tok} (hx : (x, instObj 89 d) ∈ news) (hdx : (d, rdict w M E₁ k1 k2 t1 t2) ∈ news)
include hx hdx
theorem below_c {p' : Int} {t0 : Tok} (hM : M ≠ 0) (hp1 : 1 ≤ p') (hs : sz M ≤ p') (hp2 : p' ≤ 100) (e1 : -1000 ≤ E₁) (e2 : E₁ ≤ 1000) (hd' : dp + 6 < recursionLimit) (hu : un + 80 < cLine) (k : RetR w h₀ L m news s Q (0 - avM p' (0 - M)) (avE p' (0 - M) E₁)) :
    wpAny (model prog w) (ar hh dp un gd cn cs L a ccd cl outer) (call (.ref 233) [.int p' t0, .ref x]) Q E s := by
  have f0 : 0 - M ≠ 0 := by omega
  walk_at "mine call"
  all_goals (walk_at "mine retR" <;> rfl)
end
theorem rows_15 : True := by
  k_with "call ref" => (k_here; (with_reducible show wpAny _ _ (call (Value.ref 233) _ _) _ _ _); k_dflt (refine' below_c (by k_asm) (by k_asm) (by k_asm) (by k_asm) (by k_asm) (by first | exact rfl | assumption) (by walk_at "mine hin") (by k_mem) (by k_mem) (by l_bnd) (by l_bnd) (by l_bnd) (by l_bnd) (by l_bnd) (by l_bnd) (by ktr_room) (by ktr_units) ?_); intro x' d' k1' k2' t1' t2' h' tk' F' N'; (try k_sweep))
  trivial
theorem two_part (n : Int) (h : n ≠ 0) : ∃ (j : Nat) (a : Int), n = 2 ^ j * (2 * a + 1) := by
  have key : ∀ k : Nat, ∀ x : Int, x.natAbs = k → x ≠ 0 → ∃ (j : Nat) (a : Int), x = 2 ^ j * (2 * a + 1) := by
    intro k
    induction k using Nat.strongRecOn with
    | ind k ih =>
      intro x hx h0
      by_cases h1 : x % 2 = 1
      · exact ⟨0, x / 2, by rw [Int.pow_zero, Int.one_mul]; omega⟩
      · obtain ⟨j, a, e⟩ := ih (x / 2).natAbs (by omega) (x / 2) rfl (by omega)
        refine ⟨j + 1, a, ?_⟩
        rw [Int.pow_succ, Int.mul_comm (2 ^ j) 2, Int.mul_assoc, ← e]
        omega
  exact key _ n rfl h
theorem intBits_pow (j : Nat) : Builtin.Int.intBits ((2 : Int) ^ j) = j + 1 := by
  have h1 : Builtin.Int.intBits ((2 : Int) ^ j) ≤ j + 1 := intBits_le_iff.mpr (by rw [Int.natAbs_pow]; exact Nat.pow_lt_pow_right (by decide) (Nat.lt_succ_self j))
  have h2 : ¬ Builtin.Int.intBits ((2 : Int) ^ j) ≤ j := fun h => by
    have := intBits_le_iff.mp h
    rw [Int.natAbs_pow] at this
    exact Nat.lt_irrefl _ this
  omega
theorem zb_of (j : Nat) (a : Int) : zb (2 ^ j * (2 * a + 1)) = j := by
  unfold zb
  rw [Int.zero_sub, kbt_low, intBits_pow]
  omega
theorem odd_ne (j : Nat) (a : Int) : (2 : Int) ^ j * (2 * a + 1) ≠ 0 := by
  intro h
  rcases Int.mul_eq_zero.mp h with h | h
  · have := kbt_pos j; omega
  · omega
theorem leanM_of (j : Nat) (a : Int) : leanM (2 ^ j * (2 * a + 1)) = 2 * a + 1 := by
  unfold leanM
  rw [if_neg (odd_ne j a), zb_of, Int.toNat_natCast, Int.fdiv_eq_ediv_of_nonneg _ (Int.le_of_lt (kbt_pos j))]
  exact Int.mul_ediv_cancel_left _ (Int.ne_of_gt (kbt_pos j))
theorem leanE_of (j : Nat) (a e : Int) : leanE (2 ^ j * (2 * a + 1)) e = e + j := by
  unfold leanE
  rw [if_neg (odd_ne j a), zb_of]
theorem lean_half (n e : Int) (h : n ≠ 0) (h2 : n.fmod 2 = 0) : n.fdiv 2 ≠ 0 ∧ leanM (n.fdiv 2) = leanM n ∧ leanE (n.fdiv 2) (e + 1) = leanE n e := by
  obtain ⟨j, a, rfl⟩ := two_part n h
  cases j with
  | zero => rw [Int.pow_zero, Int.one_mul, Int.fmod_eq_emod_of_nonneg _ (by decide)] at h2; omega
  | succ j =>
    have e1 : ((2 : Int) ^ (j + 1) * (2 * a + 1)).fdiv 2 = 2 ^ j * (2 * a + 1) := by
      rw [Int.fdiv_eq_ediv_of_nonneg _ (by decide), Int.pow_succ, Int.mul_comm (2 ^ j) 2, Int.mul_assoc]
      exact Int.mul_ediv_cancel_left _ (by decide)
    rw [e1, leanM_of, leanM_of, leanE_of, leanE_of]
    exact ⟨odd_ne j a, rfl, by omega⟩
theorem lean_odd (n e : Int) (h : n ≠ 0) (h2 : n.fmod 2 ≠ 0) : leanM n = n ∧ leanE n e = e := by
  obtain ⟨j, a, rfl⟩ := two_part n h
  cases j with
  | zero => rw [leanM_of, leanE_of, Int.pow_zero, Int.one_mul]; exact ⟨rfl, by omega⟩
  | succ j =>
    refine absurd ?_ h2
    rw [Int.fmod_eq_emod_of_nonneg _ (by decide), Int.pow_succ, Int.mul_comm (2 ^ j) 2, Int.mul_assoc]
    exact Int.mul_emod_right _ _
section
variable {prog : Program} {w : World} {p : Program} {loose : List Str} {mean : ExcName → Option Value} {mg mb : Str → Option Value}
  {hh : Option Value} {dp un : Nat} {gd : Option (List Code)} {cn : Str} {cs : Scope} {a : Addr} {ccd : Value} {cl : List (Str × Addr)} {outer : List Env} {A₀ : Around} {base h₀ : Heap} {L : Addr} {m : Str → Option Value} {news : List (Addr × Obj)} {s : Shared} {Q E : Value → Shared → Prop}
variable (B : Below A₀ base outer h₀) (F : Fr h₀ L s.heap m) (X : (KK w.params).In h₀) (N : News h₀ L s.heap news) (T : Top p loose mean mg mb h₀) (hk : cs.kind = .function)
include B F X N T hk
theorem told_c {x d : Addr} {M E₁ : Int} {k1 k2 t1 t2 : Tok} (hx : (x, instObj 89 d) ∈ news) (hdx : (d, rdict w M E₁ k1 k2 t1 t2) ∈ news)
    (hd' : dp + 1 < recursionLimit) (hu : un + 20 < cLine) (k : RetT h₀ L m news s Q M E₁) :
    wpAny (model prog w) (ar hh dp un gd cn cs L a ccd cl outer) (call (.ref 273) [.ref x]) Q E s := by
  walk_at "mine call"
  walk_at "mine retT" <;> rfl
theorem whole_c {x : Addr} {M E₁ low : Int} {t0 t1 t2 : Tok} (hx : (x, tupObj [.int M t1, .int E₁ t2]) ∈ news) (b1 : Builtin.Int.intBits M ≤ 300) (e1 : low ≤ E₁) (e2 : E₁ - low ≤ 900)
    (hd' : dp + 1 < recursionLimit) (hu : un + 20 < cLine) (k : RetI h₀ L m news s Q (M * 2 ^ (E₁ - low).toNat)) :
    wpAny (model prog w) (ar hh dp un gd cn cs L a ccd cl outer) (call (.ref 254) [.ref x, .int low t0]) Q E s := by
  have f0 : Builtin.Int.intBits ((2 : Int) ^ (E₁ - low).toNat) ≤ 1000 := by rw [intBits_pow]; omega
  walk_at "mine call"
  walk_at "mine retI"
  rfl
end
theorem odd_step {x y n e : Int} (i0 : x ≠ 0) (i1 : leanM x = leanM n) (i2 : leanE x y = leanE n e) (h : x.fmod 2 = 0) : x.fdiv 2 ≠ 0 ∧ leanM (x.fdiv 2) = leanM n ∧ leanE (x.fdiv 2) (y + 1) = leanE n e := by
  obtain ⟨h1, h2, h3⟩ := lean_half x y i0 h
  exact ⟨h1, h2.trans i1, h3.trans i2⟩
theorem odd_less {x : Int} (i0 : x ≠ 0) : (x.fdiv 2).natAbs < x.natAbs ∨ x.fmod 2 ≠ 0 := by
  rw [Int.fdiv_eq_ediv_of_nonneg _ (by decide), Int.fmod_eq_emod_of_nonneg _ (by decide)]
  omega
theorem odd_less' {x : Int} (i0 : x ≠ 0) (h : x.fmod 2 = 0) : (x.fdiv 2).natAbs < x.natAbs := (odd_less i0).resolve_right fun g => g h
theorem odd_end {x y n e : Int} (i0 : x ≠ 0) (i1 : leanM x = leanM n) (i2 : leanE x y = leanE n e) (h : x.fmod 2 ≠ 0) : x = leanM n ∧ y = leanE n e := by
  obtain ⟨h1, h2⟩ := lean_odd x y i0 h
  exact ⟨h1.symm.trans i1, h2.symm.trans i2⟩
theorem odd_end1 {x y n e : Int} (i0 : x ≠ 0) (i1 : leanM x = leanM n) (i2 : leanE x y = leanE n e) (h : x.fmod 2 ≠ 0) : x = leanM n := (odd_end i0 i1 i2 h).1
theorem odd_end2 {x y n e : Int} (i2 : leanE x y = leanE n e) (i0 : x ≠ 0) (i1 : leanM x = leanM n) (h : x.fmod 2 ≠ 0) : y = leanE n e := (odd_end i0 i1 i2 h).2
/-- as RetT, and the tuple lies above what was -/
abbrev RetTF (h₀ : Heap) (L : Addr) (m : Str → Option Value) (news : List (Addr × Obj)) (s : Shared) (Q : Value → Shared → Prop) (a b : Int) : Prop :=
  ∀ x t1 t2 h' tk', AllLt x news → Fr h₀ L h' m → News h₀ L h' ((x, tupObj [.int a t1, .int b t2]) :: news) → Q (.ref x) { s with heap := h', toks := tk' }
theorem retTF_end {h₀ h' : Heap} {L x : Addr} {m : Str → Option Value} {news : List (Addr × Obj)} {s : Shared} {Q : Value → Shared → Prop} {M E M' E' : Int} {t1 t2 : Tok} {tk' : Nat} (k : RetTF h₀ L m news s Q M E)
    (F : Fr h₀ L h' m) (N : News h₀ L h' ((x, tupObj [.int M' t1, .int E' t2]) :: news)) (l : AllLt x news) (hM : M' = M) (hE : E' = E) : Q (.ref x) { s with heap := h', toks := tk' } := by
  subst hM hE
  exact k _ _ _ _ _ l F N
theorem rows_16 : True := by
  k_with "mine last" => first | with_reducible assumption | exact allLt_of (by with_reducible assumption) | exact And.right (by with_reducible assumption) | exact And.right (And.right (by with_reducible assumption)) | exact And.right (And.right (And.right (by with_reducible assumption)))
  k_with "mine retTF" => ((try dsimp only); refine retTF_end (by assumption) (by k_asm) (cb_drop (by k_asm) (List.forall_mem_cons.mpr ⟨by k_mem, by walk_at "mine tail"⟩)) (by walk_at "mine last") ?_ ?_)
  trivial
section
variable {prog : Program} {w : World} {p : Program} {loose : List Str} {mean : ExcName → Option Value} {mg mb : Str → Option Value}
  {hh : Option Value} {dp un : Nat} {gd : Option (List Code)} {cn : Str} {cs : Scope} {a : Addr} {ccd : Value} {cl : List (Str × Addr)} {outer : List Env} {A₀ : Around} {base h₀ : Heap} {L : Addr} {m : Str → Option Value} {news : List (Addr × Obj)} {s : Shared} {Q E : Value → Shared → Prop}
variable (B : Below A₀ base outer h₀) (F : Fr h₀ L s.heap m) (X : (KK w.params).In h₀) (N : News h₀ L s.heap news) (T : Top p loose mean mg mb h₀) (hk : cs.kind = .function)
include B F X N T hk
variable (H : HIn hh news)
include H
theorem odd_c {n e : Int} {t0 t1 : Tok} (hd' : dp + 1 < recursionLimit) (hu : un + 20 < cLine) (k : RetTF h₀ L m news s Q (leanM n) (leanE n e)) :
    wpAny (model prog w) (ar hh dp un gd cn cs L a ccd cl outer) (call (.ref 240) [.int n t0, .int e t1]) Q E s := by
  k_with_none
  k_with "mine enter" => (refine' code_def ?k1 ?k2 ?k3 ?k4 ?k5 ?kA ?kF ?kK ?k6 ?k7 ?k8 ?k9 ?kB ?_ ?c2 ?c3 ?c4 ?c5; (case kA => exact rfl); (case kF => exact rfl); (case kK => first | exact rfl | assumption); (case k1 => k_asm); (case k2 => k_asm); (case k3 => k_asm); (case k4 => k_asm); (case k5 => k_asm); (case k6 => k_is); (case k7 => k_is); (case k8 => ktr_room); (case k9 => exact BindsTo.of_eq rfl); (case c5 => decide); (case kB => exact locs rfl); (case c2 => exact rfl); (case c3 => exact rfl); (case c4 => exact rfl); k_whole; intro g' L' h' FG' F' N' B' X' T'; (try dsimp only); (try k_fold))
  k_with "mine call" => (refine wpAny_call ?_; k_dflt (walk_at "mine enter"); k_steps)
  k_with "mine tail" => (intro p9 h9; repeat (first | exact h9 | refine List.Mem.tail _ ?_))
  k_with "mine retR" => ((try dsimp only); refine retR_end (by assumption) (by k_asm) (cb_drop (by k_asm) (List.forall_mem_cons.mpr ⟨by k_mem, List.forall_mem_cons.mpr ⟨by k_mem, by walk_at "mine tail"⟩⟩)) ?_ ?_)
  k_with "mine retT" => ((try dsimp only); refine retT_end (by assumption) (by k_asm) (cb_drop (by k_asm) (List.forall_mem_cons.mpr ⟨by k_mem, by walk_at "mine tail"⟩)) ?_ ?_)
  k_with "mine retI" => ((try dsimp only); refine retI_end (by assumption) (by k_asm) (cb_drop (by k_asm) (by walk_at "mine tail")) ?_)
  k_with "mine retB" => ((try dsimp only); refine retB_end (by assumption) (by k_asm) (cb_drop (by k_asm) (by walk_at "mine tail")) ?_)
  k_with "call ref" => (k_here; (with_reducible show wpAny _ _ (call (Value.ref 107) _ _) _ _ _); k_dflt (refine' sign_c (by k_asm) (by k_asm) (by k_asm) (by k_asm) (by k_asm) (by first | exact rfl | assumption) (by ktr_room) (by ktr_units) ?_); intro t' h' tk' F' N'; (try k_sweep))
  k_with "call ref" => (k_here; (with_reducible show wpAny _ _ (call (Value.ref 100) _ _) _ _ _); k_dflt (refine' size_c (by k_asm) (by k_asm) (by k_asm) (by k_asm) (by k_asm) (by first | exact rfl | assumption) (by ktr_room) (by ktr_units) ?_); intro t' h' tk' F' N'; (try k_sweep))
  k_with "call ref" => (k_here; (with_reducible show wpAny _ _ (call (Value.ref 114) _ _) _ _ _); k_dflt (refine' zeros_c (by k_asm) (by k_asm) (by k_asm) (by k_asm) (by k_asm) (by first | exact rfl | assumption) (by ktr_room) (by ktr_units) ?_); intro t' h' tk' F' N'; (try k_sweep))
  k_with "call ref" => (k_here; (with_reducible show wpAny _ _ (call (Value.ref 89) _ _) _ _ _); k_dflt (refine' real_c (by k_asm) (by k_asm) (by k_asm) (by k_asm) (by k_asm) (by first | exact rfl | assumption) (by ktr_room) (by ktr_units) ?_); intro x' d' k1' k2' t1' t2' h' tk' F' N'; (try k_sweep))
  k_with "mine hin" => exact HIn.up (by assumption) (by intro p9 h9; repeat (first | exact h9 | refine List.Mem.tail _ ?_))
  k_with "unpackItems ref" => (k_here; k_dflt (refine' unpackN_H ?k0 ?k1 ?k2 ?k3 ?k5 ?_; (case k1 => k_asm); (case k2 => k_asm); (case k0 => walk_at "mine hin"); (case k3 => kun_tup); (case k5 => exact rfl); k_whole); intro h' F' N'; (try k_sweep))
  k_with "assign Tuple" => (k_here; (with_reducible show wpAny _ _ (assign (Expr.Tuple _ _ _) _ (Value.ref _)) _ _ _); k_dflt (refine' assignT_H ?k0 ?k1 ?k2 ?k3 ?k5 ?k6 ?_; (case k1 => k_asm); (case k2 => k_asm); (case k0 => walk_at "mine hin"); (case k3 => kun_tup); (case k5 => exact rfl); (case k6 => exact rfl); k_whole); intro h' F' N'; (try k_sweep))
  k_with "call builtin:min" => (k_here; (with_reducible show wpAny _ _ (call (Value.builtin _) [Value.int _ _, Value.int _ _]) _ _ _); k_dflt (refine' min_H ?k0 ?k1 ?k2 ?_; (case k1 => k_asm); (case k2 => k_asm); (case k0 => walk_at "mine hin"); k_whole); intro t' h' tk' F' N'; (try k_sweep))
  k_with "call builtin:max" => (k_here; (with_reducible show wpAny _ _ (call (Value.builtin _) [Value.int _ _, Value.int _ _]) _ _ _); k_dflt (refine' max_H ?k0 ?k1 ?k2 ?_; (case k1 => k_asm); (case k2 => k_asm); (case k0 => walk_at "mine hin"); k_whole); intro t' h' tk' F' N'; (try k_sweep))
  k_with "mine bits" => first | assumption | (refine Nat.le_trans (by assumption) (by decide)) | decide | bits_by_make
  k_with "binaryOp LShift int int" => (k_here; (with_reducible refine lshift_int ?kbn ?kbs ?_); (case kbn => l_bnd); (case kbs => (refine' kbm_shl (m := 1000) ?kba ?kbc ?kbd; (case kba => walk_at "mine bits"); (case kbc => l_bnd); (case kbd => decide))))
  k_with "binaryOp Mult int int" => (k_here; with_reducible refine mul_int ?_ (mulOk_of_bits (m := 1000) (n := 1000) (by walk_at "mine bits") (by walk_at "mine bits") (by decide)))
  k_with "call ref" => (k_here; (with_reducible show wpAny _ _ (call (Value.ref 121) _ _) _ _ _); k_dflt (refine' lean_c (by k_asm) (by k_asm) (by k_asm) (by k_asm) (by k_asm) (by first | exact rfl | assumption) (by walk_at "mine hin") (by first | assumption | walk_at "mine bits") (by l_bnd) (by l_bnd) (by ktr_room) (by ktr_units) ?_); intro x' d' k1' k2' t1' t2' h' tk' F' N'; (try k_sweep))
  k_with "call ref" => (k_here; (with_reducible show wpAny _ _ (call (Value.ref 128) _ _) _ _ _); k_dflt (refine' nearest_c (by k_asm) (by k_asm) (by k_asm) (by k_asm) (by k_asm) (by first | exact rfl | assumption) (by walk_at "mine hin") (by first | assumption | walk_at "mine bits") (by l_bnd) (by l_bnd) (by ktr_room) (by ktr_units) ?_); intro t' h' tk' F' N'; (try k_sweep))
  k_with "call ref" => (k_here; (with_reducible show wpAny _ _ (call (Value.ref 135) _ _) _ _ _); k_dflt (refine' shifted_c (by k_asm) (by k_asm) (by k_asm) (by k_asm) (by k_asm) (by first | exact rfl | assumption) (by walk_at "mine hin") (by walk_at "mine bits") (by l_bnd) (by l_bnd) (by l_bnd) (by l_bnd) (by ktr_room) (by ktr_units) ?_); intro x' d' k1' k2' t1' t2' h' tk' F' N'; (try k_sweep))
  k_with "call ref" => (k_here; (with_reducible show wpAny _ _ (call (Value.ref 142) _ _) _ _ _); k_dflt (refine' place_c (by k_asm) (by k_asm) (by k_asm) (by k_asm) (by k_asm) (by first | exact rfl | assumption) (by k_mem) (by k_mem) (by ktr_room) (by ktr_units) ?_); intro t' h' tk' F' N'; (try k_sweep))
  k_with "call ref" => (k_here; (with_reducible show wpAny _ _ (call (Value.ref 149) _ _) _ _ _); k_dflt (refine' signof_c (by k_asm) (by k_asm) (by k_asm) (by k_asm) (by k_asm) (by first | exact rfl | assumption) (by k_mem) (by k_mem) (by ktr_room) (by ktr_units) ?_); intro t' h' tk' F' N'; (try k_sweep))
  k_with "call ref" => (k_here; (with_reducible show wpAny _ _ (call (Value.ref 156) _ _) _ _ _); k_dflt (refine' negative_c (by k_asm) (by k_asm) (by k_asm) (by k_asm) (by k_asm) (by first | exact rfl | assumption) (by k_mem) (by k_mem) (by ktr_room) (by ktr_units) ?_); intro x' d' k1' k2' t1' t2' h' tk' F' N'; (try k_sweep))
  k_with "call ref" => (k_here; (with_reducible show wpAny _ _ (call (Value.ref 163) _ _) _ _ _); k_dflt (refine' magnitude_c (by k_asm) (by k_asm) (by k_asm) (by k_asm) (by k_asm) (by first | exact rfl | assumption) (by k_mem) (by k_mem) (by ktr_room) (by ktr_units) ?_); intro x' d' k1' k2' t1' t2' h' tk' F' N'; (try k_sweep))
  k_with "call ref" => (k_here; (with_reducible show wpAny _ _ (call (Value.ref 170) _ _) _ _ _); k_dflt (refine' cmpmag_c (by k_asm) (by k_asm) (by k_asm) (by k_asm) (by k_asm) (by first | exact rfl | assumption) (by walk_at "mine hin") (by k_mem) (by k_mem) (by k_mem) (by k_mem) (by walk_at "mine bits") (by walk_at "mine bits") (by l_bnd) (by l_bnd) (by l_bnd) (by l_bnd) (by ktr_room) (by ktr_units) ?_); intro t' h' tk' F' N'; (try k_sweep))
  k_with "call ref" => (k_here; (with_reducible show wpAny _ _ (call (Value.ref 184) _ _) _ _ _); k_dflt (refine' far_c (by k_asm) (by k_asm) (by k_asm) (by k_asm) (by k_asm) (by first | exact rfl | assumption) (by walk_at "mine hin") (by k_mem) (by k_mem) (by k_mem) (by k_mem) (by l_bnd) (by l_bnd) (by walk_at "mine bits") (by l_bnd) (by l_bnd) (by ktr_room) (by ktr_units) ?_); intro x' d' k1' k2' t1' t2' h' tk' F' N'; (try k_sweep))
  k_with "call ref" => (k_here; (with_reducible show wpAny _ _ (call (Value.ref 177) _ _) _ _ _); k_dflt (refine' cmpreal_c (by k_asm) (by k_asm) (by k_asm) (by k_asm) (by k_asm) (by first | exact rfl | assumption) (by walk_at "mine hin") (by k_mem) (by k_mem) (by k_mem) (by k_mem) (by walk_at "mine bits") (by walk_at "mine bits") (by l_bnd) (by l_bnd) (by l_bnd) (by l_bnd) (by ktr_room) (by ktr_units) ?_); intro t' h' tk' F' N'; (try k_sweep))
  k_with "call ref" => (k_here; (with_reducible show wpAny _ _ (call (Value.ref 191) _ _) _ _ _); k_dflt (refine' add_c (by k_asm) (by k_asm) (by k_asm) (by k_asm) (by k_asm) (by first | exact rfl | assumption) (by walk_at "mine hin") (by k_mem) (by k_mem) (by k_mem) (by k_mem) (by l_bnd) (by l_bnd) (by first | exact bits_neg0 (by assumption) | walk_at "mine bits") (by first | exact bits_neg0 (by assumption) | walk_at "mine bits") (by l_bnd) (by l_bnd) (by l_bnd) (by l_bnd) (by ktr_room) (by ktr_units) ?_); intro x' d' k1' k2' t1' t2' h' tk' F' N'; (try k_sweep))
  k_with "call ref" => (k_here; (with_reducible show wpAny _ _ (call (Value.ref 198) _ _) _ _ _); k_dflt (refine' sub_c (by k_asm) (by k_asm) (by k_asm) (by k_asm) (by k_asm) (by first | exact rfl | assumption) (by walk_at "mine hin") (by k_mem) (by k_mem) (by k_mem) (by k_mem) (by l_bnd) (by l_bnd) (by walk_at "mine bits") (by walk_at "mine bits") (by l_bnd) (by l_bnd) (by l_bnd) (by l_bnd) (by ktr_room) (by ktr_units) ?_); intro x' d' k1' k2' t1' t2' h' tk' F' N'; (try k_sweep))
  k_with "call ref" => (k_here; (with_reducible show wpAny _ _ (call (Value.ref 205) _ _) _ _ _); k_dflt (refine' full_c (by k_asm) (by k_asm) (by k_asm) (by k_asm) (by k_asm) (by first | exact rfl | assumption) (by walk_at "mine hin") (by k_mem) (by k_mem) (by walk_at "mine bits") (by l_bnd) (by l_bnd) (by ktr_room) (by ktr_units) ?_); intro x' t1' t2' h' tk' F' N'; (try k_sweep))
  k_with "call ref" => (k_here; (with_reducible show wpAny _ _ (call (Value.ref 212) _ _) _ _ _); k_dflt (refine' farther_c (by k_asm) (by k_asm) (by k_asm) (by k_asm) (by k_asm) (by first | exact rfl | assumption) (by walk_at "mine hin") (by k_mem) (by k_mem) (by l_bnd) (by l_bnd) (by l_bnd) (by l_bnd) (by ktr_room) (by ktr_units) ?_); intro x' d' k1' k2' t1' t2' h' tk' F' N'; (try k_sweep))
  k_with "call ref" => (k_here; (with_reducible show wpAny _ _ (call (Value.ref 219) _ _) _ _ _); k_dflt (refine' nearer_c (by k_asm) (by k_asm) (by k_asm) (by k_asm) (by k_asm) (by first | exact rfl | assumption) (by walk_at "mine hin") (by k_mem) (by k_mem) (by l_bnd) (by l_bnd) (by l_bnd) (by l_bnd) (by l_bnd) (by ktr_room) (by ktr_units) ?_); intro x' d' k1' k2' t1' t2' h' tk' F' N'; (try k_sweep))
  k_with "call ref" => (k_here; (with_reducible show wpAny _ _ (call (Value.ref 226) _ _) _ _ _); k_dflt (refine' above_c (by k_asm) (by k_asm) (by k_asm) (by k_asm) (by k_asm) (by first | exact rfl | assumption) (by walk_at "mine hin") (by k_mem) (by k_mem) (by l_bnd) (by l_bnd) (by first | (rw [sz_neg]; l_bnd) | l_bnd) (by l_bnd) (by l_bnd) (by l_bnd) (by ktr_room) (by ktr_units) ?_); intro x' d' k1' k2' t1' t2' h' tk' F' N'; (try k_sweep))
  k_with "call ref" => (k_here; (with_reducible show wpAny _ _ (call (Value.ref 233) _ _) _ _ _); k_dflt (refine' below_c (by k_asm) (by k_asm) (by k_asm) (by k_asm) (by k_asm) (by first | exact rfl | assumption) (by walk_at "mine hin") (by k_mem) (by k_mem) (by l_bnd) (by l_bnd) (by l_bnd) (by l_bnd) (by l_bnd) (by l_bnd) (by ktr_room) (by ktr_units) ?_); intro x' d' k1' k2' t1' t2' h' tk' F' N'; (try k_sweep))
  k_with "mine last" => first | with_reducible assumption | exact allLt_of (by with_reducible assumption) | exact And.right (by with_reducible assumption) | exact And.right (And.right (by with_reducible assumption)) | exact And.right (And.right (And.right (by with_reducible assumption)))
  k_with "mine retTF" => ((try dsimp only); refine retTF_end (by assumption) (by k_asm) (cb_drop (by k_asm) (List.forall_mem_cons.mpr ⟨by k_mem, by walk_at "mine tail"⟩)) (by walk_at "mine last") ?_ ?_)
  k_with "exec While Compare cons nil" => k_while (fun _ m' e' => m' ≠ 0 ∧ leanM m' = leanM n ∧ leanE m' e' = leanE n e) (fun _ m' _ => m'.natAbs) "mantissa" "exponent"
  k_with "state" => first | exact odd_step (by assumption) (by assumption) (by assumption) (by assumption) | exact ⟨by assumption, rfl, rfl⟩
  k_with "measure" => exact odd_less' (by assumption) (by assumption)
  walk_at "mine call"
  · walk_at "mine retTF"
    · exact (if_pos ‹n = 0›).symm
    · exact (if_pos ‹n = 0›).symm
  · walk_at "mine retTF"
    · exact odd_end1 (by assumption) (by assumption) (by assumption) (by assumption)
    · exact odd_end2 (by assumption) (by assumption) (by assumption) (by assumption)
end
theorem rows_17 : True := by
  k_with "call ref" => (k_here; (with_reducible show wpAny _ _ (call (Value.ref 273) _ _) _ _ _); k_dflt (refine' told_c (by k_asm) (by k_asm) (by k_asm) (by k_asm) (by k_asm) (by first | exact rfl | assumption) (by k_mem) (by k_mem) (by ktr_room) (by ktr_units) ?_); intro x' t1' t2' h' tk' F' N'; (try k_sweep))
  k_with "call ref" => (k_here; (with_reducible show wpAny _ _ (call (Value.ref 254) _ _) _ _ _); k_dflt (refine' whole_c (by k_asm) (by k_asm) (by k_asm) (by k_asm) (by k_asm) (by first | exact rfl | assumption) (by k_mem) (by walk_at "mine bits") (by l_bnd) (by l_bnd) (by ktr_room) (by ktr_units) ?_); intro t' h' tk' F' N'; (try k_sweep))
  k_with "call ref" => (k_here; (with_reducible show wpAny _ _ (call (Value.ref 240) _ _) _ _ _); k_dflt (refine' odd_c (by k_asm) (by k_asm) (by k_asm) (by k_asm) (by k_asm) (by first | exact rfl | assumption) (by walk_at "mine hin") (by ktr_room) (by ktr_units) ?_); (intro x' t1' t2' h' tk' l9' F' N'; (try simp only [AllLt, and_true] at l9')); (try k_sweep))
  trivial
/-- the pair of a code -/
def pc1 (b c : Int) : Int := c.fdiv (2 ^ b.toNat)
def pE (b c : Int) : Int := if ((pc1 b c).fdiv 9).fmod 3 = 2 then 6 * ((pc1 b c).fmod 9 - 4) else (pc1 b c).fmod 9 - 4
def pM (b c : Int) : Int := if (((pc1 b c).fdiv 9).fdiv 3).fmod 2 = 0 then c.fmod (2 ^ b.toNat) + 1 else 0 - (c.fmod (2 ^ b.toNat) + 1)
section
variable {prog : Program} {w : World} {p : Program} {loose : List Str} {mean : ExcName → Option Value} {mg mb : Str → Option Value}
  {hh : Option Value} {dp un : Nat} {gd : Option (List Code)} {cn : Str} {cs : Scope} {a : Addr} {ccd : Value} {cl : List (Str × Addr)} {outer : List Env} {A₀ : Around} {base h₀ : Heap} {L : Addr} {m : Str → Option Value} {news : List (Addr × Obj)} {s : Shared} {Q E : Value → Shared → Prop}
variable (B : Below A₀ base outer h₀) (F : Fr h₀ L s.heap m) (X : (KK w.params).In h₀) (N : News h₀ L s.heap news) (T : Top p loose mean mg mb h₀) (hk : cs.kind = .function)
include B F X N T hk
variable (H : HIn hh news)
include H
theorem pair_c {b c : Int} {t0 t1 : Tok} (hb1 : 0 ≤ b) (hb2 : b ≤ 50) (hd' : dp + 2 < recursionLimit) (hu : un + 30 < cLine) (k : RetTF h₀ L m news s Q (leanM (pM b c)) (leanE (pM b c) (pE b c))) :
    wpAny (model prog w) (ar hh dp un gd cn cs L a ccd cl outer) (call (.ref 247) [.int b t0, .int c t1]) Q E s := by
  k_with_none
  k_with "mine enter" => (refine' code_def ?k1 ?k2 ?k3 ?k4 ?k5 ?kA ?kF ?kK ?k6 ?k7 ?k8 ?k9 ?kB ?_ ?c2 ?c3 ?c4 ?c5; (case kA => exact rfl); (case kF => exact rfl); (case kK => first | exact rfl | assumption); (case k1 => k_asm); (case k2 => k_asm); (case k3 => k_asm); (case k4 => k_asm); (case k5 => k_asm); (case k6 => k_is); (case k7 => k_is); (case k8 => ktr_room); (case k9 => exact BindsTo.of_eq rfl); (case c5 => decide); (case kB => exact locs rfl); (case c2 => exact rfl); (case c3 => exact rfl); (case c4 => exact rfl); k_whole; intro g' L' h' FG' F' N' B' X' T'; (try dsimp only); (try k_fold))
  k_with "mine call" => (refine wpAny_call ?_; k_dflt (walk_at "mine enter"); k_steps)
  k_with "mine tail" => (intro p9 h9; repeat (first | exact h9 | refine List.Mem.tail _ ?_))
  k_with "mine retR" => ((try dsimp only); refine retR_end (by assumption) (by k_asm) (cb_drop (by k_asm) (List.forall_mem_cons.mpr ⟨by k_mem, List.forall_mem_cons.mpr ⟨by k_mem, by walk_at "mine tail"⟩⟩)) ?_ ?_)
  k_with "mine retT" => ((try dsimp only); refine retT_end (by assumption) (by k_asm) (cb_drop (by k_asm) (List.forall_mem_cons.mpr ⟨by k_mem, by walk_at "mine tail"⟩)) ?_ ?_)
  k_with "mine retI" => ((try dsimp only); refine retI_end (by assumption) (by k_asm) (cb_drop (by k_asm) (by walk_at "mine tail")) ?_)
  k_with "mine retB" => ((try dsimp only); refine retB_end (by assumption) (by k_asm) (cb_drop (by k_asm) (by walk_at "mine tail")) ?_)
  k_with "call ref" => (k_here; (with_reducible show wpAny _ _ (call (Value.ref 107) _ _) _ _ _); k_dflt (refine' sign_c (by k_asm) (by k_asm) (by k_asm) (by k_asm) (by k_asm) (by first | exact rfl | assumption) (by ktr_room) (by ktr_units) ?_); intro t' h' tk' F' N'; (try k_sweep))
  k_with "call ref" => (k_here; (with_reducible show wpAny _ _ (call (Value.ref 100) _ _) _ _ _); k_dflt (refine' size_c (by k_asm) (by k_asm) (by k_asm) (by k_asm) (by k_asm) (by first | exact rfl | assumption) (by ktr_room) (by ktr_units) ?_); intro t' h' tk' F' N'; (try k_sweep))
  k_with "call ref" => (k_here; (with_reducible show wpAny _ _ (call (Value.ref 114) _ _) _ _ _); k_dflt (refine' zeros_c (by k_asm) (by k_asm) (by k_asm) (by k_asm) (by k_asm) (by first | exact rfl | assumption) (by ktr_room) (by ktr_units) ?_); intro t' h' tk' F' N'; (try k_sweep))
  k_with "call ref" => (k_here; (with_reducible show wpAny _ _ (call (Value.ref 89) _ _) _ _ _); k_dflt (refine' real_c (by k_asm) (by k_asm) (by k_asm) (by k_asm) (by k_asm) (by first | exact rfl | assumption) (by ktr_room) (by ktr_units) ?_); intro x' d' k1' k2' t1' t2' h' tk' F' N'; (try k_sweep))
  k_with "mine hin" => exact HIn.up (by assumption) (by intro p9 h9; repeat (first | exact h9 | refine List.Mem.tail _ ?_))
  k_with "unpackItems ref" => (k_here; k_dflt (refine' unpackN_H ?k0 ?k1 ?k2 ?k3 ?k5 ?_; (case k1 => k_asm); (case k2 => k_asm); (case k0 => walk_at "mine hin"); (case k3 => kun_tup); (case k5 => exact rfl); k_whole); intro h' F' N'; (try k_sweep))
  k_with "assign Tuple" => (k_here; (with_reducible show wpAny _ _ (assign (Expr.Tuple _ _ _) _ (Value.ref _)) _ _ _); k_dflt (refine' assignT_H ?k0 ?k1 ?k2 ?k3 ?k5 ?k6 ?_; (case k1 => k_asm); (case k2 => k_asm); (case k0 => walk_at "mine hin"); (case k3 => kun_tup); (case k5 => exact rfl); (case k6 => exact rfl); k_whole); intro h' F' N'; (try k_sweep))
  k_with "call builtin:min" => (k_here; (with_reducible show wpAny _ _ (call (Value.builtin _) [Value.int _ _, Value.int _ _]) _ _ _); k_dflt (refine' min_H ?k0 ?k1 ?k2 ?_; (case k1 => k_asm); (case k2 => k_asm); (case k0 => walk_at "mine hin"); k_whole); intro t' h' tk' F' N'; (try k_sweep))
  k_with "call builtin:max" => (k_here; (with_reducible show wpAny _ _ (call (Value.builtin _) [Value.int _ _, Value.int _ _]) _ _ _); k_dflt (refine' max_H ?k0 ?k1 ?k2 ?_; (case k1 => k_asm); (case k2 => k_asm); (case k0 => walk_at "mine hin"); k_whole); intro t' h' tk' F' N'; (try k_sweep))
  k_with "mine bits" => first | assumption | (refine Nat.le_trans (by assumption) (by decide)) | decide | bits_by_make
  k_with "binaryOp LShift int int" => (k_here; (with_reducible refine lshift_int ?kbn ?kbs ?_); (case kbn => l_bnd); (case kbs => (refine' kbm_shl (m := 1000) ?kba ?kbc ?kbd; (case kba => walk_at "mine bits"); (case kbc => l_bnd); (case kbd => decide))))
  k_with "binaryOp Mult int int" => (k_here; with_reducible refine mul_int ?_ (mulOk_of_bits (m := 1000) (n := 1000) (by walk_at "mine bits") (by walk_at "mine bits") (by decide)))
  k_with "call ref" => (k_here; (with_reducible show wpAny _ _ (call (Value.ref 121) _ _) _ _ _); k_dflt (refine' lean_c (by k_asm) (by k_asm) (by k_asm) (by k_asm) (by k_asm) (by first | exact rfl | assumption) (by walk_at "mine hin") (by first | assumption | walk_at "mine bits") (by l_bnd) (by l_bnd) (by ktr_room) (by ktr_units) ?_); intro x' d' k1' k2' t1' t2' h' tk' F' N'; (try k_sweep))
  k_with "call ref" => (k_here; (with_reducible show wpAny _ _ (call (Value.ref 128) _ _) _ _ _); k_dflt (refine' nearest_c (by k_asm) (by k_asm) (by k_asm) (by k_asm) (by k_asm) (by first | exact rfl | assumption) (by walk_at "mine hin") (by first | assumption | walk_at "mine bits") (by l_bnd) (by l_bnd) (by ktr_room) (by ktr_units) ?_); intro t' h' tk' F' N'; (try k_sweep))
  k_with "call ref" => (k_here; (with_reducible show wpAny _ _ (call (Value.ref 135) _ _) _ _ _); k_dflt (refine' shifted_c (by k_asm) (by k_asm) (by k_asm) (by k_asm) (by k_asm) (by first | exact rfl | assumption) (by walk_at "mine hin") (by walk_at "mine bits") (by l_bnd) (by l_bnd) (by l_bnd) (by l_bnd) (by ktr_room) (by ktr_units) ?_); intro x' d' k1' k2' t1' t2' h' tk' F' N'; (try k_sweep))
  k_with "call ref" => (k_here; (with_reducible show wpAny _ _ (call (Value.ref 142) _ _) _ _ _); k_dflt (refine' place_c (by k_asm) (by k_asm) (by k_asm) (by k_asm) (by k_asm) (by first | exact rfl | assumption) (by k_mem) (by k_mem) (by ktr_room) (by ktr_units) ?_); intro t' h' tk' F' N'; (try k_sweep))
  k_with "call ref" => (k_here; (with_reducible show wpAny _ _ (call (Value.ref 149) _ _) _ _ _); k_dflt (refine' signof_c (by k_asm) (by k_asm) (by k_asm) (by k_asm) (by k_asm) (by first | exact rfl | assumption) (by k_mem) (by k_mem) (by ktr_room) (by ktr_units) ?_); intro t' h' tk' F' N'; (try k_sweep))
  k_with "call ref" => (k_here; (with_reducible show wpAny _ _ (call (Value.ref 156) _ _) _ _ _); k_dflt (refine' negative_c (by k_asm) (by k_asm) (by k_asm) (by k_asm) (by k_asm) (by first | exact rfl | assumption) (by k_mem) (by k_mem) (by ktr_room) (by ktr_units) ?_); intro x' d' k1' k2' t1' t2' h' tk' F' N'; (try k_sweep))
  k_with "call ref" => (k_here; (with_reducible show wpAny _ _ (call (Value.ref 163) _ _) _ _ _); k_dflt (refine' magnitude_c (by k_asm) (by k_asm) (by k_asm) (by k_asm) (by k_asm) (by first | exact rfl | assumption) (by k_mem) (by k_mem) (by ktr_room) (by ktr_units) ?_); intro x' d' k1' k2' t1' t2' h' tk' F' N'; (try k_sweep))
  k_with "call ref" => (k_here; (with_reducible show wpAny _ _ (call (Value.ref 170) _ _) _ _ _); k_dflt (refine' cmpmag_c (by k_asm) (by k_asm) (by k_asm) (by k_asm) (by k_asm) (by first | exact rfl | assumption) (by walk_at "mine hin") (by k_mem) (by k_mem) (by k_mem) (by k_mem) (by walk_at "mine bits") (by walk_at "mine bits") (by l_bnd) (by l_bnd) (by l_bnd) (by l_bnd) (by ktr_room) (by ktr_units) ?_); intro t' h' tk' F' N'; (try k_sweep))
  k_with "call ref" => (k_here; (with_reducible show wpAny _ _ (call (Value.ref 184) _ _) _ _ _); k_dflt (refine' far_c (by k_asm) (by k_asm) (by k_asm) (by k_asm) (by k_asm) (by first | exact rfl | assumption) (by walk_at "mine hin") (by k_mem) (by k_mem) (by k_mem) (by k_mem) (by l_bnd) (by l_bnd) (by walk_at "mine bits") (by l_bnd) (by l_bnd) (by ktr_room) (by ktr_units) ?_); intro x' d' k1' k2' t1' t2' h' tk' F' N'; (try k_sweep))
  k_with "call ref" => (k_here; (with_reducible show wpAny _ _ (call (Value.ref 177) _ _) _ _ _); k_dflt (refine' cmpreal_c (by k_asm) (by k_asm) (by k_asm) (by k_asm) (by k_asm) (by first | exact rfl | assumption) (by walk_at "mine hin") (by k_mem) (by k_mem) (by k_mem) (by k_mem) (by walk_at "mine bits") (by walk_at "mine bits") (by l_bnd) (by l_bnd) (by l_bnd) (by l_bnd) (by ktr_room) (by ktr_units) ?_); intro t' h' tk' F' N'; (try k_sweep))
  k_with "call ref" => (k_here; (with_reducible show wpAny _ _ (call (Value.ref 191) _ _) _ _ _); k_dflt (refine' add_c (by k_asm) (by k_asm) (by k_asm) (by k_asm) (by k_asm) (by first | exact rfl | assumption) (by walk_at "mine hin") (by k_mem) (by k_mem) (by k_mem) (by k_mem) (by l_bnd) (by l_bnd) (by first | exact bits_neg0 (by assumption) | walk_at "mine bits") (by first | exact bits_neg0 (by assumption) | walk_at "mine bits") (by l_bnd) (by l_bnd) (by l_bnd) (by l_bnd) (by ktr_room) (by ktr_units) ?_); intro x' d' k1' k2' t1' t2' h' tk' F' N'; (try k_sweep))
  k_with "call ref" => (k_here; (with_reducible show wpAny _ _ (call (Value.ref 198) _ _) _ _ _); k_dflt (refine' sub_c (by k_asm) (by k_asm) (by k_asm) (by k_asm) (by k_asm) (by first | exact rfl | assumption) (by walk_at "mine hin") (by k_mem) (by k_mem) (by k_mem) (by k_mem) (by l_bnd) (by l_bnd) (by walk_at "mine bits") (by walk_at "mine bits") (by l_bnd) (by l_bnd) (by l_bnd) (by l_bnd) (by ktr_room) (by ktr_units) ?_); intro x' d' k1' k2' t1' t2' h' tk' F' N'; (try k_sweep))
  k_with "call ref" => (k_here; (with_reducible show wpAny _ _ (call (Value.ref 205) _ _) _ _ _); k_dflt (refine' full_c (by k_asm) (by k_asm) (by k_asm) (by k_asm) (by k_asm) (by first | exact rfl | assumption) (by walk_at "mine hin") (by k_mem) (by k_mem) (by walk_at "mine bits") (by l_bnd) (by l_bnd) (by ktr_room) (by ktr_units) ?_); intro x' t1' t2' h' tk' F' N'; (try k_sweep))
  k_with "call ref" => (k_here; (with_reducible show wpAny _ _ (call (Value.ref 212) _ _) _ _ _); k_dflt (refine' farther_c (by k_asm) (by k_asm) (by k_asm) (by k_asm) (by k_asm) (by first | exact rfl | assumption) (by walk_at "mine hin") (by k_mem) (by k_mem) (by l_bnd) (by l_bnd) (by l_bnd) (by l_bnd) (by ktr_room) (by ktr_units) ?_); intro x' d' k1' k2' t1' t2' h' tk' F' N'; (try k_sweep))
  k_with "call ref" => (k_here; (with_reducible show wpAny _ _ (call (Value.ref 219) _ _) _ _ _); k_dflt (refine' nearer_c (by k_asm) (by k_asm) (by k_asm) (by k_asm) (by k_asm) (by first | exact rfl | assumption) (by walk_at "mine hin") (by k_mem) (by k_mem) (by l_bnd) (by l_bnd) (by l_bnd) (by l_bnd) (by l_bnd) (by ktr_room) (by ktr_units) ?_); intro x' d' k1' k2' t1' t2' h' tk' F' N'; (try k_sweep))
  k_with "call ref" => (k_here; (with_reducible show wpAny _ _ (call (Value.ref 226) _ _) _ _ _); k_dflt (refine' above_c (by k_asm) (by k_asm) (by k_asm) (by k_asm) (by k_asm) (by first | exact rfl | assumption) (by walk_at "mine hin") (by k_mem) (by k_mem) (by l_bnd) (by l_bnd) (by first | (rw [sz_neg]; l_bnd) | l_bnd) (by l_bnd) (by l_bnd) (by l_bnd) (by ktr_room) (by ktr_units) ?_); intro x' d' k1' k2' t1' t2' h' tk' F' N'; (try k_sweep))
  k_with "call ref" => (k_here; (with_reducible show wpAny _ _ (call (Value.ref 233) _ _) _ _ _); k_dflt (refine' below_c (by k_asm) (by k_asm) (by k_asm) (by k_asm) (by k_asm) (by first | exact rfl | assumption) (by walk_at "mine hin") (by k_mem) (by k_mem) (by l_bnd) (by l_bnd) (by l_bnd) (by l_bnd) (by l_bnd) (by l_bnd) (by ktr_room) (by ktr_units) ?_); intro x' d' k1' k2' t1' t2' h' tk' F' N'; (try k_sweep))
  k_with "mine last" => first | with_reducible assumption | exact allLt_of (by with_reducible assumption) | exact And.right (by with_reducible assumption) | exact And.right (And.right (by with_reducible assumption)) | exact And.right (And.right (And.right (by with_reducible assumption)))
  k_with "mine retTF" => ((try dsimp only); refine retTF_end (by assumption) (by k_asm) (cb_drop (by k_asm) (List.forall_mem_cons.mpr ⟨by k_mem, by walk_at "mine tail"⟩)) (by walk_at "mine last") ?_ ?_)
  k_with "call ref" => (k_here; (with_reducible show wpAny _ _ (call (Value.ref 273) _ _) _ _ _); k_dflt (refine' told_c (by k_asm) (by k_asm) (by k_asm) (by k_asm) (by k_asm) (by first | exact rfl | assumption) (by k_mem) (by k_mem) (by ktr_room) (by ktr_units) ?_); intro x' t1' t2' h' tk' F' N'; (try k_sweep))
  k_with "call ref" => (k_here; (with_reducible show wpAny _ _ (call (Value.ref 254) _ _) _ _ _); k_dflt (refine' whole_c (by k_asm) (by k_asm) (by k_asm) (by k_asm) (by k_asm) (by first | exact rfl | assumption) (by k_mem) (by walk_at "mine bits") (by l_bnd) (by l_bnd) (by ktr_room) (by ktr_units) ?_); intro t' h' tk' F' N'; (try k_sweep))
  k_with "call ref" => (k_here; (with_reducible show wpAny _ _ (call (Value.ref 240) _ _) _ _ _); k_dflt (refine' odd_c (by k_asm) (by k_asm) (by k_asm) (by k_asm) (by k_asm) (by first | exact rfl | assumption) (by walk_at "mine hin") (by ktr_room) (by ktr_units) ?_); (intro x' t1' t2' h' tk' l9' F' N'; (try simp only [AllLt, and_true] at l9')); (try k_sweep))
  have f0 : (2 : Int) ^ b.toNat ≠ 0 := Int.ne_of_gt (kbt_pos _)
  walk_at "mine call"
  all_goals (walk_at "mine retTF" <;> first
    | exact congrArg leanM (if_pos (by assumption)).symm
    | exact congrArg leanM (if_neg (by assumption)).symm
    | exact congr (congrArg leanE (if_pos (by assumption)).symm) (if_pos (by assumption)).symm
    | exact congr (congrArg leanE (if_pos (by assumption)).symm) (if_neg (by assumption)).symm
    | exact congr (congrArg leanE (if_neg (by assumption)).symm) (if_pos (by assumption)).symm
    | exact congr (congrArg leanE (if_neg (by assumption)).symm) (if_neg (by assumption)).symm)
end
theorem rows_18 : True := by
  k_with "call ref" => (k_here; (with_reducible show wpAny _ _ (call (Value.ref 247) _ _) _ _ _); k_dflt (refine' pair_c (by k_asm) (by k_asm) (by k_asm) (by k_asm) (by k_asm) (by first | exact rfl | assumption) (by walk_at "mine hin") (by l_bnd) (by l_bnd) (by ktr_room) (by ktr_units) ?_); (intro x' t1' t2' h' tk' l9' F' N'; (try simp only [AllLt, and_true] at l9')); (try k_sweep))
  trivial
/-- the nearest number of so many bits, by the law's own words -/
def nrg (b v : Int) : Int := max 0 (sz v - b)
def nrB (b v : Int) : Int :=
  if 2 ^ (nrg b v).toNat < 2 * (ab v).fmod (2 ^ (nrg b v).toNat) ∨ (2 * (ab v).fmod (2 ^ (nrg b v).toNat) = 2 ^ (nrg b v).toNat ∧ ((ab v).fdiv (2 ^ (nrg b v).toNat)).fmod 2 = 1)
  then (ab v).fdiv (2 ^ (nrg b v).toNat) + 1 else (ab v).fdiv (2 ^ (nrg b v).toNat)
def naM (b v : Int) : Int := leanM (if v < 0 then 0 - nrB b v else nrB b v)
def naE (b v low : Int) : Int := leanE (if v < 0 then 0 - nrB b v else nrB b v) (low + nrg b v)
theorem sz_lt {v k : Int} (h0 : 0 ≤ k) : ab v < 2 ^ k.toNat ↔ sz v ≤ k := by
  have e1 : sz v = Builtin.Int.intBits v := sz_eq v
  have e2 : ((2 ^ k.toNat : Nat) : Int) = (2 : Int) ^ k.toNat := kbt_cast _
  have e3 : (ab v : Int) = v.natAbs := by unfold ab; omega
  have h : Builtin.Int.intBits v ≤ k.toNat ↔ v.natAbs < 2 ^ k.toNat := intBits_le_iff
  rw [e1, e3, ← e2]
  omega
theorem near_step {b v u l low : Int} (hb : 0 ≤ b) (i1 : u = 2 ^ (l - low).toNat) (i2 : low ≤ l) (i3 : l - low ≤ nrg b v) (hs : sz v ≤ 300) (t : u * 2 ^ b.toNat ≤ ab v) :
    u * 2 = 2 ^ (l + 1 - low).toNat ∧ low ≤ l + 1 ∧ l + 1 - low ≤ nrg b v ∧ Builtin.Int.intBits (u * 2) ≤ 400 ∧ 0 < u * 2 := by
  have e1 : (l + 1 - low).toNat = (l - low).toNat + 1 := by omega
  have h1 : ¬ sz v ≤ (l - low) + b := fun h => by
    have h2 := (sz_lt (v := v) (k := (l - low) + b) (by omega)).mpr h
    have e2 : ((l - low) + b).toNat = (l - low).toNat + b.toNat := by omega
    rw [e2, Int.pow_add, ← i1] at h2
    omega
  have hu : 0 < u := i1 ▸ kbt_pos _
  refine ⟨by rw [e1, Int.pow_succ, ← i1], by omega, ?_, ?_, by omega⟩
  · unfold nrg at *; omega
  · rw [i1, ← Int.pow_succ, intBits_pow]
    unfold nrg at i3
    omega
theorem near_less {b v u l low : Int} (hb : 0 ≤ b) (i1 : u = 2 ^ (l - low).toNat) (i2 : low ≤ l) (i3 : l - low ≤ nrg b v) (hs : sz v ≤ 300) (t : u * 2 ^ b.toNat ≤ ab v) :
    (nrg b v - (l + 1 - low)).toNat < (nrg b v - (l - low)).toNat := by
  have := (near_step hb i1 i2 i3 hs t).2.2.1
  omega
theorem near_stop {b v u l low : Int} (hb : 0 ≤ b) (i1 : u = 2 ^ (l - low).toNat) (i2 : low ≤ l) (i3 : l - low ≤ nrg b v) (t : ¬ u * 2 ^ b.toNat ≤ ab v) : l = low + nrg b v ∧ u = 2 ^ (nrg b v).toNat := by
  have h1 : sz v ≤ (l - low) + b := by
    refine (sz_lt (v := v) (k := (l - low) + b) (by omega)).mp ?_
    have e2 : ((l - low) + b).toNat = (l - low).toNat + b.toNat := by omega
    rw [e2, Int.pow_add, ← i1]
    omega
  have h2 : l - low = nrg b v := by unfold nrg at *; omega
  exact ⟨by omega, by rw [i1, h2]⟩
section
variable {b v : Int}
theorem nrB_up1 (c : 2 ^ (nrg b v).toNat < 2 * (ab v).fmod (2 ^ (nrg b v).toNat)) : nrB b v = (ab v).fdiv (2 ^ (nrg b v).toNat) + 1 := if_pos (Or.inl c)
theorem nrB_up2 (c1 : 2 * (ab v).fmod (2 ^ (nrg b v).toNat) = 2 ^ (nrg b v).toNat) (c2 : ((ab v).fdiv (2 ^ (nrg b v).toNat)).fmod 2 = 1) : nrB b v = (ab v).fdiv (2 ^ (nrg b v).toNat) + 1 := if_pos (Or.inr ⟨c1, c2⟩)
theorem nrB_dn1 (c : ¬ 2 ^ (nrg b v).toNat < 2 * (ab v).fmod (2 ^ (nrg b v).toNat)) (c2 : ((ab v).fdiv (2 ^ (nrg b v).toNat)).fmod 2 ≠ 1) : nrB b v = (ab v).fdiv (2 ^ (nrg b v).toNat) := if_neg fun h => h.elim c fun h => c2 h.2
theorem nrB_dn2 (c : ¬ 2 ^ (nrg b v).toNat < 2 * (ab v).fmod (2 ^ (nrg b v).toNat)) (c1 : 2 * (ab v).fmod (2 ^ (nrg b v).toNat) ≠ 2 ^ (nrg b v).toNat) : nrB b v = (ab v).fdiv (2 ^ (nrg b v).toNat) := if_neg fun h => h.elim c fun h => c1 h.1
theorem naM_neg {x : Int} (h : v < 0) (e : nrB b v = x) : leanM (0 - x) = naM b v := by unfold naM; rw [if_pos h, e]
theorem naM_pos {x : Int} (h : ¬ v < 0) (e : nrB b v = x) : leanM x = naM b v := by unfold naM; rw [if_neg h, e]
theorem naE_neg {x low : Int} (h : v < 0) (e : nrB b v = x) : leanE (0 - x) (low + nrg b v) = naE b v low := by unfold naE; rw [if_pos h, e]
theorem naE_pos {x low : Int} (h : ¬ v < 0) (e : nrB b v = x) : leanE x (low + nrg b v) = naE b v low := by unfold naE; rw [if_neg h, e]
end
theorem rows_19 : True := by
  k_with "mine nrB" => first | exact nrB_up1 (by assumption) | exact nrB_up2 (by assumption) (by assumption) | exact nrB_dn1 (by assumption) (by assumption) | exact nrB_dn2 (by assumption) (by assumption)
  trivial
theorem bits_log {y : Int} (h : Builtin.Int.intBits y ≤ 400) : y.natAbs.log2 < 9000 := by
  by_cases h0 : y.natAbs = 0
  · rw [h0]; decide +kernel
  · have := (Nat.log2_lt h0).mpr (intBits_le_iff.mp h)
    omega
section
variable {prog : Program} {w : World} {p : Program} {loose : List Str} {mean : ExcName → Option Value} {mg mb : Str → Option Value}
  {hh : Option Value} {dp un : Nat} {gd : Option (List Code)} {cn : Str} {cs : Scope} {a : Addr} {ccd : Value} {cl : List (Str × Addr)} {outer : List Env} {A₀ : Around} {base h₀ : Heap} {L : Addr} {m : Str → Option Value} {news : List (Addr × Obj)} {s : Shared} {Q E : Value → Shared → Prop}
variable (B : Below A₀ base outer h₀) (F : Fr h₀ L s.heap m) (X : (KK w.params).In h₀) (N : News h₀ L s.heap news) (T : Top p loose mean mg mb h₀) (hk : cs.kind = .function)
include B F X N T hk
variable (H : HIn hh news)
include H
theorem near_c {b v low : Int} {t0 t1 t2 : Tok} (hb1 : 1 ≤ b) (hb2 : b ≤ 50) (hv : Builtin.Int.intBits v ≤ 300) (hd' : dp + 2 < recursionLimit) (hu : un + 30 < cLine) (k : RetT h₀ L m news s Q (naM b v) (naE b v low)) :
    wpAny (model prog w) (ar hh dp un gd cn cs L a ccd cl outer) (call (.ref 261) [.int b t0, .int v t1, .int low t2]) Q E s := by
  have f1 := sz_eq v
  have f2 : sz v ≤ 300 := by omega
  have f3 : Builtin.Int.intBits ((2 : Int) ^ b.toNat) ≤ 1000 := by rw [intBits_pow]; omega
  have f4 : 0 ≤ nrg b v := by unfold nrg; omega
  k_with_none
  k_with "mine enter" => (refine' code_def ?k1 ?k2 ?k3 ?k4 ?k5 ?kA ?kF ?kK ?k6 ?k7 ?k8 ?k9 ?kB ?_ ?c2 ?c3 ?c4 ?c5; (case kA => exact rfl); (case kF => exact rfl); (case kK => first | exact rfl | assumption); (case k1 => k_asm); (case k2 => k_asm); (case k3 => k_asm); (case k4 => k_asm); (case k5 => k_asm); (case k6 => k_is); (case k7 => k_is); (case k8 => ktr_room); (case k9 => exact BindsTo.of_eq rfl); (case c5 => decide); (case kB => exact locs rfl); (case c2 => exact rfl); (case c3 => exact rfl); (case c4 => exact rfl); k_whole; intro g' L' h' FG' F' N' B' X' T'; (try dsimp only); (try k_fold))
  k_with "mine call" => (refine wpAny_call ?_; k_dflt (walk_at "mine enter"); k_steps)
  k_with "mine tail" => (intro p9 h9; repeat (first | exact h9 | refine List.Mem.tail _ ?_))
  k_with "mine retR" => ((try dsimp only); refine retR_end (by assumption) (by k_asm) (cb_drop (by k_asm) (List.forall_mem_cons.mpr ⟨by k_mem, List.forall_mem_cons.mpr ⟨by k_mem, by walk_at "mine tail"⟩⟩)) ?_ ?_)
  k_with "mine retT" => ((try dsimp only); refine retT_end (by assumption) (by k_asm) (cb_drop (by k_asm) (List.forall_mem_cons.mpr ⟨by k_mem, by walk_at "mine tail"⟩)) ?_ ?_)
  k_with "mine retI" => ((try dsimp only); refine retI_end (by assumption) (by k_asm) (cb_drop (by k_asm) (by walk_at "mine tail")) ?_)
  k_with "mine retB" => ((try dsimp only); refine retB_end (by assumption) (by k_asm) (cb_drop (by k_asm) (by walk_at "mine tail")) ?_)
  k_with "call ref" => (k_here; (with_reducible show wpAny _ _ (call (Value.ref 107) _ _) _ _ _); k_dflt (refine' sign_c (by k_asm) (by k_asm) (by k_asm) (by k_asm) (by k_asm) (by first | exact rfl | assumption) (by ktr_room) (by ktr_units) ?_); intro t' h' tk' F' N'; (try k_sweep))
  k_with "call ref" => (k_here; (with_reducible show wpAny _ _ (call (Value.ref 100) _ _) _ _ _); k_dflt (refine' size_c (by k_asm) (by k_asm) (by k_asm) (by k_asm) (by k_asm) (by first | exact rfl | assumption) (by ktr_room) (by ktr_units) ?_); intro t' h' tk' F' N'; (try k_sweep))
  k_with "call ref" => (k_here; (with_reducible show wpAny _ _ (call (Value.ref 114) _ _) _ _ _); k_dflt (refine' zeros_c (by k_asm) (by k_asm) (by k_asm) (by k_asm) (by k_asm) (by first | exact rfl | assumption) (by ktr_room) (by ktr_units) ?_); intro t' h' tk' F' N'; (try k_sweep))
  k_with "call ref" => (k_here; (with_reducible show wpAny _ _ (call (Value.ref 89) _ _) _ _ _); k_dflt (refine' real_c (by k_asm) (by k_asm) (by k_asm) (by k_asm) (by k_asm) (by first | exact rfl | assumption) (by ktr_room) (by ktr_units) ?_); intro x' d' k1' k2' t1' t2' h' tk' F' N'; (try k_sweep))
  k_with "mine hin" => exact HIn.up (by assumption) (by intro p9 h9; repeat (first | exact h9 | refine List.Mem.tail _ ?_))
  k_with "unpackItems ref" => (k_here; k_dflt (refine' unpackN_H ?k0 ?k1 ?k2 ?k3 ?k5 ?_; (case k1 => k_asm); (case k2 => k_asm); (case k0 => walk_at "mine hin"); (case k3 => kun_tup); (case k5 => exact rfl); k_whole); intro h' F' N'; (try k_sweep))
  k_with "assign Tuple" => (k_here; (with_reducible show wpAny _ _ (assign (Expr.Tuple _ _ _) _ (Value.ref _)) _ _ _); k_dflt (refine' assignT_H ?k0 ?k1 ?k2 ?k3 ?k5 ?k6 ?_; (case k1 => k_asm); (case k2 => k_asm); (case k0 => walk_at "mine hin"); (case k3 => kun_tup); (case k5 => exact rfl); (case k6 => exact rfl); k_whole); intro h' F' N'; (try k_sweep))
  k_with "call builtin:min" => (k_here; (with_reducible show wpAny _ _ (call (Value.builtin _) [Value.int _ _, Value.int _ _]) _ _ _); k_dflt (refine' min_H ?k0 ?k1 ?k2 ?_; (case k1 => k_asm); (case k2 => k_asm); (case k0 => walk_at "mine hin"); k_whole); intro t' h' tk' F' N'; (try k_sweep))
  k_with "call builtin:max" => (k_here; (with_reducible show wpAny _ _ (call (Value.builtin _) [Value.int _ _, Value.int _ _]) _ _ _); k_dflt (refine' max_H ?k0 ?k1 ?k2 ?_; (case k1 => k_asm); (case k2 => k_asm); (case k0 => walk_at "mine hin"); k_whole); intro t' h' tk' F' N'; (try k_sweep))
  k_with "mine bits" => first | assumption | (refine Nat.le_trans (by assumption) (by decide)) | decide | bits_by_make
  k_with "binaryOp LShift int int" => (k_here; (with_reducible refine lshift_int ?kbn ?kbs ?_); (case kbn => l_bnd); (case kbs => (refine' kbm_shl (m := 1000) ?kba ?kbc ?kbd; (case kba => walk_at "mine bits"); (case kbc => l_bnd); (case kbd => decide))))
  k_with "binaryOp Mult int int" => (k_here; with_reducible refine mul_int ?_ (mulOk_of_bits (m := 1000) (n := 1000) (by walk_at "mine bits") (by walk_at "mine bits") (by decide)))
  k_with "call ref" => (k_here; (with_reducible show wpAny _ _ (call (Value.ref 121) _ _) _ _ _); k_dflt (refine' lean_c (by k_asm) (by k_asm) (by k_asm) (by k_asm) (by k_asm) (by first | exact rfl | assumption) (by walk_at "mine hin") (by first | assumption | walk_at "mine bits") (by l_bnd) (by l_bnd) (by ktr_room) (by ktr_units) ?_); intro x' d' k1' k2' t1' t2' h' tk' F' N'; (try k_sweep))
  k_with "call ref" => (k_here; (with_reducible show wpAny _ _ (call (Value.ref 128) _ _) _ _ _); k_dflt (refine' nearest_c (by k_asm) (by k_asm) (by k_asm) (by k_asm) (by k_asm) (by first | exact rfl | assumption) (by walk_at "mine hin") (by first | assumption | walk_at "mine bits") (by l_bnd) (by l_bnd) (by ktr_room) (by ktr_units) ?_); intro t' h' tk' F' N'; (try k_sweep))
  k_with "call ref" => (k_here; (with_reducible show wpAny _ _ (call (Value.ref 135) _ _) _ _ _); k_dflt (refine' shifted_c (by k_asm) (by k_asm) (by k_asm) (by k_asm) (by k_asm) (by first | exact rfl | assumption) (by walk_at "mine hin") (by walk_at "mine bits") (by l_bnd) (by l_bnd) (by l_bnd) (by l_bnd) (by ktr_room) (by ktr_units) ?_); intro x' d' k1' k2' t1' t2' h' tk' F' N'; (try k_sweep))
  k_with "call ref" => (k_here; (with_reducible show wpAny _ _ (call (Value.ref 142) _ _) _ _ _); k_dflt (refine' place_c (by k_asm) (by k_asm) (by k_asm) (by k_asm) (by k_asm) (by first | exact rfl | assumption) (by k_mem) (by k_mem) (by ktr_room) (by ktr_units) ?_); intro t' h' tk' F' N'; (try k_sweep))
  k_with "call ref" => (k_here; (with_reducible show wpAny _ _ (call (Value.ref 149) _ _) _ _ _); k_dflt (refine' signof_c (by k_asm) (by k_asm) (by k_asm) (by k_asm) (by k_asm) (by first | exact rfl | assumption) (by k_mem) (by k_mem) (by ktr_room) (by ktr_units) ?_); intro t' h' tk' F' N'; (try k_sweep))
  k_with "call ref" => (k_here; (with_reducible show wpAny _ _ (call (Value.ref 156) _ _) _ _ _); k_dflt (refine' negative_c (by k_asm) (by k_asm) (by k_asm) (by k_asm) (by k_asm) (by first | exact rfl | assumption) (by k_mem) (by k_mem) (by ktr_room) (by ktr_units) ?_); intro x' d' k1' k2' t1' t2' h' tk' F' N'; (try k_sweep))
  k_with "call ref" => (k_here; (with_reducible show wpAny _ _ (call (Value.ref 163) _ _) _ _ _); k_dflt (refine' magnitude_c (by k_asm) (by k_asm) (by k_asm) (by k_asm) (by k_asm) (by first | exact rfl | assumption) (by k_mem) (by k_mem) (by ktr_room) (by ktr_units) ?_); intro x' d' k1' k2' t1' t2' h' tk' F' N'; (try k_sweep))
  k_with "call ref" => (k_here; (with_reducible show wpAny _ _ (call (Value.ref 170) _ _) _ _ _); k_dflt (refine' cmpmag_c (by k_asm) (by k_asm) (by k_asm) (by k_asm) (by k_asm) (by first | exact rfl | assumption) (by walk_at "mine hin") (by k_mem) (by k_mem) (by k_mem) (by k_mem) (by walk_at "mine bits") (by walk_at "mine bits") (by l_bnd) (by l_bnd) (by l_bnd) (by l_bnd) (by ktr_room) (by ktr_units) ?_); intro t' h' tk' F' N'; (try k_sweep))
  k_with "call ref" => (k_here; (with_reducible show wpAny _ _ (call (Value.ref 184) _ _) _ _ _); k_dflt (refine' far_c (by k_asm) (by k_asm) (by k_asm) (by k_asm) (by k_asm) (by first | exact rfl | assumption) (by walk_at "mine hin") (by k_mem) (by k_mem) (by k_mem) (by k_mem) (by l_bnd) (by l_bnd) (by walk_at "mine bits") (by l_bnd) (by l_bnd) (by ktr_room) (by ktr_units) ?_); intro x' d' k1' k2' t1' t2' h' tk' F' N'; (try k_sweep))
  k_with "call ref" => (k_here; (with_reducible show wpAny _ _ (call (Value.ref 177) _ _) _ _ _); k_dflt (refine' cmpreal_c (by k_asm) (by k_asm) (by k_asm) (by k_asm) (by k_asm) (by first | exact rfl | assumption) (by walk_at "mine hin") (by k_mem) (by k_mem) (by k_mem) (by k_mem) (by walk_at "mine bits") (by walk_at "mine bits") (by l_bnd) (by l_bnd) (by l_bnd) (by l_bnd) (by ktr_room) (by ktr_units) ?_); intro t' h' tk' F' N'; (try k_sweep))
  k_with "call ref" => (k_here; (with_reducible show wpAny _ _ (call (Value.ref 191) _ _) _ _ _); k_dflt (refine' add_c (by k_asm) (by k_asm) (by k_asm) (by k_asm) (by k_asm) (by first | exact rfl | assumption) (by walk_at "mine hin") (by k_mem) (by k_mem) (by k_mem) (by k_mem) (by l_bnd) (by l_bnd) (by first | exact bits_neg0 (by assumption) | walk_at "mine bits") (by first | exact bits_neg0 (by assumption) | walk_at "mine bits") (by l_bnd) (by l_bnd) (by l_bnd) (by l_bnd) (by ktr_room) (by ktr_units) ?_); intro x' d' k1' k2' t1' t2' h' tk' F' N'; (try k_sweep))
  k_with "call ref" => (k_here; (with_reducible show wpAny _ _ (call (Value.ref 198) _ _) _ _ _); k_dflt (refine' sub_c (by k_asm) (by k_asm) (by k_asm) (by k_asm) (by k_asm) (by first | exact rfl | assumption) (by walk_at "mine hin") (by k_mem) (by k_mem) (by k_mem) (by k_mem) (by l_bnd) (by l_bnd) (by walk_at "mine bits") (by walk_at "mine bits") (by l_bnd) (by l_bnd) (by l_bnd) (by l_bnd) (by ktr_room) (by ktr_units) ?_); intro x' d' k1' k2' t1' t2' h' tk' F' N'; (try k_sweep))
  k_with "call ref" => (k_here; (with_reducible show wpAny _ _ (call (Value.ref 205) _ _) _ _ _); k_dflt (refine' full_c (by k_asm) (by k_asm) (by k_asm) (by k_asm) (by k_asm) (by first | exact rfl | assumption) (by walk_at "mine hin") (by k_mem) (by k_mem) (by walk_at "mine bits") (by l_bnd) (by l_bnd) (by ktr_room) (by ktr_units) ?_); intro x' t1' t2' h' tk' F' N'; (try k_sweep))
  k_with "call ref" => (k_here; (with_reducible show wpAny _ _ (call (Value.ref 212) _ _) _ _ _); k_dflt (refine' farther_c (by k_asm) (by k_asm) (by k_asm) (by k_asm) (by k_asm) (by first | exact rfl | assumption) (by walk_at "mine hin") (by k_mem) (by k_mem) (by l_bnd) (by l_bnd) (by l_bnd) (by l_bnd) (by ktr_room) (by ktr_units) ?_); intro x' d' k1' k2' t1' t2' h' tk' F' N'; (try k_sweep))
  k_with "call ref" => (k_here; (with_reducible show wpAny _ _ (call (Value.ref 219) _ _) _ _ _); k_dflt (refine' nearer_c (by k_asm) (by k_asm) (by k_asm) (by k_asm) (by k_asm) (by first | exact rfl | assumption) (by walk_at "mine hin") (by k_mem) (by k_mem) (by l_bnd) (by l_bnd) (by l_bnd) (by l_bnd) (by l_bnd) (by ktr_room) (by ktr_units) ?_); intro x' d' k1' k2' t1' t2' h' tk' F' N'; (try k_sweep))
  k_with "call ref" => (k_here; (with_reducible show wpAny _ _ (call (Value.ref 226) _ _) _ _ _); k_dflt (refine' above_c (by k_asm) (by k_asm) (by k_asm) (by k_asm) (by k_asm) (by first | exact rfl | assumption) (by walk_at "mine hin") (by k_mem) (by k_mem) (by l_bnd) (by l_bnd) (by first | (rw [sz_neg]; l_bnd) | l_bnd) (by l_bnd) (by l_bnd) (by l_bnd) (by ktr_room) (by ktr_units) ?_); intro x' d' k1' k2' t1' t2' h' tk' F' N'; (try k_sweep))
  k_with "call ref" => (k_here; (with_reducible show wpAny _ _ (call (Value.ref 233) _ _) _ _ _); k_dflt (refine' below_c (by k_asm) (by k_asm) (by k_asm) (by k_asm) (by k_asm) (by first | exact rfl | assumption) (by walk_at "mine hin") (by k_mem) (by k_mem) (by l_bnd) (by l_bnd) (by l_bnd) (by l_bnd) (by l_bnd) (by l_bnd) (by ktr_room) (by ktr_units) ?_); intro x' d' k1' k2' t1' t2' h' tk' F' N'; (try k_sweep))
  k_with "mine last" => first | with_reducible assumption | exact allLt_of (by with_reducible assumption) | exact And.right (by with_reducible assumption) | exact And.right (And.right (by with_reducible assumption)) | exact And.right (And.right (And.right (by with_reducible assumption)))
  k_with "mine retTF" => ((try dsimp only); refine retTF_end (by assumption) (by k_asm) (cb_drop (by k_asm) (List.forall_mem_cons.mpr ⟨by k_mem, by walk_at "mine tail"⟩)) (by walk_at "mine last") ?_ ?_)
  k_with "call ref" => (k_here; (with_reducible show wpAny _ _ (call (Value.ref 273) _ _) _ _ _); k_dflt (refine' told_c (by k_asm) (by k_asm) (by k_asm) (by k_asm) (by k_asm) (by first | exact rfl | assumption) (by k_mem) (by k_mem) (by ktr_room) (by ktr_units) ?_); intro x' t1' t2' h' tk' F' N'; (try k_sweep))
  k_with "call ref" => (k_here; (with_reducible show wpAny _ _ (call (Value.ref 254) _ _) _ _ _); k_dflt (refine' whole_c (by k_asm) (by k_asm) (by k_asm) (by k_asm) (by k_asm) (by first | exact rfl | assumption) (by k_mem) (by walk_at "mine bits") (by l_bnd) (by l_bnd) (by ktr_room) (by ktr_units) ?_); intro t' h' tk' F' N'; (try k_sweep))
  k_with "call ref" => (k_here; (with_reducible show wpAny _ _ (call (Value.ref 240) _ _) _ _ _); k_dflt (refine' odd_c (by k_asm) (by k_asm) (by k_asm) (by k_asm) (by k_asm) (by first | exact rfl | assumption) (by walk_at "mine hin") (by ktr_room) (by ktr_units) ?_); (intro x' t1' t2' h' tk' l9' F' N'; (try simp only [AllLt, and_true] at l9')); (try k_sweep))
  k_with "call ref" => (k_here; (with_reducible show wpAny _ _ (call (Value.ref 247) _ _) _ _ _); k_dflt (refine' pair_c (by k_asm) (by k_asm) (by k_asm) (by k_asm) (by k_asm) (by first | exact rfl | assumption) (by walk_at "mine hin") (by l_bnd) (by l_bnd) (by ktr_room) (by ktr_units) ?_); (intro x' t1' t2' h' tk' l9' F' N'; (try simp only [AllLt, and_true] at l9')); (try k_sweep))
  k_with "mine nrB" => first | exact nrB_up1 (by assumption) | exact nrB_up2 (by assumption) (by assumption) | exact nrB_dn1 (by assumption) (by assumption) | exact nrB_dn2 (by assumption) (by assumption)
  k_with "exec While Compare cons nil" => k_while (fun _ u l => u = 2 ^ (l - low).toNat ∧ low ≤ l ∧ l - low ≤ nrg b v ∧ Builtin.Int.intBits u ≤ 400 ∧ 0 < u) (fun _ _ l => (nrg b v - (l - low)).toNat) "unit" "low"
  k_with "state" => first | exact near_step (by omega) (by assumption) (by assumption) (by assumption) (by assumption) (by assumption) | exact ⟨by rw [Int.sub_self]; rfl, Int.le_refl _, by omega, by decide, by decide⟩
  k_with "measure" => exact near_less (by omega) (by assumption) (by assumption) (by assumption) (by assumption) (by assumption)
  walk_at "mine call"
  obtain ⟨q1, q2⟩ := near_stop (b := b) (v := v) (low := low) (by omega) (by assumption) (by assumption) (by assumption) (by assumption)
  subst q1 q2
  k_dflt (refine divmod_N (by k_asm) (by k_asm) (by omega) ?_ (Or.inl (PyProof.noPylong_of_log2 (bits_log (by assumption)))))
  intro h' F' N'
  k_steps
  all_goals (walk_at "mine retT" <;> first
    | exact naM_neg (by assumption) (by walk_at "mine nrB")
    | exact naM_pos (by assumption) (by walk_at "mine nrB")
    | exact naE_neg (by assumption) (by walk_at "mine nrB")
    | exact naE_pos (by assumption) (by walk_at "mine nrB"))
end
theorem rows_20 : True := by
  k_with "call ref" => (k_here; (with_reducible show wpAny _ _ (call (Value.ref 261) _ _) _ _ _); k_dflt (refine' near_c (by k_asm) (by k_asm) (by k_asm) (by k_asm) (by k_asm) (by first | exact rfl | assumption) (by walk_at "mine hin") (by l_bnd) (by l_bnd) (by walk_at "mine bits") (by ktr_room) (by ktr_units) ?_); intro x' t1' t2' h' tk' F' N'; (try k_sweep))
  trivial
local macro_rules | `(tactic| kst_facts1) => `(tactic| first | exact IntsAre.nil | (with_reducible assumption) | exact IntsAre.append (by with_reducible assumption) (.cons _ _ .nil))
local macro_rules | `(tactic| k_all) => `(tactic| exact ne_lt_all (by assumption) (by omega))
theorem rows_21 : True := by
  k_with "mine enterC" => (refine' code_defC ?k1 ?k2 ?k3 ?k4 ?k5 ?kA ?kF ?kK ?k6 ?k7 ?k8 ?k9 ?kB ?kD ?_ ?c2 ?c3 ?c4; (case kA => exact rfl); (case kF => exact rfl); (case kK => first | exact rfl | assumption); (case k1 => k_asm); (case k2 => k_asm); (case k3 => k_asm); (case k4 => k_asm); (case k5 => k_asm); (case k6 => k_is); (case k7 => k_is); (case k8 => ktr_room); (case k9 => exact BindsTo.of_eq rfl); (case kB => exact rfl); (case kD => decide +kernel); (case c2 => exact rfl); (case c3 => exact rfl); (case c4 => exact rfl); k_whole; intro g' L' h' tk' cells' FG' F' N' Y' B' X' T' l1; (replace l1 := allLt_of l1); k_cells Y'; (try simp only [List.cons_append, List.nil_append] at N'); (try dsimp only); (try k_fold))
  k_with "mine callC" => (refine wpAny_call ?_; k_dflt (walk_at "mine enterC"); k_steps)
  trivial
/-- near enough to be looked at -/
def BsC (here o : Int) : Prop := ab (o - ab here) ≤ (ab here).fdiv 2 + 1
/-- not strictly between -/
def BsG (T here x : Int) : Prop := x ≤ here ∨ T ≤ x
/-- T is the least number of so many bits above here, found at the place e0, m0 -/
def BsIn (T here low b e0 m0 : Int) : Prop :=
  (∀ e m : Int, low ≤ e → e < low + 2 * b + 2 → 2 ^ (b - 1).toNat ≤ m → m < 2 ^ b.toNat + 1 → BsC here (m * 2 ^ (e - low).toNat) →
    (0 < here → BsG T here (m * 2 ^ (e - low).toNat)) ∧ (¬ 0 < here → BsG T here (0 - m * 2 ^ (e - low).toNat))) ∧
  (low ≤ e0 ∧ e0 < low + 2 * b + 2 ∧ 2 ^ (b - 1).toNat ≤ m0 ∧ m0 < 2 ^ b.toNat + 1 ∧ BsC here (m0 * 2 ^ (e0 - low).toNat) ∧
    (0 < here → m0 * 2 ^ (e0 - low).toNat = T) ∧ (¬ 0 < here → 0 - m0 * 2 ^ (e0 - low).toNat = T)) ∧ here < T
def BsO (T here e0 : Int) (pre f : List Int) : Prop := (∀ x ∈ f, BsG T here x) ∧ (e0 ∈ pre → T ∈ f)
def BsI (T here e0 m0 e : Int) (f0 pre f : List Int) : Prop := (∀ x ∈ f, BsG T here x) ∧ (T ∈ f0 → T ∈ f) ∧ (e = e0 → m0 ∈ pre → T ∈ f)
section
variable {T here low b e0 m0 e n : Int} {pre f f0 po : List Int}
theorem bso_start : BsO T here e0 [] [] := ⟨fun _ h => (nomatch h), fun h => (nomatch h)⟩
theorem bsi_start (h : BsO T here e0 po f0) : BsI T here e0 m0 e f0 [] f0 := ⟨h.1, id, fun _ h => (nomatch h)⟩
theorem bsi_no (hB : BsIn T here low b e0 m0) (h : BsI T here e0 m0 e f0 pre f) (c : ¬ BsC here (n * 2 ^ (e - low).toNat)) : BsI T here e0 m0 e f0 (pre ++ [n]) f :=
  ⟨h.1, h.2.1, fun he hm => by
    rcases List.mem_append.mp hm with hm | hm
    · exact h.2.2 he hm
    · rw [List.mem_singleton] at hm
      subst he hm
      exact absurd hB.2.1.2.2.2.2.1 c⟩
theorem bsi_pos (hB : BsIn T here low b e0 m0) (h : BsI T here e0 m0 e f0 pre f) (c : BsC here (n * 2 ^ (e - low).toNat)) (p : 0 < here) (h1 : low ≤ e) (h2 : e < low + 2 * b + 2) (h3 : 2 ^ (b - 1).toNat ≤ n) (h4 : n < 2 ^ b.toNat + 1) :
    BsI T here e0 m0 e f0 (pre ++ [n]) (f ++ [n * 2 ^ (e - low).toNat]) :=
  ⟨fun x hx => by
    rcases List.mem_append.mp hx with hx | hx
    · exact h.1 x hx
    · rw [List.mem_singleton] at hx
      subst hx
      exact (hB.1 e n h1 h2 h3 h4 c).1 p, fun q => List.mem_append_left _ (h.2.1 q), fun he hm => by
    rcases List.mem_append.mp hm with hm | hm
    · exact List.mem_append_left _ (h.2.2 he hm)
    · rw [List.mem_singleton] at hm
      subst he hm
      exact List.mem_append_right _ (List.mem_singleton.mpr (hB.2.1.2.2.2.2.2.1 p).symm)⟩
theorem bsi_neg (hB : BsIn T here low b e0 m0) (h : BsI T here e0 m0 e f0 pre f) (c : BsC here (n * 2 ^ (e - low).toNat)) (p : ¬ 0 < here) (h1 : low ≤ e) (h2 : e < low + 2 * b + 2) (h3 : 2 ^ (b - 1).toNat ≤ n) (h4 : n < 2 ^ b.toNat + 1) :
    BsI T here e0 m0 e f0 (pre ++ [n]) (f ++ [0 - n * 2 ^ (e - low).toNat]) :=
  ⟨fun x hx => by
    rcases List.mem_append.mp hx with hx | hx
    · exact h.1 x hx
    · rw [List.mem_singleton] at hx
      subst hx
      exact (hB.1 e n h1 h2 h3 h4 c).2 p, fun q => List.mem_append_left _ (h.2.1 q), fun he hm => by
    rcases List.mem_append.mp hm with hm | hm
    · exact List.mem_append_left _ (h.2.2 he hm)
    · rw [List.mem_singleton] at hm
      subst he hm
      exact List.mem_append_right _ (List.mem_singleton.mpr (hB.2.1.2.2.2.2.2.2 p).symm)⟩
theorem mem_rangeKs {a k : Int} {c : Nat} (h1 : a ≤ k) (h2 : k < a + c) : k ∈ rangeKs a c := by
  unfold rangeKs
  refine List.mem_map.mpr ⟨(k - a).toNat, List.mem_range.mpr (by omega), by omega⟩
theorem bso_turn (hB : BsIn T here low b e0 m0) (h : BsO T here e0 po f0) {c : Nat} (q : BsI T here e0 m0 e f0 (rangeKs (2 ^ (b - 1).toNat) c) f) (hc : (2 ^ (b - 1).toNat + c : Int) = 2 ^ b.toNat + 1) : BsO T here e0 (po ++ [e]) f :=
  ⟨q.1, fun hm => by
    rcases List.mem_append.mp hm with hm | hm
    · exact q.2.1 (h.2 hm)
    · rw [List.mem_singleton] at hm
      exact q.2.2 hm.symm (mem_rangeKs hB.2.1.2.2.1 (by rw [hc]; exact hB.2.1.2.2.2.1))⟩
end
theorem bits_small {n : Int} (h1 : 0 ≤ n) (h2 : n ≤ 1000) : Builtin.Int.intBits n ≤ 1000 := by
  have h : Builtin.Int.intBits n ≤ 10 := intBits_le_iff.mpr (by omega)
  omega
theorem bits_pow2 {k : Int} (h : k < 1000) : Builtin.Int.intBits ((2 : Int) ^ k.toNat) ≤ 1000 := by rw [intBits_pow]; omega
theorem rows_22 : True := by
  k_with "mine bits" => first | exact bits_small (by omega) (by omega) | exact bits_pow2 (by omega)
  trivial
theorem pow_facts {b : Int} (h1 : 1 ≤ b) (h2 : b ≤ 5) : (0 : Int) < 2 ^ (b - 1).toNat ∧ (2 : Int) ^ b.toNat = 2 * 2 ^ (b - 1).toNat ∧ (2 : Int) ^ b.toNat ≤ 32 := by
  have : b = 1 ∨ b = 2 ∨ b = 3 ∨ b = 4 ∨ b = 5 := by omega
  rcases this with rfl | rfl | rfl | rfl | rfl <;> decide
section
variable {prog : Program} {w : World} {A : Around} {E : Value → Shared → Prop} {s : Shared}
theorem min_best {h₀ : Heap} {L l : Addr} {m : Str → Option Value} {news : List (Addr × Obj)} {ys : List Value} {f : List Int} {T here low b e0 m0 : Int} {n : Nat} {Q : Value → Shared → Prop} (F : Fr h₀ L s.heap m) (N : News h₀ L s.heap news) (hh : A.handled = none)
    (hl : s.heap.IsList l ys.toArray) (hc : CarriedAll ys (List.map PyData.int (List.filter (fun a => decide (here < a)) f))) (hO : BsO T here e0 (rangeKs low n) f) (hB : BsIn T here low b e0 m0) (hn : low + n = low + 2 * b + 2)
    (h : ∀ h' t tk, Fr h₀ L h' m → News h₀ L h' news → Q (.int T t) { s with heap := h', toks := tk }) : wpAny (model prog w) A (call (.builtin "min") [.ref l]) Q E s := by
  have hT : T ∈ List.filter (fun a => decide (here < a)) f := List.mem_filter.mpr ⟨hO.2 (mem_rangeKs hB.2.1.1 (by rw [hn]; exact hB.2.1.2.1)), by simpa using hB.2.2⟩
  refine min_list_N hh F N hl (IntsAre.ofCarried hc) (List.length_pos_of_mem hT) fun h' M t tk F' N' h1 h2 => ?_
  have e : M = T := by
    have h3 := h2 _ hT
    have h4 := List.mem_filter.mp h1
    have h5 : here < M := by simpa using h4.2
    rcases hO.1 _ h4.1 with h6 | h6 <;> omega
  rw [e]
  exact h _ _ _ F' N'
end
theorem rows_23 : True := by
  k_with "call builtin:min" => (k_here; (with_reducible show wpAny _ _ (call (Value.builtin _) [Value.ref _]) _ _ _); k_dflt (refine min_best (by k_asm) (by k_asm) (by exact rfl) (by with_reducible assumption) (by with_reducible assumption) (by with_reducible assumption) (by with_reducible assumption) (by omega) ?_); intro h' t' tk' F' N'; (try k_sweep))
  trivial
section
variable {prog : Program} {w : World} {p : Program} {loose : List Str} {mean : ExcName → Option Value} {mg mb : Str → Option Value}
  {hh : Option Value} {dp un : Nat} {gd : Option (List Code)} {cn : Str} {cs : Scope} {a : Addr} {ccd : Value} {cl : List (Str × Addr)} {outer : List Env} {A₀ : Around} {base h₀ : Heap} {L : Addr} {m : Str → Option Value} {news : List (Addr × Obj)} {s : Shared} {Q E : Value → Shared → Prop}
variable (B : Below A₀ base outer h₀) (F : Fr h₀ L s.heap m) (X : (KK w.params).In h₀) (N : News h₀ L s.heap news) (T : Top p loose mean mg mb h₀) (hk : cs.kind = .function)
include B F X N T hk
theorem beside_c {x : Addr} {M E₁ b T e0 m0 : Int} {t0 t1 t2 : Tok} (hx : (x, tupObj [.int M t1, .int E₁ t2]) ∈ news)
    (b1 : Builtin.Int.intBits M ≤ 100) (e1 : -100 ≤ E₁) (e2 : E₁ ≤ 100) (hb1 : 1 ≤ b) (hb2 : b ≤ 5) (hB : BsIn T (M * 2 ^ (E₁ - (E₁ - b - 1)).toNat) (E₁ - b - 1) b e0 m0)
    (hd' : dp + 2 < recursionLimit) (hu : un + 30 < cLine) (k : RetT h₀ L m news s Q (leanM T) (leanE T (E₁ - b - 1))) :
    wpAny (model prog w) (ar none dp un gd cn cs L a ccd cl outer) (call (.ref 266) [.int b t0, .ref x]) Q E s := by
  have H : HIn (none : Option Value) news := .inl rfl
  k_with_none
  k_with "mine enter" => (refine' code_def ?k1 ?k2 ?k3 ?k4 ?k5 ?kA ?kF ?kK ?k6 ?k7 ?k8 ?k9 ?kB ?_ ?c2 ?c3 ?c4 ?c5; (case kA => exact rfl); (case kF => exact rfl); (case kK => first | exact rfl | assumption); (case k1 => k_asm); (case k2 => k_asm); (case k3 => k_asm); (case k4 => k_asm); (case k5 => k_asm); (case k6 => k_is); (case k7 => k_is); (case k8 => ktr_room); (case k9 => exact BindsTo.of_eq rfl); (case c5 => decide); (case kB => exact locs rfl); (case c2 => exact rfl); (case c3 => exact rfl); (case c4 => exact rfl); k_whole; intro g' L' h' FG' F' N' B' X' T'; (try dsimp only); (try k_fold))
  k_with "mine call" => (refine wpAny_call ?_; k_dflt (walk_at "mine enter"); k_steps)
  k_with "mine tail" => (intro p9 h9; repeat (first | exact h9 | refine List.Mem.tail _ ?_))
  k_with "mine retR" => ((try dsimp only); refine retR_end (by assumption) (by k_asm) (cb_drop (by k_asm) (List.forall_mem_cons.mpr ⟨by k_mem, List.forall_mem_cons.mpr ⟨by k_mem, by walk_at "mine tail"⟩⟩)) ?_ ?_)
  k_with "mine retT" => ((try dsimp only); refine retT_end (by assumption) (by k_asm) (cb_drop (by k_asm) (List.forall_mem_cons.mpr ⟨by k_mem, by walk_at "mine tail"⟩)) ?_ ?_)
  k_with "mine retI" => ((try dsimp only); refine retI_end (by assumption) (by k_asm) (cb_drop (by k_asm) (by walk_at "mine tail")) ?_)
  k_with "mine retB" => ((try dsimp only); refine retB_end (by assumption) (by k_asm) (cb_drop (by k_asm) (by walk_at "mine tail")) ?_)
  k_with "call ref" => (k_here; (with_reducible show wpAny _ _ (call (Value.ref 107) _ _) _ _ _); k_dflt (refine' sign_c (by k_asm) (by k_asm) (by k_asm) (by k_asm) (by k_asm) (by first | exact rfl | assumption) (by ktr_room) (by ktr_units) ?_); intro t' h' tk' F' N'; (try k_sweep))
  k_with "call ref" => (k_here; (with_reducible show wpAny _ _ (call (Value.ref 100) _ _) _ _ _); k_dflt (refine' size_c (by k_asm) (by k_asm) (by k_asm) (by k_asm) (by k_asm) (by first | exact rfl | assumption) (by ktr_room) (by ktr_units) ?_); intro t' h' tk' F' N'; (try k_sweep))
  k_with "call ref" => (k_here; (with_reducible show wpAny _ _ (call (Value.ref 114) _ _) _ _ _); k_dflt (refine' zeros_c (by k_asm) (by k_asm) (by k_asm) (by k_asm) (by k_asm) (by first | exact rfl | assumption) (by ktr_room) (by ktr_units) ?_); intro t' h' tk' F' N'; (try k_sweep))
  k_with "call ref" => (k_here; (with_reducible show wpAny _ _ (call (Value.ref 89) _ _) _ _ _); k_dflt (refine' real_c (by k_asm) (by k_asm) (by k_asm) (by k_asm) (by k_asm) (by first | exact rfl | assumption) (by ktr_room) (by ktr_units) ?_); intro x' d' k1' k2' t1' t2' h' tk' F' N'; (try k_sweep))
  k_with "mine hin" => exact HIn.up (by assumption) (by intro p9 h9; repeat (first | exact h9 | refine List.Mem.tail _ ?_))
  k_with "unpackItems ref" => (k_here; k_dflt (refine' unpackN_H ?k0 ?k1 ?k2 ?k3 ?k5 ?_; (case k1 => k_asm); (case k2 => k_asm); (case k0 => walk_at "mine hin"); (case k3 => kun_tup); (case k5 => exact rfl); k_whole); intro h' F' N'; (try k_sweep))
  k_with "assign Tuple" => (k_here; (with_reducible show wpAny _ _ (assign (Expr.Tuple _ _ _) _ (Value.ref _)) _ _ _); k_dflt (refine' assignT_H ?k0 ?k1 ?k2 ?k3 ?k5 ?k6 ?_; (case k1 => k_asm); (case k2 => k_asm); (case k0 => walk_at "mine hin"); (case k3 => kun_tup); (case k5 => exact rfl); (case k6 => exact rfl); k_whole); intro h' F' N'; (try k_sweep))
  k_with "call builtin:min" => (k_here; (with_reducible show wpAny _ _ (call (Value.builtin _) [Value.int _ _, Value.int _ _]) _ _ _); k_dflt (refine' min_H ?k0 ?k1 ?k2 ?_; (case k1 => k_asm); (case k2 => k_asm); (case k0 => walk_at "mine hin"); k_whole); intro t' h' tk' F' N'; (try k_sweep))
  k_with "call builtin:max" => (k_here; (with_reducible show wpAny _ _ (call (Value.builtin _) [Value.int _ _, Value.int _ _]) _ _ _); k_dflt (refine' max_H ?k0 ?k1 ?k2 ?_; (case k1 => k_asm); (case k2 => k_asm); (case k0 => walk_at "mine hin"); k_whole); intro t' h' tk' F' N'; (try k_sweep))
  k_with "mine bits" => first | assumption | (refine Nat.le_trans (by assumption) (by decide)) | decide | bits_by_make
  k_with "binaryOp LShift int int" => (k_here; (with_reducible refine lshift_int ?kbn ?kbs ?_); (case kbn => l_bnd); (case kbs => (refine' kbm_shl (m := 1000) ?kba ?kbc ?kbd; (case kba => walk_at "mine bits"); (case kbc => l_bnd); (case kbd => decide))))
  k_with "binaryOp Mult int int" => (k_here; with_reducible refine mul_int ?_ (mulOk_of_bits (m := 1000) (n := 1000) (by walk_at "mine bits") (by walk_at "mine bits") (by decide)))
  k_with "call ref" => (k_here; (with_reducible show wpAny _ _ (call (Value.ref 121) _ _) _ _ _); k_dflt (refine' lean_c (by k_asm) (by k_asm) (by k_asm) (by k_asm) (by k_asm) (by first | exact rfl | assumption) (by walk_at "mine hin") (by first | assumption | walk_at "mine bits") (by l_bnd) (by l_bnd) (by ktr_room) (by ktr_units) ?_); intro x' d' k1' k2' t1' t2' h' tk' F' N'; (try k_sweep))
  k_with "call ref" => (k_here; (with_reducible show wpAny _ _ (call (Value.ref 128) _ _) _ _ _); k_dflt (refine' nearest_c (by k_asm) (by k_asm) (by k_asm) (by k_asm) (by k_asm) (by first | exact rfl | assumption) (by walk_at "mine hin") (by first | assumption | walk_at "mine bits") (by l_bnd) (by l_bnd) (by ktr_room) (by ktr_units) ?_); intro t' h' tk' F' N'; (try k_sweep))
  k_with "call ref" => (k_here; (with_reducible show wpAny _ _ (call (Value.ref 135) _ _) _ _ _); k_dflt (refine' shifted_c (by k_asm) (by k_asm) (by k_asm) (by k_asm) (by k_asm) (by first | exact rfl | assumption) (by walk_at "mine hin") (by walk_at "mine bits") (by l_bnd) (by l_bnd) (by l_bnd) (by l_bnd) (by ktr_room) (by ktr_units) ?_); intro x' d' k1' k2' t1' t2' h' tk' F' N'; (try k_sweep))
  k_with "call ref" => (k_here; (with_reducible show wpAny _ _ (call (Value.ref 142) _ _) _ _ _); k_dflt (refine' place_c (by k_asm) (by k_asm) (by k_asm) (by k_asm) (by k_asm) (by first | exact rfl | assumption) (by k_mem) (by k_mem) (by ktr_room) (by ktr_units) ?_); intro t' h' tk' F' N'; (try k_sweep))
  k_with "call ref" => (k_here; (with_reducible show wpAny _ _ (call (Value.ref 149) _ _) _ _ _); k_dflt (refine' signof_c (by k_asm) (by k_asm) (by k_asm) (by k_asm) (by k_asm) (by first | exact rfl | assumption) (by k_mem) (by k_mem) (by ktr_room) (by ktr_units) ?_); intro t' h' tk' F' N'; (try k_sweep))
  k_with "call ref" => (k_here; (with_reducible show wpAny _ _ (call (Value.ref 156) _ _) _ _ _); k_dflt (refine' negative_c (by k_asm) (by k_asm) (by k_asm) (by k_asm) (by k_asm) (by first | exact rfl | assumption) (by k_mem) (by k_mem) (by ktr_room) (by ktr_units) ?_); intro x' d' k1' k2' t1' t2' h' tk' F' N'; (try k_sweep))
  k_with "call ref" => (k_here; (with_reducible show wpAny _ _ (call (Value.ref 163) _ _) _ _ _); k_dflt (refine' magnitude_c (by k_asm) (by k_asm) (by k_asm) (by k_asm) (by k_asm) (by first | exact rfl | assumption) (by k_mem) (by k_mem) (by ktr_room) (by ktr_units) ?_); intro x' d' k1' k2' t1' t2' h' tk' F' N'; (try k_sweep))
  k_with "call ref" => (k_here; (with_reducible show wpAny _ _ (call (Value.ref 170) _ _) _ _ _); k_dflt (refine' cmpmag_c (by k_asm) (by k_asm) (by k_asm) (by k_asm) (by k_asm) (by first | exact rfl | assumption) (by walk_at "mine hin") (by k_mem) (by k_mem) (by k_mem) (by k_mem) (by walk_at "mine bits") (by walk_at "mine bits") (by l_bnd) (by l_bnd) (by l_bnd) (by l_bnd) (by ktr_room) (by ktr_units) ?_); intro t' h' tk' F' N'; (try k_sweep))
  k_with "call ref" => (k_here; (with_reducible show wpAny _ _ (call (Value.ref 184) _ _) _ _ _); k_dflt (refine' far_c (by k_asm) (by k_asm) (by k_asm) (by k_asm) (by k_asm) (by first | exact rfl | assumption) (by walk_at "mine hin") (by k_mem) (by k_mem) (by k_mem) (by k_mem) (by l_bnd) (by l_bnd) (by walk_at "mine bits") (by l_bnd) (by l_bnd) (by ktr_room) (by ktr_units) ?_); intro x' d' k1' k2' t1' t2' h' tk' F' N'; (try k_sweep))
  k_with "call ref" => (k_here; (with_reducible show wpAny _ _ (call (Value.ref 177) _ _) _ _ _); k_dflt (refine' cmpreal_c (by k_asm) (by k_asm) (by k_asm) (by k_asm) (by k_asm) (by first | exact rfl | assumption) (by walk_at "mine hin") (by k_mem) (by k_mem) (by k_mem) (by k_mem) (by walk_at "mine bits") (by walk_at "mine bits") (by l_bnd) (by l_bnd) (by l_bnd) (by l_bnd) (by ktr_room) (by ktr_units) ?_); intro t' h' tk' F' N'; (try k_sweep))
  k_with "call ref" => (k_here; (with_reducible show wpAny _ _ (call (Value.ref 191) _ _) _ _ _); k_dflt (refine' add_c (by k_asm) (by k_asm) (by k_asm) (by k_asm) (by k_asm) (by first | exact rfl | assumption) (by walk_at "mine hin") (by k_mem) (by k_mem) (by k_mem) (by k_mem) (by l_bnd) (by l_bnd) (by first | exact bits_neg0 (by assumption) | walk_at "mine bits") (by first | exact bits_neg0 (by assumption) | walk_at "mine bits") (by l_bnd) (by l_bnd) (by l_bnd) (by l_bnd) (by ktr_room) (by ktr_units) ?_); intro x' d' k1' k2' t1' t2' h' tk' F' N'; (try k_sweep))
  k_with "call ref" => (k_here; (with_reducible show wpAny _ _ (call (Value.ref 198) _ _) _ _ _); k_dflt (refine' sub_c (by k_asm) (by k_asm) (by k_asm) (by k_asm) (by k_asm) (by first | exact rfl | assumption) (by walk_at "mine hin") (by k_mem) (by k_mem) (by k_mem) (by k_mem) (by l_bnd) (by l_bnd) (by walk_at "mine bits") (by walk_at "mine bits") (by l_bnd) (by l_bnd) (by l_bnd) (by l_bnd) (by ktr_room) (by ktr_units) ?_); intro x' d' k1' k2' t1' t2' h' tk' F' N'; (try k_sweep))
  k_with "call ref" => (k_here; (with_reducible show wpAny _ _ (call (Value.ref 205) _ _) _ _ _); k_dflt (refine' full_c (by k_asm) (by k_asm) (by k_asm) (by k_asm) (by k_asm) (by first | exact rfl | assumption) (by walk_at "mine hin") (by k_mem) (by k_mem) (by walk_at "mine bits") (by l_bnd) (by l_bnd) (by ktr_room) (by ktr_units) ?_); intro x' t1' t2' h' tk' F' N'; (try k_sweep))
  k_with "call ref" => (k_here; (with_reducible show wpAny _ _ (call (Value.ref 212) _ _) _ _ _); k_dflt (refine' farther_c (by k_asm) (by k_asm) (by k_asm) (by k_asm) (by k_asm) (by first | exact rfl | assumption) (by walk_at "mine hin") (by k_mem) (by k_mem) (by l_bnd) (by l_bnd) (by l_bnd) (by l_bnd) (by ktr_room) (by ktr_units) ?_); intro x' d' k1' k2' t1' t2' h' tk' F' N'; (try k_sweep))
  k_with "call ref" => (k_here; (with_reducible show wpAny _ _ (call (Value.ref 219) _ _) _ _ _); k_dflt (refine' nearer_c (by k_asm) (by k_asm) (by k_asm) (by k_asm) (by k_asm) (by first | exact rfl | assumption) (by walk_at "mine hin") (by k_mem) (by k_mem) (by l_bnd) (by l_bnd) (by l_bnd) (by l_bnd) (by l_bnd) (by ktr_room) (by ktr_units) ?_); intro x' d' k1' k2' t1' t2' h' tk' F' N'; (try k_sweep))
  k_with "call ref" => (k_here; (with_reducible show wpAny _ _ (call (Value.ref 226) _ _) _ _ _); k_dflt (refine' above_c (by k_asm) (by k_asm) (by k_asm) (by k_asm) (by k_asm) (by first | exact rfl | assumption) (by walk_at "mine hin") (by k_mem) (by k_mem) (by l_bnd) (by l_bnd) (by first | (rw [sz_neg]; l_bnd) | l_bnd) (by l_bnd) (by l_bnd) (by l_bnd) (by ktr_room) (by ktr_units) ?_); intro x' d' k1' k2' t1' t2' h' tk' F' N'; (try k_sweep))
  k_with "call ref" => (k_here; (with_reducible show wpAny _ _ (call (Value.ref 233) _ _) _ _ _); k_dflt (refine' below_c (by k_asm) (by k_asm) (by k_asm) (by k_asm) (by k_asm) (by first | exact rfl | assumption) (by walk_at "mine hin") (by k_mem) (by k_mem) (by l_bnd) (by l_bnd) (by l_bnd) (by l_bnd) (by l_bnd) (by l_bnd) (by ktr_room) (by ktr_units) ?_); intro x' d' k1' k2' t1' t2' h' tk' F' N'; (try k_sweep))
  k_with "mine last" => first | with_reducible assumption | exact allLt_of (by with_reducible assumption) | exact And.right (by with_reducible assumption) | exact And.right (And.right (by with_reducible assumption)) | exact And.right (And.right (And.right (by with_reducible assumption)))
  k_with "mine retTF" => ((try dsimp only); refine retTF_end (by assumption) (by k_asm) (cb_drop (by k_asm) (List.forall_mem_cons.mpr ⟨by k_mem, by walk_at "mine tail"⟩)) (by walk_at "mine last") ?_ ?_)
  k_with "call ref" => (k_here; (with_reducible show wpAny _ _ (call (Value.ref 273) _ _) _ _ _); k_dflt (refine' told_c (by k_asm) (by k_asm) (by k_asm) (by k_asm) (by k_asm) (by first | exact rfl | assumption) (by k_mem) (by k_mem) (by ktr_room) (by ktr_units) ?_); intro x' t1' t2' h' tk' F' N'; (try k_sweep))
  k_with "call ref" => (k_here; (with_reducible show wpAny _ _ (call (Value.ref 254) _ _) _ _ _); k_dflt (refine' whole_c (by k_asm) (by k_asm) (by k_asm) (by k_asm) (by k_asm) (by first | exact rfl | assumption) (by k_mem) (by walk_at "mine bits") (by l_bnd) (by l_bnd) (by ktr_room) (by ktr_units) ?_); intro t' h' tk' F' N'; (try k_sweep))
  k_with "call ref" => (k_here; (with_reducible show wpAny _ _ (call (Value.ref 240) _ _) _ _ _); k_dflt (refine' odd_c (by k_asm) (by k_asm) (by k_asm) (by k_asm) (by k_asm) (by first | exact rfl | assumption) (by walk_at "mine hin") (by ktr_room) (by ktr_units) ?_); (intro x' t1' t2' h' tk' l9' F' N'; (try simp only [AllLt, and_true] at l9')); (try k_sweep))
  k_with "call ref" => (k_here; (with_reducible show wpAny _ _ (call (Value.ref 247) _ _) _ _ _); k_dflt (refine' pair_c (by k_asm) (by k_asm) (by k_asm) (by k_asm) (by k_asm) (by first | exact rfl | assumption) (by walk_at "mine hin") (by l_bnd) (by l_bnd) (by ktr_room) (by ktr_units) ?_); (intro x' t1' t2' h' tk' l9' F' N'; (try simp only [AllLt, and_true] at l9')); (try k_sweep))
  k_with "mine nrB" => first | exact nrB_up1 (by assumption) | exact nrB_up2 (by assumption) (by assumption) | exact nrB_dn1 (by assumption) (by assumption) | exact nrB_dn2 (by assumption) (by assumption)
  k_with "call ref" => (k_here; (with_reducible show wpAny _ _ (call (Value.ref 261) _ _) _ _ _); k_dflt (refine' near_c (by k_asm) (by k_asm) (by k_asm) (by k_asm) (by k_asm) (by first | exact rfl | assumption) (by walk_at "mine hin") (by l_bnd) (by l_bnd) (by walk_at "mine bits") (by ktr_room) (by ktr_units) ?_); intro x' t1' t2' h' tk' F' N'; (try k_sweep))
  k_with "mine enterC" => (refine' code_defC ?k1 ?k2 ?k3 ?k4 ?k5 ?kA ?kF ?kK ?k6 ?k7 ?k8 ?k9 ?kB ?kD ?_ ?c2 ?c3 ?c4; (case kA => exact rfl); (case kF => exact rfl); (case kK => first | exact rfl | assumption); (case k1 => k_asm); (case k2 => k_asm); (case k3 => k_asm); (case k4 => k_asm); (case k5 => k_asm); (case k6 => k_is); (case k7 => k_is); (case k8 => ktr_room); (case k9 => exact BindsTo.of_eq rfl); (case kB => exact rfl); (case kD => decide +kernel); (case c2 => exact rfl); (case c3 => exact rfl); (case c4 => exact rfl); k_whole; intro g' L' h' tk' cells' FG' F' N' Y' B' X' T' l1; (replace l1 := allLt_of l1); k_cells Y'; (try simp only [List.cons_append, List.nil_append] at N'); (try dsimp only); (try k_fold))
  k_with "mine callC" => (refine wpAny_call ?_; k_dflt (walk_at "mine enterC"); k_steps)
  k_with "mine bits" => first | exact bits_small (by omega) (by omega) | exact bits_pow2 (by omega)
  k_with "call builtin:min" => (k_here; (with_reducible show wpAny _ _ (call (Value.builtin _) [Value.ref _]) _ _ _); k_dflt (refine min_best (by k_asm) (by k_asm) (by exact rfl) (by with_reducible assumption) (by with_reducible assumption) (by with_reducible assumption) (by with_reducible assumption) (by omega) ?_); intro h' t' tk' F' N'; (try k_sweep))
  k_with "pyIter ref" => (k_of "mantissa" => k_state_given ["exponent", "found!"] (fun e f0 pre f => f.length ≤ f0.length + pre.length ∧ BsI T (M * 2 ^ (E₁ - (E₁ - b - 1)).toNat) e0 m0 e f0 pre f) "found")
  k_with "pyIter ref" => (k_of "exponent" => k_state (fun pre f => f.length ≤ 40 * pre.length ∧ BsO T (M * 2 ^ (E₁ - (E₁ - b - 1)).toNat) e0 pre f) "found")
  k_with "state" => first
    | exact ⟨Nat.zero_le _, bso_start⟩
    | exact ⟨Nat.le_refl _, bsi_start (by assumption)⟩
    | exact ⟨by simp only [rangeKs_length, List.length_append, List.length_cons, List.length_nil] at *; omega, bso_turn (by assumption) (by assumption) (by assumption) (by omega)⟩
    | exact ⟨by simp only [rangeKs_length, List.length_append, List.length_cons, List.length_nil] at *; omega, bsi_no (by assumption) (by assumption) (by assumption)⟩
    | exact ⟨by simp only [rangeKs_length, List.length_append, List.length_cons, List.length_nil] at *; omega, bsi_pos (by assumption) (by assumption) (by assumption) (by assumption) (by omega) (by omega) (by omega) (by omega)⟩
    | exact ⟨by simp only [rangeKs_length, List.length_append, List.length_cons, List.length_nil] at *; omega, bsi_neg (by assumption) (by assumption) (by assumption) (by assumption) (by omega) (by omega) (by omega) (by omega)⟩
  obtain ⟨fb0, fb1, fb2⟩ := pow_facts hb1 hb2
  walk_at "mine callC"
  · exact Str.ofString ""
  · exact (0 : Nat)
  · exact Value.none
  · walk_at "mine retT" <;> rfl
end
theorem not_pair {a b c d : Int} (h1 : a = b) (h2 : c = d) (h : (a == b && c == d) = false) : False := by
  subst h1 h2
  simp at h
/-- what the law asks of two numbers -/
structure SumOk (b M₁ E₁ M₂ E₂ : Int) : Prop where
  a1 : adM b M₁ E₁ M₂ E₂ = naM b (M₁ * 2 ^ (E₁ - min E₁ E₂).toNat + M₂ * 2 ^ (E₂ - min E₁ E₂).toNat)
  a2 : adE b M₁ E₁ M₂ E₂ = naE b (M₁ * 2 ^ (E₁ - min E₁ E₂).toNat + M₂ * 2 ^ (E₂ - min E₁ E₂).toNat) (min E₁ E₂)
  s1 : adM b M₁ E₁ (0 - M₂) E₂ = naM b (M₁ * 2 ^ (E₁ - min E₁ E₂).toNat - M₂ * 2 ^ (E₂ - min E₁ E₂).toNat)
  s2 : adE b M₁ E₁ (0 - M₂) E₂ = naE b (M₁ * 2 ^ (E₁ - min E₁ E₂).toNat - M₂ * 2 ^ (E₂ - min E₁ E₂).toNat) (min E₁ E₂)
  c : cmR M₁ E₁ M₂ E₂ = b2i (decide (M₂ * 2 ^ (E₂ - min E₁ E₂).toNat < M₁ * 2 ^ (E₁ - min E₁ E₂).toNat)) - b2i (decide (M₁ * 2 ^ (E₁ - min E₁ E₂).toNat < M₂ * 2 ^ (E₂ - min E₁ E₂).toNat))
  b1 : Builtin.Int.intBits M₁ ≤ 99
  b2 : Builtin.Int.intBits M₂ ≤ 99
  l1 : -80 ≤ E₁
  l2 : E₁ ≤ 80
  l3 : -80 ≤ E₂
  l4 : E₂ ≤ 80
  p1 : 1 ≤ b
  p2 : b ≤ 50
theorem bits_dif {a b n k : Int} {i j : Nat} (ha : Builtin.Int.intBits a ≤ i) (hb : Builtin.Int.intBits b ≤ i) (hn : n ≤ j) (hk : k ≤ j) : Builtin.Int.intBits (a * 2 ^ n.toNat - b * 2 ^ k.toNat) ≤ i + j + 1 := by
  rw [Int.sub_eq_add_neg]
  exact Nat.le_trans (PySem.intBits_add_le (bits_shl ha hn) (PySem.intBits_neg_le (bits_shl hb hk))) (by omega)
section
variable {prog : Program} {w : World} {p : Program} {loose : List Str} {mean : ExcName → Option Value} {mg mb : Str → Option Value}
  {hh : Option Value} {dp un : Nat} {gd : Option (List Code)} {cn : Str} {cs : Scope} {a : Addr} {ccd : Value} {cl : List (Str × Addr)} {outer : List Env} {A₀ : Around} {base h₀ : Heap} {L : Addr} {m : Str → Option Value} {news : List (Addr × Obj)} {s : Shared} {Q E : Value → Shared → Prop}
variable (B : Below A₀ base outer h₀) (F : Fr h₀ L s.heap m) (X : (KK w.params).In h₀) (N : News h₀ L s.heap news) (T : Top p loose mean mg mb h₀) (hk : cs.kind = .function)
include B F X N T hk
variable (H : HIn hh news)
include H
theorem sumr_c {x y : Addr} {M₁ E₁ M₂ E₂ b : Int} {t0 t1 t2 t3 t4 : Tok} (hx : (x, tupObj [.int M₁ t1, .int E₁ t2]) ∈ news) (hy : (y, tupObj [.int M₂ t3, .int E₂ t4]) ∈ news) (S : SumOk b M₁ E₁ M₂ E₂)
    (hd' : dp + 9 < recursionLimit) (hu : un + 110 < cLine) (k : RetB h₀ L m news s Q true) :
    wpAny (model prog w) (ar hh dp un gd cn cs L a ccd cl outer) (call (.ref 280) [.int b t0, .ref x, .ref y]) Q E s := by
  obtain ⟨a1, a2, s1, s2, c, b1, b2, l1, l2, l3, l4, p1, p2⟩ := S
  have f1 : Builtin.Int.intBits (M₁ * 2 ^ (E₁ - min E₁ E₂).toNat + M₂ * 2 ^ (E₂ - min E₁ E₂).toNat) ≤ 300 := Nat.le_trans (bits_sum (j := 160) b1 b2 (by omega) (by omega)) (by decide)
  have f2 : Builtin.Int.intBits (M₁ * 2 ^ (E₁ - min E₁ E₂).toNat - M₂ * 2 ^ (E₂ - min E₁ E₂).toNat) ≤ 300 := Nat.le_trans (bits_dif (j := 160) b1 b2 (by omega) (by omega)) (by decide)
  k_with_none
  k_with "mine enter" => (refine' code_def ?k1 ?k2 ?k3 ?k4 ?k5 ?kA ?kF ?kK ?k6 ?k7 ?k8 ?k9 ?kB ?_ ?c2 ?c3 ?c4 ?c5; (case kA => exact rfl); (case kF => exact rfl); (case kK => first | exact rfl | assumption); (case k1 => k_asm); (case k2 => k_asm); (case k3 => k_asm); (case k4 => k_asm); (case k5 => k_asm); (case k6 => k_is); (case k7 => k_is); (case k8 => ktr_room); (case k9 => exact BindsTo.of_eq rfl); (case c5 => decide); (case kB => exact locs rfl); (case c2 => exact rfl); (case c3 => exact rfl); (case c4 => exact rfl); k_whole; intro g' L' h' FG' F' N' B' X' T'; (try dsimp only); (try k_fold))
  k_with "mine call" => (refine wpAny_call ?_; k_dflt (walk_at "mine enter"); k_steps)
  k_with "mine tail" => (intro p9 h9; repeat (first | exact h9 | refine List.Mem.tail _ ?_))
  k_with "mine retR" => ((try dsimp only); refine retR_end (by assumption) (by k_asm) (cb_drop (by k_asm) (List.forall_mem_cons.mpr ⟨by k_mem, List.forall_mem_cons.mpr ⟨by k_mem, by walk_at "mine tail"⟩⟩)) ?_ ?_)
  k_with "mine retT" => ((try dsimp only); refine retT_end (by assumption) (by k_asm) (cb_drop (by k_asm) (List.forall_mem_cons.mpr ⟨by k_mem, by walk_at "mine tail"⟩)) ?_ ?_)
  k_with "mine retI" => ((try dsimp only); refine retI_end (by assumption) (by k_asm) (cb_drop (by k_asm) (by walk_at "mine tail")) ?_)
  k_with "mine retB" => ((try dsimp only); refine retB_end (by assumption) (by k_asm) (cb_drop (by k_asm) (by walk_at "mine tail")) ?_)
  k_with "call ref" => (k_here; (with_reducible show wpAny _ _ (call (Value.ref 107) _ _) _ _ _); k_dflt (refine' sign_c (by k_asm) (by k_asm) (by k_asm) (by k_asm) (by k_asm) (by first | exact rfl | assumption) (by ktr_room) (by ktr_units) ?_); intro t' h' tk' F' N'; (try k_sweep))
  k_with "call ref" => (k_here; (with_reducible show wpAny _ _ (call (Value.ref 100) _ _) _ _ _); k_dflt (refine' size_c (by k_asm) (by k_asm) (by k_asm) (by k_asm) (by k_asm) (by first | exact rfl | assumption) (by ktr_room) (by ktr_units) ?_); intro t' h' tk' F' N'; (try k_sweep))
  k_with "call ref" => (k_here; (with_reducible show wpAny _ _ (call (Value.ref 114) _ _) _ _ _); k_dflt (refine' zeros_c (by k_asm) (by k_asm) (by k_asm) (by k_asm) (by k_asm) (by first | exact rfl | assumption) (by ktr_room) (by ktr_units) ?_); intro t' h' tk' F' N'; (try k_sweep))
  k_with "call ref" => (k_here; (with_reducible show wpAny _ _ (call (Value.ref 89) _ _) _ _ _); k_dflt (refine' real_c (by k_asm) (by k_asm) (by k_asm) (by k_asm) (by k_asm) (by first | exact rfl | assumption) (by ktr_room) (by ktr_units) ?_); intro x' d' k1' k2' t1' t2' h' tk' F' N'; (try k_sweep))
  k_with "mine hin" => exact HIn.up (by assumption) (by intro p9 h9; repeat (first | exact h9 | refine List.Mem.tail _ ?_))
  k_with "unpackItems ref" => (k_here; k_dflt (refine' unpackN_H ?k0 ?k1 ?k2 ?k3 ?k5 ?_; (case k1 => k_asm); (case k2 => k_asm); (case k0 => walk_at "mine hin"); (case k3 => kun_tup); (case k5 => exact rfl); k_whole); intro h' F' N'; (try k_sweep))
  k_with "assign Tuple" => (k_here; (with_reducible show wpAny _ _ (assign (Expr.Tuple _ _ _) _ (Value.ref _)) _ _ _); k_dflt (refine' assignT_H ?k0 ?k1 ?k2 ?k3 ?k5 ?k6 ?_; (case k1 => k_asm); (case k2 => k_asm); (case k0 => walk_at "mine hin"); (case k3 => kun_tup); (case k5 => exact rfl); (case k6 => exact rfl); k_whole); intro h' F' N'; (try k_sweep))
  k_with "call builtin:min" => (k_here; (with_reducible show wpAny _ _ (call (Value.builtin _) [Value.int _ _, Value.int _ _]) _ _ _); k_dflt (refine' min_H ?k0 ?k1 ?k2 ?_; (case k1 => k_asm); (case k2 => k_asm); (case k0 => walk_at "mine hin"); k_whole); intro t' h' tk' F' N'; (try k_sweep))
  k_with "call builtin:max" => (k_here; (with_reducible show wpAny _ _ (call (Value.builtin _) [Value.int _ _, Value.int _ _]) _ _ _); k_dflt (refine' max_H ?k0 ?k1 ?k2 ?_; (case k1 => k_asm); (case k2 => k_asm); (case k0 => walk_at "mine hin"); k_whole); intro t' h' tk' F' N'; (try k_sweep))
  k_with "mine bits" => first | assumption | (refine Nat.le_trans (by assumption) (by decide)) | decide | bits_by_make
  k_with "binaryOp LShift int int" => (k_here; (with_reducible refine lshift_int ?kbn ?kbs ?_); (case kbn => l_bnd); (case kbs => (refine' kbm_shl (m := 1000) ?kba ?kbc ?kbd; (case kba => walk_at "mine bits"); (case kbc => l_bnd); (case kbd => decide))))
  k_with "binaryOp Mult int int" => (k_here; with_reducible refine mul_int ?_ (mulOk_of_bits (m := 1000) (n := 1000) (by walk_at "mine bits") (by walk_at "mine bits") (by decide)))
  k_with "call ref" => (k_here; (with_reducible show wpAny _ _ (call (Value.ref 121) _ _) _ _ _); k_dflt (refine' lean_c (by k_asm) (by k_asm) (by k_asm) (by k_asm) (by k_asm) (by first | exact rfl | assumption) (by walk_at "mine hin") (by first | assumption | walk_at "mine bits") (by l_bnd) (by l_bnd) (by ktr_room) (by ktr_units) ?_); intro x' d' k1' k2' t1' t2' h' tk' F' N'; (try k_sweep))
  k_with "call ref" => (k_here; (with_reducible show wpAny _ _ (call (Value.ref 128) _ _) _ _ _); k_dflt (refine' nearest_c (by k_asm) (by k_asm) (by k_asm) (by k_asm) (by k_asm) (by first | exact rfl | assumption) (by walk_at "mine hin") (by first | assumption | walk_at "mine bits") (by l_bnd) (by l_bnd) (by ktr_room) (by ktr_units) ?_); intro t' h' tk' F' N'; (try k_sweep))
  k_with "call ref" => (k_here; (with_reducible show wpAny _ _ (call (Value.ref 135) _ _) _ _ _); k_dflt (refine' shifted_c (by k_asm) (by k_asm) (by k_asm) (by k_asm) (by k_asm) (by first | exact rfl | assumption) (by walk_at "mine hin") (by walk_at "mine bits") (by l_bnd) (by l_bnd) (by l_bnd) (by l_bnd) (by ktr_room) (by ktr_units) ?_); intro x' d' k1' k2' t1' t2' h' tk' F' N'; (try k_sweep))
  k_with "call ref" => (k_here; (with_reducible show wpAny _ _ (call (Value.ref 142) _ _) _ _ _); k_dflt (refine' place_c (by k_asm) (by k_asm) (by k_asm) (by k_asm) (by k_asm) (by first | exact rfl | assumption) (by k_mem) (by k_mem) (by ktr_room) (by ktr_units) ?_); intro t' h' tk' F' N'; (try k_sweep))
  k_with "call ref" => (k_here; (with_reducible show wpAny _ _ (call (Value.ref 149) _ _) _ _ _); k_dflt (refine' signof_c (by k_asm) (by k_asm) (by k_asm) (by k_asm) (by k_asm) (by first | exact rfl | assumption) (by k_mem) (by k_mem) (by ktr_room) (by ktr_units) ?_); intro t' h' tk' F' N'; (try k_sweep))
  k_with "call ref" => (k_here; (with_reducible show wpAny _ _ (call (Value.ref 156) _ _) _ _ _); k_dflt (refine' negative_c (by k_asm) (by k_asm) (by k_asm) (by k_asm) (by k_asm) (by first | exact rfl | assumption) (by k_mem) (by k_mem) (by ktr_room) (by ktr_units) ?_); intro x' d' k1' k2' t1' t2' h' tk' F' N'; (try k_sweep))
  k_with "call ref" => (k_here; (with_reducible show wpAny _ _ (call (Value.ref 163) _ _) _ _ _); k_dflt (refine' magnitude_c (by k_asm) (by k_asm) (by k_asm) (by k_asm) (by k_asm) (by first | exact rfl | assumption) (by k_mem) (by k_mem) (by ktr_room) (by ktr_units) ?_); intro x' d' k1' k2' t1' t2' h' tk' F' N'; (try k_sweep))
  k_with "call ref" => (k_here; (with_reducible show wpAny _ _ (call (Value.ref 170) _ _) _ _ _); k_dflt (refine' cmpmag_c (by k_asm) (by k_asm) (by k_asm) (by k_asm) (by k_asm) (by first | exact rfl | assumption) (by walk_at "mine hin") (by k_mem) (by k_mem) (by k_mem) (by k_mem) (by walk_at "mine bits") (by walk_at "mine bits") (by l_bnd) (by l_bnd) (by l_bnd) (by l_bnd) (by ktr_room) (by ktr_units) ?_); intro t' h' tk' F' N'; (try k_sweep))
  k_with "call ref" => (k_here; (with_reducible show wpAny _ _ (call (Value.ref 184) _ _) _ _ _); k_dflt (refine' far_c (by k_asm) (by k_asm) (by k_asm) (by k_asm) (by k_asm) (by first | exact rfl | assumption) (by walk_at "mine hin") (by k_mem) (by k_mem) (by k_mem) (by k_mem) (by l_bnd) (by l_bnd) (by walk_at "mine bits") (by l_bnd) (by l_bnd) (by ktr_room) (by ktr_units) ?_); intro x' d' k1' k2' t1' t2' h' tk' F' N'; (try k_sweep))
  k_with "call ref" => (k_here; (with_reducible show wpAny _ _ (call (Value.ref 177) _ _) _ _ _); k_dflt (refine' cmpreal_c (by k_asm) (by k_asm) (by k_asm) (by k_asm) (by k_asm) (by first | exact rfl | assumption) (by walk_at "mine hin") (by k_mem) (by k_mem) (by k_mem) (by k_mem) (by walk_at "mine bits") (by walk_at "mine bits") (by l_bnd) (by l_bnd) (by l_bnd) (by l_bnd) (by ktr_room) (by ktr_units) ?_); intro t' h' tk' F' N'; (try k_sweep))
  k_with "call ref" => (k_here; (with_reducible show wpAny _ _ (call (Value.ref 191) _ _) _ _ _); k_dflt (refine' add_c (by k_asm) (by k_asm) (by k_asm) (by k_asm) (by k_asm) (by first | exact rfl | assumption) (by walk_at "mine hin") (by k_mem) (by k_mem) (by k_mem) (by k_mem) (by l_bnd) (by l_bnd) (by first | exact bits_neg0 (by assumption) | walk_at "mine bits") (by first | exact bits_neg0 (by assumption) | walk_at "mine bits") (by l_bnd) (by l_bnd) (by l_bnd) (by l_bnd) (by ktr_room) (by ktr_units) ?_); intro x' d' k1' k2' t1' t2' h' tk' F' N'; (try k_sweep))
  k_with "call ref" => (k_here; (with_reducible show wpAny _ _ (call (Value.ref 198) _ _) _ _ _); k_dflt (refine' sub_c (by k_asm) (by k_asm) (by k_asm) (by k_asm) (by k_asm) (by first | exact rfl | assumption) (by walk_at "mine hin") (by k_mem) (by k_mem) (by k_mem) (by k_mem) (by l_bnd) (by l_bnd) (by walk_at "mine bits") (by walk_at "mine bits") (by l_bnd) (by l_bnd) (by l_bnd) (by l_bnd) (by ktr_room) (by ktr_units) ?_); intro x' d' k1' k2' t1' t2' h' tk' F' N'; (try k_sweep))
  k_with "call ref" => (k_here; (with_reducible show wpAny _ _ (call (Value.ref 205) _ _) _ _ _); k_dflt (refine' full_c (by k_asm) (by k_asm) (by k_asm) (by k_asm) (by k_asm) (by first | exact rfl | assumption) (by walk_at "mine hin") (by k_mem) (by k_mem) (by walk_at "mine bits") (by l_bnd) (by l_bnd) (by ktr_room) (by ktr_units) ?_); intro x' t1' t2' h' tk' F' N'; (try k_sweep))
  k_with "call ref" => (k_here; (with_reducible show wpAny _ _ (call (Value.ref 212) _ _) _ _ _); k_dflt (refine' farther_c (by k_asm) (by k_asm) (by k_asm) (by k_asm) (by k_asm) (by first | exact rfl | assumption) (by walk_at "mine hin") (by k_mem) (by k_mem) (by l_bnd) (by l_bnd) (by l_bnd) (by l_bnd) (by ktr_room) (by ktr_units) ?_); intro x' d' k1' k2' t1' t2' h' tk' F' N'; (try k_sweep))
  k_with "call ref" => (k_here; (with_reducible show wpAny _ _ (call (Value.ref 219) _ _) _ _ _); k_dflt (refine' nearer_c (by k_asm) (by k_asm) (by k_asm) (by k_asm) (by k_asm) (by first | exact rfl | assumption) (by walk_at "mine hin") (by k_mem) (by k_mem) (by l_bnd) (by l_bnd) (by l_bnd) (by l_bnd) (by l_bnd) (by ktr_room) (by ktr_units) ?_); intro x' d' k1' k2' t1' t2' h' tk' F' N'; (try k_sweep))
  k_with "call ref" => (k_here; (with_reducible show wpAny _ _ (call (Value.ref 226) _ _) _ _ _); k_dflt (refine' above_c (by k_asm) (by k_asm) (by k_asm) (by k_asm) (by k_asm) (by first | exact rfl | assumption) (by walk_at "mine hin") (by k_mem) (by k_mem) (by l_bnd) (by l_bnd) (by first | (rw [sz_neg]; l_bnd) | l_bnd) (by l_bnd) (by l_bnd) (by l_bnd) (by ktr_room) (by ktr_units) ?_); intro x' d' k1' k2' t1' t2' h' tk' F' N'; (try k_sweep))
  k_with "call ref" => (k_here; (with_reducible show wpAny _ _ (call (Value.ref 233) _ _) _ _ _); k_dflt (refine' below_c (by k_asm) (by k_asm) (by k_asm) (by k_asm) (by k_asm) (by first | exact rfl | assumption) (by walk_at "mine hin") (by k_mem) (by k_mem) (by l_bnd) (by l_bnd) (by l_bnd) (by l_bnd) (by l_bnd) (by l_bnd) (by ktr_room) (by ktr_units) ?_); intro x' d' k1' k2' t1' t2' h' tk' F' N'; (try k_sweep))
  k_with "mine last" => first | with_reducible assumption | exact allLt_of (by with_reducible assumption) | exact And.right (by with_reducible assumption) | exact And.right (And.right (by with_reducible assumption)) | exact And.right (And.right (And.right (by with_reducible assumption)))
  k_with "mine retTF" => ((try dsimp only); refine retTF_end (by assumption) (by k_asm) (cb_drop (by k_asm) (List.forall_mem_cons.mpr ⟨by k_mem, by walk_at "mine tail"⟩)) (by walk_at "mine last") ?_ ?_)
  k_with "call ref" => (k_here; (with_reducible show wpAny _ _ (call (Value.ref 273) _ _) _ _ _); k_dflt (refine' told_c (by k_asm) (by k_asm) (by k_asm) (by k_asm) (by k_asm) (by first | exact rfl | assumption) (by k_mem) (by k_mem) (by ktr_room) (by ktr_units) ?_); intro x' t1' t2' h' tk' F' N'; (try k_sweep))
  k_with "call ref" => (k_here; (with_reducible show wpAny _ _ (call (Value.ref 254) _ _) _ _ _); k_dflt (refine' whole_c (by k_asm) (by k_asm) (by k_asm) (by k_asm) (by k_asm) (by first | exact rfl | assumption) (by k_mem) (by walk_at "mine bits") (by l_bnd) (by l_bnd) (by ktr_room) (by ktr_units) ?_); intro t' h' tk' F' N'; (try k_sweep))
  k_with "call ref" => (k_here; (with_reducible show wpAny _ _ (call (Value.ref 240) _ _) _ _ _); k_dflt (refine' odd_c (by k_asm) (by k_asm) (by k_asm) (by k_asm) (by k_asm) (by first | exact rfl | assumption) (by walk_at "mine hin") (by ktr_room) (by ktr_units) ?_); (intro x' t1' t2' h' tk' l9' F' N'; (try simp only [AllLt, and_true] at l9')); (try k_sweep))
  k_with "call ref" => (k_here; (with_reducible show wpAny _ _ (call (Value.ref 247) _ _) _ _ _); k_dflt (refine' pair_c (by k_asm) (by k_asm) (by k_asm) (by k_asm) (by k_asm) (by first | exact rfl | assumption) (by walk_at "mine hin") (by l_bnd) (by l_bnd) (by ktr_room) (by ktr_units) ?_); (intro x' t1' t2' h' tk' l9' F' N'; (try simp only [AllLt, and_true] at l9')); (try k_sweep))
  k_with "mine nrB" => first | exact nrB_up1 (by assumption) | exact nrB_up2 (by assumption) (by assumption) | exact nrB_dn1 (by assumption) (by assumption) | exact nrB_dn2 (by assumption) (by assumption)
  k_with "call ref" => (k_here; (with_reducible show wpAny _ _ (call (Value.ref 261) _ _) _ _ _); k_dflt (refine' near_c (by k_asm) (by k_asm) (by k_asm) (by k_asm) (by k_asm) (by first | exact rfl | assumption) (by walk_at "mine hin") (by l_bnd) (by l_bnd) (by walk_at "mine bits") (by ktr_room) (by ktr_units) ?_); intro x' t1' t2' h' tk' F' N'; (try k_sweep))
  k_with "mine enterC" => (refine' code_defC ?k1 ?k2 ?k3 ?k4 ?k5 ?kA ?kF ?kK ?k6 ?k7 ?k8 ?k9 ?kB ?kD ?_ ?c2 ?c3 ?c4; (case kA => exact rfl); (case kF => exact rfl); (case kK => first | exact rfl | assumption); (case k1 => k_asm); (case k2 => k_asm); (case k3 => k_asm); (case k4 => k_asm); (case k5 => k_asm); (case k6 => k_is); (case k7 => k_is); (case k8 => ktr_room); (case k9 => exact BindsTo.of_eq rfl); (case kB => exact rfl); (case kD => decide +kernel); (case c2 => exact rfl); (case c3 => exact rfl); (case c4 => exact rfl); k_whole; intro g' L' h' tk' cells' FG' F' N' Y' B' X' T' l1; (replace l1 := allLt_of l1); k_cells Y'; (try simp only [List.cons_append, List.nil_append] at N'); (try dsimp only); (try k_fold))
  k_with "mine callC" => (refine wpAny_call ?_; k_dflt (walk_at "mine enterC"); k_steps)
  k_with "mine bits" => first | exact bits_small (by omega) (by omega) | exact bits_pow2 (by omega)
  k_with "call builtin:min" => (k_here; (with_reducible show wpAny _ _ (call (Value.builtin _) [Value.ref _]) _ _ _); k_dflt (refine min_best (by k_asm) (by k_asm) (by exact rfl) (by with_reducible assumption) (by with_reducible assumption) (by with_reducible assumption) (by with_reducible assumption) (by omega) ?_); intro h' t' tk' F' N'; (try k_sweep))
  walk_at "mine call"
  · walk_at "mine retB"
    rw [c]
    exact beq_self_eq_true _
  · exact (not_pair s1 s2 (by assumption)).elim
  · exact (not_pair a1 a2 (by assumption)).elim
end
theorem rows_24 : True := by
  k_with "call ref" => (k_here; (with_reducible show wpAny _ _ (call (Value.ref 280) _ _) _ _ _); k_dflt (refine' sumr_c (by k_asm) (by k_asm) (by k_asm) (by k_asm) (by k_asm) (by first | exact rfl | assumption) (by walk_at "mine hin") (by k_mem) (by k_mem) (by first | assumption | walk_at "mine sumok") (by ktr_room) (by ktr_units) ?_); intro h' tk' F' N'; (try k_sweep))
  trivial
theorem rows_25 : True := by
  k_with "subscriptTail Name Constant ref int" => (k_here; (with_reducible show wpAny _ _ (subscriptTail _ _ (Value.ref _) (Value.int _ _)) _ _ _); k_dflt (refine' item_tupleT ?t ?a ?b ?c ?d ?_; (case t => exact News.isTup (by k_asm) (by k_mem)); (case a => decide); (case b => decide); (case c => exact rfl); (case d => exact rfl); k_whole))
  k_with "call ref" => (k_here; (with_reducible show wpAny _ _ (call (Value.ref 266) _ _) _ _ _); k_dflt (refine' beside_c (by k_asm) (by k_asm) (by k_asm) (by k_asm) (by k_asm) (by first | exact rfl | assumption) (by k_mem) (by first | exact bits_neg0 (by walk_at "mine bits") | walk_at "mine bits") (by l_bnd) (by l_bnd) (by l_bnd) (by l_bnd) (by with_reducible assumption) (by ktr_room) (by ktr_units) ?_); intro x' t1' t2' h' tk' F' N'; (try k_sweep))
  trivial
theorem not_quad {a b c d a' b' c' d' : Int} (h1 : a = a') (h2 : b = b') (h3 : c = c') (h4 : d = d') (h : (a == a' && b == b' && (c == c' && d == d')) = false) : False := by
  subst h1 h2 h3 h4
  simp at h
/-- the lower exponent of the middle -/
def nxL (E E' : Int) : Int := min E E' - 1
def nxM (M E M' E' : Int) : Int := M * 2 ^ (E - (min E E' - 1)).toNat + M' * 2 ^ (E' - (min E E' - 1)).toNat
/-- what the law asks of one number and its neighbours T above, 0 - T' below -/
structure NextOk (b M E T T' : Int) : Prop where
  B1 : ∃ e0 m0, BsIn T (M * 2 ^ (E - (E - b - 1)).toNat) (E - b - 1) b e0 m0
  B2 : ∃ e0 m0, BsIn T' ((0 - M) * 2 ^ (E - (E - b - 1)).toNat) (E - b - 1) b e0 m0
  n0 : M ≠ 0
  s0 : sz M ≤ b
  p1 : 1 ≤ b
  p2 : b ≤ 5
  l1 : -40 ≤ E
  l2 : E ≤ 40
  a1 : avM b M = leanM T
  a2 : avE b M E = leanE T (E - b - 1)
  c1 : 0 - avM b (0 - M) = 0 - leanM T'
  c2 : avE b (0 - M) E = leanE T' (E - b - 1)
  g : sg M = if 0 < M then 1 else -1
  t1 : Builtin.Int.intBits (leanM T) ≤ 20
  t2 : -60 ≤ leanE T (E - b - 1)
  t3 : leanE T (E - b - 1) ≤ 60
  h1 : adM b (leanM (nxM M E (leanM T) (leanE T (E - b - 1)))) (leanE (nxM M E (leanM T) (leanE T (E - b - 1))) (nxL E (leanE T (E - b - 1)) - 1)) 0 0 = naM b (nxM M E (leanM T) (leanE T (E - b - 1)))
  h2 : adE b (leanM (nxM M E (leanM T) (leanE T (E - b - 1)))) (leanE (nxM M E (leanM T) (leanE T (E - b - 1))) (nxL E (leanE T (E - b - 1)) - 1)) 0 0 = naE b (nxM M E (leanM T) (leanE T (E - b - 1))) (nxL E (leanE T (E - b - 1)) - 1)
  m1 : Builtin.Int.intBits (nxM M E (leanM T) (leanE T (E - b - 1))) ≤ 300
  m2 : Builtin.Int.intBits (leanM (nxM M E (leanM T) (leanE T (E - b - 1)))) ≤ 99
  m3 : -80 ≤ leanE (nxM M E (leanM T) (leanE T (E - b - 1))) (nxL E (leanE T (E - b - 1)) - 1)
  m4 : leanE (nxM M E (leanM T) (leanE T (E - b - 1))) (nxL E (leanE T (E - b - 1)) - 1) ≤ 80
section
variable {prog : Program} {w : World} {p : Program} {loose : List Str} {mean : ExcName → Option Value} {mg mb : Str → Option Value}
  {hh : Option Value} {dp un : Nat} {gd : Option (List Code)} {cn : Str} {cs : Scope} {a : Addr} {ccd : Value} {cl : List (Str × Addr)} {outer : List Env} {A₀ : Around} {base h₀ : Heap} {L : Addr} {m : Str → Option Value} {news : List (Addr × Obj)} {s : Shared} {Q E : Value → Shared → Prop}
variable (B : Below A₀ base outer h₀) (F : Fr h₀ L s.heap m) (X : (KK w.params).In h₀) (N : News h₀ L s.heap news) (T : Top p loose mean mg mb h₀) (hk : cs.kind = .function)
include B F X N T hk
theorem nextr_c {x : Addr} {M E₁ b T' T'' : Int} {t0 t1 t2 : Tok} (hx : (x, tupObj [.int M t1, .int E₁ t2]) ∈ news) (S : NextOk b M E₁ T' T'')
    (hd' : dp + 9 < recursionLimit) (hu : un + 110 < cLine) (k : RetB h₀ L m news s Q true) :
    wpAny (model prog w) (ar none dp un gd cn cs L a ccd cl outer) (call (.ref 287) [.int b t0, .ref x]) Q E s := by
  have H : HIn (none : Option Value) news := .inl rfl
  obtain ⟨⟨e0, m0, B1⟩, ⟨e0', m0', B2⟩, n0, s0, p1, p2, l1, l2, a1, a2, c1, c2, g, t1, t2, t3, h1, h2, m1, m2, m3, m4⟩ := S
  unfold nxM at h1 h2 m1 m2 m3 m4
  unfold nxL at h1 h2 m3 m4
  have b1 : Builtin.Int.intBits M ≤ 100 := by have := sz_eq M; omega
  have b2 : Builtin.Int.intBits (0 : Int) ≤ 20 := by decide
  k_with_none
  k_with "mine enter" => (refine' code_def ?k1 ?k2 ?k3 ?k4 ?k5 ?kA ?kF ?kK ?k6 ?k7 ?k8 ?k9 ?kB ?_ ?c2 ?c3 ?c4 ?c5; (case kA => exact rfl); (case kF => exact rfl); (case kK => first | exact rfl | assumption); (case k1 => k_asm); (case k2 => k_asm); (case k3 => k_asm); (case k4 => k_asm); (case k5 => k_asm); (case k6 => k_is); (case k7 => k_is); (case k8 => ktr_room); (case k9 => exact BindsTo.of_eq rfl); (case c5 => decide); (case kB => exact locs rfl); (case c2 => exact rfl); (case c3 => exact rfl); (case c4 => exact rfl); k_whole; intro g' L' h' FG' F' N' B' X' T'; (try dsimp only); (try k_fold))
  k_with "mine call" => (refine wpAny_call ?_; k_dflt (walk_at "mine enter"); k_steps)
  k_with "mine tail" => (intro p9 h9; repeat (first | exact h9 | refine List.Mem.tail _ ?_))
  k_with "mine retR" => ((try dsimp only); refine retR_end (by assumption) (by k_asm) (cb_drop (by k_asm) (List.forall_mem_cons.mpr ⟨by k_mem, List.forall_mem_cons.mpr ⟨by k_mem, by walk_at "mine tail"⟩⟩)) ?_ ?_)
  k_with "mine retT" => ((try dsimp only); refine retT_end (by assumption) (by k_asm) (cb_drop (by k_asm) (List.forall_mem_cons.mpr ⟨by k_mem, by walk_at "mine tail"⟩)) ?_ ?_)
  k_with "mine retI" => ((try dsimp only); refine retI_end (by assumption) (by k_asm) (cb_drop (by k_asm) (by walk_at "mine tail")) ?_)
  k_with "mine retB" => ((try dsimp only); refine retB_end (by assumption) (by k_asm) (cb_drop (by k_asm) (by walk_at "mine tail")) ?_)
  k_with "call ref" => (k_here; (with_reducible show wpAny _ _ (call (Value.ref 107) _ _) _ _ _); k_dflt (refine' sign_c (by k_asm) (by k_asm) (by k_asm) (by k_asm) (by k_asm) (by first | exact rfl | assumption) (by ktr_room) (by ktr_units) ?_); intro t' h' tk' F' N'; (try k_sweep))
  k_with "call ref" => (k_here; (with_reducible show wpAny _ _ (call (Value.ref 100) _ _) _ _ _); k_dflt (refine' size_c (by k_asm) (by k_asm) (by k_asm) (by k_asm) (by k_asm) (by first | exact rfl | assumption) (by ktr_room) (by ktr_units) ?_); intro t' h' tk' F' N'; (try k_sweep))
  k_with "call ref" => (k_here; (with_reducible show wpAny _ _ (call (Value.ref 114) _ _) _ _ _); k_dflt (refine' zeros_c (by k_asm) (by k_asm) (by k_asm) (by k_asm) (by k_asm) (by first | exact rfl | assumption) (by ktr_room) (by ktr_units) ?_); intro t' h' tk' F' N'; (try k_sweep))
  k_with "call ref" => (k_here; (with_reducible show wpAny _ _ (call (Value.ref 89) _ _) _ _ _); k_dflt (refine' real_c (by k_asm) (by k_asm) (by k_asm) (by k_asm) (by k_asm) (by first | exact rfl | assumption) (by ktr_room) (by ktr_units) ?_); intro x' d' k1' k2' t1' t2' h' tk' F' N'; (try k_sweep))
  k_with "mine hin" => exact HIn.up (by assumption) (by intro p9 h9; repeat (first | exact h9 | refine List.Mem.tail _ ?_))
  k_with "unpackItems ref" => (k_here; k_dflt (refine' unpackN_H ?k0 ?k1 ?k2 ?k3 ?k5 ?_; (case k1 => k_asm); (case k2 => k_asm); (case k0 => walk_at "mine hin"); (case k3 => kun_tup); (case k5 => exact rfl); k_whole); intro h' F' N'; (try k_sweep))
  k_with "assign Tuple" => (k_here; (with_reducible show wpAny _ _ (assign (Expr.Tuple _ _ _) _ (Value.ref _)) _ _ _); k_dflt (refine' assignT_H ?k0 ?k1 ?k2 ?k3 ?k5 ?k6 ?_; (case k1 => k_asm); (case k2 => k_asm); (case k0 => walk_at "mine hin"); (case k3 => kun_tup); (case k5 => exact rfl); (case k6 => exact rfl); k_whole); intro h' F' N'; (try k_sweep))
  k_with "call builtin:min" => (k_here; (with_reducible show wpAny _ _ (call (Value.builtin _) [Value.int _ _, Value.int _ _]) _ _ _); k_dflt (refine' min_H ?k0 ?k1 ?k2 ?_; (case k1 => k_asm); (case k2 => k_asm); (case k0 => walk_at "mine hin"); k_whole); intro t' h' tk' F' N'; (try k_sweep))
  k_with "call builtin:max" => (k_here; (with_reducible show wpAny _ _ (call (Value.builtin _) [Value.int _ _, Value.int _ _]) _ _ _); k_dflt (refine' max_H ?k0 ?k1 ?k2 ?_; (case k1 => k_asm); (case k2 => k_asm); (case k0 => walk_at "mine hin"); k_whole); intro t' h' tk' F' N'; (try k_sweep))
  k_with "mine bits" => first | assumption | (refine Nat.le_trans (by assumption) (by decide)) | decide | bits_by_make
  k_with "binaryOp LShift int int" => (k_here; (with_reducible refine lshift_int ?kbn ?kbs ?_); (case kbn => l_bnd); (case kbs => (refine' kbm_shl (m := 1000) ?kba ?kbc ?kbd; (case kba => walk_at "mine bits"); (case kbc => l_bnd); (case kbd => decide))))
  k_with "binaryOp Mult int int" => (k_here; with_reducible refine mul_int ?_ (mulOk_of_bits (m := 1000) (n := 1000) (by walk_at "mine bits") (by walk_at "mine bits") (by decide)))
  k_with "call ref" => (k_here; (with_reducible show wpAny _ _ (call (Value.ref 121) _ _) _ _ _); k_dflt (refine' lean_c (by k_asm) (by k_asm) (by k_asm) (by k_asm) (by k_asm) (by first | exact rfl | assumption) (by walk_at "mine hin") (by first | assumption | walk_at "mine bits") (by l_bnd) (by l_bnd) (by ktr_room) (by ktr_units) ?_); intro x' d' k1' k2' t1' t2' h' tk' F' N'; (try k_sweep))
  k_with "call ref" => (k_here; (with_reducible show wpAny _ _ (call (Value.ref 128) _ _) _ _ _); k_dflt (refine' nearest_c (by k_asm) (by k_asm) (by k_asm) (by k_asm) (by k_asm) (by first | exact rfl | assumption) (by walk_at "mine hin") (by first | assumption | walk_at "mine bits") (by l_bnd) (by l_bnd) (by ktr_room) (by ktr_units) ?_); intro t' h' tk' F' N'; (try k_sweep))
  k_with "call ref" => (k_here; (with_reducible show wpAny _ _ (call (Value.ref 135) _ _) _ _ _); k_dflt (refine' shifted_c (by k_asm) (by k_asm) (by k_asm) (by k_asm) (by k_asm) (by first | exact rfl | assumption) (by walk_at "mine hin") (by walk_at "mine bits") (by l_bnd) (by l_bnd) (by l_bnd) (by l_bnd) (by ktr_room) (by ktr_units) ?_); intro x' d' k1' k2' t1' t2' h' tk' F' N'; (try k_sweep))
  k_with "call ref" => (k_here; (with_reducible show wpAny _ _ (call (Value.ref 142) _ _) _ _ _); k_dflt (refine' place_c (by k_asm) (by k_asm) (by k_asm) (by k_asm) (by k_asm) (by first | exact rfl | assumption) (by k_mem) (by k_mem) (by ktr_room) (by ktr_units) ?_); intro t' h' tk' F' N'; (try k_sweep))
  k_with "call ref" => (k_here; (with_reducible show wpAny _ _ (call (Value.ref 149) _ _) _ _ _); k_dflt (refine' signof_c (by k_asm) (by k_asm) (by k_asm) (by k_asm) (by k_asm) (by first | exact rfl | assumption) (by k_mem) (by k_mem) (by ktr_room) (by ktr_units) ?_); intro t' h' tk' F' N'; (try k_sweep))
  k_with "call ref" => (k_here; (with_reducible show wpAny _ _ (call (Value.ref 156) _ _) _ _ _); k_dflt (refine' negative_c (by k_asm) (by k_asm) (by k_asm) (by k_asm) (by k_asm) (by first | exact rfl | assumption) (by k_mem) (by k_mem) (by ktr_room) (by ktr_units) ?_); intro x' d' k1' k2' t1' t2' h' tk' F' N'; (try k_sweep))
  k_with "call ref" => (k_here; (with_reducible show wpAny _ _ (call (Value.ref 163) _ _) _ _ _); k_dflt (refine' magnitude_c (by k_asm) (by k_asm) (by k_asm) (by k_asm) (by k_asm) (by first | exact rfl | assumption) (by k_mem) (by k_mem) (by ktr_room) (by ktr_units) ?_); intro x' d' k1' k2' t1' t2' h' tk' F' N'; (try k_sweep))
  k_with "call ref" => (k_here; (with_reducible show wpAny _ _ (call (Value.ref 170) _ _) _ _ _); k_dflt (refine' cmpmag_c (by k_asm) (by k_asm) (by k_asm) (by k_asm) (by k_asm) (by first | exact rfl | assumption) (by walk_at "mine hin") (by k_mem) (by k_mem) (by k_mem) (by k_mem) (by walk_at "mine bits") (by walk_at "mine bits") (by l_bnd) (by l_bnd) (by l_bnd) (by l_bnd) (by ktr_room) (by ktr_units) ?_); intro t' h' tk' F' N'; (try k_sweep))
  k_with "call ref" => (k_here; (with_reducible show wpAny _ _ (call (Value.ref 184) _ _) _ _ _); k_dflt (refine' far_c (by k_asm) (by k_asm) (by k_asm) (by k_asm) (by k_asm) (by first | exact rfl | assumption) (by walk_at "mine hin") (by k_mem) (by k_mem) (by k_mem) (by k_mem) (by l_bnd) (by l_bnd) (by walk_at "mine bits") (by l_bnd) (by l_bnd) (by ktr_room) (by ktr_units) ?_); intro x' d' k1' k2' t1' t2' h' tk' F' N'; (try k_sweep))
  k_with "call ref" => (k_here; (with_reducible show wpAny _ _ (call (Value.ref 177) _ _) _ _ _); k_dflt (refine' cmpreal_c (by k_asm) (by k_asm) (by k_asm) (by k_asm) (by k_asm) (by first | exact rfl | assumption) (by walk_at "mine hin") (by k_mem) (by k_mem) (by k_mem) (by k_mem) (by walk_at "mine bits") (by walk_at "mine bits") (by l_bnd) (by l_bnd) (by l_bnd) (by l_bnd) (by ktr_room) (by ktr_units) ?_); intro t' h' tk' F' N'; (try k_sweep))
  k_with "call ref" => (k_here; (with_reducible show wpAny _ _ (call (Value.ref 191) _ _) _ _ _); k_dflt (refine' add_c (by k_asm) (by k_asm) (by k_asm) (by k_asm) (by k_asm) (by first | exact rfl | assumption) (by walk_at "mine hin") (by k_mem) (by k_mem) (by k_mem) (by k_mem) (by l_bnd) (by l_bnd) (by first | exact bits_neg0 (by assumption) | walk_at "mine bits") (by first | exact bits_neg0 (by assumption) | walk_at "mine bits") (by l_bnd) (by l_bnd) (by l_bnd) (by l_bnd) (by ktr_room) (by ktr_units) ?_); intro x' d' k1' k2' t1' t2' h' tk' F' N'; (try k_sweep))
  k_with "call ref" => (k_here; (with_reducible show wpAny _ _ (call (Value.ref 198) _ _) _ _ _); k_dflt (refine' sub_c (by k_asm) (by k_asm) (by k_asm) (by k_asm) (by k_asm) (by first | exact rfl | assumption) (by walk_at "mine hin") (by k_mem) (by k_mem) (by k_mem) (by k_mem) (by l_bnd) (by l_bnd) (by walk_at "mine bits") (by walk_at "mine bits") (by l_bnd) (by l_bnd) (by l_bnd) (by l_bnd) (by ktr_room) (by ktr_units) ?_); intro x' d' k1' k2' t1' t2' h' tk' F' N'; (try k_sweep))
  k_with "call ref" => (k_here; (with_reducible show wpAny _ _ (call (Value.ref 205) _ _) _ _ _); k_dflt (refine' full_c (by k_asm) (by k_asm) (by k_asm) (by k_asm) (by k_asm) (by first | exact rfl | assumption) (by walk_at "mine hin") (by k_mem) (by k_mem) (by walk_at "mine bits") (by l_bnd) (by l_bnd) (by ktr_room) (by ktr_units) ?_); intro x' t1' t2' h' tk' F' N'; (try k_sweep))
  k_with "call ref" => (k_here; (with_reducible show wpAny _ _ (call (Value.ref 212) _ _) _ _ _); k_dflt (refine' farther_c (by k_asm) (by k_asm) (by k_asm) (by k_asm) (by k_asm) (by first | exact rfl | assumption) (by walk_at "mine hin") (by k_mem) (by k_mem) (by l_bnd) (by l_bnd) (by l_bnd) (by l_bnd) (by ktr_room) (by ktr_units) ?_); intro x' d' k1' k2' t1' t2' h' tk' F' N'; (try k_sweep))
  k_with "call ref" => (k_here; (with_reducible show wpAny _ _ (call (Value.ref 219) _ _) _ _ _); k_dflt (refine' nearer_c (by k_asm) (by k_asm) (by k_asm) (by k_asm) (by k_asm) (by first | exact rfl | assumption) (by walk_at "mine hin") (by k_mem) (by k_mem) (by l_bnd) (by l_bnd) (by l_bnd) (by l_bnd) (by l_bnd) (by ktr_room) (by ktr_units) ?_); intro x' d' k1' k2' t1' t2' h' tk' F' N'; (try k_sweep))
  k_with "call ref" => (k_here; (with_reducible show wpAny _ _ (call (Value.ref 226) _ _) _ _ _); k_dflt (refine' above_c (by k_asm) (by k_asm) (by k_asm) (by k_asm) (by k_asm) (by first | exact rfl | assumption) (by walk_at "mine hin") (by k_mem) (by k_mem) (by l_bnd) (by l_bnd) (by first | (rw [sz_neg]; l_bnd) | l_bnd) (by l_bnd) (by l_bnd) (by l_bnd) (by ktr_room) (by ktr_units) ?_); intro x' d' k1' k2' t1' t2' h' tk' F' N'; (try k_sweep))
  k_with "call ref" => (k_here; (with_reducible show wpAny _ _ (call (Value.ref 233) _ _) _ _ _); k_dflt (refine' below_c (by k_asm) (by k_asm) (by k_asm) (by k_asm) (by k_asm) (by first | exact rfl | assumption) (by walk_at "mine hin") (by k_mem) (by k_mem) (by l_bnd) (by l_bnd) (by l_bnd) (by l_bnd) (by l_bnd) (by l_bnd) (by ktr_room) (by ktr_units) ?_); intro x' d' k1' k2' t1' t2' h' tk' F' N'; (try k_sweep))
  k_with "mine last" => first | with_reducible assumption | exact allLt_of (by with_reducible assumption) | exact And.right (by with_reducible assumption) | exact And.right (And.right (by with_reducible assumption)) | exact And.right (And.right (And.right (by with_reducible assumption)))
  k_with "mine retTF" => ((try dsimp only); refine retTF_end (by assumption) (by k_asm) (cb_drop (by k_asm) (List.forall_mem_cons.mpr ⟨by k_mem, by walk_at "mine tail"⟩)) (by walk_at "mine last") ?_ ?_)
  k_with "call ref" => (k_here; (with_reducible show wpAny _ _ (call (Value.ref 273) _ _) _ _ _); k_dflt (refine' told_c (by k_asm) (by k_asm) (by k_asm) (by k_asm) (by k_asm) (by first | exact rfl | assumption) (by k_mem) (by k_mem) (by ktr_room) (by ktr_units) ?_); intro x' t1' t2' h' tk' F' N'; (try k_sweep))
  k_with "call ref" => (k_here; (with_reducible show wpAny _ _ (call (Value.ref 254) _ _) _ _ _); k_dflt (refine' whole_c (by k_asm) (by k_asm) (by k_asm) (by k_asm) (by k_asm) (by first | exact rfl | assumption) (by k_mem) (by walk_at "mine bits") (by l_bnd) (by l_bnd) (by ktr_room) (by ktr_units) ?_); intro t' h' tk' F' N'; (try k_sweep))
  k_with "call ref" => (k_here; (with_reducible show wpAny _ _ (call (Value.ref 240) _ _) _ _ _); k_dflt (refine' odd_c (by k_asm) (by k_asm) (by k_asm) (by k_asm) (by k_asm) (by first | exact rfl | assumption) (by walk_at "mine hin") (by ktr_room) (by ktr_units) ?_); (intro x' t1' t2' h' tk' l9' F' N'; (try simp only [AllLt, and_true] at l9')); (try k_sweep))
  k_with "call ref" => (k_here; (with_reducible show wpAny _ _ (call (Value.ref 247) _ _) _ _ _); k_dflt (refine' pair_c (by k_asm) (by k_asm) (by k_asm) (by k_asm) (by k_asm) (by first | exact rfl | assumption) (by walk_at "mine hin") (by l_bnd) (by l_bnd) (by ktr_room) (by ktr_units) ?_); (intro x' t1' t2' h' tk' l9' F' N'; (try simp only [AllLt, and_true] at l9')); (try k_sweep))
  k_with "mine nrB" => first | exact nrB_up1 (by assumption) | exact nrB_up2 (by assumption) (by assumption) | exact nrB_dn1 (by assumption) (by assumption) | exact nrB_dn2 (by assumption) (by assumption)
  k_with "call ref" => (k_here; (with_reducible show wpAny _ _ (call (Value.ref 261) _ _) _ _ _); k_dflt (refine' near_c (by k_asm) (by k_asm) (by k_asm) (by k_asm) (by k_asm) (by first | exact rfl | assumption) (by walk_at "mine hin") (by l_bnd) (by l_bnd) (by walk_at "mine bits") (by ktr_room) (by ktr_units) ?_); intro x' t1' t2' h' tk' F' N'; (try k_sweep))
  k_with "mine enterC" => (refine' code_defC ?k1 ?k2 ?k3 ?k4 ?k5 ?kA ?kF ?kK ?k6 ?k7 ?k8 ?k9 ?kB ?kD ?_ ?c2 ?c3 ?c4; (case kA => exact rfl); (case kF => exact rfl); (case kK => first | exact rfl | assumption); (case k1 => k_asm); (case k2 => k_asm); (case k3 => k_asm); (case k4 => k_asm); (case k5 => k_asm); (case k6 => k_is); (case k7 => k_is); (case k8 => ktr_room); (case k9 => exact BindsTo.of_eq rfl); (case kB => exact rfl); (case kD => decide +kernel); (case c2 => exact rfl); (case c3 => exact rfl); (case c4 => exact rfl); k_whole; intro g' L' h' tk' cells' FG' F' N' Y' B' X' T' l1; (replace l1 := allLt_of l1); k_cells Y'; (try simp only [List.cons_append, List.nil_append] at N'); (try dsimp only); (try k_fold))
  k_with "mine callC" => (refine wpAny_call ?_; k_dflt (walk_at "mine enterC"); k_steps)
  k_with "mine bits" => first | exact bits_small (by omega) (by omega) | exact bits_pow2 (by omega)
  k_with "call builtin:min" => (k_here; (with_reducible show wpAny _ _ (call (Value.builtin _) [Value.ref _]) _ _ _); k_dflt (refine min_best (by k_asm) (by k_asm) (by exact rfl) (by with_reducible assumption) (by with_reducible assumption) (by with_reducible assumption) (by with_reducible assumption) (by omega) ?_); intro h' t' tk' F' N'; (try k_sweep))
  k_with "call ref" => (k_here; (with_reducible show wpAny _ _ (call (Value.ref 280) _ _) _ _ _); k_dflt (refine' sumr_c (by k_asm) (by k_asm) (by k_asm) (by k_asm) (by k_asm) (by first | exact rfl | assumption) (by walk_at "mine hin") (by k_mem) (by k_mem) (by first | assumption | walk_at "mine sumok") (by ktr_room) (by ktr_units) ?_); intro h' tk' F' N'; (try k_sweep))
  k_with "subscriptTail Name Constant ref int" => (k_here; (with_reducible show wpAny _ _ (subscriptTail _ _ (Value.ref _) (Value.int _ _)) _ _ _); k_dflt (refine' item_tupleT ?t ?a ?b ?c ?d ?_; (case t => exact News.isTup (by k_asm) (by k_mem)); (case a => decide); (case b => decide); (case c => exact rfl); (case d => exact rfl); k_whole))
  k_with "call ref" => (k_here; (with_reducible show wpAny _ _ (call (Value.ref 266) _ _) _ _ _); k_dflt (refine' beside_c (by k_asm) (by k_asm) (by k_asm) (by k_asm) (by k_asm) (by first | exact rfl | assumption) (by k_mem) (by first | exact bits_neg0 (by walk_at "mine bits") | walk_at "mine bits") (by l_bnd) (by l_bnd) (by l_bnd) (by l_bnd) (by with_reducible assumption) (by ktr_room) (by ktr_units) ?_); intro x' t1' t2' h' tk' F' N'; (try k_sweep))
  walk_at "mine call"
  all_goals first
    | exact (not_quad a1 a2 c1 c2 (by with_reducible assumption)).elim
    | exact (not_pair h1 h2 (by with_reducible assumption)).elim
    | exact absurd (g.trans (if_pos (by with_reducible assumption))) (by with_reducible assumption)
    | exact absurd (g.trans (if_neg (by with_reducible assumption))) (by with_reducible assumption)
    | (walk_at "mine retB"; exact beq_self_eq_true (ab M))
end
theorem rows_26 : True := by
  k_with "call ref" => (k_here; (with_reducible show wpAny _ _ (call (Value.ref 287) _ _) _ _ _); k_dflt (refine' nextr_c (by k_asm) (by k_asm) (by k_asm) (by k_asm) (by k_asm) (by first | exact rfl | assumption) (by k_mem) (by with_reducible assumption) (by ktr_room) (by ktr_units) ?_); intro h' tk' F' N'; (try k_sweep))
  trivial
/-- rounding at the place g, of two the even one -/
def rnd (n : Int) (g : Nat) : Int := if 2 ^ g < 2 * (n % 2 ^ g) ∨ (2 * (n % 2 ^ g) = 2 ^ g ∧ (n / 2 ^ g) % 2 = 1) then n / 2 ^ g + 1 else n / 2 ^ g
theorem rnd_zero (n : Int) : rnd n 0 = n := by
  unfold rnd
  rw [Int.pow_zero, Int.emod_one, Int.ediv_one, if_neg (by omega)]
theorem rnd_nought (g : Nat) : rnd 0 g = 0 := by
  have h := kbt_pos g
  unfold rnd
  rw [Int.zero_emod, Int.zero_ediv, if_neg (by omega)]
theorem nrB_rnd (b v : Int) : nrB b v = rnd (ab v) (nrg b v).toNat := by
  have h := kbt_pos (nrg b v).toNat
  unfold nrB rnd
  rw [Int.fdiv_eq_ediv_of_nonneg _ (Int.le_of_lt h), Int.fmod_eq_emod_of_nonneg _ (Int.le_of_lt h), Int.fmod_eq_emod_of_nonneg _ (show (0 : Int) ≤ 2 by decide)]
theorem rne_rnd {n g : Int} (h1 : 1 ≤ g) : rne n g = rnd n g.toNat := by
  have h := kbt_pos g.toNat
  have e : (2 : Int) ^ g.toNat = 2 * 2 ^ (g - 1).toNat := by
    rw [show g.toNat = (g - 1).toNat + 1 by omega, Int.pow_succ, Int.mul_comm]
  have e1 : ∀ x : Int, Builtin.bitAnd x 1 = x % 2 := fun x => kbt_mask x 1
  unfold rne rnd
  rw [Int.one_mul, Int.one_mul, kbt_mask, e1, Int.fdiv_eq_ediv_of_nonneg _ (Int.le_of_lt h)]
  generalize n % 2 ^ g.toNat = r
  generalize n / 2 ^ g.toNat = q
  rw [e]
  generalize (2 : Int) ^ (g - 1).toNat = u
  by_cases c : u < r ∨ (r = u ∧ q % 2 = 1)
  · rw [if_pos c, if_pos (by omega)]
  · rw [if_neg c, if_neg (by omega)]
theorem ab_pos {v : Int} (h : v ≠ 0) : 0 < ab v := by unfold ab; split <;> omega
theorem ab_ge (v : Int) : 0 ≤ ab v := by unfold ab; split <;> omega
theorem ab_mul (v : Int) (k : Nat) : ab (v * 2 ^ k) = ab v * 2 ^ k := by
  have h := kbt_pos k
  unfold ab
  by_cases c : v < 0
  · rw [if_pos c, if_pos (Int.mul_neg_of_neg_of_pos c h), Int.neg_mul]
  · rw [if_neg c, if_neg (Int.not_lt.mpr (Int.mul_nonneg (by omega) (Int.le_of_lt h)))]
theorem neg_mul_iff (v : Int) (k : Nat) : v * 2 ^ k < 0 ↔ v < 0 := by
  have h := kbt_pos k
  constructor
  · intro q
    exact Int.not_le.mp fun z => absurd (Int.mul_nonneg z (Int.le_of_lt h)) (by omega)
  · intro q
    exact Int.mul_neg_of_neg_of_pos q h
theorem sz_zero : sz 0 = 0 := by rw [sz_eq]; decide
theorem sz_ab (v : Int) : sz (ab v) = sz v := by
  rw [sz_eq, sz_eq]
  unfold ab
  rw [intBits_ite]
theorem sz_one {v : Int} (h : v ≠ 0) : 1 ≤ sz v := by
  have h1 := (sz_lt (v := v) (k := 0) (by omega)).mpr
  have h2 := ab_pos h
  have h3 := sz_pos v
  rcases Int.lt_or_le (sz v) 1 with c | c
  · have := h1 (by omega)
    rw [show (0 : Int).toNat = 0 from rfl, Int.pow_zero] at this
    omega
  · exact c
theorem sz_up (v : Int) : ab v < 2 ^ (sz v).toNat := (sz_lt (sz_pos v)).mpr (Int.le_refl _)
theorem sz_dn {v : Int} (h : v ≠ 0) : 2 ^ (sz v - 1).toNat ≤ ab v := by
  have h1 := sz_one h
  exact Int.not_lt.mp fun c => by
    have := (sz_lt (v := v) (k := sz v - 1) (by omega)).mp c
    omega
theorem sz_is {v k : Int} (h0 : 1 ≤ k) (h1 : 2 ^ (k - 1).toNat ≤ ab v) (h2 : ab v < 2 ^ k.toNat) : sz v = k := by
  have a := (sz_lt (v := v) (k := k) (by omega)).mp h2
  have b : ¬ sz v ≤ k - 1 := fun c => by
    have := (sz_lt (v := v) (k := k - 1) (by omega)).mpr c
    omega
  omega
theorem sz_mix {v q r : Int} {j : Nat} (h : ab v = q * 2 ^ j + r) (h0 : 0 ≤ r) (h1 : r < 2 ^ j) (hq : 0 < q) : sz v = sz q + j := by
  have hj := kbt_pos j
  have e : ab q = q := by unfold ab; rw [if_neg (by omega)]
  have s1 := sz_one (v := q) (by omega)
  have u := sz_up q
  have d := sz_dn (v := q) (by omega)
  rw [e] at u d
  refine sz_is (by omega) ?_ ?_
  · rw [show (sz q + j - 1).toNat = (sz q - 1).toNat + j by omega, Int.pow_add]
    have := Int.mul_le_mul_of_nonneg_right d (Int.le_of_lt hj)
    omega
  · rw [show (sz q + j).toNat = (sz q).toNat + j by omega, Int.pow_add]
    have := Int.mul_le_mul_of_nonneg_right (show q + 1 ≤ 2 ^ (sz q).toNat by omega) (Int.le_of_lt hj)
    rw [Int.add_mul, Int.one_mul] at this
    omega
theorem sz_scale {v : Int} (h : v ≠ 0) (k : Nat) : sz (v * 2 ^ k) = sz v + k := by
  rw [← sz_ab v]
  exact sz_mix (r := 0) (by rw [ab_mul, Int.add_zero]) (Int.le_refl _) (kbt_pos k) (ab_pos h)
theorem ne_scale {v : Int} (h : v ≠ 0) (k : Nat) : v * 2 ^ k ≠ 0 := fun c => by
  have := kbt_pos k
  rcases Int.mul_eq_zero.mp c with c | c <;> omega
theorem lean_scale (x e : Int) (j : Nat) : leanM (x * 2 ^ j) = leanM x ∧ leanE (x * 2 ^ j) e = leanE x (e + j) := by
  by_cases h : x = 0
  · subst h
    rw [Int.zero_mul]
    exact ⟨rfl, by unfold leanE; rw [if_pos rfl, if_pos rfl]⟩
  · obtain ⟨i, a, rfl⟩ := two_part x h
    have e1 : 2 ^ i * (2 * a + 1) * 2 ^ j = (2 : Int) ^ (i + j) * (2 * a + 1) := by
      rw [Int.pow_add, Int.mul_right_comm]
    rw [e1, leanM_of, leanM_of, leanE_of, leanE_of]
    exact ⟨rfl, by omega⟩
theorem rnd_scale (n : Int) (g j : Nat) : rnd (n * 2 ^ j) (g + j) = rnd n g := by
  have hj := kbt_pos j
  have hg := kbt_pos g
  have h0 := Int.emod_nonneg n (Int.ne_of_gt hg)
  have h1 := Int.emod_lt_of_pos n hg
  have h2 := Int.emod_add_mul_ediv n (2 ^ g)
  obtain ⟨d, r⟩ := kbt_unique (a := n * 2 ^ j) (b := 2 ^ (g + j)) (q := n / 2 ^ g) (r := n % 2 ^ g * 2 ^ j) (kbt_pos _)
    (by rw [Int.pow_add, Int.mul_right_comm, ← Int.add_mul, h2]) (Int.mul_nonneg h0 (Int.le_of_lt hj))
    (by rw [Int.pow_add]; exact Int.mul_lt_mul_of_pos_right h1 hj)
  unfold rnd
  rw [d, r, Int.pow_add, ← Int.mul_assoc]
  have c1 : 2 ^ g * 2 ^ j < 2 * (n % 2 ^ g) * 2 ^ j ↔ (2 : Int) ^ g < 2 * (n % 2 ^ g) := ⟨fun h => Int.lt_of_mul_lt_mul_right h (Int.le_of_lt hj), fun h => Int.mul_lt_mul_of_pos_right h hj⟩
  have c2 : 2 * (n % 2 ^ g) * 2 ^ j = 2 ^ g * 2 ^ j ↔ 2 * (n % 2 ^ g) = (2 : Int) ^ g := ⟨fun h => Int.eq_of_mul_eq_mul_right (Int.ne_of_gt hj) h, fun h => by rw [h]⟩
  simp only [c1, c2]
theorem rnd_whole (n : Int) (g j : Nat) : rnd (n * 2 ^ (g + j)) g = n * 2 ^ j := by
  have := rnd_scale (n * 2 ^ j) 0 g
  rw [Int.mul_assoc, ← Int.pow_add, Nat.add_comm j g, Nat.zero_add, rnd_zero] at this
  exact this
/-- the nearest one with its sign -/
def nas (b v : Int) : Int := if v < 0 then 0 - nrB b v else nrB b v
theorem naM_nas (b v : Int) : naM b v = leanM (nas b v) := rfl
theorem naE_nas (b v low : Int) : naE b v low = leanE (nas b v) (low + nrg b v) := rfl
theorem nas_zero (b : Int) : nas b 0 = 0 := by
  unfold nas
  rw [if_neg (by decide), nrB_rnd]
  exact rnd_nought _
theorem na_scale {p : Int} (v low : Int) (k : Nat) : naM p (v * 2 ^ k) = naM p v ∧ naE p (v * 2 ^ k) low = naE p v (low + k) := by
  by_cases h : v = 0
  · subst h
    rw [Int.zero_mul]
    exact ⟨rfl, by rw [naE_nas, naE_nas, nas_zero]; unfold leanE; rw [if_pos rfl, if_pos rfl]⟩
  · have s := sz_scale h k
    have sg := neg_mul_iff v k
    by_cases c : p ≤ sz v
    · have g : nrg p (v * 2 ^ k) = nrg p v + k := by unfold nrg; omega
      have g0 : 0 ≤ nrg p v := by unfold nrg; omega
      have e : nrB p (v * 2 ^ k) = nrB p v := by
        rw [nrB_rnd, nrB_rnd, g, ab_mul, show (nrg p v + k).toNat = (nrg p v).toNat + k by omega, rnd_scale]
      have e2 : nas p (v * 2 ^ k) = nas p v := by unfold nas; simp only [e, sg]
      rw [naM_nas, naM_nas, naE_nas, naE_nas, e2, g]
      exact ⟨rfl, by rw [show low + (nrg p v + k) = low + k + nrg p v by omega]⟩
    · have g0 : nrg p v = 0 := by unfold nrg; omega
      have e0 : nrB p v = ab v := by rw [nrB_rnd, g0]; exact rnd_zero _
      have gk : nrg p (v * 2 ^ k) ≤ k ∧ 0 ≤ nrg p (v * 2 ^ k) := by unfold nrg; omega
      obtain ⟨j, hj⟩ : ∃ j : Nat, k = (nrg p (v * 2 ^ k)).toNat + j := ⟨k - (nrg p (v * 2 ^ k)).toNat, by omega⟩
      have e : nrB p (v * 2 ^ k) = ab v * 2 ^ j := by
        rw [nrB_rnd, ab_mul]
        conv => lhs; arg 1; rw [hj]
        exact rnd_whole _ _ _
      have e2 : nas p (v * 2 ^ k) = nas p v * 2 ^ j := by
        unfold nas
        simp only [e, e0, sg]
        split
        · rw [Int.sub_mul, Int.zero_mul]
        · rfl
      rw [naM_nas, naM_nas, naE_nas, naE_nas, e2]
      obtain ⟨l1, l2⟩ := lean_scale (nas p v) (low + nrg p (v * 2 ^ k)) j
      exact ⟨l1, l2.trans (by rw [g0]; congr 1; omega)⟩
theorem rnd_mix {q r : Int} (g j : Nat) (h0 : 0 < r) (h1 : r < 2 ^ j) : rnd (q * 2 ^ j + r) (g + 1 + j) = if 2 ^ g ≤ q % 2 ^ (g + 1) then q / 2 ^ (g + 1) + 1 else q / 2 ^ (g + 1) := by
  have hj := kbt_pos j
  have hg := kbt_pos (g + 1)
  have a0 := Int.emod_nonneg q (Int.ne_of_gt hg)
  have a1 := Int.emod_lt_of_pos q hg
  have a2 := Int.emod_add_mul_ediv q (2 ^ (g + 1))
  have a3 := Int.mul_le_mul_of_nonneg_right (show q % 2 ^ (g + 1) + 1 ≤ 2 ^ (g + 1) by omega) (Int.le_of_lt hj)
  rw [Int.add_mul, Int.one_mul] at a3
  have a4 := Int.mul_nonneg a0 (Int.le_of_lt hj)
  obtain ⟨d, m⟩ := kbt_unique (a := q * 2 ^ j + r) (b := 2 ^ (g + 1 + j)) (q := q / 2 ^ (g + 1)) (r := q % 2 ^ (g + 1) * 2 ^ j + r) (kbt_pos _)
    (by
      have : q % 2 ^ (g + 1) * 2 ^ j + 2 ^ (g + 1 + j) * (q / 2 ^ (g + 1)) = q * 2 ^ j := by rw [Int.pow_add _ (g + 1) j, Int.mul_right_comm, ← Int.add_mul, a2]
      omega) (by omega) (by rw [Int.pow_add _ (g + 1) j]; omega)
  unfold rnd
  rw [d, m]
  have e : (2 : Int) ^ (g + 1 + j) = 2 * (2 ^ g * 2 ^ j) := by rw [Int.pow_add _ (g + 1) j, Int.pow_succ, Int.mul_comm (2 ^ g) 2, Int.mul_assoc]
  rw [e]
  by_cases c : 2 ^ g ≤ q % 2 ^ (g + 1)
  · have := Int.mul_le_mul_of_nonneg_right c (Int.le_of_lt hj)
    rw [if_pos c, if_pos (by omega)]
  · have := Int.mul_le_mul_of_nonneg_right (show q % 2 ^ (g + 1) + 1 ≤ 2 ^ g by omega) (Int.le_of_lt hj)
    rw [Int.add_mul, Int.one_mul] at this
    rw [if_neg c, if_neg (by omega)]
theorem na_mix {p v w q r low : Int} {j : Nat} (hv : ab v = q * 2 ^ (j + 1) + r) (h0 : 0 < r) (h1 : r < 2 ^ (j + 1)) (hw : ab w = q * 2 + 1) (hs : v < 0 ↔ w < 0) (hq : p + 1 ≤ sz q) (hp : 0 ≤ p) :
    naM p v = naM p w ∧ naE p v low = naE p w (low + j) := by
  have q0 : q ≠ 0 := fun c => by rw [c, sz_zero] at hq; omega
  have qp : 0 < q := by
    rcases Int.lt_or_gt_of_ne q0 with c | c
    · exfalso
      have := ab_ge w
      omega
    · exact c
  have hw' : ab w = q * 2 ^ 1 + 1 := hw
  have s1 := sz_mix hv (Int.le_of_lt h0) h1 qp
  have s2 := sz_mix hw' (by decide) (by decide) qp
  obtain ⟨g, hg⟩ : ∃ g : Nat, sz q - p = g + 1 := ⟨(sz q - p - 1).toNat, by omega⟩
  have g1 : nrg p v = (g + 1 + (j + 1) : Nat) := by unfold nrg; omega
  have g2 : nrg p w = (g + 1 + 1 : Nat) := by unfold nrg; omega
  have e1 : nrB p v = nrB p w := by
    rw [nrB_rnd, nrB_rnd, g1, g2, hv, hw', Int.toNat_natCast, Int.toNat_natCast, rnd_mix g (j + 1) h0 h1, rnd_mix g 1 (by decide) (by decide)]
  have e2 : nas p v = nas p w := by unfold nas; simp only [e1, hs]
  rw [naM_nas, naM_nas, naE_nas, naE_nas, e2, g1, g2]
  exact ⟨rfl, by congr 1; omega⟩
theorem sr_na {p : Int} (v e : Int) (hp : 0 ≤ p) : srM p v = naM p v ∧ srE p v e = naE p v e := by
  rw [naM_nas, naE_nas]
  unfold srM srE
  by_cases c : sz v - p ≤ 0
  · have g0 : nrg p v = 0 := by unfold nrg; omega
    have e0 : nas p v = v := by unfold nas; rw [nrB_rnd, g0]; simp only [Int.toNat_zero, rnd_zero]; unfold ab; split <;> omega
    rw [if_pos c, if_pos c, e0, g0, Int.add_zero]
    exact ⟨rfl, rfl⟩
  · have g0 : nrg p v = sz v - p := by unfold nrg; omega
    have v0 : v ≠ 0 := fun h => by rw [h, sz_zero] at c; omega
    have e0 : sg v * rne (ab v) (sz v - p) = nas p v := by
      unfold nas
      rw [nrB_rnd, g0, rne_rnd (by omega)]
      unfold sg b2i
      by_cases h : v < 0
      · have h2 : ¬ 0 < v := by omega
        rw [if_pos h]
        simp only [h, h2]
        simp
      · have h2 : 0 < v := by omega
        rw [if_neg h]
        simp only [h, h2]
        simp
    rw [if_neg c, if_neg c, e0, g0]
    exact ⟨rfl, rfl⟩
theorem sg_pos {n : Int} (h : 0 < n) : sg n = 1 := by
  unfold sg b2i
  simp only [h, show ¬ n < 0 by omega]
  decide
theorem sg_neg {n : Int} (h : n < 0) : sg n = -1 := by
  unfold sg b2i
  simp only [h, show ¬ 0 < n by omega]
  decide
theorem sg_zero : sg 0 = 0 := by decide
theorem sg_iff {n : Int} : sg n = 0 ↔ n = 0 := by
  constructor
  · intro h
    rcases Int.lt_trichotomy n 0 with c | c | c
    · rw [sg_neg c] at h; omega
    · exact c
    · rw [sg_pos c] at h; omega
  · intro h
    rw [h]
    exact sg_zero
theorem ab_neg {n : Int} (h : n < 0) : ab n = -n := if_pos h
theorem ab_of {n : Int} (h : ¬ n < 0) : ab n = n := if_neg h
theorem mix_ge {p q : Int} (hp : 0 ≤ p) (h : 2 ^ p.toNat ≤ ab q) : p + 1 ≤ sz q := by
  rcases Int.lt_or_le p (sz q) with c | c
  · omega
  · exfalso
    have := (sz_lt (v := q) hp).mpr c
    omega
theorem far_na {p X M₂ low : Int} {j : Nat} (hp : 0 ≤ p) (hX : 4 * 2 ^ p.toNat ≤ ab X) (h2 : M₂ ≠ 0) (hj : ab M₂ < 2 ^ (j + 1)) :
    naM p (X * 2 ^ (j + 1) + M₂) = naM p (2 * X + sg M₂) ∧ naE p (X * 2 ^ (j + 1) + M₂) low = naE p (2 * X + sg M₂) (low + j) := by
  have hP := kbt_pos (j + 1)
  have hp0 := kbt_pos p.toNat
  rcases Int.lt_or_le X 0 with c | c
  · rw [ab_neg c] at hX
    have m1 := Int.mul_le_mul_of_nonneg_right (show X ≤ -1 by omega) (Int.le_of_lt hP)
    rcases Int.lt_or_le M₂ 0 with d | d
    · rw [ab_neg d] at hj
      rw [sg_neg d]
      have v0 : X * 2 ^ (j + 1) + M₂ < 0 := by omega
      refine na_mix (q := -X) (r := -M₂) ?_ (by omega) hj ?_ (by constructor <;> intro <;> omega) (mix_ge hp ?_) hp
      · rw [ab_neg v0, Int.neg_mul]; omega
      · rw [ab_neg (by omega)]; omega
      · rw [ab_of (by omega)]; omega
    · rw [ab_of (by omega)] at hj
      rw [sg_pos (by omega)]
      have v0 : X * 2 ^ (j + 1) + M₂ < 0 := by omega
      refine na_mix (q := -X - 1) (r := 2 ^ (j + 1) - M₂) ?_ (by omega) (by omega) ?_ (by constructor <;> intro <;> omega) (mix_ge hp ?_) hp
      · rw [ab_neg v0, Int.sub_mul, Int.neg_mul, Int.one_mul]; omega
      · rw [ab_neg (by omega)]; omega
      · rw [ab_of (by omega)]; omega
  · rw [ab_of (by omega)] at hX
    have m1 := Int.mul_le_mul_of_nonneg_right (show 1 ≤ X by omega) (Int.le_of_lt hP)
    rw [Int.one_mul] at m1
    rcases Int.lt_or_le M₂ 0 with d | d
    · rw [ab_neg d] at hj
      rw [sg_neg d]
      have v0 : ¬ X * 2 ^ (j + 1) + M₂ < 0 := by omega
      refine na_mix (q := X - 1) (r := 2 ^ (j + 1) + M₂) ?_ (by omega) (by omega) ?_ (by constructor <;> intro <;> omega) (mix_ge hp ?_) hp
      · rw [ab_of v0, Int.sub_mul, Int.one_mul]; omega
      · rw [ab_of (by omega)]; omega
      · rw [ab_of (by omega)]; omega
    · rw [ab_of (by omega)] at hj
      rw [sg_pos (by omega)]
      have v0 : ¬ X * 2 ^ (j + 1) + M₂ < 0 := by omega
      refine na_mix (q := X) (r := M₂) ?_ (by omega) hj ?_ (by constructor <;> intro <;> omega) (mix_ge hp ?_) hp
      · rw [ab_of v0]
      · rw [ab_of (by omega)]; omega
      · rw [ab_of (by omega)]; omega
theorem gs_na {p M₁ E₁ M₂ E₂ : Int} (hp : 0 ≤ p) (h1 : M₁ ≠ 0) (h2 : M₂ ≠ 0) :
    gsM p M₁ E₁ M₂ E₂ = naM p (M₁ * 2 ^ (E₁ - min E₁ E₂).toNat + M₂ * 2 ^ (E₂ - min E₁ E₂).toNat) ∧
    gsE p M₁ E₁ M₂ E₂ = naE p (M₁ * 2 ^ (E₁ - min E₁ E₂).toNat + M₂ * 2 ^ (E₂ - min E₁ E₂).toNat) (min E₁ E₂) := by
  unfold gsM gsE
  by_cases c : sz M₂ + E₂ < min E₁ (sz M₁ + E₁ - p - 3)
  · rw [if_pos c, if_pos c]
    unfold farM farE
    have s1 := sz_one h1
    have s2 := sz_one h2
    have em : min E₁ E₂ = E₂ := by omega
    rw [em]
    obtain ⟨h, hh⟩ : ∃ h : Nat, max 0 (p + 3 - sz M₁) = h := ⟨(max 0 (p + 3 - sz M₁)).toNat, by omega⟩
    obtain ⟨j, hj⟩ : ∃ j : Nat, E₁ - h - E₂ = j + 1 := ⟨(E₁ - h - E₂ - 1).toNat, by omega⟩
    rw [hh, show (E₁ - E₂).toNat = h + (j + 1) by omega, show (E₂ - E₂).toNat = 0 by omega, Int.pow_zero, Int.mul_one, Int.toNat_natCast, Int.pow_add, ← Int.mul_assoc M₁ (2 ^ h) (2 ^ (j + 1))]
    have hX : 4 * 2 ^ p.toNat ≤ ab (M₁ * 2 ^ h) := by
      have a := sz_dn (ne_scale h1 h)
      rw [sz_scale h1] at a
      have b : (2 : Int) ^ (p.toNat + 2) ≤ 2 ^ (sz M₁ + h - 1).toNat := by
        have : (2 : Nat) ^ (p.toNat + 2) ≤ 2 ^ (sz M₁ + h - 1).toNat := Nat.pow_le_pow_right (by decide) (by omega)
        rw [← kbt_cast, ← kbt_cast]
        exact Int.ofNat_le.mpr this
      rw [Int.pow_add, show (2 : Int) ^ 2 = 4 from rfl] at b
      omega
    have hM : ab M₂ < 2 ^ (j + 1) := by
      have a := (sz_lt (v := M₂) (k := (j + 1 : Nat)) (by omega)).mpr (by omega)
      rwa [Int.toNat_natCast] at a
    obtain ⟨r1, r2⟩ := far_na (low := E₂) hp hX h2 hM
    obtain ⟨q1, q2⟩ := sr_na (2 * (M₁ * 2 ^ h) + sg M₂) (E₁ - h - 1) hp
    rw [r1, r2, q1, q2]
    exact ⟨rfl, by congr 1; omega⟩
  · rw [if_neg c, if_neg c]
    exact sr_na _ _ hp
theorem ad_na {p M₁ E₁ M₂ E₂ : Int} (hp : 0 ≤ p) (h1 : M₁ = 0 → E₁ = 0) (h2 : M₂ = 0 → E₂ = 0) :
    adM p M₁ E₁ M₂ E₂ = naM p (M₁ * 2 ^ (E₁ - min E₁ E₂).toNat + M₂ * 2 ^ (E₂ - min E₁ E₂).toNat) ∧
    adE p M₁ E₁ M₂ E₂ = naE p (M₁ * 2 ^ (E₁ - min E₁ E₂).toNat + M₂ * 2 ^ (E₂ - min E₁ E₂).toNat) (min E₁ E₂) := by
  unfold adM adE
  by_cases c1 : M₁ = 0
  · have e1 := h1 c1
    subst c1 e1
    rw [if_pos (Or.inl sg_zero), if_pos (Or.inl sg_zero), Int.zero_mul, Int.zero_add, Int.zero_add, Int.zero_add]
    obtain ⟨q1, q2⟩ := sr_na M₂ E₂ hp
    obtain ⟨r1, r2⟩ := na_scale (p := p) M₂ (min 0 E₂) (E₂ - min 0 E₂).toNat
    rw [q1, q2, r1, r2]
    exact ⟨rfl, by congr 1; omega⟩
  · by_cases c2 : M₂ = 0
    · have e2 := h2 c2
      subst c2 e2
      rw [if_pos (Or.inr sg_zero), if_pos (Or.inr sg_zero), Int.zero_mul, Int.add_zero, Int.add_zero, Int.add_zero]
      obtain ⟨q1, q2⟩ := sr_na M₁ E₁ hp
      obtain ⟨r1, r2⟩ := na_scale (p := p) M₁ (min E₁ 0) (E₁ - min E₁ 0).toNat
      rw [q1, q2, r1, r2]
      exact ⟨rfl, by congr 1; omega⟩
    · have n : ¬ (sg M₁ = 0 ∨ sg M₂ = 0) := fun h => h.elim (fun h => c1 (sg_iff.mp h)) fun h => c2 (sg_iff.mp h)
      rw [if_neg n, if_neg n]
      by_cases c : sz M₂ + E₂ ≤ sz M₁ + E₁
      · rw [if_pos c, if_pos c]
        exact gs_na hp c1 c2
      · rw [if_neg c, if_neg c, Int.add_comm, show min E₁ E₂ = min E₂ E₁ by omega]
        exact gs_na hp c2 c1
theorem sg_dif (u v : Int) : sg (u - v) = b2i (decide (v < u)) - b2i (decide (u < v)) := by
  unfold sg
  simp only [show (0 < u - v) ↔ (v < u) from by omega, show (u - v < 0) ↔ (u < v) from by omega]
theorem b2i_lt {u v : Int} (h : v < u) : b2i (decide (v < u)) - b2i (decide (u < v)) = 1 := by rw [← sg_dif]; exact sg_pos (by omega)
theorem b2i_gt {u v : Int} (h : u < v) : b2i (decide (v < u)) - b2i (decide (u < v)) = -1 := by rw [← sg_dif]; exact sg_neg (by omega)
theorem sz_mono {u v : Int} (h0 : 0 ≤ u) (h : u ≤ v) : sz u ≤ sz v := by
  refine (sz_lt (sz_pos v)).mp ?_
  have := sz_up v
  rw [ab_of (by omega)] at this ⊢
  omega
theorem place_lt {A₁ E₁ A₂ E₂ low : Int} (h1 : 0 < A₁) (h2 : 0 < A₂) (l1 : low ≤ E₁) (l2 : low ≤ E₂) (h : sz A₂ + E₂ < sz A₁ + E₁) : A₂ * 2 ^ (E₂ - low).toNat < A₁ * 2 ^ (E₁ - low).toNat := by
  rcases Int.lt_or_le (A₂ * 2 ^ (E₂ - low).toNat) (A₁ * 2 ^ (E₁ - low).toNat) with c | c
  · exact c
  · exfalso
    have m := sz_mono (Int.mul_nonneg (Int.le_of_lt h1) (Int.le_of_lt (kbt_pos _))) c
    rw [sz_scale (by omega), sz_scale (by omega)] at m
    omega
theorem cmM_is {A₁ E₁ A₂ E₂ : Int} (h1 : 0 < A₁) (h2 : 0 < A₂) : cmM A₁ E₁ A₂ E₂ = sg (A₁ * 2 ^ (E₁ - min E₁ E₂).toNat - A₂ * 2 ^ (E₂ - min E₁ E₂).toNat) := by
  unfold cmM
  by_cases c : sz A₁ + E₁ ≠ sz A₂ + E₂
  · rw [if_pos c]
    by_cases d : sz A₂ + E₂ < sz A₁ + E₁
    · have := place_lt (low := min E₁ E₂) h1 h2 (by omega) (by omega) d
      rw [if_pos d, sg_pos (by omega)]
    · have := place_lt (low := min E₁ E₂) h2 h1 (by omega) (by omega) (show sz A₁ + E₁ < sz A₂ + E₂ by omega)
      rw [if_neg d, sg_neg (by omega)]
  · rw [if_neg c]
theorem cmR_is (M₁ E₁ M₂ E₂ : Int) : cmR M₁ E₁ M₂ E₂ = b2i (decide (M₂ * 2 ^ (E₂ - min E₁ E₂).toNat < M₁ * 2 ^ (E₁ - min E₁ E₂).toNat)) - b2i (decide (M₁ * 2 ^ (E₁ - min E₁ E₂).toNat < M₂ * 2 ^ (E₂ - min E₁ E₂).toNat)) := by
  rw [← sg_dif]
  have p1 := kbt_pos (E₁ - min E₁ E₂).toNat
  have p2 := kbt_pos (E₂ - min E₁ E₂).toNat
  unfold cmR
  rcases Int.lt_trichotomy M₁ 0 with c | c | c <;> rcases Int.lt_trichotomy M₂ 0 with d | d | d
  · rw [sg_neg c, sg_neg d, if_neg (by decide), if_neg (by decide), ab_neg c, ab_neg d, cmM_is (by omega) (by omega), Int.neg_mul M₁, Int.neg_mul M₂]
    generalize M₁ * 2 ^ (E₁ - min E₁ E₂).toNat = u
    generalize M₂ * 2 ^ (E₂ - min E₁ E₂).toNat = v
    rcases Int.lt_trichotomy u v with q | q | q
    · rw [sg_pos (n := -u - -v) (by omega), sg_neg (n := u - v) (by omega)]; decide
    · subst q; rw [Int.sub_self, Int.sub_self]; decide
    · rw [sg_neg (n := -u - -v) (by omega), sg_pos (n := u - v) (by omega)]; decide
  · subst d
    have := Int.mul_neg_of_neg_of_pos c p1
    rw [sg_neg c, sg_zero, if_pos (by decide), if_neg (by decide), Int.zero_mul, sg_neg (by omega)]
  · have := Int.mul_neg_of_neg_of_pos c p1
    have := Int.mul_pos d p2
    rw [sg_neg c, sg_pos d, if_pos (by decide), if_neg (by decide), sg_neg (by omega)]
  · subst c
    have := Int.mul_neg_of_neg_of_pos d p2
    rw [sg_neg d, sg_zero, if_pos (by decide), if_pos (by decide), Int.zero_mul, sg_pos (by omega)]
  · subst c d
    rw [sg_zero, if_neg (by decide), if_pos rfl, Int.zero_mul, Int.zero_mul]
    decide
  · subst c
    have := Int.mul_pos d p2
    rw [sg_pos d, sg_zero, if_pos (by decide), if_neg (by decide), Int.zero_mul, sg_neg (by omega)]
  · have := Int.mul_pos c p1
    have := Int.mul_neg_of_neg_of_pos d p2
    rw [sg_pos c, sg_neg d, if_pos (by decide), if_pos (by decide), sg_pos (by omega)]
  · subst d
    have := Int.mul_pos c p1
    rw [sg_pos c, sg_zero, if_pos (by decide), if_pos (by decide), Int.zero_mul, sg_pos (by omega)]
  · rw [sg_pos c, sg_pos d, if_neg (by decide), if_neg (by decide), ab_of (by omega), ab_of (by omega), cmM_is c d, Int.one_mul]
/-- the due neighbour above M, at the law's low exponent -/
def nbT (b M : Int) : Int := avM b M * 2 ^ (avE b M 0 + b + 1).toNat
def nbK (b M : Int) : Nat := (sz (nbT b M) - b).toNat
def nbm (b M : Int) : Int := (ab (nbT b M)).fdiv (2 ^ nbK b M)
def nbMid (b M : Int) : Int := nxM M 0 (leanM (nbT b M)) (leanE (nbT b M) (0 - b - 1))
def nbAt (T here m : Int) (k : Nat) : Bool :=
  (! decide (ab (m * 2 ^ k - ab here) ≤ (ab here).fdiv 2 + 1)) || (if 0 < here then decide (m * 2 ^ k ≤ here) || decide (T ≤ m * 2 ^ k) else decide (0 - m * 2 ^ k ≤ here) || decide (T ≤ 0 - m * 2 ^ k))
def nbAll (b M : Int) : Bool :=
  (List.range (2 * b + 2).toNat).all fun k => (List.range ((2 ^ (b - 1).toNat : Int).toNat + 1)).all fun i => nbAt (nbT b M) (M * 2 ^ (b + 1).toNat) (2 ^ (b - 1).toNat + i) k
def nbSome (b M : Int) : Bool :=
  decide ((nbK b M : Int) < 2 * b + 2) && decide (2 ^ (b - 1).toNat ≤ nbm b M) && decide (nbm b M < 2 ^ b.toNat + 1) && decide (ab (nbm b M * 2 ^ nbK b M - ab (M * 2 ^ (b + 1).toNat)) ≤ (ab (M * 2 ^ (b + 1).toNat)).fdiv 2 + 1) &&
  (if 0 < M * 2 ^ (b + 1).toNat then decide (nbm b M * 2 ^ nbK b M = nbT b M) else decide (0 - nbm b M * 2 ^ nbK b M = nbT b M)) && decide (M * 2 ^ (b + 1).toNat < nbT b M)
def nbFit (b M : Int) : Bool :=
  decide (avM b M ≠ 0) && decide (avM b M = leanM (nbT b M)) && decide (avE b M 0 = leanE (nbT b M) (0 - b - 1)) && decide (nbT b M ≠ 0) && decide (Builtin.Int.intBits (leanM (nbT b M)) ≤ 20) &&
  decide (-20 ≤ leanE (nbT b M) (0 - b - 1)) && decide (leanE (nbT b M) (0 - b - 1) ≤ 20) && decide (nbMid b M ≠ 0) && decide (Builtin.Int.intBits (nbMid b M) ≤ 90) && decide (Builtin.Int.intBits (leanM (nbMid b M)) ≤ 90) &&
  decide (-40 ≤ leanE (nbMid b M) (nxL 0 (leanE (nbT b M) (0 - b - 1)) - 1)) && decide (leanE (nbMid b M) (nxL 0 (leanE (nbT b M) (0 - b - 1)) - 1) ≤ 40)
def nbOk (b M : Int) : Bool := nbAll b M && nbSome b M && nbFit b M
/-- the odd ones of b bits -/
def nbOdd (b : Int) (n : Nat) : Bool := (List.range n).all fun i => nbOk b (2 * i + 1) && nbOk b (0 - (2 * i + 1))
theorem nb2 : nbOdd 2 2 = true := by decide +kernel
theorem nb3 : nbOdd 3 4 = true := by decide +kernel
theorem nb4 : nbOdd 4 8 = true := by decide +kernel
theorem nb5 : nbOdd 5 16 = true := by decide +kernel
theorem nb_one {b M : Int} {n : Nat} (h : nbOdd b n = true) (ho : M % 2 = 1) (h1 : M < 2 * n) (h2 : -(2 * n) < M) : nbOk b M = true ∧ nbOk b (0 - M) = true := by
  rcases Int.lt_or_le M 0 with c | c
  · have := List.all_eq_true.mp h ((-M - 1) / 2).toNat (List.mem_range.mpr (by omega))
    rw [Bool.and_eq_true, show (2 * (((-M - 1) / 2).toNat : Int) + 1) = -M by omega, show (0 - -M) = M by omega] at this
    exact ⟨this.2, by rw [show 0 - M = -M by omega]; exact this.1⟩
  · have := List.all_eq_true.mp h ((M - 1) / 2).toNat (List.mem_range.mpr (by omega))
    rw [Bool.and_eq_true, show (2 * (((M - 1) / 2).toNat : Int) + 1) = M by omega] at this
    exact this
theorem nb_ok {b M : Int} (h1 : 2 ≤ b) (h2 : b ≤ 5) (ho : M % 2 = 1) (hs : ab M < 2 ^ b.toNat) : nbOk b M = true ∧ nbOk b (0 - M) = true := by
  have hs' : M < 2 ^ b.toNat ∧ -(2 ^ b.toNat) < M := by unfold ab at hs; split at hs <;> omega
  have : b = 2 ∨ b = 3 ∨ b = 4 ∨ b = 5 := by omega
  rcases this with rfl | rfl | rfl | rfl
  · exact nb_one nb2 ho (by have := hs'.1; simpa using this) (by have := hs'.2; simpa using this)
  · exact nb_one nb3 ho (by have := hs'.1; simpa using this) (by have := hs'.2; simpa using this)
  · exact nb_one nb4 ho (by have := hs'.1; simpa using this) (by have := hs'.2; simpa using this)
  · exact nb_one nb5 ho (by have := hs'.1; simpa using this) (by have := hs'.2; simpa using this)
theorem pow_half {b : Int} (h : 1 ≤ b) : (2 : Int) ^ b.toNat = 2 * 2 ^ (b - 1).toNat := by
  rw [show b.toNat = (b - 1).toNat + 1 by omega, Int.pow_succ, Int.mul_comm]
theorem nb_bs {b M E : Int} (h : nbOk b M = true) (hb : 2 ≤ b) : ∃ e0 m0, BsIn (nbT b M) (M * 2 ^ (E - (E - b - 1)).toNat) (E - b - 1) b e0 m0 := by
  rw [show E - (E - b - 1) = b + 1 by omega]
  unfold nbOk at h
  simp only [Bool.and_eq_true] at h
  obtain ⟨⟨ha, hs⟩, _⟩ := h
  have hp := pow_half (b := b) (by omega)
  have hq := kbt_pos (b - 1).toNat
  refine ⟨E - b - 1 + nbK b M, nbm b M, ?_, ?_, ?_⟩
  · intro e m l1 l2 l3 l4 c
    have a1 := List.all_eq_true.mp ha (e - (E - b - 1)).toNat (List.mem_range.mpr (by omega))
    have a2 := List.all_eq_true.mp a1 (m - 2 ^ (b - 1).toNat).toNat (List.mem_range.mpr (by omega))
    rw [show (2 ^ (b - 1).toNat + ((m - 2 ^ (b - 1).toNat).toNat : Int)) = m by omega] at a2
    unfold nbAt at a2
    unfold BsC at c
    unfold BsG
    rw [decide_eq_true c, Bool.not_true, Bool.false_or] at a2
    constructor
    · intro p
      rw [if_pos p, Bool.or_eq_true, decide_eq_true_eq, decide_eq_true_eq] at a2
      exact a2
    · intro p
      rw [if_neg p, Bool.or_eq_true, decide_eq_true_eq, decide_eq_true_eq] at a2
      exact a2
  · unfold nbSome at hs
    simp only [Bool.and_eq_true, decide_eq_true_eq] at hs
    obtain ⟨⟨⟨⟨⟨s1, s2⟩, s3⟩, s4⟩, s5⟩, s6⟩ := hs
    rw [show (E - b - 1 + (nbK b M : Int) - (E - b - 1)).toNat = nbK b M by omega]
    refine ⟨by omega, by omega, s2, s3, s4, fun p => ?_, fun p => ?_⟩
    · rw [if_pos p, decide_eq_true_eq] at s5
      exact s5
    · rw [if_neg p, decide_eq_true_eq] at s5
      exact s5
  · unfold nbSome at hs
    simp only [Bool.and_eq_true, decide_eq_true_eq] at hs
    exact hs.2
theorem leanM_zero : leanM 0 = 0 := if_pos rfl
theorem leanE_zero (e : Int) : leanE 0 e = 0 := if_pos rfl
theorem leanE_add {x : Int} (h : x ≠ 0) (e d : Int) : leanE x (e + d) = leanE x e + d := by
  unfold leanE
  rw [if_neg h, if_neg h]
  omega
theorem leanE_add' {x : Int} (h : leanM x ≠ 0) (e d : Int) : leanE x (e + d) = leanE x e + d := leanE_add (fun c => h (by rw [c]; exact leanM_zero)) e d
theorem avE_shift {b M E : Int} (h : avM b M ≠ 0) : avE b M E = avE b M 0 + E := by
  unfold avM ftM nrM at h
  unfold avE ftE nrE fmE
  by_cases c : 0 < M
  · rw [if_pos c] at h
    rw [if_pos c, if_pos c, show E - (b - sz M) = (0 - (b - sz M)) + E by omega, leanE_add' h]
  · rw [if_neg c] at h
    rw [if_neg c, if_neg c]
    by_cases d : fmM b M = 1 * 2 ^ (b - 1).toNat
    · rw [if_pos d] at h
      rw [if_pos d, if_pos d, show E - (b - sz M) - 1 = (0 - (b - sz M) - 1) + E by omega, leanE_add' h]
    · rw [if_neg d] at h
      rw [if_neg d, if_neg d, show E - (b - sz M) = (0 - (b - sz M)) + E by omega, leanE_add' h]
theorem half_na {b : Int} (v low : Int) (hb : 0 ≤ b) : adM b (leanM v) (leanE v low) 0 0 = naM b v ∧ adE b (leanM v) (leanE v low) 0 0 = naE b v low := by
  by_cases c : v = 0
  · subst c
    rw [leanM_zero, leanE_zero]
    obtain ⟨q1, q2⟩ := ad_na (p := b) (M₁ := 0) (E₁ := 0) (M₂ := 0) (E₂ := 0) hb (fun _ => rfl) (fun _ => rfl)
    rw [q1, q2, naM_nas, naM_nas, naE_nas, naE_nas]
    rw [Int.zero_mul, Int.add_zero, nas_zero]
    exact ⟨rfl, by rw [leanE_zero, leanE_zero]⟩
  · obtain ⟨j, a, rfl⟩ := two_part v c
    rw [leanM_of, leanE_of]
    obtain ⟨q1, q2⟩ := ad_na (p := b) (M₁ := 2 * a + 1) (E₁ := low + j) (M₂ := 0) (E₂ := 0) hb (fun h => by omega) (fun _ => rfl)
    rw [Int.zero_mul, Int.add_zero] at q1 q2
    obtain ⟨r1, r2⟩ := na_scale (p := b) (2 * a + 1) (min (low + j) 0) (low + j - min (low + j) 0).toNat
    obtain ⟨t1, t2⟩ := na_scale (p := b) (2 * a + 1) low j
    rw [q1, q2, r1, r2, Int.mul_comm (2 ^ j), t1, t2]
    exact ⟨rfl, by congr 1; omega⟩
theorem nxM_shift (M E M' c : Int) : nxM M E M' (c + E) = nxM M 0 M' c := by
  unfold nxM
  rw [show E - (min E (c + E) - 1) = 0 - (min 0 c - 1) by omega, show c + E - (min E (c + E) - 1) = c - (min 0 c - 1) by omega]
theorem nxL_shift (E c : Int) : nxL E (c + E) - 1 = (nxL 0 c - 1) + E := by
  unfold nxL
  omega
theorem next_ok {b M E : Int} (h1 : 2 ≤ b) (h2 : b ≤ 5) (ho : M % 2 = 1) (hs : ab M < 2 ^ b.toNat) (l1 : -40 ≤ E) (l2 : E ≤ 40) : NextOk b M E (nbT b M) (nbT b (0 - M)) := by
  obtain ⟨k1, k2⟩ := nb_ok h1 h2 ho hs
  have f := k1
  have g := k2
  unfold nbOk nbFit at f g
  simp only [Bool.and_eq_true, decide_eq_true_eq] at f g
  obtain ⟨_, ⟨⟨⟨⟨⟨⟨⟨⟨⟨⟨f0, f1⟩, f2⟩, f3⟩, f4⟩, f5⟩, f6⟩, f7⟩, f8⟩, f9⟩, f10⟩, f11⟩ := f
  obtain ⟨_, ⟨⟨⟨⟨⟨⟨⟨⟨⟨⟨g0, g1⟩, g2⟩, g3⟩, _⟩, _⟩, _⟩, _⟩, _⟩, _⟩, _⟩, _⟩ := g
  have m0 : M ≠ 0 := by omega
  have e1 : leanE (nbT b M) (E - b - 1) = leanE (nbT b M) (0 - b - 1) + E := by rw [show E - b - 1 = (0 - b - 1) + E by omega, leanE_add f3]
  have e2 : leanE (nbT b (0 - M)) (E - b - 1) = leanE (nbT b (0 - M)) (0 - b - 1) + E := by rw [show E - b - 1 = (0 - b - 1) + E by omega, leanE_add g3]
  have em : nxM M E (leanM (nbT b M)) (leanE (nbT b M) (E - b - 1)) = nbMid b M := by rw [e1]; exact nxM_shift _ _ _ _
  have el : leanE (nbMid b M) (nxL E (leanE (nbT b M) (E - b - 1)) - 1) = leanE (nbMid b M) (nxL 0 (leanE (nbT b M) (0 - b - 1)) - 1) + E := by
    rw [e1, nxL_shift, leanE_add f7]
  obtain ⟨x1, x2⟩ := half_na (b := b) (nbMid b M) (nxL E (leanE (nbT b M) (E - b - 1)) - 1) (by omega)
  exact {
    B1 := nb_bs k1 h1
    B2 := nb_bs k2 h1
    n0 := m0
    s0 := (sz_lt (by omega)).mp hs
    p1 := by omega
    p2 := h2
    l1 := l1
    l2 := l2
    a1 := f1
    a2 := by rw [avE_shift f0, f2, e1]
    c1 := by rw [g1]
    c2 := by rw [avE_shift g0, g2, e2]
    g := by
      rcases Int.lt_or_gt_of_ne m0 with c | c
      · rw [sg_neg c, if_neg (by omega)]
      · rw [sg_pos c, if_pos (by omega)]
    t1 := f4
    t2 := by omega
    t3 := by omega
    h1 := by rw [em]; exact x1
    h2 := by rw [em]; exact x2
    m1 := by rw [em]; omega
    m2 := by rw [em]; omega
    m3 := by rw [em, el]; omega
    m4 := by rw [em, el]; omega }
theorem sum_ok {b M₁ E₁ M₂ E₂ : Int} (h1 : M₁ = 0 → E₁ = 0) (h2 : M₂ = 0 → E₂ = 0) (b1 : Builtin.Int.intBits M₁ ≤ 99) (b2 : Builtin.Int.intBits M₂ ≤ 99) (l1 : -80 ≤ E₁) (l2 : E₁ ≤ 80) (l3 : -80 ≤ E₂) (l4 : E₂ ≤ 80) (p1 : 1 ≤ b) (p2 : b ≤ 50) : SumOk b M₁ E₁ M₂ E₂ := by
  obtain ⟨a1, a2⟩ := ad_na (p := b) (by omega) h1 h2
  obtain ⟨s1, s2⟩ := ad_na (p := b) (M₁ := M₁) (E₁ := E₁) (M₂ := 0 - M₂) (E₂ := E₂) (by omega) h1 (fun c => h2 (by omega))
  rw [Int.zero_sub, Int.neg_mul, ← Int.sub_eq_add_neg] at s1 s2
  rw [← Int.zero_sub] at s1 s2
  exact ⟨a1, a2, s1, s2, cmR_is _ _ _ _, b1, b2, l1, l2, l3, l4, p1, p2⟩
/-- a number that the law builds -/
structure PairOk (b M E : Int) : Prop where
  o : M % 2 = 1
  s : ab M < 2 ^ b.toNat
  l1 : -40 ≤ E
  l2 : E ≤ 40
theorem pair_ok {b c : Int} (h1 : 2 ≤ b) (h2 : b ≤ 5) : PairOk b (leanM (pM b c)) (leanE (pM b c) (pE b c)) := by
  have hp := kbt_pos b.toNat
  have r0 := kbt_rest c b.toNat
  have hb5 : (2 : Int) ^ b.toNat ≤ 32 := by
    have : b = 2 ∨ b = 3 ∨ b = 4 ∨ b = 5 := by omega
    rcases this with rfl | rfl | rfl | rfl <;> decide
  have hm : pM b c ≠ 0 ∧ -(2 ^ b.toNat) ≤ pM b c ∧ pM b c ≤ 2 ^ b.toNat := by unfold pM; split <;> omega
  have he : -24 ≤ pE b c ∧ pE b c ≤ 24 := by
    have := Int.fmod_eq_emod_of_nonneg (pc1 b c) (show (0 : Int) ≤ 9 by decide)
    unfold pE
    split <;> omega
  have h4 : (2 : Int) ^ b.toNat = 4 * 2 ^ (b - 2).toNat := by
    rw [show b.toNat = (b - 2).toNat + 2 by omega, Int.pow_add, Int.mul_comm]; rfl
  obtain ⟨j, a, e⟩ := two_part (pM b c) hm.1
  have q0 := kbt_pos j
  have hj : (2 : Int) ^ j ≤ 32 := by
    rcases Int.lt_or_le a 0 with q | q
    · have := Int.mul_le_mul_of_nonneg_left (show 1 ≤ -(2 * a + 1) by omega) (Int.le_of_lt q0)
      rw [Int.mul_neg] at this
      omega
    · have := Int.mul_le_mul_of_nonneg_left (show 1 ≤ 2 * a + 1 by omega) (Int.le_of_lt q0)
      omega
  have hj5 : j ≤ 5 := by
    rcases Nat.lt_or_ge 5 j with q | q
    · have : (2 : Nat) ^ 6 ≤ 2 ^ j := Nat.pow_le_pow_right (by decide) q
      have z : ((2 ^ j : Nat) : Int) = (2 : Int) ^ j := kbt_cast j
      omega
    · exact q
  rw [e, leanM_of, leanE_of]
  refine ⟨by omega, ?_, by omega, by omega⟩
  have k1 : ab (2 * a + 1) ≤ 2 ^ b.toNat := by
    rcases Int.lt_or_le a 0 with q | q
    · rw [ab_neg (by omega)]
      have := Int.mul_le_mul_of_nonneg_right (show 1 ≤ (2 : Int) ^ j by omega) (show 0 ≤ -(2 * a + 1) by omega)
      rw [Int.one_mul, Int.mul_neg] at this
      omega
    · rw [ab_of (by omega)]
      have := Int.mul_le_mul_of_nonneg_right (show 1 ≤ (2 : Int) ^ j by omega) (show 0 ≤ 2 * a + 1 by omega)
      rw [Int.one_mul] at this
      omega
  have k2 : ab (2 * a + 1) % 2 = 1 := by unfold ab; split <;> omega
  omega
theorem PairOk.bits {b M E : Int} (P : PairOk b M E) (h2 : b ≤ 5) (h1 : 0 ≤ b) : Builtin.Int.intBits M ≤ 99 := by
  have := (sz_lt h1).mp P.s
  have := sz_eq M
  omega
theorem PairOk.sum {b M E M' E' : Int} (P : PairOk b M E) (P' : PairOk b M' E') (h1 : 2 ≤ b) (h2 : b ≤ 5) : SumOk b M E M' E' :=
  sum_ok (fun c => by have := P.o; omega) (fun c => by have := P'.o; omega) (P.bits h2 (by omega)) (P'.bits h2 (by omega)) (by have := P.l1; omega) (by have := P.l2; omega) (by have := P'.l1; omega) (by have := P'.l2; omega) (by omega) (by omega)
theorem PairOk.sum0 {b M E : Int} (P : PairOk b M E) (h1 : 2 ≤ b) (h2 : b ≤ 5) : SumOk b M E 0 0 :=
  sum_ok (fun c => by have := P.o; omega) (fun _ => rfl) (P.bits h2 (by omega)) (by decide) (by have := P.l1; omega) (by have := P.l2; omega) (by omega) (by omega) (by omega) (by omega)
theorem PairOk.sum1 {b M E : Int} (P : PairOk b M E) (h1 : 2 ≤ b) (h2 : b ≤ 5) : SumOk b 0 0 M E :=
  sum_ok (fun _ => rfl) (fun c => by have := P.o; omega) (by decide) (P.bits h2 (by omega)) (by omega) (by omega) (by have := P.l1; omega) (by have := P.l2; omega) (by omega) (by omega)
theorem PairOk.next {b M E : Int} (P : PairOk b M E) (h1 : 2 ≤ b) (h2 : b ≤ 5) : NextOk b M E (nbT b M) (nbT b (0 - M)) := next_ok h1 h2 P.o P.s P.l1 P.l2
theorem bits_ge (n : Int) : 2 ≤ 2 + n.fmod 4 := by rw [Int.fmod_eq_emod_of_nonneg _ (by decide)]; omega
theorem bits_le (n : Int) : 2 + n.fmod 4 ≤ 5 := by rw [Int.fmod_eq_emod_of_nonneg _ (by decide)]; omega
/-- each is a pair of the ledger, its number one of the law's -/
def PairsIn (b : Int) (nw : List (Addr × Obj)) (ys : List Value) : Prop := ∀ y ∈ ys, ∃ x M E t1 t2, y = .ref x ∧ (x, tupObj [.int M t1, .int E t2]) ∈ nw ∧ PairOk b M E
theorem PairsIn.up {b : Int} {nw nw' : List (Addr × Obj)} {ys : List Value} (P : PairsIn b nw ys) (k : ∀ p ∈ nw, p ∈ nw') : PairsIn b nw' ys := fun y hy => by
  obtain ⟨x, M, E, t1, t2, e, h, q⟩ := P y hy
  exact ⟨x, M, E, t1, t2, e, k _ h, q⟩
/-- a turn of the numbers' list: one more pair -/
def TpEl (b : Int) (p1 p2 : Addr × Obj) (tups : List (Addr × Obj)) (y : Value) (nw : List (Addr × Obj)) : Prop :=
  ∃ x M E t1 t2, nw = p1 :: p2 :: (x, tupObj [.int M t1, .int E t2]) :: tups ∧ y = .ref x ∧ PairOk b M E
section
variable {prog : Program} {w : World} {A : Around} {h₀ : Heap} {L : Addr} {m : Str → Option Value} {env : Env} {elt : PySem.Expr} {x : Str} {scope : Scope} {cl : List (Str × Addr)} {s : Shared} {news : List (Addr × Obj)} {b : Int} {p1 p2 : Addr × Obj}
theorem tp_end {I C D x' : Addr} {oI oC oD : Obj} {tups : List (Addr × Obj)} {s₁ : Shared} {h' : Heap} {tk : Nat} {M E : Int} {t1 t2 : Tok} (F : Fr h₀ L h' m) (N : News h₀ L h' ((x', tupObj [.int M t1, .int E t2]) :: (I, oI) :: (C, oC) :: (D, oD) :: p1 :: p2 :: tups))
    (l : AllLt x' ((I, oI) :: (C, oC) :: (D, oD) :: p1 :: p2 :: tups)) (off : LCg.Off3 I C D (p1 :: p2 :: tups)) (P : PairOk b M E) :
    LCg.CompEnd h₀ L m s₁ I oI C oC D oD (fun _ => True) (TpEl b p1 p2 tups) (.ref x') { s₁ with heap := h', toks := tk } := by
  refine LCg.CompEnd.intro F N (p1 :: p2 :: (x', tupObj [.int M t1, .int E t2]) :: tups) ?_ ⟨off.1, off.2.1, ⟨Ne.symm (Nat.ne_of_lt l.1), Ne.symm (Nat.ne_of_lt l.2.1), Ne.symm (Nat.ne_of_lt l.2.2.1)⟩, off.2.2⟩ trivial ⟨x', M, E, t1, t2, rfl, rfl, P⟩
  intro p hp
  simp only [List.mem_cons] at hp ⊢
  rcases hp with h | h | h | h | h | h | h <;> simp [h]
theorem tp_list {ax : Addr} {o : Obj} {vs : List Value} {ks : List Int} {y : Str} {Q : Flow → Shared → Prop} (hi : IntsAre vs ks) (hax : (ax, o) ∈ news) (ho : o.cls = .type "list") (ho' : ∃ n, o.data = .seq vs.toArray n) {z : Str} {c : Addr} {o2 : Obj} (hz : cl.lookup z = some c) (hp2 : (c, o2) ∈ news)
    (turn : ∀ k t I oI C oC D m₂ ys tups h tk (E' : Value → Shared → Prop), LCg.NsObj oC m₂ → m₂ x = some (.int k t) → Fr h₀ L h m → News h₀ L h ((I, oI) :: (C, oC) :: (D, LCg.lst ys) :: (ax, o) :: (c, o2) :: tups) → LCg.Off3 I C D ((ax, o) :: (c, o2) :: tups) → ((@Ne Nat I C) ∧ (@Ne Nat I D) ∧ (@Ne Nat C D)) →
      wpAny (model prog w) A (eval elt (compEnvC scope cl C env)) (LCg.CompEnd h₀ L m { s with heap := h, toks := tk } I oI C oC D (LCg.lst ys) (fun _ => True) (TpEl b (ax, o) (c, o2) tups)) E' { s with heap := h, toks := tk })
    (fin : ∀ ys tups D h tk, ys.length = ks.length → PairsIn b tups ys → Fr h₀ L h (fun z => if z = y then some (.ref D) else m z) → News h₀ L h ((D, LCg.lst ys) :: (c, o2) :: tups) → Q .next { s with heap := h, toks := tk }) :
    LCg.CompRest prog w A h₀ L m env elt x scope cl s (LCg.SrcAt h₀ ax vs.toArray) (fun i v => vs.toArray[i]? = some v) (LCg.FinA h₀ L m s y Q) vs.toArray.size 0 [] news := by
  have hl := IntsAre.length hi
  have key : ∀ (j i : Nat) (ys : List Value) (nw tups : List (Addr × Obj)), i + j = ks.length → ys.length = i → (∀ p ∈ (ax, o) :: (c, o2) :: tups, p ∈ nw) → PairsIn b tups ys →
      LCg.CompRest prog w A h₀ L m env elt x scope cl s (LCg.SrcAt h₀ ax vs.toArray) (fun i v => vs.toArray[i]? = some v) (LCg.FinA h₀ L m s y Q) j i ys nw := by
    intro j
    induction j with
    | zero =>
      intro i ys nw tups hi1 hy sub P
      refine LCg.CompRest.zero fun D h tk F N _ => fin ys tups D h tk (by omega) P F fun p hp => N p ?_
      rcases List.mem_cons.mp hp with rfl | hp
      · exact List.mem_cons_self
      · exact List.mem_cons_of_mem _ (sub p (List.mem_cons_of_mem _ hp))
    | succ j ih =>
      intro i ys nw tups hi1 hy sub P
      refine LCg.CompRest.succ fun v I oI C oC D m₂ h tk E' hv hC hx F N off ne => ?_
      obtain ⟨k, t, e, hk⟩ := IntsAre.at hi i v (by simpa using hv)
      rw [e] at hx
      have offm := off.mem
      refine wpAny_mono (turn k t I oI C oC D m₂ ys tups h tk E' hC hx F (fun p hp => N p ?_) (LCg.Off3.of fun p hp => offm p (sub p hp)) ne) (fun yv s₂ hq => ?_) fun _ _ e => e
      · simp only [List.mem_cons] at hp ⊢
        rcases hp with h | h | h | h
        · exact .inl h
        · exact .inr (.inl h)
        · exact .inr (.inr (.inl h))
        · exact .inr (.inr (.inr (sub p (by simpa only [List.mem_cons] using h))))
      · obtain ⟨h', tk', nw', e', F', N', off', _, x', M, E₁, t1, t2, rfl, rfl, Pk⟩ := hq
        refine ⟨h', tk', _, e', F', N', off', .inr ⟨o, List.mem_cons_self, ho, ho'⟩, ih (i + 1) _ _ ((x', tupObj [.int M t1, .int E₁ t2]) :: tups) (by omega) (by simp [hy]) (fun p hp => hp) fun yv hyv => ?_⟩
        rcases List.mem_append.mp hyv with h | h
        · obtain ⟨x, M, E, t1, t2, e, h, q⟩ := P yv h
          exact ⟨x, M, E, t1, t2, e, List.mem_cons_of_mem _ h, q⟩
        · rw [List.mem_singleton.mp h]
          exact ⟨x', M, E₁, t1, t2, rfl, List.mem_cons_self, Pk⟩
  have e : vs.toArray.size = ks.length := by rw [List.size_toArray]; omega
  rw [e]
  exact key ks.length 0 [] news [] (by omega) rfl (fun p hp => by
    rcases List.mem_cons.mp hp with rfl | hp
    · exact hax
    · rw [List.mem_singleton.mp hp]; exact hp2) fun _ h => nomatch h
end
theorem codes_len {n : Nat} {f : Int → Int} {ns : List Int} (h : n = (List.map f (List.take 3 ns) ++ [35, 4]).length) : 2 ≤ n ∧ n ≤ 5 := by
  rw [h, List.length_append, List.length_map, List.length_take]
  show 2 ≤ min 3 ns.length + 2 ∧ min 3 ns.length + 2 ≤ 5
  omega
/-- a turn's end: the ledger stands, the loop's own name alone has moved -/
def AtEnd (h₀ : Heap) (L : Addr) (x : Str) (m : Str → Option Value) (nw : List (Addr × Obj)) (s₁ s₂ : Shared) : Prop :=
  ∃ h' tk m', s₂ = { s₁ with heap := h', toks := tk } ∧ Fr h₀ L h' m' ∧ News h₀ L h' nw ∧ ∀ z, z ≠ x → m' z = m z
def AtPost (h₀ : Heap) (L : Addr) (x : Str) (m : Str → Option Value) (nw : List (Addr × Obj)) (s₁ : Shared) (Q : Flow → Shared → Prop) (f : Flow) (s₂ : Shared) : Prop :=
  match f with
  | .ret v => Q (.ret v) s₂
  | .brk => Q .next s₂
  | _ => AtEnd h₀ L x m nw s₁ s₂
section
variable {prog : Program} {w : World} {A : Around} {E : Value → Shared → Prop} {s : Shared} {env : Env} {h₀ : Heap} {x : Str} {body : List Stmt} {Q : Flow → Shared → Prop} {b : Int}
theorem at_loop {r D : Addr} {ys : List Value} {t₀ u₀ v₀ : Tok} {m₀ : Str → Option Value} {p2 : Addr × Obj} {tups : List (Addr × Obj)} (hh : A.handled = none) (hr : IsRange s.heap r 0 (ys.length : Int) 1 t₀ u₀ v₀) (hy : ys.length ≤ 8) (P : PairsIn b tups ys)
    (F : Fr h₀ env.locals s.heap m₀) (N : News h₀ env.locals s.heap ((D, LCg.lst ys) :: p2 :: tups))
    (turn : ∀ (k : Int) t h tk tups', 0 ≤ k → k < (ys.length : Int) → PairsIn b tups' ys → Fr h₀ env.locals h (fun y => if y = x then some (.int k t) else m₀ y) → News h₀ env.locals h ((D, LCg.lst ys) :: p2 :: tups') →
      wpAny (model prog w) A (execs body env) (AtPost h₀ env.locals x m₀ ((D, LCg.lst ys) :: p2 :: tups') { s with heap := h, toks := tk } Q) E { s with heap := h, toks := tk })
    (done : ∀ (u : Str → Option Value) h tk, Fr h₀ env.locals h (fun y => if y = x then u y else m₀ y) → News h₀ env.locals h ((D, LCg.lst ys) :: p2 :: tups) → Q .next { s with heap := h, toks := tk }) :
    wpAny (model prog w) A (pyIter (.ref r)) (fun it s₂ => LoopAtV prog w A h₀ env x body Q E it s₂) E s := by
  refine kst_range (n := ys.length) (σ := Unit) (fun _ => (D, LCg.lst ys) :: p2 :: tups) (fun _ => []) (fun _ => True) [] (fun _ _ => True) () hh hr (small_one (by omega) (by omega) (by omega) (by omega)) (by rw [rangeSize_nat]; omega) F N trivial (fun _ h => nomatch h) trivial ?_ ?_
  · intro _ pre k t u h tk own hk hlt hoff _ _ F₁ N₁
    refine wpAny_mono (turn k t h tk (tups ++ own) (by omega) (by omega) (P.up fun p hp => List.mem_append_left _ hp) F₁ N₁) (fun f s₂ q => ?_) fun _ _ e => e
    have up : AtEnd h₀ env.locals x m₀ ((D, LCg.lst ys) :: p2 :: (tups ++ own)) { s with heap := h, toks := tk } s₂ →
        InvEndN h₀ env.locals (KstS (fun _ : Unit => (D, LCg.lst ys) :: p2 :: tups) (fun _ => []) (fun _ => True) x [] m₀ (fun _ _ => True) (pre ++ [k])) own (((D, LCg.lst ys) :: p2 :: tups).map (·.1)) { s with heap := h, toks := tk } s₂ := by
      rintro ⟨h', tk', m', e, F', N', hm⟩
      refine ⟨h', tk', m', _, (D, LCg.lst ys) :: p2 :: tups, e, F', N', fun p hp => ?_, fun p hp => ?_, rfl, (), rfl, trivial, (fun _ h => nomatch h), (fun z hz _ _ => hm z hz), trivial⟩
      · exact List.mem_append_left own hp
      · exact List.mem_append_right ((D, LCg.lst ys) :: p2 :: tups) hp
    cases f with
    | ret v => exact q
    | brk => exact q
    | next => exact up q
    | cont => exact up q
  · intro _ u h tk _ _ F₁ N₁
    exact done u h tk F₁ N₁
end
section
variable {prog : Program} {w : World} {A : Around} {E : Value → Shared → Prop} {s : Shared} {h₀ : Heap} {L : Addr} {value slice : PySem.Expr} {Q : Value → Shared → Prop}
/-- an item of the pairs, whichever -/
theorem item_pair {l : Addr} {vs : List Value} {k b : Int} {u : Tok} {nw tups : List (Addr × Obj)} (N : News h₀ L s.heap nw) (hm : (l, LCg.lst vs) ∈ nw) (P : PairsIn b tups vs) (h0 : -(vs.length : Int) ≤ k) (h1 : k < (vs.length : Int)) (hv : vs.length ≤ 8)
    (h : ∀ x M E t1 t2, (x, tupObj [.int M t1, .int E t2]) ∈ tups → PairOk b M E → Q (.ref x) s)
    (hs : subscripted slice false (.ref l) (.int k u) = operate [.ref l, .int k u] (getItem (.ref l) (.int k u))) :
    wpAny (model prog w) A (subscriptTail value slice (.ref l) (.int k u)) Q E s := by
  have hl : s.heap.IsList l vs.toArray := N.isList hm
  rcases Int.lt_or_le k 0 with hk | hk
  · obtain ⟨v, hx⟩ : ∃ v, vs[(k + vs.length).toNat]? = some v := ⟨vs[(k + vs.length).toNat]'(by omega), List.getElem?_eq_getElem _⟩
    obtain ⟨x, M, E₁, t1, t2, rfl, hm', Pk⟩ := P v (List.mem_of_getElem? hx)
    refine kde_neg hl hk (by omega) ?_ hx (h x M E₁ t1 t2 hm' Pk) hs
    unfold seqIndex?
    simp only [if_pos hk]
    rw [if_pos]
    rw [Bool.and_eq_true, decide_eq_true_eq, decide_eq_true_eq]
    omega
  · obtain ⟨v, hx⟩ : ∃ v, vs[k.toNat]? = some v := ⟨vs[k.toNat]'(by omega), List.getElem?_eq_getElem _⟩
    obtain ⟨x, M, E₁, t1, t2, rfl, hm', Pk⟩ := P v (List.mem_of_getElem? hx)
    exact item_litK hl hk (by omega) hx (h x M E₁ t1 t2 hm' Pk) hs
end
theorem rows_27 : True := by
  k_with "exec Assign cons ListComp" => (k_here; k_dflt (refine LCg.Assign_ListComp_U (F₀ := by k_asm) (by rfl) (by with_unfolding_all rfl) (by with_unfolding_all rfl) (by decide) (by rfl) (by decide) (by rfl) (by rfl) (by rfl) ?_); k_dflt lcg_toSrc)
  k_with "mine mem" => first | with_reducible exact List.mem_cons_self | (with_reducible refine List.mem_cons_of_mem _ ?_; walk_at "mine mem")
  k_with "mine mem2" => first | walk_at "mine mem" | k_mem
  k_with "mine hin" => first | exact Or.inl rfl | exact Or.inr ⟨_, _, _, rfl, by walk_at "mine mem", hd1, hd2⟩
  k_with "exec Try" => (k_here; (with_reducible show wpAny _ _ (exec (Stmt.Try _ (_ :: _) _ [] _) _) _ _ _); refine wpAny_Try_except ?_)
  k_with "mine sumok" => first | exact PairOk.sum (by with_reducible assumption) (by with_reducible assumption) (bits_ge _) (bits_le _) | exact PairOk.sum0 (by with_reducible assumption) (bits_ge _) (bits_le _) | exact PairOk.sum1 (by with_reducible assumption) (bits_ge _) (bits_le _)
  trivial

theorem rows_28 : True := by
  k_with "call ref" => (k_here; (with_reducible show wpAny _ _ (call (Value.ref 280) _ _) _ _ _); k_dflt (refine' sumr_c BXX (by k_asm) KXX (by k_asm) TXX (by first | exact rfl | assumption) (by walk_at "mine hin") (by walk_at "mine mem2") (by walk_at "mine mem2") (by walk_at "mine sumok") (by ktr_room) (by ktr_units) ?_); intro h' tk' F' N'; (try k_sweep))
  k_with "call ref" => (k_here; (with_reducible show wpAny _ _ (call (Value.ref 287) _ _) _ _ _); k_dflt (refine' nextr_c BXX (by k_asm) KXX (by k_asm) TXX (by first | exact rfl | assumption) (by walk_at "mine mem2") (by exact PairOk.next (by with_reducible assumption) (bits_ge _) (bits_le _)) (by ktr_room) (by ktr_units) ?_); intro h' tk' F' N'; (try k_sweep))
  k_with "call ref" => (k_here; (with_reducible show wpAny _ _ (call (Value.ref 226) _ _) _ _ _); k_dflt (refine' above_raises (by k_asm) (by k_asm) (by k_asm) (by k_asm) (by k_asm) (by first | exact rfl | assumption) (by ktr_room) (by ktr_units) ?_); intro g' e' h' tk' FG' R' C' U'; (try k_sweep))
  k_with "noteFrame ref" => (k_here; (rename RaisedN _ _ _ _ _ _ => rkX); (with_reducible show wpAny _ _ (noteFrame _ _) _ _ _); k_dflt (refine' caught_dom ?kf ?k1 ?k2 ?k3 ?k4 ?k5 ?k6 ?_; (case k3 => exact rkX); (case kf => exact rfl); (case k1 => assumption); (case k2 => assumption); (case k4 => assumption); (case k5 => k_asm); (case k6 => k_asm); k_whole); intro oe' vs' h' hd1 hd2 F' N'; (try k_sweep))
  k_with "subscriptTail Name Name ref int" => (k_here; (rename PairsIn _ _ _ => pXX); (with_reducible show wpAny _ _ (subscriptTail _ _ (Value.ref _) (Value.int _ _)) _ _ _); (with_unfolding_all refine' item_pair ?i0 ?i1 pXX ?i3 ?i4 ?i5 ?_ ?i6; (case i0 => with_reducible assumption); (case i1 => k_dflt (walk_at "mine mem2")); (case i3 => omega); (case i4 => omega); (case i5 => omega); (case i6 => with_unfolding_all rfl); k_whole); intro x' M' E' t1' t2' hx' hp')
  k_with "subscriptTail Name Constant ref int" => (k_here; (rename PairsIn _ _ _ => pXX); (with_reducible show wpAny _ _ (subscriptTail _ _ (Value.ref _) (Value.int _ _)) _ _ _); (with_unfolding_all refine' item_pair ?i0 ?i1 pXX ?i3 ?i4 ?i5 ?_ ?i6; (case i0 => with_reducible assumption); (case i1 => k_dflt (walk_at "mine mem2")); (case i3 => omega); (case i4 => omega); (case i5 => omega); (case i6 => with_unfolding_all rfl); k_whole); intro x' M' E' t1' t2' hx' hp')
  k_with "subscriptTail Name BinOp ref int" => (k_here; (rename PairsIn _ _ _ => pXX); (with_reducible show wpAny _ _ (subscriptTail _ _ (Value.ref _) (Value.int _ _)) _ _ _); (with_unfolding_all refine' item_pair ?i0 ?i1 pXX ?i3 ?i4 ?i5 ?_ ?i6; (case i0 => with_reducible assumption); (case i1 => k_dflt (walk_at "mine mem2")); (case i3 => omega); (case i4 => omega); (case i5 => omega); (case i6 => with_unfolding_all rfl); k_whole); intro x' M' E' t1' t2' hx' hp')
  k_with "CompSrc" => (k_here; k_dflt (refine LCg.CompSrc.ledger (by rfl) (by k_asm) (by k_asm) (by k_mem) (by kcf_size) ?_; intro g'; (refine' tp_list (z := Str.ofString "bits") hIX ?tp1 ?tp3 ?tp4 ?tp5 ?tp2 (b := ?tpb) (fun k' t' I' oI' C' oC' D' m' ys' tups' h' tk' E' hC' hx' F' N' off' ne' => ?_) (fun ys' tups' D' h' tk' hn' hP' F' N' => ?_); (case tp1 => k_mem); (case tp3 => rfl); (case tp4 => exact ⟨_, rfl⟩); (case tp5 => rfl); (case tp2 => k_mem); (case tpb => exact 2 + Int.fmod (‹List Int›.length : Int) 4); rotate_left; (obtain ⟨hn1, hn2⟩ := codes_len hn'); rotate_right)))
  trivial

theorem rows_29 : True := by
  k_with "CompEnd" => (k_here; exact tp_end F' N' l9' off' (pair_ok (bits_ge _) (bits_le _)))
  k_with "call builtin:len" => (k_here; (with_reducible show wpAny _ _ (call (Value.builtin "len") [Value.ref _]) _ _ _); k_dflt (refine' kst_len (by k_asm) (by k_mem) rfl (by omega) ?_))
  k_with "call type:range" => (k_here; (rename Fr _ _ _ _ => lF'); (rename News _ _ _ _ => lN'); (with_unfolding_all refine range1_rows lF' lN' ?_; intro _ _ _ _ _ _ _ _ _); (try dsimp only); (try k_fold))
  k_with "pyIter ref" => (k_here; (with_reducible show wpAny _ _ (pyIter (Value.ref _)) (fun it s₂ => LoopAtV _ _ _ _ _ _ _ _ _ it s₂) _ _); (rename PairsIn _ _ _ => pXX); (rename IsRange _ _ _ _ _ _ _ _ => rgX); (rename Fr _ _ _ _ => lF'); (rename News _ _ _ _ => lN'); (with_unfolding_all refine' at_loop rfl rgX (by omega) pXX lF' (cb_drop lN' (by walk_at "mine tail")) (fun k' t' h' tk' tups' lo' hi' hP' F' N' => ?_) (fun u' h' tk' F' N' => ?_)); (all_goals (try dsimp only)); (all_goals (try k_fold)))
  k_with "AtPost" => (dsimp only [AtPost])
  k_with "AtEnd" => exact ⟨_, _, _, rfl, F', cb_drop N' (by walk_at "mine tail"), fun z hz => if_neg hz⟩
  trivial
theorem law_c : PySem.Challenge.rw_nt0162_01.Holds := by
  w_on
  refine holds_law said_ok fun said => ?_
  refine holds_open (q := vw) (loose := [.ofString "REACH"]) (XP := XL vw lv) (YP := Hook.says hookK) left_ok (Hook.of hookK) (Hook.keeps hookK) (fun s e => xl_of s (Bool.and_eq_true_iff.mp e).1) XL.keeps (by rfl) (by rfl) (by rfl) (fun s e => recFacts_of (Bool.and_eq_true_iff.mp e).2) (by rfl) (by first | assumption | decide +kernel) (by decide +kernel) ⟨rfl, rfl, rfl, rfl, rfl, by decide +kernel⟩ ?hw ?hc
  case hw => w_witness2
  case hc =>
    clear said
    k_go0
    (all_goals try k_fold)
    dsimp only [docDef] at *
    (all_goals try k_fold)
    iterate 40 (first | (k_unfold; (try dsimp only)) | (k_end; wrow_close) | walk1 | (dsimp only; walk1) | (leave1; walk_say "STEP leave1"; try dsimp only))
    rename IntsAre _ (_ ++ [35, 4]) => hI
    rename Frag.In _ _ => KXX
    rename Top _ _ _ _ _ _ => TXX
    rename Below _ _ _ _ => BXX
    have hIX := hI
    k_steps
end Mine
theorem PySem.Challenge.cw_nt0162_01_holds : PySem.Challenge.rw_nt0162_01.Holds := by
  exact Mine.law_c
