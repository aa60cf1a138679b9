import PyProof.Rows.All
import Wide.All
import OpenK.AllK
import Wide.FinOn
import PySem.Challenge.RW_np0284_01
open PySem PySem.W PyProof.Rows
set_option Elab.async false
set_option maxRecDepth 100000
set_option maxHeartbeats 0
set_option linter.unusedVariables false
namespace Mine
noncomputable abbrev pick {α : Type} {a b : α} (_ : a = b) : α := b
noncomputable abbrev pw : Program := PySem.Challenge.pw_np0284_01
noncomputable def argsOf : Stmt → Arguments
  | .FunctionDef _ a _ _ _ _ _ _ _ _ => a
  | _ => default
noncomputable def bodyOf : Stmt → List Stmt
  | .FunctionDef _ _ b _ _ _ _ _ _ _ => b
  | _ => []
noncomputable def scopeOf : Stmt → Scope
  | .FunctionDef _ _ _ _ _ _ s _ _ _ => s
  | _ => default
noncomputable def classOf : Stmt → List Stmt
  | .ClassDef (body := b) .. => b
  | _ => []
noncomputable def st (i : Nat) : Stmt := (pw.main.body[i]?).getD (.Pass ⟨0, 0, 0, 0⟩)
noncomputable def me (i j : Nat) : Stmt := ((classOf (st i))[j]?).getD (.Pass ⟨0, 0, 0, 0⟩)
noncomputable abbrev tp (l : List Value) : Obj := ⟨.type "tuple", none, .seq l.toArray 0, #[]⟩
noncomputable abbrev cd (l : List Value) : Obj := ⟨.type "code", none, .fields l.toArray, #[]⟩
noncomputable abbrev tb (l : List Value) : Obj := ⟨.none, none, .fields l.toArray, #[]⟩
noncomputable abbrev fo (f : FuncData) : Obj := ⟨.type "function", none, .func f, #[]⟩
noncomputable abbrev fp (f : FuncData) : Obj := ⟨.none, none, .func f, #[]⟩
noncomputable abbrev e (P : Params) (x : Str) (t : Nat) (v : Value) : DictEntry := ⟨PyData.keyHash P x, .str x t, v⟩
noncomputable abbrev fx (A : Arguments) (B : List Stmt) (S : Scope) (name qual : Str) (g : Addr) (clo : List (Str × Addr)) (dV kV doc pm : Value) (an : Option Addr) (cdv ct : Value) (b : Addr) : FuncData :=
  { name := name, qualname := qual, params := A, body := .stmts B, scope := S, globals := g, closure := clo, defaults := dV, kwdefaults := kV, doc := doc, pyModule := pm, annotations := an, code := cdv, closureTuple := ct, builtins := b }
noncomputable def fd (s : Stmt) := fx (argsOf s) (bodyOf s) (scopeOf s)
noncomputable abbrev a16 : Arguments := pick (a := argsOf (st 16)) (b := _) (by conv => lhs; whnf)
noncomputable abbrev b16 : List Stmt := pick (a := bodyOf (st 16)) (b := _) (by conv => lhs; whnf)
noncomputable abbrev s16 : Scope := pick (a := scopeOf (st 16)) (b := _) (by conv => lhs; whnf)
noncomputable abbrev a17 : Arguments := pick (a := argsOf (st 17)) (b := _) (by conv => lhs; whnf)
noncomputable abbrev b17 : List Stmt := pick (a := bodyOf (st 17)) (b := _) (by conv => lhs; whnf)
noncomputable abbrev s17 : Scope := pick (a := scopeOf (st 17)) (b := _) (by conv => lhs; whnf)
noncomputable abbrev a18 : Arguments := pick (a := argsOf (st 18)) (b := _) (by conv => lhs; whnf)
noncomputable abbrev b18 : List Stmt := pick (a := bodyOf (st 18)) (b := _) (by conv => lhs; whnf)
noncomputable abbrev s18 : Scope := pick (a := scopeOf (st 18)) (b := _) (by conv => lhs; whnf)
noncomputable abbrev a25 : Arguments := pick (a := argsOf (st 25)) (b := _) (by conv => lhs; whnf)
noncomputable abbrev b25 : List Stmt := pick (a := bodyOf (st 25)) (b := _) (by conv => lhs; whnf)
noncomputable abbrev s25 : Scope := pick (a := scopeOf (st 25)) (b := _) (by conv => lhs; whnf)
noncomputable abbrev a26 : Arguments := pick (a := argsOf (st 26)) (b := _) (by conv => lhs; whnf)
noncomputable abbrev b26 : List Stmt := pick (a := bodyOf (st 26)) (b := _) (by conv => lhs; whnf)
noncomputable abbrev s26 : Scope := pick (a := scopeOf (st 26)) (b := _) (by conv => lhs; whnf)
noncomputable abbrev a34 : Arguments := pick (a := argsOf (st 34)) (b := _) (by conv => lhs; whnf)
noncomputable abbrev b34 : List Stmt := pick (a := bodyOf (st 34)) (b := _) (by conv => lhs; whnf)
noncomputable abbrev s34 : Scope := pick (a := scopeOf (st 34)) (b := _) (by conv => lhs; whnf)
noncomputable abbrev a35 : Arguments := pick (a := argsOf (st 35)) (b := _) (by conv => lhs; whnf)
noncomputable abbrev b35 : List Stmt := pick (a := bodyOf (st 35)) (b := _) (by conv => lhs; whnf)
noncomputable abbrev s35 : Scope := pick (a := scopeOf (st 35)) (b := _) (by conv => lhs; whnf)
noncomputable abbrev a36 : Arguments := pick (a := argsOf (st 36)) (b := _) (by conv => lhs; whnf)
noncomputable abbrev b36 : List Stmt := pick (a := bodyOf (st 36)) (b := _) (by conv => lhs; whnf)
noncomputable abbrev s36 : Scope := pick (a := scopeOf (st 36)) (b := _) (by conv => lhs; whnf)
noncomputable abbrev a37 : Arguments := pick (a := argsOf (st 37)) (b := _) (by conv => lhs; whnf)
noncomputable abbrev b37 : List Stmt := pick (a := bodyOf (st 37)) (b := _) (by conv => lhs; whnf)
noncomputable abbrev s37 : Scope := pick (a := scopeOf (st 37)) (b := _) (by conv => lhs; whnf)
noncomputable abbrev a38 : Arguments := pick (a := argsOf (st 38)) (b := _) (by conv => lhs; whnf)
noncomputable abbrev b38 : List Stmt := pick (a := bodyOf (st 38)) (b := _) (by conv => lhs; whnf)
noncomputable abbrev s38 : Scope := pick (a := scopeOf (st 38)) (b := _) (by conv => lhs; whnf)
noncomputable abbrev a39x0 : Arguments := pick (a := argsOf (me 39 0)) (b := _) (by conv => lhs; whnf)
noncomputable abbrev b39x0 : List Stmt := pick (a := bodyOf (me 39 0)) (b := _) (by conv => lhs; whnf)
noncomputable abbrev s39x0 : Scope := pick (a := scopeOf (me 39 0)) (b := _) (by conv => lhs; whnf)
noncomputable abbrev a39x1 : Arguments := pick (a := argsOf (me 39 1)) (b := _) (by conv => lhs; whnf)
noncomputable abbrev b39x1 : List Stmt := pick (a := bodyOf (me 39 1)) (b := _) (by conv => lhs; whnf)
noncomputable abbrev s39x1 : Scope := pick (a := scopeOf (me 39 1)) (b := _) (by conv => lhs; whnf)
noncomputable abbrev a42x0 : Arguments := pick (a := argsOf (me 42 0)) (b := _) (by conv => lhs; whnf)
noncomputable abbrev b42x0 : List Stmt := pick (a := bodyOf (me 42 0)) (b := _) (by conv => lhs; whnf)
noncomputable abbrev s42x0 : Scope := pick (a := scopeOf (me 42 0)) (b := _) (by conv => lhs; whnf)
noncomputable abbrev a43x0 : Arguments := pick (a := argsOf (me 43 0)) (b := _) (by conv => lhs; whnf)
noncomputable abbrev b43x0 : List Stmt := pick (a := bodyOf (me 43 0)) (b := _) (by conv => lhs; whnf)
noncomputable abbrev s43x0 : Scope := pick (a := scopeOf (me 43 0)) (b := _) (by conv => lhs; whnf)
noncomputable abbrev a44x0 : Arguments := pick (a := argsOf (me 44 0)) (b := _) (by conv => lhs; whnf)
noncomputable abbrev b44x0 : List Stmt := pick (a := bodyOf (me 44 0)) (b := _) (by conv => lhs; whnf)
noncomputable abbrev s44x0 : Scope := pick (a := scopeOf (me 44 0)) (b := _) (by conv => lhs; whnf)
noncomputable abbrev a44x1 : Arguments := pick (a := argsOf (me 44 1)) (b := _) (by conv => lhs; whnf)
noncomputable abbrev b44x1 : List Stmt := pick (a := bodyOf (me 44 1)) (b := _) (by conv => lhs; whnf)
noncomputable abbrev s44x1 : Scope := pick (a := scopeOf (me 44 1)) (b := _) (by conv => lhs; whnf)
noncomputable abbrev a47 : Arguments := pick (a := argsOf (st 47)) (b := _) (by conv => lhs; whnf)
noncomputable abbrev b47 : List Stmt := pick (a := bodyOf (st 47)) (b := _) (by conv => lhs; whnf)
noncomputable abbrev s47 : Scope := pick (a := scopeOf (st 47)) (b := _) (by conv => lhs; whnf)
noncomputable abbrev a48 : Arguments := pick (a := argsOf (st 48)) (b := _) (by conv => lhs; whnf)
noncomputable abbrev b48 : List Stmt := pick (a := bodyOf (st 48)) (b := _) (by conv => lhs; whnf)
noncomputable abbrev s48 : Scope := pick (a := scopeOf (st 48)) (b := _) (by conv => lhs; whnf)
noncomputable abbrev a49 : Arguments := pick (a := argsOf (st 49)) (b := _) (by conv => lhs; whnf)
noncomputable abbrev b49 : List Stmt := pick (a := bodyOf (st 49)) (b := _) (by conv => lhs; whnf)
noncomputable abbrev s49 : Scope := pick (a := scopeOf (st 49)) (b := _) (by conv => lhs; whnf)
noncomputable abbrev a52x0 : Arguments := pick (a := argsOf (me 52 0)) (b := _) (by conv => lhs; whnf)
noncomputable abbrev b52x0 : List Stmt := pick (a := bodyOf (me 52 0)) (b := _) (by conv => lhs; whnf)
noncomputable abbrev s52x0 : Scope := pick (a := scopeOf (me 52 0)) (b := _) (by conv => lhs; whnf)
noncomputable abbrev a52x3 : Arguments := pick (a := argsOf (me 52 3)) (b := _) (by conv => lhs; whnf)
noncomputable abbrev b52x3 : List Stmt := pick (a := bodyOf (me 52 3)) (b := _) (by conv => lhs; whnf)
noncomputable abbrev s52x3 : Scope := pick (a := scopeOf (me 52 3)) (b := _) (by conv => lhs; whnf)
noncomputable abbrev a52x4 : Arguments := pick (a := argsOf (me 52 4)) (b := _) (by conv => lhs; whnf)
noncomputable abbrev b52x4 : List Stmt := pick (a := bodyOf (me 52 4)) (b := _) (by conv => lhs; whnf)
noncomputable abbrev s52x4 : Scope := pick (a := scopeOf (me 52 4)) (b := _) (by conv => lhs; whnf)
noncomputable abbrev a54x0 : Arguments := pick (a := argsOf (me 54 0)) (b := _) (by conv => lhs; whnf)
noncomputable abbrev b54x0 : List Stmt := pick (a := bodyOf (me 54 0)) (b := _) (by conv => lhs; whnf)
noncomputable abbrev s54x0 : Scope := pick (a := scopeOf (me 54 0)) (b := _) (by conv => lhs; whnf)
noncomputable abbrev a54x1 : Arguments := pick (a := argsOf (me 54 1)) (b := _) (by conv => lhs; whnf)
noncomputable abbrev b54x1 : List Stmt := pick (a := bodyOf (me 54 1)) (b := _) (by conv => lhs; whnf)
noncomputable abbrev s54x1 : Scope := pick (a := scopeOf (me 54 1)) (b := _) (by conv => lhs; whnf)
noncomputable abbrev a54x16 : Arguments := pick (a := argsOf (me 54 16)) (b := _) (by conv => lhs; whnf)
noncomputable abbrev b54x16 : List Stmt := pick (a := bodyOf (me 54 16)) (b := _) (by conv => lhs; whnf)
noncomputable abbrev s54x16 : Scope := pick (a := scopeOf (me 54 16)) (b := _) (by conv => lhs; whnf)
noncomputable abbrev a59x0 : Arguments := pick (a := argsOf (me 59 0)) (b := _) (by conv => lhs; whnf)
noncomputable abbrev b59x0 : List Stmt := pick (a := bodyOf (me 59 0)) (b := _) (by conv => lhs; whnf)
noncomputable abbrev s59x0 : Scope := pick (a := scopeOf (me 59 0)) (b := _) (by conv => lhs; whnf)
noncomputable abbrev a61 : Arguments := pick (a := argsOf (st 61)) (b := _) (by conv => lhs; whnf)
noncomputable abbrev b61 : List Stmt := pick (a := bodyOf (st 61)) (b := _) (by conv => lhs; whnf)
noncomputable abbrev s61 : Scope := pick (a := scopeOf (st 61)) (b := _) (by conv => lhs; whnf)
noncomputable abbrev a62 : Arguments := pick (a := argsOf (st 62)) (b := _) (by conv => lhs; whnf)
noncomputable abbrev b62 : List Stmt := pick (a := bodyOf (st 62)) (b := _) (by conv => lhs; whnf)
noncomputable abbrev s62 : Scope := pick (a := scopeOf (st 62)) (b := _) (by conv => lhs; whnf)
noncomputable abbrev a63 : Arguments := pick (a := argsOf (st 63)) (b := _) (by conv => lhs; whnf)
noncomputable abbrev b63 : List Stmt := pick (a := bodyOf (st 63)) (b := _) (by conv => lhs; whnf)
noncomputable abbrev s63 : Scope := pick (a := scopeOf (st 63)) (b := _) (by conv => lhs; whnf)
noncomputable abbrev a64 : Arguments := pick (a := argsOf (st 64)) (b := _) (by conv => lhs; whnf)
noncomputable abbrev b64 : List Stmt := pick (a := bodyOf (st 64)) (b := _) (by conv => lhs; whnf)
noncomputable abbrev s64 : Scope := pick (a := scopeOf (st 64)) (b := _) (by conv => lhs; whnf)
noncomputable abbrev a65 : Arguments := pick (a := argsOf (st 65)) (b := _) (by conv => lhs; whnf)
noncomputable abbrev b65 : List Stmt := pick (a := bodyOf (st 65)) (b := _) (by conv => lhs; whnf)
noncomputable abbrev s65 : Scope := pick (a := scopeOf (st 65)) (b := _) (by conv => lhs; whnf)
noncomputable abbrev a66 : Arguments := pick (a := argsOf (st 66)) (b := _) (by conv => lhs; whnf)
noncomputable abbrev b66 : List Stmt := pick (a := bodyOf (st 66)) (b := _) (by conv => lhs; whnf)
noncomputable abbrev s66 : Scope := pick (a := scopeOf (st 66)) (b := _) (by conv => lhs; whnf)
noncomputable def o2 (P : Params) : Obj := ⟨.none, none, .dict #[e P "type.__subclasses__.Exception.0" 246 (.int 40 0), e P "type.__subclasses__.Exception.n" 247 (.int 1 0)] 2, #[]⟩
noncomputable def o3 (P : Params) : Obj := ⟨.type "dict", none, .dict #[e P "__name__" 165 (.str "law_np0284_01" 1628), e P "__doc__" 166 .none, e P "__package__" 167 .none, e P "__loader__" 168 (.builtin "__main__.__loader__#opaque"), e P "__spec__" 169 .none, e P "__annotations__" 170 (.ref 6), e P "__builtins__" 171 (.ref 4), e P "__file__" 173 (.str "/claim/cut.py" 172), e P "__cached__" 174 .none, e P "_wall" 193 (.ref 21), e P "BOLD" 197 (.int 1 196), e P "BLINK" 199 (.int 8 198), e P "INVERSE" 201 (.int 32 200), e P "HIDDEN" 203 (.int 64 202), e P "UNDER_SHIFT" 205 (.int 9 204), e P "UNDER_MASK" 208 (.int 3584 207), e P "NO_COLOUR" 211 (.int (-1) 210), e P "PLAIN" 214 (.ref 22), e P "FLAGS" 216 (.int 0 215), e P "BACK" 218 (.int 2 217), e P "BLANK" 220 (.int 32 219), e P "TermError" 249 (.ref 40), e P "BadSize" 265 (.ref 53), e P "clamp" 274 (.ref 62), e P "under_of" 281 (.ref 69), e P "erased_pen" 288 (.ref 76), e P "blank_cell" 295 (.ref 83), e P "is_blank" 302 (.ref 90), e P "EDIT_WEIGHTS" 309 (.ref 95), e P "EDIT_GUARDED" 311 (.int 4 310), e P "EDIT_UNDERLINED" 313 (.int 16 312), e P "EDIT_SUM" 315 (.int 65536 314), e P "edit_weight" 329 (.ref 102), e P "checksum_rectangle" 335 (.ref 107), e P "ASCII_SET" 339 (.bytes #[66] 338), e P "SUPPLEMENT_SET" 341 (.bytes #[37, 53] 340), e P "LATIN_SET" 343 (.bytes #[45, 65] 342), e P "LEFT_FIRST" 345 (.int 32 344), e P "LEFT_LAST" 347 (.int 127 346), e P "HIGH_BIT" 349 (.int 128 348), e P "charset_pairs" 357 (.ref 114), e P "charset_drawing" 364 (.ref 121), e P "charset_supplement" 373 (.ref 128), e P "charset_nationals" 393 (.ref 135), e P "charset_tables" 400 (.ref 142), e P "Charsets" 503 (.ref 224), e P "TAB_WIDTH" 507 (.int 8 506), e P "Cursor" 571 (.ref 273), e P "Margins" 732 (.ref 406), e P "Tabs" 851 (.ref 505), e P "LINE_SIZES" 858 (.ref 510), e P "line_blanks" 866 (.ref 517), e P "right_half" 873 (.ref 524), e P "line_part" 881 (.ref 531), e P "line_slice" 891 (.ref 538), e P "line_codes" 901 (.ref 545), e P "Line" 1078 (.ref 670), e P "Grid" 1289 (.ref 817), e P "grid_cut" 1296 (.ref 828), e P "grid_mended" 1304 (.ref 835), e P "WIDE_SIZES" 1310 (.ref 836), e P "Screen" 1627 (.ref 1101), e P "_law_deck" 1635 (.ref 1110), e P "_law_draw" 1643 (.ref 1117), e P "_law_put" 1663 (.ref 1124), e P "_law_sum" 1679 (.ref 1131), e P "_law_area" 1688 (.ref 1138), e P "law" 1694 (.ref 1143)] 68, #[]⟩
noncomputable def o11 (P : Params) : Obj := tp []
noncomputable def o12 (P : Params) : Obj := tb [.int 1 0, .int 0 0, .ref 20, .int 16 0, .int 0 0, .ref 28, .int 20 0, .int 0 0, .ref 49, .int 22 0, .int 0 0, .ref 61, .int 24 0, .int 0 0, .ref 68, .int 26 0, .int 0 0, .ref 75, .int 28 0, .int 0 0, .ref 82, .int 30 0, .int 0 0, .ref 89, .int 37 0, .int 0 0, .ref 101, .int 48 0, .int 0 0, .ref 106, .int 60 0, .int 0 0, .ref 113, .int 62 0, .int 0 0, .ref 120, .int 71 0, .int 0 0, .ref 127, .int 80 0, .int 0 0, .ref 134, .int 96 0, .int 0 0, .ref 141, .int 105 0, .int 0 0, .ref 148, .int 142 0, .int 0 0, .ref 234, .int 165 0, .int 0 0, .ref 283, .int 222 0, .int 0 0, .ref 416, .int 269 0, .int 0 0, .ref 516, .int 271 0, .int 0 0, .ref 523, .int 273 0, .int 0 0, .ref 530, .int 277 0, .int 0 0, .ref 537, .int 284 0, .int 0 0, .ref 544, .int 293 0, .int 0 0, .ref 551, .int 377 0, .int 0 0, .ref 680, .int 476 0, .int 0 0, .ref 827, .int 478 0, .int 0 0, .ref 834, .int 487 0, .int 0 0, .ref 842, .int 626 0, .int 0 0, .ref 1109, .int 631 0, .int 0 0, .ref 1116, .int 636 0, .int 0 0, .ref 1123, .int 654 0, .int 0 0, .ref 1130, .int 663 0, .int 0 0, .ref 1137, .int 666 0, .int 0 0, .ref 1142]
noncomputable def o13 (P : Params) : Obj := cd [.str "<module>" 182, .str "<module>" 183, .str "/claim/cut.py" 184, .int 1 0, .int 0 0, .int 0 0, .int 0 0, .int 0 0, .ref 11, .bool false, .int 181 0, .ref 12, .none, .none, .none, .none, .int 185 0, .int 1 0, .str "/claim/cut.py" 186]
noncomputable def o14 (P : Params) : Obj := ⟨.type "frame", none, .plain, #[(some (.ref 13)), (some (.ref 3)), (some (.ref 3)), none, (some (.str "__main__" 164)), none, (some (.ref 0))]⟩
noncomputable def o15 (P : Params) : Obj := tp []
noncomputable def o16 (P : Params) : Obj := tb []
noncomputable def o17 (P : Params) : Obj := tp [.str "k" 190]
noncomputable def o18 (P : Params) : Obj := tp []
noncomputable def o19 (P : Params) : Obj := fp (fd (st 0) "_wall" "_wall" 0 [] .none .none .none .none none .none .none 0)
noncomputable def o20 (P : Params) : Obj := cd [.str "_wall" 187, .str "_wall" 188, .str "/claim/cut.py" 189, .int 1 0, .int 1 0, .int 0 0, .int 0 0, .int 3 0, .ref 15, .bool true, .int 181 0, .ref 16, .none, .ref 17, .ref 18, .ref 19, .int 191 0, .int 1 0, .str "/claim/cut.py" 192]
noncomputable def o21 (P : Params) : Obj := fo (fd (st 0) "_wall" "_wall" 3 [] .none .none .none (.str "__main__" 164) none (.ref 20) .none 0)
noncomputable def o22 (P : Params) : Obj := tp [.int 0 212, .int (-1) 210, .int (-1) 210, .int (-1) 210, .int 0 213]
noncomputable def o23 (P : Params) : Obj := tp [.type "Exception"]
noncomputable def o24 (P : Params) : Obj := ⟨.type "builtin_function_or_method", none, .fields #[.builtin "type.__prepare__", .type "type"], #[]⟩
noncomputable def o25 (P : Params) : Obj := ⟨.type "dict", none, .dict #[e P "__module__" 228 (.str "termcore.base" 194), e P "__qualname__" 230 (.str "TermError" 229), e P "__firstlineno__" 232 (.int 16 231), e P "__init__" 240 (.ref 37), e P "__static_attributes__" 242 (.ref 38)] 5, #[]⟩
noncomputable def o26 (P : Params) : Obj := tp []
noncomputable def o27 (P : Params) : Obj := tb [.int 18 0, .int 4 0, .ref 36]
noncomputable def o28 (P : Params) : Obj := cd [.str "TermError" 223, .str "TermError" 224, .str "/claim/cut.py" 225, .int 16 0, .int 0 0, .int 0 0, .int 0 0, .int 0 0, .ref 26, .bool false, .int 181 0, .ref 27, .none, .none, .none, .none, .int 226 0, .int 16 0, .str "/claim/cut.py" 227]
noncomputable def o29 (P : Params) : Obj := ⟨.type "frame", none, .plain, #[(some (.ref 28)), (some (.ref 3)), (some (.ref 25)), none, (some (.str "termcore.base" 194)), none, (some (.ref 0))]⟩
noncomputable def o30 (P : Params) : Obj := tp [.none]
noncomputable def o31 (P : Params) : Obj := tp []
noncomputable def o32 (P : Params) : Obj := tb []
noncomputable def o33 (P : Params) : Obj := tp [.str "self" 236, .str "told" 237]
noncomputable def o34 (P : Params) : Obj := tp []
noncomputable def o35 (P : Params) : Obj := fp (fd (me 13 0) "__init__" "TermError.__init__" 0 [] .none .none .none .none none .none .none 0)
noncomputable def o36 (P : Params) : Obj := cd [.str "__init__" 233, .str "TermError.__init__" 234, .str "/claim/cut.py" 235, .int 18 0, .int 2 0, .int 0 0, .int 0 0, .int 3 0, .ref 31, .bool true, .int 181 0, .ref 32, .none, .ref 33, .ref 34, .ref 35, .int 238 0, .int 18 0, .str "/claim/cut.py" 239]
noncomputable def o37 (P : Params) : Obj := fo (fd (me 13 0) "__init__" "TermError.__init__" 3 [] (.ref 30) .none .none (.str "termcore.base" 194) none (.ref 36) .none 0)
noncomputable def o38 (P : Params) : Obj := tp [.str "told" 241]
noncomputable def o39 (P : Params) : Obj := ⟨.type "dict", none, .dict #[e P "__module__" 228 (.str "termcore.base" 194), e P "__firstlineno__" 232 (.int 16 231), e P "__init__" 240 (.ref 37), e P "__static_attributes__" 242 (.ref 38), e P "__weakref__" 244 (.ref 41), e P "__doc__" 245 .none] 3, #[]⟩
noncomputable def o40 (P : Params) : Obj := ⟨.type "type", none, .cls ⟨"TermError", [.type "Exception"], [.ref 40, .type "Exception", .type "BaseException", .type "object"], 39, "TermError", true, [], [.ref 53], false, none, false⟩, #[(some (.ref 23)), none, (some (.str "TermError" 221)), (some (.str "TermError" 229)), (some (.builtin "Exception.__new__")), (some (.bool true))]⟩
noncomputable def o41 (P : Params) : Obj := ⟨.type "getset_descriptor", none, .fields #[.str "__weakref__" 243, .ref 40, .builtin "ExceptionGroup.__weakref__", .none], #[]⟩
noncomputable def o42 (P : Params) : Obj := ⟨.type "super", none, .fields #[.ref 40, .ref 40, .ref 40], #[]⟩
noncomputable def o43 (P : Params) : Obj := ⟨.type "builtin_function_or_method", none, .fields #[.builtin "object.__init_subclass__", .ref 40], #[]⟩
noncomputable def o44 (P : Params) : Obj := tp [.ref 40]
noncomputable def o45 (P : Params) : Obj := ⟨.type "builtin_function_or_method", none, .fields #[.builtin "type.__prepare__", .type "type"], #[]⟩
noncomputable def o46 (P : Params) : Obj := ⟨.type "dict", none, .dict #[e P "__module__" 257 (.str "termcore.base" 194), e P "__qualname__" 259 (.str "BadSize" 258), e P "__firstlineno__" 261 (.int 20 260), e P "__static_attributes__" 262 (.ref 51)] 4, #[]⟩
noncomputable def o47 (P : Params) : Obj := tp []
noncomputable def o48 (P : Params) : Obj := tb []
noncomputable def o49 (P : Params) : Obj := cd [.str "BadSize" 252, .str "BadSize" 253, .str "/claim/cut.py" 254, .int 20 0, .int 0 0, .int 0 0, .int 0 0, .int 0 0, .ref 47, .bool false, .int 181 0, .ref 48, .none, .none, .none, .none, .int 255 0, .int 20 0, .str "/claim/cut.py" 256]
noncomputable def o50 (P : Params) : Obj := ⟨.type "frame", none, .plain, #[(some (.ref 49)), (some (.ref 3)), (some (.ref 46)), none, (some (.str "termcore.base" 194)), none, (some (.ref 0))]⟩
noncomputable def o51 (P : Params) : Obj := tp []
noncomputable def o52 (P : Params) : Obj := ⟨.type "dict", none, .dict #[e P "__module__" 257 (.str "termcore.base" 194), e P "__firstlineno__" 261 (.int 20 260), e P "__static_attributes__" 262 (.ref 51), e P "__doc__" 263 .none] 2, #[]⟩
noncomputable def o53 (P : Params) : Obj := ⟨.type "type", none, .cls ⟨"BadSize", [.ref 40], [.ref 53, .ref 40, .type "Exception", .type "BaseException", .type "object"], 52, "BadSize", true, [], [], false, none, false⟩, #[(some (.ref 44)), none, (some (.str "BadSize" 250)), (some (.str "BadSize" 258)), (some (.builtin "Exception.__new__")), (some (.bool true))]⟩
noncomputable def o54 (P : Params) : Obj := ⟨.type "super", none, .fields #[.ref 53, .ref 53, .ref 53], #[]⟩
noncomputable def o55 (P : Params) : Obj := ⟨.type "builtin_function_or_method", none, .fields #[.builtin "object.__init_subclass__", .ref 53], #[]⟩
noncomputable def o56 (P : Params) : Obj := tp []
noncomputable def o57 (P : Params) : Obj := tb []
noncomputable def o58 (P : Params) : Obj := tp [.str "value" 269, .str "least" 270, .str "most" 271]
noncomputable def o59 (P : Params) : Obj := tp []
noncomputable def o60 (P : Params) : Obj := fp (fd (st 15) "clamp" "clamp" 0 [] .none .none .none .none none .none .none 0)
noncomputable def o61 (P : Params) : Obj := cd [.str "clamp" 266, .str "clamp" 267, .str "/claim/cut.py" 268, .int 22 0, .int 3 0, .int 0 0, .int 0 0, .int 3 0, .ref 56, .bool true, .int 181 0, .ref 57, .none, .ref 58, .ref 59, .ref 60, .int 272 0, .int 22 0, .str "/claim/cut.py" 273]
noncomputable def o62 (P : Params) : Obj := fo (fd (st 15) "clamp" "clamp" 3 [] .none .none .none (.str "termcore.base" 194) none (.ref 61) .none 0)
noncomputable def o63 (P : Params) : Obj := tp []
noncomputable def o64 (P : Params) : Obj := tb []
noncomputable def o65 (P : Params) : Obj := tp [.str "flags" 278]
noncomputable def o66 (P : Params) : Obj := tp []
noncomputable def o67 (P : Params) : Obj := fp (fd (st 16) "under_of" "under_of" 0 [] .none .none .none .none none .none .none 0)
noncomputable def o68 (P : Params) : Obj := cd [.str "under_of" 275, .str "under_of" 276, .str "/claim/cut.py" 277, .int 24 0, .int 1 0, .int 0 0, .int 0 0, .int 3 0, .ref 63, .bool true, .int 181 0, .ref 64, .none, .ref 65, .ref 66, .ref 67, .int 279 0, .int 24 0, .str "/claim/cut.py" 280]
noncomputable def o69 (P : Params) : Obj := fo (fx a16 b16 s16 "under_of" "under_of" 3 [] .none .none .none (.str "termcore.base" 194) none (.ref 68) .none 0)
noncomputable def o70 (P : Params) : Obj := tp []
noncomputable def o71 (P : Params) : Obj := tb []
noncomputable def o72 (P : Params) : Obj := tp [.str "pen" 285]
noncomputable def o73 (P : Params) : Obj := tp []
noncomputable def o74 (P : Params) : Obj := fp (fd (st 17) "erased_pen" "erased_pen" 0 [] .none .none .none .none none .none .none 0)
noncomputable def o75 (P : Params) : Obj := cd [.str "erased_pen" 282, .str "erased_pen" 283, .str "/claim/cut.py" 284, .int 26 0, .int 1 0, .int 0 0, .int 0 0, .int 3 0, .ref 70, .bool true, .int 181 0, .ref 71, .none, .ref 72, .ref 73, .ref 74, .int 286 0, .int 26 0, .str "/claim/cut.py" 287]
noncomputable def o76 (P : Params) : Obj := fo (fx a17 b17 s17 "erased_pen" "erased_pen" 3 [] .none .none .none (.str "termcore.base" 194) none (.ref 75) .none 0)
noncomputable def o77 (P : Params) : Obj := tp []
noncomputable def o78 (P : Params) : Obj := tb []
noncomputable def o79 (P : Params) : Obj := tp [.str "pen" 292]
noncomputable def o80 (P : Params) : Obj := tp []
noncomputable def o81 (P : Params) : Obj := fp (fd (st 18) "blank_cell" "blank_cell" 0 [] .none .none .none .none none .none .none 0)
noncomputable def o82 (P : Params) : Obj := cd [.str "blank_cell" 289, .str "blank_cell" 290, .str "/claim/cut.py" 291, .int 28 0, .int 1 0, .int 0 0, .int 0 0, .int 3 0, .ref 77, .bool true, .int 181 0, .ref 78, .none, .ref 79, .ref 80, .ref 81, .int 293 0, .int 28 0, .str "/claim/cut.py" 294]
noncomputable def o83 (P : Params) : Obj := fo (fx a18 b18 s18 "blank_cell" "blank_cell" 3 [] .none .none .none (.str "termcore.base" 194) none (.ref 82) .none 0)
noncomputable def o84 (P : Params) : Obj := tp []
noncomputable def o85 (P : Params) : Obj := tb []
noncomputable def o86 (P : Params) : Obj := tp [.str "cell" 299]
noncomputable def o87 (P : Params) : Obj := tp []
noncomputable def o88 (P : Params) : Obj := fp (fd (st 19) "is_blank" "is_blank" 0 [] .none .none .none .none none .none .none 0)
noncomputable def o89 (P : Params) : Obj := cd [.str "is_blank" 296, .str "is_blank" 297, .str "/claim/cut.py" 298, .int 30 0, .int 1 0, .int 0 0, .int 0 0, .int 3 0, .ref 84, .bool true, .int 181 0, .ref 85, .none, .ref 86, .ref 87, .ref 88, .int 300 0, .int 30 0, .str "/claim/cut.py" 301]
noncomputable def o90 (P : Params) : Obj := fo (fd (st 19) "is_blank" "is_blank" 3 [] .none .none .none (.str "termcore.base" 194) none (.ref 89) .none 0)
noncomputable def o91 (P : Params) : Obj := tp [.int 64 202, .int 8 305]
noncomputable def o92 (P : Params) : Obj := tp [.int 32 200, .int 32 306]
noncomputable def o93 (P : Params) : Obj := tp [.int 8 198, .int 64 307]
noncomputable def o94 (P : Params) : Obj := tp [.int 1 196, .int 128 308]
noncomputable def o95 (P : Params) : Obj := tp [.ref 91, .ref 92, .ref 93, .ref 94]
noncomputable def o96 (P : Params) : Obj := tp []
noncomputable def o97 (P : Params) : Obj := tb []
noncomputable def o98 (P : Params) : Obj := tp [.str "cell" 319, .str "codes" 320, .str "width" 321, .str "pen" 322, .str "is_guarded" 323, .str "found" 324, .str "flag" 325, .str "weight" 326]
noncomputable def o99 (P : Params) : Obj := tp []
noncomputable def o100 (P : Params) : Obj := fp (fd (st 25) "edit_weight" "edit_weight" 0 [] .none .none .none .none none .none .none 0)
noncomputable def o101 (P : Params) : Obj := cd [.str "edit_weight" 316, .str "edit_weight" 317, .str "/claim/cut.py" 318, .int 37 0, .int 1 0, .int 0 0, .int 0 0, .int 3 0, .ref 96, .bool true, .int 181 0, .ref 97, .none, .ref 98, .ref 99, .ref 100, .int 327 0, .int 37 0, .str "/claim/cut.py" 328]
noncomputable def o102 (P : Params) : Obj := fo (fx a25 b25 s25 "edit_weight" "edit_weight" 3 [] .none .none .none (.str "termcore.editing" 303) none (.ref 101) .none 0)
noncomputable def o103 (P : Params) : Obj := tp []
noncomputable def o104 (P : Params) : Obj := tb []
noncomputable def o105 (P : Params) : Obj := fp (fd (st 26) "checksum_rectangle" "checksum_rectangle" 0 [] .none .none .none .none none .none .none 0)
noncomputable def o106 (P : Params) : Obj := cd [.str "checksum_rectangle" 330, .str "checksum_rectangle" 331, .str "/claim/cut.py" 332, .int 48 0, .int 2 0, .int 0 0, .int 0 0, .int 3 0, .ref 103, .bool true, .int 181 0, .ref 104, .none, .none, .none, .ref 105, .int 333 0, .int 48 0, .str "/claim/cut.py" 334]
noncomputable def o107 (P : Params) : Obj := fo (fx a26 b26 s26 "checksum_rectangle" "checksum_rectangle" 3 [] .none .none .none (.str "termcore.editing" 303) none (.ref 106) .none 0)
noncomputable def o108 (P : Params) : Obj := tp []
noncomputable def o109 (P : Params) : Obj := tb []
noncomputable def o110 (P : Params) : Obj := tp [.str "signs" 353, .str "codes" 354]
noncomputable def o111 (P : Params) : Obj := tp []
noncomputable def o112 (P : Params) : Obj := fp (fd (st 34) "charset_pairs" "charset_pairs" 0 [] .none .none .none .none none .none .none 0)
noncomputable def o113 (P : Params) : Obj := cd [.str "charset_pairs" 350, .str "charset_pairs" 351, .str "/claim/cut.py" 352, .int 60 0, .int 2 0, .int 0 0, .int 0 0, .int 3 0, .ref 108, .bool true, .int 181 0, .ref 109, .none, .ref 110, .ref 111, .ref 112, .int 355 0, .int 60 0, .str "/claim/cut.py" 356]
noncomputable def o114 (P : Params) : Obj := fo (fx a34 b34 s34 "charset_pairs" "charset_pairs" 3 [] .none .none .none (.str "termcore.charsets" 336) none (.ref 113) .none 0)
noncomputable def o115 (P : Params) : Obj := tp []
noncomputable def o116 (P : Params) : Obj := tb []
noncomputable def o117 (P : Params) : Obj := tp [.str "found" 361]
noncomputable def o118 (P : Params) : Obj := tp []
noncomputable def o119 (P : Params) : Obj := fp (fd (st 35) "charset_drawing" "charset_drawing" 0 [] .none .none .none .none none .none .none 0)
noncomputable def o120 (P : Params) : Obj := cd [.str "charset_drawing" 358, .str "charset_drawing" 359, .str "/claim/cut.py" 360, .int 62 0, .int 0 0, .int 0 0, .int 0 0, .int 3 0, .ref 115, .bool true, .int 181 0, .ref 116, .none, .ref 117, .ref 118, .ref 119, .int 362 0, .int 62 0, .str "/claim/cut.py" 363]
noncomputable def o121 (P : Params) : Obj := fo (fx a35 b35 s35 "charset_drawing" "charset_drawing" 3 [] .none .none .none (.str "termcore.charsets" 336) none (.ref 120) .none 0)
noncomputable def o122 (P : Params) : Obj := tp []
noncomputable def o123 (P : Params) : Obj := tb []
noncomputable def o124 (P : Params) : Obj := tp [.str "is_dec" 368, .str "found" 369, .str "code" 370]
noncomputable def o125 (P : Params) : Obj := tp []
noncomputable def o126 (P : Params) : Obj := fp (fd (st 36) "charset_supplement" "charset_supplement" 0 [] .none .none .none .none none .none .none 0)
noncomputable def o127 (P : Params) : Obj := cd [.str "charset_supplement" 365, .str "charset_supplement" 366, .str "/claim/cut.py" 367, .int 71 0, .int 1 0, .int 0 0, .int 0 0, .int 3 0, .ref 122, .bool true, .int 181 0, .ref 123, .none, .ref 124, .ref 125, .ref 126, .int 371 0, .int 71 0, .str "/claim/cut.py" 372]
noncomputable def o128 (P : Params) : Obj := fo (fx a36 b36 s36 "charset_supplement" "charset_supplement" 3 [] .none .none .none (.str "termcore.charsets" 336) none (.ref 127) .none 0)
noncomputable def o129 (P : Params) : Obj := tp []
noncomputable def o130 (P : Params) : Obj := tb []
noncomputable def o131 (P : Params) : Obj := tp [.str "finnish" 377, .str "swedish" 378, .str "danish" 379, .str "french" 380, .str "canadian" 381, .str "german" 382, .str "italian" 383, .str "spanish" 384, .str "swiss" 385, .str "dutch" 386, .str "found" 387, .str "names" 388, .str "one" 389, .str "name" 390]
noncomputable def o132 (P : Params) : Obj := tp []
noncomputable def o133 (P : Params) : Obj := fp (fd (st 37) "charset_nationals" "charset_nationals" 0 [] .none .none .none .none none .none .none 0)
noncomputable def o134 (P : Params) : Obj := cd [.str "charset_nationals" 374, .str "charset_nationals" 375, .str "/claim/cut.py" 376, .int 80 0, .int 0 0, .int 0 0, .int 0 0, .int 3 0, .ref 129, .bool true, .int 181 0, .ref 130, .none, .ref 131, .ref 132, .ref 133, .int 391 0, .int 80 0, .str "/claim/cut.py" 392]
noncomputable def o135 (P : Params) : Obj := fo (fx a37 b37 s37 "charset_nationals" "charset_nationals" 3 [] .none .none .none (.str "termcore.charsets" 336) none (.ref 134) .none 0)
noncomputable def o136 (P : Params) : Obj := tp []
noncomputable def o137 (P : Params) : Obj := tb []
noncomputable def o138 (P : Params) : Obj := tp [.str "found" 397]
noncomputable def o139 (P : Params) : Obj := tp []
noncomputable def o140 (P : Params) : Obj := fp (fd (st 38) "charset_tables" "charset_tables" 0 [] .none .none .none .none none .none .none 0)
noncomputable def o141 (P : Params) : Obj := cd [.str "charset_tables" 394, .str "charset_tables" 395, .str "/claim/cut.py" 396, .int 96 0, .int 0 0, .int 0 0, .int 0 0, .int 3 0, .ref 136, .bool true, .int 181 0, .ref 137, .none, .ref 138, .ref 139, .ref 140, .int 398 0, .int 96 0, .str "/claim/cut.py" 399]
noncomputable def o142 (P : Params) : Obj := fo (fx a38 b38 s38 "charset_tables" "charset_tables" 3 [] .none .none .none (.str "termcore.charsets" 336) none (.ref 141) .none 0)
noncomputable def o143 (P : Params) : Obj := tp []
noncomputable def o144 (P : Params) : Obj := ⟨.type "builtin_function_or_method", none, .fields #[.builtin "type.__prepare__", .type "type"], #[]⟩
noncomputable def o145 (P : Params) : Obj := ⟨.type "dict", none, .dict #[e P "__module__" 408 (.str "termcore.charsets" 336), e P "__qualname__" 410 (.str "Charsets" 409), e P "__firstlineno__" 412 (.int 105 411), e P "__init__" 420 (.ref 157), e P "reset" 427 (.ref 164), e P "copy" 434 (.ref 171), e P "designate" 443 (.ref 178), e P "shift_in" 450 (.ref 185), e P "shift_out" 457 (.ref 192), e P "lock" 466 (.ref 199), e P "single" 474 (.ref 206), e P "mapped" 483 (.ref 214), e P "is_plain" 490 (.ref 221), e P "__static_attributes__" 496 (.ref 222)] 14, #[]⟩
noncomputable def o146 (P : Params) : Obj := tp []
noncomputable def o147 (P : Params) : Obj := tb [.int 107 0, .int 4 0, .ref 156, .int 111 0, .int 4 0, .ref 163, .int 117 0, .int 4 0, .ref 170, .int 120 0, .int 4 0, .ref 177, .int 123 0, .int 4 0, .ref 184, .int 126 0, .int 4 0, .ref 191, .int 129 0, .int 4 0, .ref 198, .int 132 0, .int 4 0, .ref 205, .int 135 0, .int 4 0, .ref 213, .int 138 0, .int 4 0, .ref 220]
noncomputable def o148 (P : Params) : Obj := cd [.str "Charsets" 403, .str "Charsets" 404, .str "/claim/cut.py" 405, .int 105 0, .int 0 0, .int 0 0, .int 0 0, .int 0 0, .ref 146, .bool false, .int 181 0, .ref 147, .none, .none, .none, .none, .int 406 0, .int 105 0, .str "/claim/cut.py" 407]
noncomputable def o149 (P : Params) : Obj := ⟨.type "frame", none, .plain, #[(some (.ref 148)), (some (.ref 3)), (some (.ref 145)), none, (some (.str "termcore.charsets" 336)), none, (some (.ref 0))]⟩
noncomputable def o150 (P : Params) : Obj := tp [.none]
noncomputable def o151 (P : Params) : Obj := tp []
noncomputable def o152 (P : Params) : Obj := tb []
noncomputable def o153 (P : Params) : Obj := tp [.str "self" 416, .str "tables" 417]
noncomputable def o154 (P : Params) : Obj := tp []
noncomputable def o155 (P : Params) : Obj := fp (fd (me 39 0) "__init__" "Charsets.__init__" 0 [] .none .none .none .none none .none .none 0)
noncomputable def o156 (P : Params) : Obj := cd [.str "__init__" 413, .str "Charsets.__init__" 414, .str "/claim/cut.py" 415, .int 107 0, .int 2 0, .int 0 0, .int 0 0, .int 3 0, .ref 151, .bool true, .int 181 0, .ref 152, .none, .ref 153, .ref 154, .ref 155, .int 418 0, .int 107 0, .str "/claim/cut.py" 419]
noncomputable def o157 (P : Params) : Obj := fo (fx a39x0 b39x0 s39x0 "__init__" "Charsets.__init__" 3 [] (.ref 150) .none .none (.str "termcore.charsets" 336) none (.ref 156) .none 0)
noncomputable def o158 (P : Params) : Obj := tp []
noncomputable def o159 (P : Params) : Obj := tb []
noncomputable def o160 (P : Params) : Obj := tp [.str "self" 424]
noncomputable def o161 (P : Params) : Obj := tp []
noncomputable def o162 (P : Params) : Obj := fp (fd (me 39 1) "reset" "Charsets.reset" 0 [] .none .none .none .none none .none .none 0)
noncomputable def o163 (P : Params) : Obj := cd [.str "reset" 421, .str "Charsets.reset" 422, .str "/claim/cut.py" 423, .int 111 0, .int 1 0, .int 0 0, .int 0 0, .int 3 0, .ref 158, .bool true, .int 181 0, .ref 159, .none, .ref 160, .ref 161, .ref 162, .int 425 0, .int 111 0, .str "/claim/cut.py" 426]
noncomputable def o164 (P : Params) : Obj := fo (fx a39x1 b39x1 s39x1 "reset" "Charsets.reset" 3 [] .none .none .none (.str "termcore.charsets" 336) none (.ref 163) .none 0)
noncomputable def o165 (P : Params) : Obj := tp []
noncomputable def o166 (P : Params) : Obj := tb []
noncomputable def o167 (P : Params) : Obj := tp [.str "self" 431]
noncomputable def o168 (P : Params) : Obj := tp []
noncomputable def o169 (P : Params) : Obj := fp (fd (me 39 2) "copy" "Charsets.copy" 0 [] .none .none .none .none none .none .none 0)
noncomputable def o170 (P : Params) : Obj := cd [.str "copy" 428, .str "Charsets.copy" 429, .str "/claim/cut.py" 430, .int 117 0, .int 1 0, .int 0 0, .int 0 0, .int 3 0, .ref 165, .bool true, .int 181 0, .ref 166, .none, .ref 167, .ref 168, .ref 169, .int 432 0, .int 117 0, .str "/claim/cut.py" 433]
noncomputable def o171 (P : Params) : Obj := fo (fd (me 39 2) "copy" "Charsets.copy" 3 [] .none .none .none (.str "termcore.charsets" 336) none (.ref 170) .none 0)
noncomputable def o172 (P : Params) : Obj := tp []
noncomputable def o173 (P : Params) : Obj := tb []
noncomputable def o174 (P : Params) : Obj := tp [.str "self" 438, .str "place" 439, .str "word" 440]
noncomputable def o175 (P : Params) : Obj := tp []
noncomputable def o176 (P : Params) : Obj := fp (fd (me 39 3) "designate" "Charsets.designate" 0 [] .none .none .none .none none .none .none 0)
noncomputable def o177 (P : Params) : Obj := cd [.str "designate" 435, .str "Charsets.designate" 436, .str "/claim/cut.py" 437, .int 120 0, .int 3 0, .int 0 0, .int 0 0, .int 3 0, .ref 172, .bool true, .int 181 0, .ref 173, .none, .ref 174, .ref 175, .ref 176, .int 441 0, .int 120 0, .str "/claim/cut.py" 442]
noncomputable def o178 (P : Params) : Obj := fo (fd (me 39 3) "designate" "Charsets.designate" 3 [] .none .none .none (.str "termcore.charsets" 336) none (.ref 177) .none 0)
noncomputable def o179 (P : Params) : Obj := tp []
noncomputable def o180 (P : Params) : Obj := tb []
noncomputable def o181 (P : Params) : Obj := tp [.str "self" 447]
noncomputable def o182 (P : Params) : Obj := tp []
noncomputable def o183 (P : Params) : Obj := fp (fd (me 39 4) "shift_in" "Charsets.shift_in" 0 [] .none .none .none .none none .none .none 0)
noncomputable def o184 (P : Params) : Obj := cd [.str "shift_in" 444, .str "Charsets.shift_in" 445, .str "/claim/cut.py" 446, .int 123 0, .int 1 0, .int 0 0, .int 0 0, .int 3 0, .ref 179, .bool true, .int 181 0, .ref 180, .none, .ref 181, .ref 182, .ref 183, .int 448 0, .int 123 0, .str "/claim/cut.py" 449]
noncomputable def o185 (P : Params) : Obj := fo (fd (me 39 4) "shift_in" "Charsets.shift_in" 3 [] .none .none .none (.str "termcore.charsets" 336) none (.ref 184) .none 0)
noncomputable def o186 (P : Params) : Obj := tp []
noncomputable def o187 (P : Params) : Obj := tb []
noncomputable def o188 (P : Params) : Obj := tp [.str "self" 454]
noncomputable def o189 (P : Params) : Obj := tp []
noncomputable def o190 (P : Params) : Obj := fp (fd (me 39 5) "shift_out" "Charsets.shift_out" 0 [] .none .none .none .none none .none .none 0)
noncomputable def o191 (P : Params) : Obj := cd [.str "shift_out" 451, .str "Charsets.shift_out" 452, .str "/claim/cut.py" 453, .int 126 0, .int 1 0, .int 0 0, .int 0 0, .int 3 0, .ref 186, .bool true, .int 181 0, .ref 187, .none, .ref 188, .ref 189, .ref 190, .int 455 0, .int 126 0, .str "/claim/cut.py" 456]
noncomputable def o192 (P : Params) : Obj := fo (fd (me 39 5) "shift_out" "Charsets.shift_out" 3 [] .none .none .none (.str "termcore.charsets" 336) none (.ref 191) .none 0)
noncomputable def o193 (P : Params) : Obj := tp []
noncomputable def o194 (P : Params) : Obj := tb []
noncomputable def o195 (P : Params) : Obj := tp [.str "self" 461, .str "place" 462, .str "is_right" 463]
noncomputable def o196 (P : Params) : Obj := tp []
noncomputable def o197 (P : Params) : Obj := fp (fd (me 39 6) "lock" "Charsets.lock" 0 [] .none .none .none .none none .none .none 0)
noncomputable def o198 (P : Params) : Obj := cd [.str "lock" 458, .str "Charsets.lock" 459, .str "/claim/cut.py" 460, .int 129 0, .int 3 0, .int 0 0, .int 0 0, .int 3 0, .ref 193, .bool true, .int 181 0, .ref 194, .none, .ref 195, .ref 196, .ref 197, .int 464 0, .int 129 0, .str "/claim/cut.py" 465]
noncomputable def o199 (P : Params) : Obj := fo (fd (me 39 6) "lock" "Charsets.lock" 3 [] .none .none .none (.str "termcore.charsets" 336) none (.ref 198) .none 0)
noncomputable def o200 (P : Params) : Obj := tp []
noncomputable def o201 (P : Params) : Obj := tb []
noncomputable def o202 (P : Params) : Obj := tp [.str "self" 470, .str "place" 471]
noncomputable def o203 (P : Params) : Obj := tp []
noncomputable def o204 (P : Params) : Obj := fp (fd (me 39 7) "single" "Charsets.single" 0 [] .none .none .none .none none .none .none 0)
noncomputable def o205 (P : Params) : Obj := cd [.str "single" 467, .str "Charsets.single" 468, .str "/claim/cut.py" 469, .int 132 0, .int 2 0, .int 0 0, .int 0 0, .int 3 0, .ref 200, .bool true, .int 181 0, .ref 201, .none, .ref 202, .ref 203, .ref 204, .int 472 0, .int 132 0, .str "/claim/cut.py" 473]
noncomputable def o206 (P : Params) : Obj := fo (fd (me 39 7) "single" "Charsets.single" 3 [] .none .none .none (.str "termcore.charsets" 336) none (.ref 205) .none 0)
noncomputable def o207 (P : Params) : Obj := tp [.bool false]
noncomputable def o208 (P : Params) : Obj := tp []
noncomputable def o209 (P : Params) : Obj := tb []
noncomputable def o210 (P : Params) : Obj := tp [.str "self" 478, .str "code" 479, .str "has_right" 480]
noncomputable def o211 (P : Params) : Obj := tp []
noncomputable def o212 (P : Params) : Obj := fp (fd (me 39 8) "mapped" "Charsets.mapped" 0 [] .none .none .none .none none .none .none 0)
noncomputable def o213 (P : Params) : Obj := cd [.str "mapped" 475, .str "Charsets.mapped" 476, .str "/claim/cut.py" 477, .int 135 0, .int 3 0, .int 0 0, .int 0 0, .int 3 0, .ref 208, .bool true, .int 181 0, .ref 209, .none, .ref 210, .ref 211, .ref 212, .int 481 0, .int 135 0, .str "/claim/cut.py" 482]
noncomputable def o214 (P : Params) : Obj := fo (fd (me 39 8) "mapped" "Charsets.mapped" 3 [] (.ref 207) .none .none (.str "termcore.charsets" 336) none (.ref 213) .none 0)
noncomputable def o215 (P : Params) : Obj := tp []
noncomputable def o216 (P : Params) : Obj := tb []
noncomputable def o217 (P : Params) : Obj := tp [.str "self" 487]
noncomputable def o218 (P : Params) : Obj := tp []
noncomputable def o219 (P : Params) : Obj := fp (fd (me 39 9) "is_plain" "Charsets.is_plain" 0 [] .none .none .none .none none .none .none 0)
noncomputable def o220 (P : Params) : Obj := cd [.str "is_plain" 484, .str "Charsets.is_plain" 485, .str "/claim/cut.py" 486, .int 138 0, .int 1 0, .int 0 0, .int 0 0, .int 3 0, .ref 215, .bool true, .int 181 0, .ref 216, .none, .ref 217, .ref 218, .ref 219, .int 488 0, .int 138 0, .str "/claim/cut.py" 489]
noncomputable def o221 (P : Params) : Obj := fo (fd (me 39 9) "is_plain" "Charsets.is_plain" 3 [] .none .none .none (.str "termcore.charsets" 336) none (.ref 220) .none 0)
noncomputable def o222 (P : Params) : Obj := tp [.str "left" 491, .str "names" 492, .str "right" 493, .str "shift" 494, .str "tables" 495]
noncomputable def o223 (P : Params) : Obj := ⟨.type "dict", none, .dict #[e P "__module__" 408 (.str "termcore.charsets" 336), e P "__firstlineno__" 412 (.int 105 411), e P "__init__" 420 (.ref 157), e P "reset" 427 (.ref 164), e P "copy" 434 (.ref 171), e P "designate" 443 (.ref 178), e P "shift_in" 450 (.ref 185), e P "shift_out" 457 (.ref 192), e P "lock" 466 (.ref 199), e P "single" 474 (.ref 206), e P "mapped" 483 (.ref 214), e P "is_plain" 490 (.ref 221), e P "__static_attributes__" 496 (.ref 222), e P "__dict__" 498 (.ref 225), e P "__weakref__" 500 (.ref 226), e P "__doc__" 501 .none] 4, #[]⟩
noncomputable def o224 (P : Params) : Obj := ⟨.type "type", none, .cls ⟨"Charsets", [.type "object"], [.ref 224, .type "object"], 223, "Charsets", true, [], [], false, none, false⟩, #[none, none, (some (.str "Charsets" 401)), (some (.str "Charsets" 409)), (some (.builtin "object.__new__")), (some (.bool true))]⟩
noncomputable def o225 (P : Params) : Obj := ⟨.type "getset_descriptor", none, .fields #[.str "__dict__" 497, .ref 224, .builtin "function.__dict__", .builtin "function.__dict__#set"], #[]⟩
noncomputable def o226 (P : Params) : Obj := ⟨.type "getset_descriptor", none, .fields #[.str "__weakref__" 499, .ref 224, .builtin "ExceptionGroup.__weakref__", .none], #[]⟩
noncomputable def o227 (P : Params) : Obj := ⟨.type "super", none, .fields #[.ref 224, .ref 224, .ref 224], #[]⟩
noncomputable def o228 (P : Params) : Obj := ⟨.type "builtin_function_or_method", none, .fields #[.builtin "object.__init_subclass__", .ref 224], #[]⟩
noncomputable def o229 (P : Params) : Obj := tp []
noncomputable def o230 (P : Params) : Obj := ⟨.type "builtin_function_or_method", none, .fields #[.builtin "type.__prepare__", .type "type"], #[]⟩
noncomputable def o231 (P : Params) : Obj := ⟨.type "dict", none, .dict #[e P "__module__" 515 (.str "termcore.cursor" 504), e P "__qualname__" 517 (.str "Cursor" 516), e P "__firstlineno__" 519 (.int 142 518), e P "__init__" 526 (.ref 242), e P "copy" 533 (.ref 249), e P "go" 542 (.ref 256), e P "place" 549 (.ref 263), e P "equals" 557 (.ref 270), e P "__static_attributes__" 564 (.ref 271)] 9, #[]⟩
noncomputable def o232 (P : Params) : Obj := tp []
noncomputable def o233 (P : Params) : Obj := tb [.int 144 0, .int 4 0, .ref 241, .int 152 0, .int 4 0, .ref 248, .int 155 0, .int 4 0, .ref 255, .int 160 0, .int 4 0, .ref 262, .int 163 0, .int 4 0, .ref 269]
noncomputable def o234 (P : Params) : Obj := cd [.str "Cursor" 510, .str "Cursor" 511, .str "/claim/cut.py" 512, .int 142 0, .int 0 0, .int 0 0, .int 0 0, .int 0 0, .ref 232, .bool false, .int 181 0, .ref 233, .none, .none, .none, .none, .int 513 0, .int 142 0, .str "/claim/cut.py" 514]
noncomputable def o235 (P : Params) : Obj := ⟨.type "frame", none, .plain, #[(some (.ref 234)), (some (.ref 3)), (some (.ref 231)), none, (some (.str "termcore.cursor" 504)), none, (some (.ref 0))]⟩
noncomputable def o236 (P : Params) : Obj := tp []
noncomputable def o237 (P : Params) : Obj := tb []
noncomputable def o238 (P : Params) : Obj := tp [.str "self" 523]
noncomputable def o239 (P : Params) : Obj := tp []
noncomputable def o240 (P : Params) : Obj := fp (fd (me 42 0) "__init__" "Cursor.__init__" 0 [] .none .none .none .none none .none .none 0)
noncomputable def o241 (P : Params) : Obj := cd [.str "__init__" 520, .str "Cursor.__init__" 521, .str "/claim/cut.py" 522, .int 144 0, .int 1 0, .int 0 0, .int 0 0, .int 3 0, .ref 236, .bool true, .int 181 0, .ref 237, .none, .ref 238, .ref 239, .ref 240, .int 524 0, .int 144 0, .str "/claim/cut.py" 525]
noncomputable def o242 (P : Params) : Obj := fo (fx a42x0 b42x0 s42x0 "__init__" "Cursor.__init__" 3 [] .none .none .none (.str "termcore.cursor" 504) none (.ref 241) .none 0)
noncomputable def o243 (P : Params) : Obj := tp []
noncomputable def o244 (P : Params) : Obj := tb []
noncomputable def o245 (P : Params) : Obj := tp [.str "self" 530]
noncomputable def o246 (P : Params) : Obj := tp []
noncomputable def o247 (P : Params) : Obj := fp (fd (me 42 1) "copy" "Cursor.copy" 0 [] .none .none .none .none none .none .none 0)
noncomputable def o248 (P : Params) : Obj := cd [.str "copy" 527, .str "Cursor.copy" 528, .str "/claim/cut.py" 529, .int 152 0, .int 1 0, .int 0 0, .int 0 0, .int 3 0, .ref 243, .bool true, .int 181 0, .ref 244, .none, .ref 245, .ref 246, .ref 247, .int 531 0, .int 152 0, .str "/claim/cut.py" 532]
noncomputable def o249 (P : Params) : Obj := fo (fd (me 42 1) "copy" "Cursor.copy" 3 [] .none .none .none (.str "termcore.cursor" 504) none (.ref 248) .none 0)
noncomputable def o250 (P : Params) : Obj := tp []
noncomputable def o251 (P : Params) : Obj := tb []
noncomputable def o252 (P : Params) : Obj := tp [.str "self" 537, .str "row" 538, .str "column" 539]
noncomputable def o253 (P : Params) : Obj := tp []
noncomputable def o254 (P : Params) : Obj := fp (fd (me 42 2) "go" "Cursor.go" 0 [] .none .none .none .none none .none .none 0)
noncomputable def o255 (P : Params) : Obj := cd [.str "go" 534, .str "Cursor.go" 535, .str "/claim/cut.py" 536, .int 155 0, .int 3 0, .int 0 0, .int 0 0, .int 3 0, .ref 250, .bool true, .int 181 0, .ref 251, .none, .ref 252, .ref 253, .ref 254, .int 540 0, .int 155 0, .str "/claim/cut.py" 541]
noncomputable def o256 (P : Params) : Obj := fo (fd (me 42 2) "go" "Cursor.go" 3 [] .none .none .none (.str "termcore.cursor" 504) none (.ref 255) .none 0)
noncomputable def o257 (P : Params) : Obj := tp []
noncomputable def o258 (P : Params) : Obj := tb []
noncomputable def o259 (P : Params) : Obj := tp [.str "self" 546]
noncomputable def o260 (P : Params) : Obj := tp []
noncomputable def o261 (P : Params) : Obj := fp (fd (me 42 3) "place" "Cursor.place" 0 [] .none .none .none .none none .none .none 0)
noncomputable def o262 (P : Params) : Obj := cd [.str "place" 543, .str "Cursor.place" 544, .str "/claim/cut.py" 545, .int 160 0, .int 1 0, .int 0 0, .int 0 0, .int 3 0, .ref 257, .bool true, .int 181 0, .ref 258, .none, .ref 259, .ref 260, .ref 261, .int 547 0, .int 160 0, .str "/claim/cut.py" 548]
noncomputable def o263 (P : Params) : Obj := fo (fd (me 42 3) "place" "Cursor.place" 3 [] .none .none .none (.str "termcore.cursor" 504) none (.ref 262) .none 0)
noncomputable def o264 (P : Params) : Obj := tp []
noncomputable def o265 (P : Params) : Obj := tb []
noncomputable def o266 (P : Params) : Obj := tp [.str "self" 553, .str "other" 554]
noncomputable def o267 (P : Params) : Obj := tp []
noncomputable def o268 (P : Params) : Obj := fp (fd (me 42 4) "equals" "Cursor.equals" 0 [] .none .none .none .none none .none .none 0)
noncomputable def o269 (P : Params) : Obj := cd [.str "equals" 550, .str "Cursor.equals" 551, .str "/claim/cut.py" 552, .int 163 0, .int 2 0, .int 0 0, .int 0 0, .int 3 0, .ref 264, .bool true, .int 181 0, .ref 265, .none, .ref 266, .ref 267, .ref 268, .int 555 0, .int 163 0, .str "/claim/cut.py" 556]
noncomputable def o270 (P : Params) : Obj := fo (fd (me 42 4) "equals" "Cursor.equals" 3 [] .none .none .none (.str "termcore.cursor" 504) none (.ref 269) .none 0)
noncomputable def o271 (P : Params) : Obj := tp [.str "column" 558, .str "is_guarding" 559, .str "is_origin" 560, .str "is_waiting" 561, .str "pen" 562, .str "row" 563]
noncomputable def o272 (P : Params) : Obj := ⟨.type "dict", none, .dict #[e P "__module__" 515 (.str "termcore.cursor" 504), e P "__firstlineno__" 519 (.int 142 518), e P "__init__" 526 (.ref 242), e P "copy" 533 (.ref 249), e P "go" 542 (.ref 256), e P "place" 549 (.ref 263), e P "equals" 557 (.ref 270), e P "__static_attributes__" 564 (.ref 271), e P "__dict__" 566 (.ref 274), e P "__weakref__" 568 (.ref 275), e P "__doc__" 569 .none] 4, #[]⟩
noncomputable def o273 (P : Params) : Obj := ⟨.type "type", none, .cls ⟨"Cursor", [.type "object"], [.ref 273, .type "object"], 272, "Cursor", true, [], [], false, none, false⟩, #[none, none, (some (.str "Cursor" 508)), (some (.str "Cursor" 516)), (some (.builtin "object.__new__")), (some (.bool true))]⟩
noncomputable def o274 (P : Params) : Obj := ⟨.type "getset_descriptor", none, .fields #[.str "__dict__" 565, .ref 273, .builtin "function.__dict__", .builtin "function.__dict__#set"], #[]⟩
noncomputable def o275 (P : Params) : Obj := ⟨.type "getset_descriptor", none, .fields #[.str "__weakref__" 567, .ref 273, .builtin "ExceptionGroup.__weakref__", .none], #[]⟩
noncomputable def o276 (P : Params) : Obj := ⟨.type "super", none, .fields #[.ref 273, .ref 273, .ref 273], #[]⟩
noncomputable def o277 (P : Params) : Obj := ⟨.type "builtin_function_or_method", none, .fields #[.builtin "object.__init_subclass__", .ref 273], #[]⟩
noncomputable def o278 (P : Params) : Obj := tp []
noncomputable def o279 (P : Params) : Obj := ⟨.type "builtin_function_or_method", none, .fields #[.builtin "type.__prepare__", .type "type"], #[]⟩
noncomputable def o280 (P : Params) : Obj := ⟨.type "dict", none, .dict #[e P "__module__" 579 (.str "termcore.cursor" 504), e P "__qualname__" 581 (.str "Margins" 580), e P "__firstlineno__" 583 (.int 165 582), e P "__init__" 592 (.ref 291), e P "set_rows" 601 (.ref 298), e P "set_columns" 610 (.ref 305), e P "clear_rows" 617 (.ref 312), e P "clear_columns" 624 (.ref 319), e P "resize" 633 (.ref 326), e P "area" 640 (.ref 333), e P "holds" 649 (.ref 340), e P "holds_row" 657 (.ref 347), e P "holds_column" 665 (.ref 354), e P "is_whole_width" 672 (.ref 361), e P "is_whole" 679 (.ref 368), e P "first_row" 687 (.ref 375), e P "last_row" 695 (.ref 382), e P "first_column" 703 (.ref 389), e P "last_column" 711 (.ref 396), e P "copy" 718 (.ref 403), e P "__static_attributes__" 725 (.ref 404)] 21, #[]⟩
noncomputable def o281 (P : Params) : Obj := tp []
noncomputable def o282 (P : Params) : Obj := tb [.int 167 0, .int 4 0, .ref 290, .int 175 0, .int 4 0, .ref 297, .int 178 0, .int 4 0, .ref 304, .int 181 0, .int 4 0, .ref 311, .int 184 0, .int 4 0, .ref 318, .int 187 0, .int 4 0, .ref 325, .int 190 0, .int 4 0, .ref 332, .int 193 0, .int 4 0, .ref 339, .int 196 0, .int 4 0, .ref 346, .int 199 0, .int 4 0, .ref 353, .int 202 0, .int 4 0, .ref 360, .int 205 0, .int 4 0, .ref 367, .int 208 0, .int 4 0, .ref 374, .int 211 0, .int 4 0, .ref 381, .int 214 0, .int 4 0, .ref 388, .int 217 0, .int 4 0, .ref 395, .int 220 0, .int 4 0, .ref 402]
noncomputable def o283 (P : Params) : Obj := cd [.str "Margins" 574, .str "Margins" 575, .str "/claim/cut.py" 576, .int 165 0, .int 0 0, .int 0 0, .int 0 0, .int 0 0, .ref 281, .bool false, .int 181 0, .ref 282, .none, .none, .none, .none, .int 577 0, .int 165 0, .str "/claim/cut.py" 578]
noncomputable def o284 (P : Params) : Obj := ⟨.type "frame", none, .plain, #[(some (.ref 283)), (some (.ref 3)), (some (.ref 280)), none, (some (.str "termcore.cursor" 504)), none, (some (.ref 0))]⟩
noncomputable def o285 (P : Params) : Obj := tp []
noncomputable def o286 (P : Params) : Obj := tb []
noncomputable def o287 (P : Params) : Obj := tp [.str "self" 587, .str "rows" 588, .str "columns" 589]
noncomputable def o288 (P : Params) : Obj := tp []
noncomputable def o289 (P : Params) : Obj := fp (fd (me 43 0) "__init__" "Margins.__init__" 0 [] .none .none .none .none none .none .none 0)
noncomputable def o290 (P : Params) : Obj := cd [.str "__init__" 584, .str "Margins.__init__" 585, .str "/claim/cut.py" 586, .int 167 0, .int 3 0, .int 0 0, .int 0 0, .int 3 0, .ref 285, .bool true, .int 181 0, .ref 286, .none, .ref 287, .ref 288, .ref 289, .int 590 0, .int 167 0, .str "/claim/cut.py" 591]
noncomputable def o291 (P : Params) : Obj := fo (fx a43x0 b43x0 s43x0 "__init__" "Margins.__init__" 3 [] .none .none .none (.str "termcore.cursor" 504) none (.ref 290) .none 0)
noncomputable def o292 (P : Params) : Obj := tp []
noncomputable def o293 (P : Params) : Obj := tb []
noncomputable def o294 (P : Params) : Obj := tp [.str "self" 596, .str "top" 597, .str "bottom" 598]
noncomputable def o295 (P : Params) : Obj := tp []
noncomputable def o296 (P : Params) : Obj := fp (fd (me 43 1) "set_rows" "Margins.set_rows" 0 [] .none .none .none .none none .none .none 0)
noncomputable def o297 (P : Params) : Obj := cd [.str "set_rows" 593, .str "Margins.set_rows" 594, .str "/claim/cut.py" 595, .int 175 0, .int 3 0, .int 0 0, .int 0 0, .int 3 0, .ref 292, .bool true, .int 181 0, .ref 293, .none, .ref 294, .ref 295, .ref 296, .int 599 0, .int 175 0, .str "/claim/cut.py" 600]
noncomputable def o298 (P : Params) : Obj := fo (fd (me 43 1) "set_rows" "Margins.set_rows" 3 [] .none .none .none (.str "termcore.cursor" 504) none (.ref 297) .none 0)
noncomputable def o299 (P : Params) : Obj := tp []
noncomputable def o300 (P : Params) : Obj := tb []
noncomputable def o301 (P : Params) : Obj := tp [.str "self" 605, .str "left" 606, .str "right" 607]
noncomputable def o302 (P : Params) : Obj := tp []
noncomputable def o303 (P : Params) : Obj := fp (fd (me 43 2) "set_columns" "Margins.set_columns" 0 [] .none .none .none .none none .none .none 0)
noncomputable def o304 (P : Params) : Obj := cd [.str "set_columns" 602, .str "Margins.set_columns" 603, .str "/claim/cut.py" 604, .int 178 0, .int 3 0, .int 0 0, .int 0 0, .int 3 0, .ref 299, .bool true, .int 181 0, .ref 300, .none, .ref 301, .ref 302, .ref 303, .int 608 0, .int 178 0, .str "/claim/cut.py" 609]
noncomputable def o305 (P : Params) : Obj := fo (fd (me 43 2) "set_columns" "Margins.set_columns" 3 [] .none .none .none (.str "termcore.cursor" 504) none (.ref 304) .none 0)
noncomputable def o306 (P : Params) : Obj := tp []
noncomputable def o307 (P : Params) : Obj := tb []
noncomputable def o308 (P : Params) : Obj := tp [.str "self" 614]
noncomputable def o309 (P : Params) : Obj := tp []
noncomputable def o310 (P : Params) : Obj := fp (fd (me 43 3) "clear_rows" "Margins.clear_rows" 0 [] .none .none .none .none none .none .none 0)
noncomputable def o311 (P : Params) : Obj := cd [.str "clear_rows" 611, .str "Margins.clear_rows" 612, .str "/claim/cut.py" 613, .int 181 0, .int 1 0, .int 0 0, .int 0 0, .int 3 0, .ref 306, .bool true, .int 181 0, .ref 307, .none, .ref 308, .ref 309, .ref 310, .int 615 0, .int 181 0, .str "/claim/cut.py" 616]
noncomputable def o312 (P : Params) : Obj := fo (fd (me 43 3) "clear_rows" "Margins.clear_rows" 3 [] .none .none .none (.str "termcore.cursor" 504) none (.ref 311) .none 0)
noncomputable def o313 (P : Params) : Obj := tp []
noncomputable def o314 (P : Params) : Obj := tb []
noncomputable def o315 (P : Params) : Obj := tp [.str "self" 621]
noncomputable def o316 (P : Params) : Obj := tp []
noncomputable def o317 (P : Params) : Obj := fp (fd (me 43 4) "clear_columns" "Margins.clear_columns" 0 [] .none .none .none .none none .none .none 0)
noncomputable def o318 (P : Params) : Obj := cd [.str "clear_columns" 618, .str "Margins.clear_columns" 619, .str "/claim/cut.py" 620, .int 184 0, .int 1 0, .int 0 0, .int 0 0, .int 3 0, .ref 313, .bool true, .int 181 0, .ref 314, .none, .ref 315, .ref 316, .ref 317, .int 622 0, .int 184 0, .str "/claim/cut.py" 623]
noncomputable def o319 (P : Params) : Obj := fo (fd (me 43 4) "clear_columns" "Margins.clear_columns" 3 [] .none .none .none (.str "termcore.cursor" 504) none (.ref 318) .none 0)
noncomputable def o320 (P : Params) : Obj := tp []
noncomputable def o321 (P : Params) : Obj := tb []
noncomputable def o322 (P : Params) : Obj := tp [.str "self" 628, .str "rows" 629, .str "columns" 630]
noncomputable def o323 (P : Params) : Obj := tp []
noncomputable def o324 (P : Params) : Obj := fp (fd (me 43 5) "resize" "Margins.resize" 0 [] .none .none .none .none none .none .none 0)
noncomputable def o325 (P : Params) : Obj := cd [.str "resize" 625, .str "Margins.resize" 626, .str "/claim/cut.py" 627, .int 187 0, .int 3 0, .int 0 0, .int 0 0, .int 3 0, .ref 320, .bool true, .int 181 0, .ref 321, .none, .ref 322, .ref 323, .ref 324, .int 631 0, .int 187 0, .str "/claim/cut.py" 632]
noncomputable def o326 (P : Params) : Obj := fo (fd (me 43 5) "resize" "Margins.resize" 3 [] .none .none .none (.str "termcore.cursor" 504) none (.ref 325) .none 0)
noncomputable def o327 (P : Params) : Obj := tp []
noncomputable def o328 (P : Params) : Obj := tb []
noncomputable def o329 (P : Params) : Obj := tp [.str "self" 637]
noncomputable def o330 (P : Params) : Obj := tp []
noncomputable def o331 (P : Params) : Obj := fp (fd (me 43 6) "area" "Margins.area" 0 [] .none .none .none .none none .none .none 0)
noncomputable def o332 (P : Params) : Obj := cd [.str "area" 634, .str "Margins.area" 635, .str "/claim/cut.py" 636, .int 190 0, .int 1 0, .int 0 0, .int 0 0, .int 3 0, .ref 327, .bool true, .int 181 0, .ref 328, .none, .ref 329, .ref 330, .ref 331, .int 638 0, .int 190 0, .str "/claim/cut.py" 639]
noncomputable def o333 (P : Params) : Obj := fo (fd (me 43 6) "area" "Margins.area" 3 [] .none .none .none (.str "termcore.cursor" 504) none (.ref 332) .none 0)
noncomputable def o334 (P : Params) : Obj := tp []
noncomputable def o335 (P : Params) : Obj := tb []
noncomputable def o336 (P : Params) : Obj := tp [.str "self" 644, .str "row" 645, .str "column" 646]
noncomputable def o337 (P : Params) : Obj := tp []
noncomputable def o338 (P : Params) : Obj := fp (fd (me 43 7) "holds" "Margins.holds" 0 [] .none .none .none .none none .none .none 0)
noncomputable def o339 (P : Params) : Obj := cd [.str "holds" 641, .str "Margins.holds" 642, .str "/claim/cut.py" 643, .int 193 0, .int 3 0, .int 0 0, .int 0 0, .int 3 0, .ref 334, .bool true, .int 181 0, .ref 335, .none, .ref 336, .ref 337, .ref 338, .int 647 0, .int 193 0, .str "/claim/cut.py" 648]
noncomputable def o340 (P : Params) : Obj := fo (fd (me 43 7) "holds" "Margins.holds" 3 [] .none .none .none (.str "termcore.cursor" 504) none (.ref 339) .none 0)
noncomputable def o341 (P : Params) : Obj := tp []
noncomputable def o342 (P : Params) : Obj := tb []
noncomputable def o343 (P : Params) : Obj := tp [.str "self" 653, .str "row" 654]
noncomputable def o344 (P : Params) : Obj := tp []
noncomputable def o345 (P : Params) : Obj := fp (fd (me 43 8) "holds_row" "Margins.holds_row" 0 [] .none .none .none .none none .none .none 0)
noncomputable def o346 (P : Params) : Obj := cd [.str "holds_row" 650, .str "Margins.holds_row" 651, .str "/claim/cut.py" 652, .int 196 0, .int 2 0, .int 0 0, .int 0 0, .int 3 0, .ref 341, .bool true, .int 181 0, .ref 342, .none, .ref 343, .ref 344, .ref 345, .int 655 0, .int 196 0, .str "/claim/cut.py" 656]
noncomputable def o347 (P : Params) : Obj := fo (fd (me 43 8) "holds_row" "Margins.holds_row" 3 [] .none .none .none (.str "termcore.cursor" 504) none (.ref 346) .none 0)
noncomputable def o348 (P : Params) : Obj := tp []
noncomputable def o349 (P : Params) : Obj := tb []
noncomputable def o350 (P : Params) : Obj := tp [.str "self" 661, .str "column" 662]
noncomputable def o351 (P : Params) : Obj := tp []
noncomputable def o352 (P : Params) : Obj := fp (fd (me 43 9) "holds_column" "Margins.holds_column" 0 [] .none .none .none .none none .none .none 0)
noncomputable def o353 (P : Params) : Obj := cd [.str "holds_column" 658, .str "Margins.holds_column" 659, .str "/claim/cut.py" 660, .int 199 0, .int 2 0, .int 0 0, .int 0 0, .int 3 0, .ref 348, .bool true, .int 181 0, .ref 349, .none, .ref 350, .ref 351, .ref 352, .int 663 0, .int 199 0, .str "/claim/cut.py" 664]
noncomputable def o354 (P : Params) : Obj := fo (fd (me 43 9) "holds_column" "Margins.holds_column" 3 [] .none .none .none (.str "termcore.cursor" 504) none (.ref 353) .none 0)
noncomputable def o355 (P : Params) : Obj := tp []
noncomputable def o356 (P : Params) : Obj := tb []
noncomputable def o357 (P : Params) : Obj := tp [.str "self" 669]
noncomputable def o358 (P : Params) : Obj := tp []
noncomputable def o359 (P : Params) : Obj := fp (fd (me 43 10) "is_whole_width" "Margins.is_whole_width" 0 [] .none .none .none .none none .none .none 0)
noncomputable def o360 (P : Params) : Obj := cd [.str "is_whole_width" 666, .str "Margins.is_whole_width" 667, .str "/claim/cut.py" 668, .int 202 0, .int 1 0, .int 0 0, .int 0 0, .int 3 0, .ref 355, .bool true, .int 181 0, .ref 356, .none, .ref 357, .ref 358, .ref 359, .int 670 0, .int 202 0, .str "/claim/cut.py" 671]
noncomputable def o361 (P : Params) : Obj := fo (fd (me 43 10) "is_whole_width" "Margins.is_whole_width" 3 [] .none .none .none (.str "termcore.cursor" 504) none (.ref 360) .none 0)
noncomputable def o362 (P : Params) : Obj := tp []
noncomputable def o363 (P : Params) : Obj := tb []
noncomputable def o364 (P : Params) : Obj := tp [.str "self" 676]
noncomputable def o365 (P : Params) : Obj := tp []
noncomputable def o366 (P : Params) : Obj := fp (fd (me 43 11) "is_whole" "Margins.is_whole" 0 [] .none .none .none .none none .none .none 0)
noncomputable def o367 (P : Params) : Obj := cd [.str "is_whole" 673, .str "Margins.is_whole" 674, .str "/claim/cut.py" 675, .int 205 0, .int 1 0, .int 0 0, .int 0 0, .int 3 0, .ref 362, .bool true, .int 181 0, .ref 363, .none, .ref 364, .ref 365, .ref 366, .int 677 0, .int 205 0, .str "/claim/cut.py" 678]
noncomputable def o368 (P : Params) : Obj := fo (fd (me 43 11) "is_whole" "Margins.is_whole" 3 [] .none .none .none (.str "termcore.cursor" 504) none (.ref 367) .none 0)
noncomputable def o369 (P : Params) : Obj := tp []
noncomputable def o370 (P : Params) : Obj := tb []
noncomputable def o371 (P : Params) : Obj := tp [.str "self" 683, .str "row" 684]
noncomputable def o372 (P : Params) : Obj := tp []
noncomputable def o373 (P : Params) : Obj := fp (fd (me 43 12) "first_row" "Margins.first_row" 0 [] .none .none .none .none none .none .none 0)
noncomputable def o374 (P : Params) : Obj := cd [.str "first_row" 680, .str "Margins.first_row" 681, .str "/claim/cut.py" 682, .int 208 0, .int 2 0, .int 0 0, .int 0 0, .int 3 0, .ref 369, .bool true, .int 181 0, .ref 370, .none, .ref 371, .ref 372, .ref 373, .int 685 0, .int 208 0, .str "/claim/cut.py" 686]
noncomputable def o375 (P : Params) : Obj := fo (fd (me 43 12) "first_row" "Margins.first_row" 3 [] .none .none .none (.str "termcore.cursor" 504) none (.ref 374) .none 0)
noncomputable def o376 (P : Params) : Obj := tp []
noncomputable def o377 (P : Params) : Obj := tb []
noncomputable def o378 (P : Params) : Obj := tp [.str "self" 691, .str "row" 692]
noncomputable def o379 (P : Params) : Obj := tp []
noncomputable def o380 (P : Params) : Obj := fp (fd (me 43 13) "last_row" "Margins.last_row" 0 [] .none .none .none .none none .none .none 0)
noncomputable def o381 (P : Params) : Obj := cd [.str "last_row" 688, .str "Margins.last_row" 689, .str "/claim/cut.py" 690, .int 211 0, .int 2 0, .int 0 0, .int 0 0, .int 3 0, .ref 376, .bool true, .int 181 0, .ref 377, .none, .ref 378, .ref 379, .ref 380, .int 693 0, .int 211 0, .str "/claim/cut.py" 694]
noncomputable def o382 (P : Params) : Obj := fo (fd (me 43 13) "last_row" "Margins.last_row" 3 [] .none .none .none (.str "termcore.cursor" 504) none (.ref 381) .none 0)
noncomputable def o383 (P : Params) : Obj := tp []
noncomputable def o384 (P : Params) : Obj := tb []
noncomputable def o385 (P : Params) : Obj := tp [.str "self" 699, .str "column" 700]
noncomputable def o386 (P : Params) : Obj := tp []
noncomputable def o387 (P : Params) : Obj := fp (fd (me 43 14) "first_column" "Margins.first_column" 0 [] .none .none .none .none none .none .none 0)
noncomputable def o388 (P : Params) : Obj := cd [.str "first_column" 696, .str "Margins.first_column" 697, .str "/claim/cut.py" 698, .int 214 0, .int 2 0, .int 0 0, .int 0 0, .int 3 0, .ref 383, .bool true, .int 181 0, .ref 384, .none, .ref 385, .ref 386, .ref 387, .int 701 0, .int 214 0, .str "/claim/cut.py" 702]
noncomputable def o389 (P : Params) : Obj := fo (fd (me 43 14) "first_column" "Margins.first_column" 3 [] .none .none .none (.str "termcore.cursor" 504) none (.ref 388) .none 0)
noncomputable def o390 (P : Params) : Obj := tp []
noncomputable def o391 (P : Params) : Obj := tb []
noncomputable def o392 (P : Params) : Obj := tp [.str "self" 707, .str "column" 708]
noncomputable def o393 (P : Params) : Obj := tp []
noncomputable def o394 (P : Params) : Obj := fp (fd (me 43 15) "last_column" "Margins.last_column" 0 [] .none .none .none .none none .none .none 0)
noncomputable def o395 (P : Params) : Obj := cd [.str "last_column" 704, .str "Margins.last_column" 705, .str "/claim/cut.py" 706, .int 217 0, .int 2 0, .int 0 0, .int 0 0, .int 3 0, .ref 390, .bool true, .int 181 0, .ref 391, .none, .ref 392, .ref 393, .ref 394, .int 709 0, .int 217 0, .str "/claim/cut.py" 710]
noncomputable def o396 (P : Params) : Obj := fo (fd (me 43 15) "last_column" "Margins.last_column" 3 [] .none .none .none (.str "termcore.cursor" 504) none (.ref 395) .none 0)
noncomputable def o397 (P : Params) : Obj := tp []
noncomputable def o398 (P : Params) : Obj := tb []
noncomputable def o399 (P : Params) : Obj := tp [.str "self" 715]
noncomputable def o400 (P : Params) : Obj := tp []
noncomputable def o401 (P : Params) : Obj := fp (fd (me 43 16) "copy" "Margins.copy" 0 [] .none .none .none .none none .none .none 0)
noncomputable def o402 (P : Params) : Obj := cd [.str "copy" 712, .str "Margins.copy" 713, .str "/claim/cut.py" 714, .int 220 0, .int 1 0, .int 0 0, .int 0 0, .int 3 0, .ref 397, .bool true, .int 181 0, .ref 398, .none, .ref 399, .ref 400, .ref 401, .int 716 0, .int 220 0, .str "/claim/cut.py" 717]
noncomputable def o403 (P : Params) : Obj := fo (fd (me 43 16) "copy" "Margins.copy" 3 [] .none .none .none (.str "termcore.cursor" 504) none (.ref 402) .none 0)
noncomputable def o404 (P : Params) : Obj := tp [.str "bottom" 719, .str "columns" 720, .str "left" 721, .str "right" 722, .str "rows" 723, .str "top" 724]
noncomputable def o405 (P : Params) : Obj := ⟨.type "dict", none, .dict #[e P "__module__" 579 (.str "termcore.cursor" 504), e P "__firstlineno__" 583 (.int 165 582), e P "__init__" 592 (.ref 291), e P "set_rows" 601 (.ref 298), e P "set_columns" 610 (.ref 305), e P "clear_rows" 617 (.ref 312), e P "clear_columns" 624 (.ref 319), e P "resize" 633 (.ref 326), e P "area" 640 (.ref 333), e P "holds" 649 (.ref 340), e P "holds_row" 657 (.ref 347), e P "holds_column" 665 (.ref 354), e P "is_whole_width" 672 (.ref 361), e P "is_whole" 679 (.ref 368), e P "first_row" 687 (.ref 375), e P "last_row" 695 (.ref 382), e P "first_column" 703 (.ref 389), e P "last_column" 711 (.ref 396), e P "copy" 718 (.ref 403), e P "__static_attributes__" 725 (.ref 404), e P "__dict__" 727 (.ref 407), e P "__weakref__" 729 (.ref 408), e P "__doc__" 730 .none] 4, #[]⟩
noncomputable def o406 (P : Params) : Obj := ⟨.type "type", none, .cls ⟨"Margins", [.type "object"], [.ref 406, .type "object"], 405, "Margins", true, [], [], false, none, false⟩, #[none, none, (some (.str "Margins" 572)), (some (.str "Margins" 580)), (some (.builtin "object.__new__")), (some (.bool true))]⟩
noncomputable def o407 (P : Params) : Obj := ⟨.type "getset_descriptor", none, .fields #[.str "__dict__" 726, .ref 406, .builtin "function.__dict__", .builtin "function.__dict__#set"], #[]⟩
noncomputable def o408 (P : Params) : Obj := ⟨.type "getset_descriptor", none, .fields #[.str "__weakref__" 728, .ref 406, .builtin "ExceptionGroup.__weakref__", .none], #[]⟩
noncomputable def o409 (P : Params) : Obj := ⟨.type "super", none, .fields #[.ref 406, .ref 406, .ref 406], #[]⟩
noncomputable def o410 (P : Params) : Obj := ⟨.type "builtin_function_or_method", none, .fields #[.builtin "object.__init_subclass__", .ref 406], #[]⟩
noncomputable def o411 (P : Params) : Obj := tp []
noncomputable def o412 (P : Params) : Obj := ⟨.type "builtin_function_or_method", none, .fields #[.builtin "type.__prepare__", .type "type"], #[]⟩
noncomputable def o413 (P : Params) : Obj := ⟨.type "dict", none, .dict #[e P "__module__" 740 (.str "termcore.cursor" 504), e P "__qualname__" 742 (.str "Tabs" 741), e P "__firstlineno__" 744 (.int 222 743), e P "__init__" 752 (.ref 424), e P "put_eighths" 761 (.ref 431), e P "set" 769 (.ref 438), e P "clear" 777 (.ref 445), e P "clear_all" 784 (.ref 452), e P "reset" 791 (.ref 459), e P "told" 798 (.ref 466), e P "put" 807 (.ref 473), e P "next_from" 816 (.ref 480), e P "back_from" 826 (.ref 488), e P "resize" 834 (.ref 495), e P "copy" 841 (.ref 502), e P "__static_attributes__" 844 (.ref 503)] 16, #[]⟩
noncomputable def o414 (P : Params) : Obj := tp []
noncomputable def o415 (P : Params) : Obj := tb [.int 224 0, .int 4 0, .ref 423, .int 229 0, .int 4 0, .ref 430, .int 234 0, .int 4 0, .ref 437, .int 238 0, .int 4 0, .ref 444, .int 241 0, .int 4 0, .ref 451, .int 244 0, .int 4 0, .ref 458, .int 248 0, .int 4 0, .ref 465, .int 251 0, .int 4 0, .ref 472, .int 256 0, .int 4 0, .ref 479, .int 259 0, .int 4 0, .ref 487, .int 262 0, .int 4 0, .ref 494, .int 265 0, .int 4 0, .ref 501]
noncomputable def o416 (P : Params) : Obj := cd [.str "Tabs" 735, .str "Tabs" 736, .str "/claim/cut.py" 737, .int 222 0, .int 0 0, .int 0 0, .int 0 0, .int 0 0, .ref 414, .bool false, .int 181 0, .ref 415, .none, .none, .none, .none, .int 738 0, .int 222 0, .str "/claim/cut.py" 739]
noncomputable def o417 (P : Params) : Obj := ⟨.type "frame", none, .plain, #[(some (.ref 416)), (some (.ref 3)), (some (.ref 413)), none, (some (.str "termcore.cursor" 504)), none, (some (.ref 0))]⟩
noncomputable def o418 (P : Params) : Obj := tp []
noncomputable def o419 (P : Params) : Obj := tb []
noncomputable def o420 (P : Params) : Obj := tp [.str "self" 748, .str "columns" 749]
noncomputable def o421 (P : Params) : Obj := tp []
noncomputable def o422 (P : Params) : Obj := fp (fd (me 44 0) "__init__" "Tabs.__init__" 0 [] .none .none .none .none none .none .none 0)
noncomputable def o423 (P : Params) : Obj := cd [.str "__init__" 745, .str "Tabs.__init__" 746, .str "/claim/cut.py" 747, .int 224 0, .int 2 0, .int 0 0, .int 0 0, .int 3 0, .ref 418, .bool true, .int 181 0, .ref 419, .none, .ref 420, .ref 421, .ref 422, .int 750 0, .int 224 0, .str "/claim/cut.py" 751]
noncomputable def o424 (P : Params) : Obj := fo (fx a44x0 b44x0 s44x0 "__init__" "Tabs.__init__" 3 [] .none .none .none (.str "termcore.cursor" 504) none (.ref 423) .none 0)
noncomputable def o425 (P : Params) : Obj := tp []
noncomputable def o426 (P : Params) : Obj := tb []
noncomputable def o427 (P : Params) : Obj := tp [.str "self" 756, .str "begin" 757, .str "column" 758]
noncomputable def o428 (P : Params) : Obj := tp []
noncomputable def o429 (P : Params) : Obj := fp (fd (me 44 1) "put_eighths" "Tabs.put_eighths" 0 [] .none .none .none .none none .none .none 0)
noncomputable def o430 (P : Params) : Obj := cd [.str "put_eighths" 753, .str "Tabs.put_eighths" 754, .str "/claim/cut.py" 755, .int 229 0, .int 2 0, .int 0 0, .int 0 0, .int 3 0, .ref 425, .bool true, .int 181 0, .ref 426, .none, .ref 427, .ref 428, .ref 429, .int 759 0, .int 229 0, .str "/claim/cut.py" 760]
noncomputable def o431 (P : Params) : Obj := fo (fx a44x1 b44x1 s44x1 "put_eighths" "Tabs.put_eighths" 3 [] .none .none .none (.str "termcore.cursor" 504) none (.ref 430) .none 0)
noncomputable def o432 (P : Params) : Obj := tp []
noncomputable def o433 (P : Params) : Obj := tb []
noncomputable def o434 (P : Params) : Obj := tp [.str "self" 765, .str "column" 766]
noncomputable def o435 (P : Params) : Obj := tp []
noncomputable def o436 (P : Params) : Obj := fp (fd (me 44 2) "set" "Tabs.set" 0 [] .none .none .none .none none .none .none 0)
noncomputable def o437 (P : Params) : Obj := cd [.str "set" 762, .str "Tabs.set" 763, .str "/claim/cut.py" 764, .int 234 0, .int 2 0, .int 0 0, .int 0 0, .int 3 0, .ref 432, .bool true, .int 181 0, .ref 433, .none, .ref 434, .ref 435, .ref 436, .int 767 0, .int 234 0, .str "/claim/cut.py" 768]
noncomputable def o438 (P : Params) : Obj := fo (fd (me 44 2) "set" "Tabs.set" 3 [] .none .none .none (.str "termcore.cursor" 504) none (.ref 437) .none 0)
noncomputable def o439 (P : Params) : Obj := tp []
noncomputable def o440 (P : Params) : Obj := tb []
noncomputable def o441 (P : Params) : Obj := tp [.str "self" 773, .str "column" 774]
noncomputable def o442 (P : Params) : Obj := tp []
noncomputable def o443 (P : Params) : Obj := fp (fd (me 44 3) "clear" "Tabs.clear" 0 [] .none .none .none .none none .none .none 0)
noncomputable def o444 (P : Params) : Obj := cd [.str "clear" 770, .str "Tabs.clear" 771, .str "/claim/cut.py" 772, .int 238 0, .int 2 0, .int 0 0, .int 0 0, .int 3 0, .ref 439, .bool true, .int 181 0, .ref 440, .none, .ref 441, .ref 442, .ref 443, .int 775 0, .int 238 0, .str "/claim/cut.py" 776]
noncomputable def o445 (P : Params) : Obj := fo (fd (me 44 3) "clear" "Tabs.clear" 3 [] .none .none .none (.str "termcore.cursor" 504) none (.ref 444) .none 0)
noncomputable def o446 (P : Params) : Obj := tp []
noncomputable def o447 (P : Params) : Obj := tb []
noncomputable def o448 (P : Params) : Obj := tp [.str "self" 781]
noncomputable def o449 (P : Params) : Obj := tp []
noncomputable def o450 (P : Params) : Obj := fp (fd (me 44 4) "clear_all" "Tabs.clear_all" 0 [] .none .none .none .none none .none .none 0)
noncomputable def o451 (P : Params) : Obj := cd [.str "clear_all" 778, .str "Tabs.clear_all" 779, .str "/claim/cut.py" 780, .int 241 0, .int 1 0, .int 0 0, .int 0 0, .int 3 0, .ref 446, .bool true, .int 181 0, .ref 447, .none, .ref 448, .ref 449, .ref 450, .int 782 0, .int 241 0, .str "/claim/cut.py" 783]
noncomputable def o452 (P : Params) : Obj := fo (fd (me 44 4) "clear_all" "Tabs.clear_all" 3 [] .none .none .none (.str "termcore.cursor" 504) none (.ref 451) .none 0)
noncomputable def o453 (P : Params) : Obj := tp []
noncomputable def o454 (P : Params) : Obj := tb []
noncomputable def o455 (P : Params) : Obj := tp [.str "self" 788]
noncomputable def o456 (P : Params) : Obj := tp []
noncomputable def o457 (P : Params) : Obj := fp (fd (me 44 5) "reset" "Tabs.reset" 0 [] .none .none .none .none none .none .none 0)
noncomputable def o458 (P : Params) : Obj := cd [.str "reset" 785, .str "Tabs.reset" 786, .str "/claim/cut.py" 787, .int 244 0, .int 1 0, .int 0 0, .int 0 0, .int 3 0, .ref 453, .bool true, .int 181 0, .ref 454, .none, .ref 455, .ref 456, .ref 457, .int 789 0, .int 244 0, .str "/claim/cut.py" 790]
noncomputable def o459 (P : Params) : Obj := fo (fd (me 44 5) "reset" "Tabs.reset" 3 [] .none .none .none (.str "termcore.cursor" 504) none (.ref 458) .none 0)
noncomputable def o460 (P : Params) : Obj := tp []
noncomputable def o461 (P : Params) : Obj := tb []
noncomputable def o462 (P : Params) : Obj := tp [.str "self" 795]
noncomputable def o463 (P : Params) : Obj := tp []
noncomputable def o464 (P : Params) : Obj := fp (fd (me 44 6) "told" "Tabs.told" 0 [] .none .none .none .none none .none .none 0)
noncomputable def o465 (P : Params) : Obj := cd [.str "told" 792, .str "Tabs.told" 793, .str "/claim/cut.py" 794, .int 248 0, .int 1 0, .int 0 0, .int 0 0, .int 3 0, .ref 460, .bool true, .int 181 0, .ref 461, .none, .ref 462, .ref 463, .ref 464, .int 796 0, .int 248 0, .str "/claim/cut.py" 797]
noncomputable def o466 (P : Params) : Obj := fo (fd (me 44 6) "told" "Tabs.told" 3 [] .none .none .none (.str "termcore.cursor" 504) none (.ref 465) .none 0)
noncomputable def o467 (P : Params) : Obj := tp []
noncomputable def o468 (P : Params) : Obj := tb []
noncomputable def o469 (P : Params) : Obj := tp [.str "self" 802, .str "columns" 803, .str "column" 804]
noncomputable def o470 (P : Params) : Obj := tp []
noncomputable def o471 (P : Params) : Obj := fp (fd (me 44 7) "put" "Tabs.put" 0 [] .none .none .none .none none .none .none 0)
noncomputable def o472 (P : Params) : Obj := cd [.str "put" 799, .str "Tabs.put" 800, .str "/claim/cut.py" 801, .int 251 0, .int 2 0, .int 0 0, .int 0 0, .int 3 0, .ref 467, .bool true, .int 181 0, .ref 468, .none, .ref 469, .ref 470, .ref 471, .int 805 0, .int 251 0, .str "/claim/cut.py" 806]
noncomputable def o473 (P : Params) : Obj := fo (fd (me 44 7) "put" "Tabs.put" 3 [] .none .none .none (.str "termcore.cursor" 504) none (.ref 472) .none 0)
noncomputable def o474 (P : Params) : Obj := tp []
noncomputable def o475 (P : Params) : Obj := tb []
noncomputable def o476 (P : Params) : Obj := tp [.str "self" 811, .str "column" 812, .str "most" 813]
noncomputable def o477 (P : Params) : Obj := tp []
noncomputable def o478 (P : Params) : Obj := fp (fd (me 44 8) "next_from" "Tabs.next_from" 0 [] .none .none .none .none none .none .none 0)
noncomputable def o479 (P : Params) : Obj := cd [.str "next_from" 808, .str "Tabs.next_from" 809, .str "/claim/cut.py" 810, .int 256 0, .int 3 0, .int 0 0, .int 0 0, .int 3 0, .ref 474, .bool true, .int 181 0, .ref 475, .none, .ref 476, .ref 477, .ref 478, .int 814 0, .int 256 0, .str "/claim/cut.py" 815]
noncomputable def o480 (P : Params) : Obj := fo (fd (me 44 8) "next_from" "Tabs.next_from" 3 [] .none .none .none (.str "termcore.cursor" 504) none (.ref 479) .none 0)
noncomputable def o481 (P : Params) : Obj := tp [.int 0 817]
noncomputable def o482 (P : Params) : Obj := tp []
noncomputable def o483 (P : Params) : Obj := tb []
noncomputable def o484 (P : Params) : Obj := tp [.str "self" 821, .str "column" 822, .str "least" 823]
noncomputable def o485 (P : Params) : Obj := tp []
noncomputable def o486 (P : Params) : Obj := fp (fd (me 44 9) "back_from" "Tabs.back_from" 0 [] .none .none .none .none none .none .none 0)
noncomputable def o487 (P : Params) : Obj := cd [.str "back_from" 818, .str "Tabs.back_from" 819, .str "/claim/cut.py" 820, .int 259 0, .int 3 0, .int 0 0, .int 0 0, .int 3 0, .ref 482, .bool true, .int 181 0, .ref 483, .none, .ref 484, .ref 485, .ref 486, .int 824 0, .int 259 0, .str "/claim/cut.py" 825]
noncomputable def o488 (P : Params) : Obj := fo (fd (me 44 9) "back_from" "Tabs.back_from" 3 [] (.ref 481) .none .none (.str "termcore.cursor" 504) none (.ref 487) .none 0)
noncomputable def o489 (P : Params) : Obj := tp []
noncomputable def o490 (P : Params) : Obj := tb []
noncomputable def o491 (P : Params) : Obj := tp [.str "self" 830, .str "columns" 831]
noncomputable def o492 (P : Params) : Obj := tp []
noncomputable def o493 (P : Params) : Obj := fp (fd (me 44 10) "resize" "Tabs.resize" 0 [] .none .none .none .none none .none .none 0)
noncomputable def o494 (P : Params) : Obj := cd [.str "resize" 827, .str "Tabs.resize" 828, .str "/claim/cut.py" 829, .int 262 0, .int 2 0, .int 0 0, .int 0 0, .int 3 0, .ref 489, .bool true, .int 181 0, .ref 490, .none, .ref 491, .ref 492, .ref 493, .int 832 0, .int 262 0, .str "/claim/cut.py" 833]
noncomputable def o495 (P : Params) : Obj := fo (fd (me 44 10) "resize" "Tabs.resize" 3 [] .none .none .none (.str "termcore.cursor" 504) none (.ref 494) .none 0)
noncomputable def o496 (P : Params) : Obj := tp []
noncomputable def o497 (P : Params) : Obj := tb []
noncomputable def o498 (P : Params) : Obj := tp [.str "self" 838]
noncomputable def o499 (P : Params) : Obj := tp []
noncomputable def o500 (P : Params) : Obj := fp (fd (me 44 11) "copy" "Tabs.copy" 0 [] .none .none .none .none none .none .none 0)
noncomputable def o501 (P : Params) : Obj := cd [.str "copy" 835, .str "Tabs.copy" 836, .str "/claim/cut.py" 837, .int 265 0, .int 1 0, .int 0 0, .int 0 0, .int 3 0, .ref 496, .bool true, .int 181 0, .ref 497, .none, .ref 498, .ref 499, .ref 500, .int 839 0, .int 265 0, .str "/claim/cut.py" 840]
noncomputable def o502 (P : Params) : Obj := fo (fd (me 44 11) "copy" "Tabs.copy" 3 [] .none .none .none (.str "termcore.cursor" 504) none (.ref 501) .none 0)
noncomputable def o503 (P : Params) : Obj := tp [.str "columns" 842, .str "stops" 843]
noncomputable def o504 (P : Params) : Obj := ⟨.type "dict", none, .dict #[e P "__module__" 740 (.str "termcore.cursor" 504), e P "__firstlineno__" 744 (.int 222 743), e P "__init__" 752 (.ref 424), e P "put_eighths" 761 (.ref 431), e P "set" 769 (.ref 438), e P "clear" 777 (.ref 445), e P "clear_all" 784 (.ref 452), e P "reset" 791 (.ref 459), e P "told" 798 (.ref 466), e P "put" 807 (.ref 473), e P "next_from" 816 (.ref 480), e P "back_from" 826 (.ref 488), e P "resize" 834 (.ref 495), e P "copy" 841 (.ref 502), e P "__static_attributes__" 844 (.ref 503), e P "__dict__" 846 (.ref 506), e P "__weakref__" 848 (.ref 507), e P "__doc__" 849 .none] 4, #[]⟩
noncomputable def o505 (P : Params) : Obj := ⟨.type "type", none, .cls ⟨"Tabs", [.type "object"], [.ref 505, .type "object"], 504, "Tabs", true, [], [], false, none, false⟩, #[none, none, (some (.str "Tabs" 733)), (some (.str "Tabs" 741)), (some (.builtin "object.__new__")), (some (.bool true))]⟩
noncomputable def o506 (P : Params) : Obj := ⟨.type "getset_descriptor", none, .fields #[.str "__dict__" 845, .ref 505, .builtin "function.__dict__", .builtin "function.__dict__#set"], #[]⟩
noncomputable def o507 (P : Params) : Obj := ⟨.type "getset_descriptor", none, .fields #[.str "__weakref__" 847, .ref 505, .builtin "ExceptionGroup.__weakref__", .none], #[]⟩
noncomputable def o508 (P : Params) : Obj := ⟨.type "super", none, .fields #[.ref 505, .ref 505, .ref 505], #[]⟩
noncomputable def o509 (P : Params) : Obj := ⟨.type "builtin_function_or_method", none, .fields #[.builtin "object.__init_subclass__", .ref 505], #[]⟩
noncomputable def o510 (P : Params) : Obj := tp [.str "single" 854, .str "wide" 855, .str "top" 856, .str "bottom" 857]
noncomputable def o511 (P : Params) : Obj := tp []
noncomputable def o512 (P : Params) : Obj := tb []
noncomputable def o513 (P : Params) : Obj := tp [.str "many" 862, .str "pen" 863]
noncomputable def o514 (P : Params) : Obj := tp []
noncomputable def o515 (P : Params) : Obj := fp (fd (st 47) "line_blanks" "line_blanks" 0 [] .none .none .none .none none .none .none 0)
noncomputable def o516 (P : Params) : Obj := cd [.str "line_blanks" 859, .str "line_blanks" 860, .str "/claim/cut.py" 861, .int 269 0, .int 2 0, .int 0 0, .int 0 0, .int 3 0, .ref 511, .bool true, .int 181 0, .ref 512, .none, .ref 513, .ref 514, .ref 515, .int 864 0, .int 269 0, .str "/claim/cut.py" 865]
noncomputable def o517 (P : Params) : Obj := fo (fx a47 b47 s47 "line_blanks" "line_blanks" 3 [] .none .none .none (.str "termcore.lines" 852) none (.ref 516) .none 0)
noncomputable def o518 (P : Params) : Obj := tp []
noncomputable def o519 (P : Params) : Obj := tb []
noncomputable def o520 (P : Params) : Obj := tp [.str "cell" 870]
noncomputable def o521 (P : Params) : Obj := tp []
noncomputable def o522 (P : Params) : Obj := fp (fd (st 48) "right_half" "right_half" 0 [] .none .none .none .none none .none .none 0)
noncomputable def o523 (P : Params) : Obj := cd [.str "right_half" 867, .str "right_half" 868, .str "/claim/cut.py" 869, .int 271 0, .int 1 0, .int 0 0, .int 0 0, .int 3 0, .ref 518, .bool true, .int 181 0, .ref 519, .none, .ref 520, .ref 521, .ref 522, .int 871 0, .int 271 0, .str "/claim/cut.py" 872]
noncomputable def o524 (P : Params) : Obj := fo (fx a48 b48 s48 "right_half" "right_half" 3 [] .none .none .none (.str "termcore.lines" 852) none (.ref 523) .none 0)
noncomputable def o525 (P : Params) : Obj := tp []
noncomputable def o526 (P : Params) : Obj := tb []
noncomputable def o527 (P : Params) : Obj := tp [.str "cells" 877, .str "at" 878]
noncomputable def o528 (P : Params) : Obj := tp []
noncomputable def o529 (P : Params) : Obj := fp (fd (st 49) "line_part" "line_part" 0 [] .none .none .none .none none .none .none 0)
noncomputable def o530 (P : Params) : Obj := cd [.str "line_part" 874, .str "line_part" 875, .str "/claim/cut.py" 876, .int 273 0, .int 2 0, .int 0 0, .int 0 0, .int 3 0, .ref 525, .bool true, .int 181 0, .ref 526, .none, .ref 527, .ref 528, .ref 529, .int 879 0, .int 273 0, .str "/claim/cut.py" 880]
noncomputable def o531 (P : Params) : Obj := fo (fx a49 b49 s49 "line_part" "line_part" 3 [] .none .none .none (.str "termcore.lines" 852) none (.ref 530) .none 0)
noncomputable def o532 (P : Params) : Obj := tp []
noncomputable def o533 (P : Params) : Obj := tb []
noncomputable def o534 (P : Params) : Obj := tp [.str "cells" 885, .str "left" 886, .str "right" 887, .str "found" 888]
noncomputable def o535 (P : Params) : Obj := tp []
noncomputable def o536 (P : Params) : Obj := fp (fd (st 50) "line_slice" "line_slice" 0 [] .none .none .none .none none .none .none 0)
noncomputable def o537 (P : Params) : Obj := cd [.str "line_slice" 882, .str "line_slice" 883, .str "/claim/cut.py" 884, .int 277 0, .int 3 0, .int 0 0, .int 0 0, .int 3 0, .ref 532, .bool true, .int 181 0, .ref 533, .none, .ref 534, .ref 535, .ref 536, .int 889 0, .int 277 0, .str "/claim/cut.py" 890]
noncomputable def o538 (P : Params) : Obj := fo (fd (st 50) "line_slice" "line_slice" 3 [] .none .none .none (.str "termcore.lines" 852) none (.ref 537) .none 0)
noncomputable def o539 (P : Params) : Obj := tp []
noncomputable def o540 (P : Params) : Obj := tb []
noncomputable def o541 (P : Params) : Obj := tp [.str "cells" 895, .str "last" 896, .str "found" 897, .str "cell" 898]
noncomputable def o542 (P : Params) : Obj := tp []
noncomputable def o543 (P : Params) : Obj := fp (fd (st 51) "line_codes" "line_codes" 0 [] .none .none .none .none none .none .none 0)
noncomputable def o544 (P : Params) : Obj := cd [.str "line_codes" 892, .str "line_codes" 893, .str "/claim/cut.py" 894, .int 284 0, .int 1 0, .int 0 0, .int 0 0, .int 3 0, .ref 539, .bool true, .int 181 0, .ref 540, .none, .ref 541, .ref 542, .ref 543, .int 899 0, .int 284 0, .str "/claim/cut.py" 900]
noncomputable def o545 (P : Params) : Obj := fo (fd (st 51) "line_codes" "line_codes" 3 [] .none .none .none (.str "termcore.lines" 852) none (.ref 544) .none 0)
noncomputable def o546 (P : Params) : Obj := tp []
noncomputable def o547 (P : Params) : Obj := ⟨.type "builtin_function_or_method", none, .fields #[.builtin "type.__prepare__", .type "type"], #[]⟩
noncomputable def o548 (P : Params) : Obj := ⟨.type "dict", none, .dict #[e P "__module__" 909 (.str "termcore.lines" 852), e P "__qualname__" 911 (.str "Line" 910), e P "__firstlineno__" 913 (.int 293 912), e P "__init__" 922 (.ref 559), e P "columns" 930 (.ref 567), e P "shown" 937 (.ref 574), e P "part" 945 (.ref 581), e P "put" 954 (.ref 588), e P "put_cells" 964 (.ref 595), e P "erase" 977 (.ref 603), e P "shift" 994 (.ref 610), e P "insert" 1005 (.ref 617), e P "delete" 1016 (.ref 624), e P "fill" 1026 (.ref 631), e P "copy" 1033 (.ref 638), e P "codes" 1043 (.ref 646), e P "used" 1050 (.ref 653), e P "resized" 1059 (.ref 660), e P "equals" 1067 (.ref 667), e P "__static_attributes__" 1071 (.ref 668)] 20, #[]⟩
noncomputable def o549 (P : Params) : Obj := tp []
noncomputable def o550 (P : Params) : Obj := tb [.int 295 0, .int 4 0, .ref 558, .int 301 0, .int 4 0, .ref 565, .int 304 0, .int 4 0, .ref 573, .int 307 0, .int 4 0, .ref 580, .int 310 0, .int 4 0, .ref 587, .int 321 0, .int 4 0, .ref 594, .int 329 0, .int 4 0, .ref 602, .int 342 0, .int 4 0, .ref 609, .int 353 0, .int 4 0, .ref 616, .int 356 0, .int 4 0, .ref 623, .int 359 0, .int 4 0, .ref 630, .int 362 0, .int 4 0, .ref 637, .int 365 0, .int 4 0, .ref 645, .int 368 0, .int 4 0, .ref 652, .int 371 0, .int 4 0, .ref 659, .int 374 0, .int 4 0, .ref 666]
noncomputable def o551 (P : Params) : Obj := cd [.str "Line" 904, .str "Line" 905, .str "/claim/cut.py" 906, .int 293 0, .int 0 0, .int 0 0, .int 0 0, .int 0 0, .ref 549, .bool false, .int 181 0, .ref 550, .none, .none, .none, .none, .int 907 0, .int 293 0, .str "/claim/cut.py" 908]
noncomputable def o552 (P : Params) : Obj := ⟨.type "frame", none, .plain, #[(some (.ref 551)), (some (.ref 3)), (some (.ref 548)), none, (some (.str "termcore.lines" 852)), none, (some (.ref 0))]⟩
noncomputable def o553 (P : Params) : Obj := tp []
noncomputable def o554 (P : Params) : Obj := tb []
noncomputable def o555 (P : Params) : Obj := tp [.str "self" 917, .str "columns" 918, .str "pen" 919]
noncomputable def o556 (P : Params) : Obj := tp []
noncomputable def o557 (P : Params) : Obj := fp (fd (me 52 0) "__init__" "Line.__init__" 0 [] .none .none .none .none none .none .none 0)
noncomputable def o558 (P : Params) : Obj := cd [.str "__init__" 914, .str "Line.__init__" 915, .str "/claim/cut.py" 916, .int 295 0, .int 3 0, .int 0 0, .int 0 0, .int 3 0, .ref 553, .bool true, .int 181 0, .ref 554, .none, .ref 555, .ref 556, .ref 557, .int 920 0, .int 295 0, .str "/claim/cut.py" 921]
noncomputable def o559 (P : Params) : Obj := fo (fx a52x0 b52x0 s52x0 "__init__" "Line.__init__" 3 [] .none .none .none (.str "termcore.lines" 852) none (.ref 558) .none 0)
noncomputable def o560 (P : Params) : Obj := tp []
noncomputable def o561 (P : Params) : Obj := tb []
noncomputable def o562 (P : Params) : Obj := tp [.str "self" 926]
noncomputable def o563 (P : Params) : Obj := tp []
noncomputable def o564 (P : Params) : Obj := fp (fd (me 52 1) "columns" "Line.columns" 0 [] .none .none .none .none none .none .none 0)
noncomputable def o565 (P : Params) : Obj := cd [.str "columns" 923, .str "Line.columns" 924, .str "/claim/cut.py" 925, .int 300 0, .int 1 0, .int 0 0, .int 0 0, .int 3 0, .ref 560, .bool true, .int 181 0, .ref 561, .none, .ref 562, .ref 563, .ref 564, .int 927 0, .int 300 0, .str "/claim/cut.py" 928]
noncomputable def o566 (P : Params) : Obj := fo (fd (me 52 1) "columns" "Line.columns" 3 [] .none .none .none (.str "termcore.lines" 852) none (.ref 565) .none 0)
noncomputable def o567 (P : Params) : Obj := ⟨.type "property", none, .fields #[.ref 566, .none, .none, .none, .str "columns" 930, .bool false], #[]⟩
noncomputable def o568 (P : Params) : Obj := tp []
noncomputable def o569 (P : Params) : Obj := tb []
noncomputable def o570 (P : Params) : Obj := tp [.str "self" 934]
noncomputable def o571 (P : Params) : Obj := tp []
noncomputable def o572 (P : Params) : Obj := fp (fd (me 52 2) "shown" "Line.shown" 0 [] .none .none .none .none none .none .none 0)
noncomputable def o573 (P : Params) : Obj := cd [.str "shown" 931, .str "Line.shown" 932, .str "/claim/cut.py" 933, .int 304 0, .int 1 0, .int 0 0, .int 0 0, .int 3 0, .ref 568, .bool true, .int 181 0, .ref 569, .none, .ref 570, .ref 571, .ref 572, .int 935 0, .int 304 0, .str "/claim/cut.py" 936]
noncomputable def o574 (P : Params) : Obj := fo (fd (me 52 2) "shown" "Line.shown" 3 [] .none .none .none (.str "termcore.lines" 852) none (.ref 573) .none 0)
noncomputable def o575 (P : Params) : Obj := tp []
noncomputable def o576 (P : Params) : Obj := tb []
noncomputable def o577 (P : Params) : Obj := tp [.str "self" 941, .str "at" 942]
noncomputable def o578 (P : Params) : Obj := tp []
noncomputable def o579 (P : Params) : Obj := fp (fd (me 52 3) "part" "Line.part" 0 [] .none .none .none .none none .none .none 0)
noncomputable def o580 (P : Params) : Obj := cd [.str "part" 938, .str "Line.part" 939, .str "/claim/cut.py" 940, .int 307 0, .int 2 0, .int 0 0, .int 0 0, .int 3 0, .ref 575, .bool true, .int 181 0, .ref 576, .none, .ref 577, .ref 578, .ref 579, .int 943 0, .int 307 0, .str "/claim/cut.py" 944]
noncomputable def o581 (P : Params) : Obj := fo (fx a52x3 b52x3 s52x3 "part" "Line.part" 3 [] .none .none .none (.str "termcore.lines" 852) none (.ref 580) .none 0)
noncomputable def o582 (P : Params) : Obj := tp []
noncomputable def o583 (P : Params) : Obj := tb []
noncomputable def o584 (P : Params) : Obj := tp [.str "self" 949, .str "column" 950, .str "cell" 951]
noncomputable def o585 (P : Params) : Obj := tp []
noncomputable def o586 (P : Params) : Obj := fp (fd (me 52 4) "put" "Line.put" 0 [] .none .none .none .none none .none .none 0)
noncomputable def o587 (P : Params) : Obj := cd [.str "put" 946, .str "Line.put" 947, .str "/claim/cut.py" 948, .int 310 0, .int 3 0, .int 0 0, .int 0 0, .int 3 0, .ref 582, .bool true, .int 181 0, .ref 583, .none, .ref 584, .ref 585, .ref 586, .int 952 0, .int 310 0, .str "/claim/cut.py" 953]
noncomputable def o588 (P : Params) : Obj := fo (fx a52x4 b52x4 s52x4 "put" "Line.put" 3 [] .none .none .none (.str "termcore.lines" 852) none (.ref 587) .none 0)
noncomputable def o589 (P : Params) : Obj := tp []
noncomputable def o590 (P : Params) : Obj := tb []
noncomputable def o591 (P : Params) : Obj := tp [.str "self" 958, .str "column" 959, .str "cells" 960, .str "some" 961]
noncomputable def o592 (P : Params) : Obj := tp []
noncomputable def o593 (P : Params) : Obj := fp (fd (me 52 5) "put_cells" "Line.put_cells" 0 [] .none .none .none .none none .none .none 0)
noncomputable def o594 (P : Params) : Obj := cd [.str "put_cells" 955, .str "Line.put_cells" 956, .str "/claim/cut.py" 957, .int 321 0, .int 3 0, .int 0 0, .int 0 0, .int 3 0, .ref 589, .bool true, .int 181 0, .ref 590, .none, .ref 591, .ref 592, .ref 593, .int 962 0, .int 321 0, .str "/claim/cut.py" 963]
noncomputable def o595 (P : Params) : Obj := fo (fd (me 52 5) "put_cells" "Line.put_cells" 3 [] .none .none .none (.str "termcore.lines" 852) none (.ref 594) .none 0)
noncomputable def o596 (P : Params) : Obj := tp [.bool false]
noncomputable def o597 (P : Params) : Obj := tp []
noncomputable def o598 (P : Params) : Obj := tb []
noncomputable def o599 (P : Params) : Obj := tp [.str "self" 968, .str "left" 969, .str "right" 970, .str "pen" 971, .str "is_selective" 972, .str "border" 973, .str "column" 974]
noncomputable def o600 (P : Params) : Obj := tp []
noncomputable def o601 (P : Params) : Obj := fp (fd (me 52 6) "erase" "Line.erase" 0 [] .none .none .none .none none .none .none 0)
noncomputable def o602 (P : Params) : Obj := cd [.str "erase" 965, .str "Line.erase" 966, .str "/claim/cut.py" 967, .int 329 0, .int 5 0, .int 0 0, .int 0 0, .int 3 0, .ref 597, .bool true, .int 181 0, .ref 598, .none, .ref 599, .ref 600, .ref 601, .int 975 0, .int 329 0, .str "/claim/cut.py" 976]
noncomputable def o603 (P : Params) : Obj := fo (fd (me 52 6) "erase" "Line.erase" 3 [] (.ref 596) .none .none (.str "termcore.lines" 852) none (.ref 602) .none 0)
noncomputable def o604 (P : Params) : Obj := tp []
noncomputable def o605 (P : Params) : Obj := tb []
noncomputable def o606 (P : Params) : Obj := tp [.str "self" 981, .str "column" 982, .str "many" 983, .str "right" 984, .str "pen" 985, .str "is_back" 986, .str "first" 987, .str "last" 988, .str "border" 989, .str "kept" 990, .str "blanks" 991]
noncomputable def o607 (P : Params) : Obj := tp []
noncomputable def o608 (P : Params) : Obj := fp (fd (me 52 7) "shift" "Line.shift" 0 [] .none .none .none .none none .none .none 0)
noncomputable def o609 (P : Params) : Obj := cd [.str "shift" 978, .str "Line.shift" 979, .str "/claim/cut.py" 980, .int 342 0, .int 6 0, .int 0 0, .int 0 0, .int 3 0, .ref 604, .bool true, .int 181 0, .ref 605, .none, .ref 606, .ref 607, .ref 608, .int 992 0, .int 342 0, .str "/claim/cut.py" 993]
noncomputable def o610 (P : Params) : Obj := fo (fd (me 52 7) "shift" "Line.shift" 3 [] .none .none .none (.str "termcore.lines" 852) none (.ref 609) .none 0)
noncomputable def o611 (P : Params) : Obj := tp []
noncomputable def o612 (P : Params) : Obj := tb []
noncomputable def o613 (P : Params) : Obj := tp [.str "self" 998, .str "column" 999, .str "many" 1000, .str "right" 1001, .str "pen" 1002]
noncomputable def o614 (P : Params) : Obj := tp []
noncomputable def o615 (P : Params) : Obj := fp (fd (me 52 8) "insert" "Line.insert" 0 [] .none .none .none .none none .none .none 0)
noncomputable def o616 (P : Params) : Obj := cd [.str "insert" 995, .str "Line.insert" 996, .str "/claim/cut.py" 997, .int 353 0, .int 5 0, .int 0 0, .int 0 0, .int 3 0, .ref 611, .bool true, .int 181 0, .ref 612, .none, .ref 613, .ref 614, .ref 615, .int 1003 0, .int 353 0, .str "/claim/cut.py" 1004]
noncomputable def o617 (P : Params) : Obj := fo (fd (me 52 8) "insert" "Line.insert" 3 [] .none .none .none (.str "termcore.lines" 852) none (.ref 616) .none 0)
noncomputable def o618 (P : Params) : Obj := tp []
noncomputable def o619 (P : Params) : Obj := tb []
noncomputable def o620 (P : Params) : Obj := tp [.str "self" 1009, .str "column" 1010, .str "many" 1011, .str "right" 1012, .str "pen" 1013]
noncomputable def o621 (P : Params) : Obj := tp []
noncomputable def o622 (P : Params) : Obj := fp (fd (me 52 9) "delete" "Line.delete" 0 [] .none .none .none .none none .none .none 0)
noncomputable def o623 (P : Params) : Obj := cd [.str "delete" 1006, .str "Line.delete" 1007, .str "/claim/cut.py" 1008, .int 356 0, .int 5 0, .int 0 0, .int 0 0, .int 3 0, .ref 618, .bool true, .int 181 0, .ref 619, .none, .ref 620, .ref 621, .ref 622, .int 1014 0, .int 356 0, .str "/claim/cut.py" 1015]
noncomputable def o624 (P : Params) : Obj := fo (fd (me 52 9) "delete" "Line.delete" 3 [] .none .none .none (.str "termcore.lines" 852) none (.ref 623) .none 0)
noncomputable def o625 (P : Params) : Obj := tp []
noncomputable def o626 (P : Params) : Obj := tb []
noncomputable def o627 (P : Params) : Obj := tp [.str "self" 1020, .str "left" 1021, .str "right" 1022, .str "cell" 1023]
noncomputable def o628 (P : Params) : Obj := tp []
noncomputable def o629 (P : Params) : Obj := fp (fd (me 52 10) "fill" "Line.fill" 0 [] .none .none .none .none none .none .none 0)
noncomputable def o630 (P : Params) : Obj := cd [.str "fill" 1017, .str "Line.fill" 1018, .str "/claim/cut.py" 1019, .int 359 0, .int 4 0, .int 0 0, .int 0 0, .int 3 0, .ref 625, .bool true, .int 181 0, .ref 626, .none, .ref 627, .ref 628, .ref 629, .int 1024 0, .int 359 0, .str "/claim/cut.py" 1025]
noncomputable def o631 (P : Params) : Obj := fo (fd (me 52 10) "fill" "Line.fill" 3 [] .none .none .none (.str "termcore.lines" 852) none (.ref 630) .none 0)
noncomputable def o632 (P : Params) : Obj := tp []
noncomputable def o633 (P : Params) : Obj := tb []
noncomputable def o634 (P : Params) : Obj := tp [.str "self" 1030]
noncomputable def o635 (P : Params) : Obj := tp []
noncomputable def o636 (P : Params) : Obj := fp (fd (me 52 11) "copy" "Line.copy" 0 [] .none .none .none .none none .none .none 0)
noncomputable def o637 (P : Params) : Obj := cd [.str "copy" 1027, .str "Line.copy" 1028, .str "/claim/cut.py" 1029, .int 362 0, .int 1 0, .int 0 0, .int 0 0, .int 3 0, .ref 632, .bool true, .int 181 0, .ref 633, .none, .ref 634, .ref 635, .ref 636, .int 1031 0, .int 362 0, .str "/claim/cut.py" 1032]
noncomputable def o638 (P : Params) : Obj := fo (fd (me 52 11) "copy" "Line.copy" 3 [] .none .none .none (.str "termcore.lines" 852) none (.ref 637) .none 0)
noncomputable def o639 (P : Params) : Obj := tp [.int 0 1034, .none]
noncomputable def o640 (P : Params) : Obj := tp []
noncomputable def o641 (P : Params) : Obj := tb []
noncomputable def o642 (P : Params) : Obj := tp [.str "self" 1038, .str "left" 1039, .str "right" 1040]
noncomputable def o643 (P : Params) : Obj := tp []
noncomputable def o644 (P : Params) : Obj := fp (fd (me 52 12) "codes" "Line.codes" 0 [] .none .none .none .none none .none .none 0)
noncomputable def o645 (P : Params) : Obj := cd [.str "codes" 1035, .str "Line.codes" 1036, .str "/claim/cut.py" 1037, .int 365 0, .int 3 0, .int 0 0, .int 0 0, .int 3 0, .ref 640, .bool true, .int 181 0, .ref 641, .none, .ref 642, .ref 643, .ref 644, .int 1041 0, .int 365 0, .str "/claim/cut.py" 1042]
noncomputable def o646 (P : Params) : Obj := fo (fd (me 52 12) "codes" "Line.codes" 3 [] (.ref 639) .none .none (.str "termcore.lines" 852) none (.ref 645) .none 0)
noncomputable def o647 (P : Params) : Obj := tp []
noncomputable def o648 (P : Params) : Obj := tb []
noncomputable def o649 (P : Params) : Obj := tp [.str "self" 1047]
noncomputable def o650 (P : Params) : Obj := tp []
noncomputable def o651 (P : Params) : Obj := fp (fd (me 52 13) "used" "Line.used" 0 [] .none .none .none .none none .none .none 0)
noncomputable def o652 (P : Params) : Obj := cd [.str "used" 1044, .str "Line.used" 1045, .str "/claim/cut.py" 1046, .int 368 0, .int 1 0, .int 0 0, .int 0 0, .int 3 0, .ref 647, .bool true, .int 181 0, .ref 648, .none, .ref 649, .ref 650, .ref 651, .int 1048 0, .int 368 0, .str "/claim/cut.py" 1049]
noncomputable def o653 (P : Params) : Obj := fo (fd (me 52 13) "used" "Line.used" 3 [] .none .none .none (.str "termcore.lines" 852) none (.ref 652) .none 0)
noncomputable def o654 (P : Params) : Obj := tp []
noncomputable def o655 (P : Params) : Obj := tb []
noncomputable def o656 (P : Params) : Obj := tp [.str "self" 1054, .str "columns" 1055, .str "pen" 1056]
noncomputable def o657 (P : Params) : Obj := tp []
noncomputable def o658 (P : Params) : Obj := fp (fd (me 52 14) "resized" "Line.resized" 0 [] .none .none .none .none none .none .none 0)
noncomputable def o659 (P : Params) : Obj := cd [.str "resized" 1051, .str "Line.resized" 1052, .str "/claim/cut.py" 1053, .int 371 0, .int 3 0, .int 0 0, .int 0 0, .int 3 0, .ref 654, .bool true, .int 181 0, .ref 655, .none, .ref 656, .ref 657, .ref 658, .int 1057 0, .int 371 0, .str "/claim/cut.py" 1058]
noncomputable def o660 (P : Params) : Obj := fo (fd (me 52 14) "resized" "Line.resized" 3 [] .none .none .none (.str "termcore.lines" 852) none (.ref 659) .none 0)
noncomputable def o661 (P : Params) : Obj := tp []
noncomputable def o662 (P : Params) : Obj := tb []
noncomputable def o663 (P : Params) : Obj := tp [.str "self" 1063, .str "other" 1064]
noncomputable def o664 (P : Params) : Obj := tp []
noncomputable def o665 (P : Params) : Obj := fp (fd (me 52 15) "equals" "Line.equals" 0 [] .none .none .none .none none .none .none 0)
noncomputable def o666 (P : Params) : Obj := cd [.str "equals" 1060, .str "Line.equals" 1061, .str "/claim/cut.py" 1062, .int 374 0, .int 2 0, .int 0 0, .int 0 0, .int 3 0, .ref 661, .bool true, .int 181 0, .ref 662, .none, .ref 663, .ref 664, .ref 665, .int 1065 0, .int 374 0, .str "/claim/cut.py" 1066]
noncomputable def o667 (P : Params) : Obj := fo (fd (me 52 15) "equals" "Line.equals" 3 [] .none .none .none (.str "termcore.lines" 852) none (.ref 666) .none 0)
noncomputable def o668 (P : Params) : Obj := tp [.str "cells" 1068, .str "is_wrapped" 1069, .str "size" 1070]
noncomputable def o669 (P : Params) : Obj := ⟨.type "dict", none, .dict #[e P "__module__" 909 (.str "termcore.lines" 852), e P "__firstlineno__" 913 (.int 293 912), e P "__init__" 922 (.ref 559), e P "columns" 930 (.ref 567), e P "shown" 937 (.ref 574), e P "part" 945 (.ref 581), e P "put" 954 (.ref 588), e P "put_cells" 964 (.ref 595), e P "erase" 977 (.ref 603), e P "shift" 994 (.ref 610), e P "insert" 1005 (.ref 617), e P "delete" 1016 (.ref 624), e P "fill" 1026 (.ref 631), e P "copy" 1033 (.ref 638), e P "codes" 1043 (.ref 646), e P "used" 1050 (.ref 653), e P "resized" 1059 (.ref 660), e P "equals" 1067 (.ref 667), e P "__static_attributes__" 1071 (.ref 668), e P "__dict__" 1073 (.ref 671), e P "__weakref__" 1075 (.ref 672), e P "__doc__" 1076 .none] 4, #[]⟩
noncomputable def o670 (P : Params) : Obj := ⟨.type "type", none, .cls ⟨"Line", [.type "object"], [.ref 670, .type "object"], 669, "Line", true, [], [], false, none, false⟩, #[none, none, (some (.str "Line" 902)), (some (.str "Line" 910)), (some (.builtin "object.__new__")), (some (.bool true))]⟩
noncomputable def o671 (P : Params) : Obj := ⟨.type "getset_descriptor", none, .fields #[.str "__dict__" 1072, .ref 670, .builtin "function.__dict__", .builtin "function.__dict__#set"], #[]⟩
noncomputable def o672 (P : Params) : Obj := ⟨.type "getset_descriptor", none, .fields #[.str "__weakref__" 1074, .ref 670, .builtin "ExceptionGroup.__weakref__", .none], #[]⟩
noncomputable def o673 (P : Params) : Obj := ⟨.type "super", none, .fields #[.ref 670, .ref 670, .ref 670], #[]⟩
noncomputable def o674 (P : Params) : Obj := ⟨.type "builtin_function_or_method", none, .fields #[.builtin "object.__init_subclass__", .ref 670], #[]⟩
noncomputable def o675 (P : Params) : Obj := tp []
noncomputable def o676 (P : Params) : Obj := ⟨.type "builtin_function_or_method", none, .fields #[.builtin "type.__prepare__", .type "type"], #[]⟩
noncomputable def o677 (P : Params) : Obj := ⟨.type "dict", none, .dict #[e P "__module__" 1088 (.str "termcore.grid" 1079), e P "__qualname__" 1090 (.str "Grid" 1089), e P "__firstlineno__" 1092 (.int 377 1091), e P "__init__" 1098 (.ref 686), e P "line" 1106 (.ref 693), e P "whole_area" 1113 (.ref 700), e P "is_wide" 1121 (.ref 707), e P "fresh" 1127 (.ref 712), e P "part_above" 1135 (.ref 719), e P "scroll_up" 1152 (.ref 726), e P "scroll_down" 1162 (.ref 733), e P "unwrap" 1171 (.ref 740), e P "insert_columns" 1182 (.ref 747), e P "delete_columns" 1193 (.ref 754), e P "cells_of" 1203 (.ref 761), e P "put_cells" 1217 (.ref 768), e P "erase_area" 1232 (.ref 776), e P "fill_area" 1241 (.ref 783), e P "copy_area" 1251 (.ref 790), e P "cells_in" 1257 (.ref 795), e P "copy" 1264 (.ref 802), e P "equals" 1272 (.ref 809), e P "text" 1278 (.ref 814), e P "__static_attributes__" 1282 (.ref 815)] 24, #[]⟩
noncomputable def o678 (P : Params) : Obj := tp []
noncomputable def o679 (P : Params) : Obj := tb [.int 379 0, .int 4 0, .ref 685, .int 386 0, .int 4 0, .ref 692, .int 389 0, .int 4 0, .ref 699, .int 392 0, .int 4 0, .ref 706, .int 395 0, .int 4 0, .ref 711, .int 398 0, .int 4 0, .ref 718, .int 402 0, .int 4 0, .ref 725, .int 420 0, .int 4 0, .ref 732, .int 423 0, .int 4 0, .ref 739, .int 431 0, .int 4 0, .ref 746, .int 434 0, .int 4 0, .ref 753, .int 437 0, .int 4 0, .ref 760, .int 440 0, .int 4 0, .ref 767, .int 451 0, .int 4 0, .ref 775, .int 458 0, .int 4 0, .ref 782, .int 461 0, .int 4 0, .ref 789, .int 464 0, .int 4 0, .ref 794, .int 468 0, .int 4 0, .ref 801, .int 471 0, .int 4 0, .ref 808, .int 474 0, .int 4 0, .ref 813]
noncomputable def o680 (P : Params) : Obj := cd [.str "Grid" 1083, .str "Grid" 1084, .str "/claim/cut.py" 1085, .int 377 0, .int 0 0, .int 0 0, .int 0 0, .int 0 0, .ref 678, .bool false, .int 181 0, .ref 679, .none, .none, .none, .none, .int 1086 0, .int 377 0, .str "/claim/cut.py" 1087]
noncomputable def o681 (P : Params) : Obj := ⟨.type "frame", none, .plain, #[(some (.ref 680)), (some (.ref 3)), (some (.ref 677)), none, (some (.str "termcore.grid" 1079)), none, (some (.ref 0))]⟩
noncomputable def o682 (P : Params) : Obj := tp []
noncomputable def o683 (P : Params) : Obj := tb []
noncomputable def o684 (P : Params) : Obj := fp (fd (me 54 0) "__init__" "Grid.__init__" 0 [] .none .none .none .none none .none .none 0)
noncomputable def o685 (P : Params) : Obj := cd [.str "__init__" 1093, .str "Grid.__init__" 1094, .str "/claim/cut.py" 1095, .int 379 0, .int 3 0, .int 0 0, .int 0 0, .int 3 0, .ref 682, .bool true, .int 181 0, .ref 683, .none, .none, .none, .ref 684, .int 1096 0, .int 379 0, .str "/claim/cut.py" 1097]
noncomputable def o686 (P : Params) : Obj := fo (fx a54x0 b54x0 s54x0 "__init__" "Grid.__init__" 3 [] .none .none .none (.str "termcore.grid" 1079) none (.ref 685) .none 0)
noncomputable def o687 (P : Params) : Obj := tp []
noncomputable def o688 (P : Params) : Obj := tb []
noncomputable def o689 (P : Params) : Obj := tp [.str "self" 1102, .str "row" 1103]
noncomputable def o690 (P : Params) : Obj := tp []
noncomputable def o691 (P : Params) : Obj := fp (fd (me 54 1) "line" "Grid.line" 0 [] .none .none .none .none none .none .none 0)
noncomputable def o692 (P : Params) : Obj := cd [.str "line" 1099, .str "Grid.line" 1100, .str "/claim/cut.py" 1101, .int 386 0, .int 2 0, .int 0 0, .int 0 0, .int 3 0, .ref 687, .bool true, .int 181 0, .ref 688, .none, .ref 689, .ref 690, .ref 691, .int 1104 0, .int 386 0, .str "/claim/cut.py" 1105]
noncomputable def o693 (P : Params) : Obj := fo (fx a54x1 b54x1 s54x1 "line" "Grid.line" 3 [] .none .none .none (.str "termcore.grid" 1079) none (.ref 692) .none 0)
noncomputable def o694 (P : Params) : Obj := tp []
noncomputable def o695 (P : Params) : Obj := tb []
noncomputable def o696 (P : Params) : Obj := tp [.str "self" 1110]
noncomputable def o697 (P : Params) : Obj := tp []
noncomputable def o698 (P : Params) : Obj := fp (fd (me 54 2) "whole_area" "Grid.whole_area" 0 [] .none .none .none .none none .none .none 0)
noncomputable def o699 (P : Params) : Obj := cd [.str "whole_area" 1107, .str "Grid.whole_area" 1108, .str "/claim/cut.py" 1109, .int 389 0, .int 1 0, .int 0 0, .int 0 0, .int 3 0, .ref 694, .bool true, .int 181 0, .ref 695, .none, .ref 696, .ref 697, .ref 698, .int 1111 0, .int 389 0, .str "/claim/cut.py" 1112]
noncomputable def o700 (P : Params) : Obj := fo (fd (me 54 2) "whole_area" "Grid.whole_area" 3 [] .none .none .none (.str "termcore.grid" 1079) none (.ref 699) .none 0)
noncomputable def o701 (P : Params) : Obj := tp []
noncomputable def o702 (P : Params) : Obj := tb []
noncomputable def o703 (P : Params) : Obj := tp [.str "self" 1117, .str "area" 1118]
noncomputable def o704 (P : Params) : Obj := tp []
noncomputable def o705 (P : Params) : Obj := fp (fd (me 54 3) "is_wide" "Grid.is_wide" 0 [] .none .none .none .none none .none .none 0)
noncomputable def o706 (P : Params) : Obj := cd [.str "is_wide" 1114, .str "Grid.is_wide" 1115, .str "/claim/cut.py" 1116, .int 392 0, .int 2 0, .int 0 0, .int 0 0, .int 3 0, .ref 701, .bool true, .int 181 0, .ref 702, .none, .ref 703, .ref 704, .ref 705, .int 1119 0, .int 392 0, .str "/claim/cut.py" 1120]
noncomputable def o707 (P : Params) : Obj := fo (fd (me 54 3) "is_wide" "Grid.is_wide" 3 [] .none .none .none (.str "termcore.grid" 1079) none (.ref 706) .none 0)
noncomputable def o708 (P : Params) : Obj := tp []
noncomputable def o709 (P : Params) : Obj := tb []
noncomputable def o710 (P : Params) : Obj := fp (fd (me 54 4) "fresh" "Grid.fresh" 0 [] .none .none .none .none none .none .none 0)
noncomputable def o711 (P : Params) : Obj := cd [.str "fresh" 1122, .str "Grid.fresh" 1123, .str "/claim/cut.py" 1124, .int 395 0, .int 3 0, .int 0 0, .int 0 0, .int 3 0, .ref 708, .bool true, .int 181 0, .ref 709, .none, .none, .none, .ref 710, .int 1125 0, .int 395 0, .str "/claim/cut.py" 1126]
noncomputable def o712 (P : Params) : Obj := fo (fd (me 54 4) "fresh" "Grid.fresh" 3 [] .none .none .none (.str "termcore.grid" 1079) none (.ref 711) .none 0)
noncomputable def o713 (P : Params) : Obj := tp []
noncomputable def o714 (P : Params) : Obj := tb []
noncomputable def o715 (P : Params) : Obj := tp [.str "self" 1131, .str "row" 1132]
noncomputable def o716 (P : Params) : Obj := tp []
noncomputable def o717 (P : Params) : Obj := fp (fd (me 54 5) "part_above" "Grid.part_above" 0 [] .none .none .none .none none .none .none 0)
noncomputable def o718 (P : Params) : Obj := cd [.str "part_above" 1128, .str "Grid.part_above" 1129, .str "/claim/cut.py" 1130, .int 398 0, .int 2 0, .int 0 0, .int 0 0, .int 3 0, .ref 713, .bool true, .int 181 0, .ref 714, .none, .ref 715, .ref 716, .ref 717, .int 1133 0, .int 398 0, .str "/claim/cut.py" 1134]
noncomputable def o719 (P : Params) : Obj := fo (fd (me 54 5) "part_above" "Grid.part_above" 3 [] .none .none .none (.str "termcore.grid" 1079) none (.ref 718) .none 0)
noncomputable def o720 (P : Params) : Obj := tp []
noncomputable def o721 (P : Params) : Obj := tb []
noncomputable def o722 (P : Params) : Obj := tp [.str "self" 1139, .str "area" 1140, .str "many" 1141, .str "pen" 1142, .str "top" 1143, .str "left" 1144, .str "bottom" 1145, .str "right" 1146, .str "row" 1147, .str "gone" 1148, .str "kept" 1149]
noncomputable def o723 (P : Params) : Obj := tp []
noncomputable def o724 (P : Params) : Obj := fp (fd (me 54 6) "scroll_up" "Grid.scroll_up" 0 [] .none .none .none .none none .none .none 0)
noncomputable def o725 (P : Params) : Obj := cd [.str "scroll_up" 1136, .str "Grid.scroll_up" 1137, .str "/claim/cut.py" 1138, .int 402 0, .int 4 0, .int 0 0, .int 0 0, .int 3 0, .ref 720, .bool true, .int 181 0, .ref 721, .none, .ref 722, .ref 723, .ref 724, .int 1150 0, .int 402 0, .str "/claim/cut.py" 1151]
noncomputable def o726 (P : Params) : Obj := fo (fd (me 54 6) "scroll_up" "Grid.scroll_up" 3 [] .none .none .none (.str "termcore.grid" 1079) none (.ref 725) .none 0)
noncomputable def o727 (P : Params) : Obj := tp []
noncomputable def o728 (P : Params) : Obj := tb []
noncomputable def o729 (P : Params) : Obj := tp [.str "self" 1156, .str "area" 1157, .str "many" 1158, .str "pen" 1159]
noncomputable def o730 (P : Params) : Obj := tp []
noncomputable def o731 (P : Params) : Obj := fp (fd (me 54 7) "scroll_down" "Grid.scroll_down" 0 [] .none .none .none .none none .none .none 0)
noncomputable def o732 (P : Params) : Obj := cd [.str "scroll_down" 1153, .str "Grid.scroll_down" 1154, .str "/claim/cut.py" 1155, .int 420 0, .int 4 0, .int 0 0, .int 0 0, .int 3 0, .ref 727, .bool true, .int 181 0, .ref 728, .none, .ref 729, .ref 730, .ref 731, .int 1160 0, .int 420 0, .str "/claim/cut.py" 1161]
noncomputable def o733 (P : Params) : Obj := fo (fd (me 54 7) "scroll_down" "Grid.scroll_down" 3 [] .none .none .none (.str "termcore.grid" 1079) none (.ref 732) .none 0)
noncomputable def o734 (P : Params) : Obj := tp []
noncomputable def o735 (P : Params) : Obj := tb []
noncomputable def o736 (P : Params) : Obj := tp [.str "self" 1166, .str "area" 1167, .str "row" 1168]
noncomputable def o737 (P : Params) : Obj := tp []
noncomputable def o738 (P : Params) : Obj := fp (fd (me 54 8) "unwrap" "Grid.unwrap" 0 [] .none .none .none .none none .none .none 0)
noncomputable def o739 (P : Params) : Obj := cd [.str "unwrap" 1163, .str "Grid.unwrap" 1164, .str "/claim/cut.py" 1165, .int 423 0, .int 2 0, .int 0 0, .int 0 0, .int 3 0, .ref 734, .bool true, .int 181 0, .ref 735, .none, .ref 736, .ref 737, .ref 738, .int 1169 0, .int 423 0, .str "/claim/cut.py" 1170]
noncomputable def o740 (P : Params) : Obj := fo (fd (me 54 8) "unwrap" "Grid.unwrap" 3 [] .none .none .none (.str "termcore.grid" 1079) none (.ref 739) .none 0)
noncomputable def o741 (P : Params) : Obj := tp []
noncomputable def o742 (P : Params) : Obj := tb []
noncomputable def o743 (P : Params) : Obj := tp [.str "self" 1175, .str "area" 1176, .str "column" 1177, .str "many" 1178, .str "pen" 1179]
noncomputable def o744 (P : Params) : Obj := tp []
noncomputable def o745 (P : Params) : Obj := fp (fd (me 54 9) "insert_columns" "Grid.insert_columns" 0 [] .none .none .none .none none .none .none 0)
noncomputable def o746 (P : Params) : Obj := cd [.str "insert_columns" 1172, .str "Grid.insert_columns" 1173, .str "/claim/cut.py" 1174, .int 431 0, .int 5 0, .int 0 0, .int 0 0, .int 3 0, .ref 741, .bool true, .int 181 0, .ref 742, .none, .ref 743, .ref 744, .ref 745, .int 1180 0, .int 431 0, .str "/claim/cut.py" 1181]
noncomputable def o747 (P : Params) : Obj := fo (fd (me 54 9) "insert_columns" "Grid.insert_columns" 3 [] .none .none .none (.str "termcore.grid" 1079) none (.ref 746) .none 0)
noncomputable def o748 (P : Params) : Obj := tp []
noncomputable def o749 (P : Params) : Obj := tb []
noncomputable def o750 (P : Params) : Obj := tp [.str "self" 1186, .str "area" 1187, .str "column" 1188, .str "many" 1189, .str "pen" 1190]
noncomputable def o751 (P : Params) : Obj := tp []
noncomputable def o752 (P : Params) : Obj := fp (fd (me 54 10) "delete_columns" "Grid.delete_columns" 0 [] .none .none .none .none none .none .none 0)
noncomputable def o753 (P : Params) : Obj := cd [.str "delete_columns" 1183, .str "Grid.delete_columns" 1184, .str "/claim/cut.py" 1185, .int 434 0, .int 5 0, .int 0 0, .int 0 0, .int 3 0, .ref 748, .bool true, .int 181 0, .ref 749, .none, .ref 750, .ref 751, .ref 752, .int 1191 0, .int 434 0, .str "/claim/cut.py" 1192]
noncomputable def o754 (P : Params) : Obj := fo (fd (me 54 10) "delete_columns" "Grid.delete_columns" 3 [] .none .none .none (.str "termcore.grid" 1079) none (.ref 753) .none 0)
noncomputable def o755 (P : Params) : Obj := tp []
noncomputable def o756 (P : Params) : Obj := tb []
noncomputable def o757 (P : Params) : Obj := tp [.str "self" 1197, .str "row" 1198, .str "left" 1199, .str "right" 1200]
noncomputable def o758 (P : Params) : Obj := tp []
noncomputable def o759 (P : Params) : Obj := fp (fd (me 54 11) "cells_of" "Grid.cells_of" 0 [] .none .none .none .none none .none .none 0)
noncomputable def o760 (P : Params) : Obj := cd [.str "cells_of" 1194, .str "Grid.cells_of" 1195, .str "/claim/cut.py" 1196, .int 437 0, .int 4 0, .int 0 0, .int 0 0, .int 3 0, .ref 755, .bool true, .int 181 0, .ref 756, .none, .ref 757, .ref 758, .ref 759, .int 1201 0, .int 437 0, .str "/claim/cut.py" 1202]
noncomputable def o761 (P : Params) : Obj := fo (fd (me 54 11) "cells_of" "Grid.cells_of" 3 [] .none .none .none (.str "termcore.grid" 1079) none (.ref 760) .none 0)
noncomputable def o762 (P : Params) : Obj := tp []
noncomputable def o763 (P : Params) : Obj := tb []
noncomputable def o764 (P : Params) : Obj := tp [.str "self" 1207, .str "row" 1208, .str "column" 1209, .str "cells" 1210, .str "line" 1211, .str "end" 1212, .str "step" 1213, .str "cell" 1214]
noncomputable def o765 (P : Params) : Obj := tp []
noncomputable def o766 (P : Params) : Obj := fp (fd (me 54 12) "put_cells" "Grid.put_cells" 0 [] .none .none .none .none none .none .none 0)
noncomputable def o767 (P : Params) : Obj := cd [.str "put_cells" 1204, .str "Grid.put_cells" 1205, .str "/claim/cut.py" 1206, .int 440 0, .int 4 0, .int 0 0, .int 0 0, .int 3 0, .ref 762, .bool true, .int 181 0, .ref 763, .none, .ref 764, .ref 765, .ref 766, .int 1215 0, .int 440 0, .str "/claim/cut.py" 1216]
noncomputable def o768 (P : Params) : Obj := fo (fd (me 54 12) "put_cells" "Grid.put_cells" 3 [] .none .none .none (.str "termcore.grid" 1079) none (.ref 767) .none 0)
noncomputable def o769 (P : Params) : Obj := tp [.bool false]
noncomputable def o770 (P : Params) : Obj := tp []
noncomputable def o771 (P : Params) : Obj := tb []
noncomputable def o772 (P : Params) : Obj := tp [.str "self" 1221, .str "area" 1222, .str "pen" 1223, .str "is_selective" 1224, .str "top" 1225, .str "left" 1226, .str "bottom" 1227, .str "right" 1228, .str "row" 1229]
noncomputable def o773 (P : Params) : Obj := tp []
noncomputable def o774 (P : Params) : Obj := fp (fd (me 54 13) "erase_area" "Grid.erase_area" 0 [] .none .none .none .none none .none .none 0)
noncomputable def o775 (P : Params) : Obj := cd [.str "erase_area" 1218, .str "Grid.erase_area" 1219, .str "/claim/cut.py" 1220, .int 451 0, .int 4 0, .int 0 0, .int 0 0, .int 3 0, .ref 770, .bool true, .int 181 0, .ref 771, .none, .ref 772, .ref 773, .ref 774, .int 1230 0, .int 451 0, .str "/claim/cut.py" 1231]
noncomputable def o776 (P : Params) : Obj := fo (fd (me 54 13) "erase_area" "Grid.erase_area" 3 [] (.ref 769) .none .none (.str "termcore.grid" 1079) none (.ref 775) .none 0)
noncomputable def o777 (P : Params) : Obj := tp []
noncomputable def o778 (P : Params) : Obj := tb []
noncomputable def o779 (P : Params) : Obj := tp [.str "self" 1236, .str "area" 1237, .str "cell" 1238]
noncomputable def o780 (P : Params) : Obj := tp []
noncomputable def o781 (P : Params) : Obj := fp (fd (me 54 14) "fill_area" "Grid.fill_area" 0 [] .none .none .none .none none .none .none 0)
noncomputable def o782 (P : Params) : Obj := cd [.str "fill_area" 1233, .str "Grid.fill_area" 1234, .str "/claim/cut.py" 1235, .int 458 0, .int 3 0, .int 0 0, .int 0 0, .int 3 0, .ref 777, .bool true, .int 181 0, .ref 778, .none, .ref 779, .ref 780, .ref 781, .int 1239 0, .int 458 0, .str "/claim/cut.py" 1240]
noncomputable def o783 (P : Params) : Obj := fo (fd (me 54 14) "fill_area" "Grid.fill_area" 3 [] .none .none .none (.str "termcore.grid" 1079) none (.ref 782) .none 0)
noncomputable def o784 (P : Params) : Obj := tp []
noncomputable def o785 (P : Params) : Obj := tb []
noncomputable def o786 (P : Params) : Obj := tp [.str "self" 1245, .str "area" 1246, .str "row" 1247, .str "column" 1248]
noncomputable def o787 (P : Params) : Obj := tp []
noncomputable def o788 (P : Params) : Obj := fp (fd (me 54 15) "copy_area" "Grid.copy_area" 0 [] .none .none .none .none none .none .none 0)
noncomputable def o789 (P : Params) : Obj := cd [.str "copy_area" 1242, .str "Grid.copy_area" 1243, .str "/claim/cut.py" 1244, .int 461 0, .int 4 0, .int 0 0, .int 0 0, .int 3 0, .ref 784, .bool true, .int 181 0, .ref 785, .none, .ref 786, .ref 787, .ref 788, .int 1249 0, .int 461 0, .str "/claim/cut.py" 1250]
noncomputable def o790 (P : Params) : Obj := fo (fd (me 54 15) "copy_area" "Grid.copy_area" 3 [] .none .none .none (.str "termcore.grid" 1079) none (.ref 789) .none 0)
noncomputable def o791 (P : Params) : Obj := tp []
noncomputable def o792 (P : Params) : Obj := tb []
noncomputable def o793 (P : Params) : Obj := fp (fd (me 54 16) "cells_in" "Grid.cells_in" 0 [] .none .none .none .none none .none .none 0)
noncomputable def o794 (P : Params) : Obj := cd [.str "cells_in" 1252, .str "Grid.cells_in" 1253, .str "/claim/cut.py" 1254, .int 464 0, .int 2 0, .int 0 0, .int 0 0, .int 3 0, .ref 791, .bool true, .int 181 0, .ref 792, .none, .none, .none, .ref 793, .int 1255 0, .int 464 0, .str "/claim/cut.py" 1256]
noncomputable def o795 (P : Params) : Obj := fo (fx a54x16 b54x16 s54x16 "cells_in" "Grid.cells_in" 3 [] .none .none .none (.str "termcore.grid" 1079) none (.ref 794) .none 0)
noncomputable def o796 (P : Params) : Obj := tp []
noncomputable def o797 (P : Params) : Obj := tb []
noncomputable def o798 (P : Params) : Obj := tp [.str "self" 1261]
noncomputable def o799 (P : Params) : Obj := tp []
noncomputable def o800 (P : Params) : Obj := fp (fd (me 54 17) "copy" "Grid.copy" 0 [] .none .none .none .none none .none .none 0)
noncomputable def o801 (P : Params) : Obj := cd [.str "copy" 1258, .str "Grid.copy" 1259, .str "/claim/cut.py" 1260, .int 468 0, .int 1 0, .int 0 0, .int 0 0, .int 3 0, .ref 796, .bool true, .int 181 0, .ref 797, .none, .ref 798, .ref 799, .ref 800, .int 1262 0, .int 468 0, .str "/claim/cut.py" 1263]
noncomputable def o802 (P : Params) : Obj := fo (fd (me 54 17) "copy" "Grid.copy" 3 [] .none .none .none (.str "termcore.grid" 1079) none (.ref 801) .none 0)
noncomputable def o803 (P : Params) : Obj := tp []
noncomputable def o804 (P : Params) : Obj := tb []
noncomputable def o805 (P : Params) : Obj := tp [.str "self" 1268, .str "other" 1269]
noncomputable def o806 (P : Params) : Obj := tp []
noncomputable def o807 (P : Params) : Obj := fp (fd (me 54 18) "equals" "Grid.equals" 0 [] .none .none .none .none none .none .none 0)
noncomputable def o808 (P : Params) : Obj := cd [.str "equals" 1265, .str "Grid.equals" 1266, .str "/claim/cut.py" 1267, .int 471 0, .int 2 0, .int 0 0, .int 0 0, .int 3 0, .ref 803, .bool true, .int 181 0, .ref 804, .none, .ref 805, .ref 806, .ref 807, .int 1270 0, .int 471 0, .str "/claim/cut.py" 1271]
noncomputable def o809 (P : Params) : Obj := fo (fd (me 54 18) "equals" "Grid.equals" 3 [] .none .none .none (.str "termcore.grid" 1079) none (.ref 808) .none 0)
noncomputable def o810 (P : Params) : Obj := tp []
noncomputable def o811 (P : Params) : Obj := tb []
noncomputable def o812 (P : Params) : Obj := fp (fd (me 54 19) "text" "Grid.text" 0 [] .none .none .none .none none .none .none 0)
noncomputable def o813 (P : Params) : Obj := cd [.str "text" 1273, .str "Grid.text" 1274, .str "/claim/cut.py" 1275, .int 474 0, .int 1 0, .int 0 0, .int 0 0, .int 3 0, .ref 810, .bool true, .int 181 0, .ref 811, .none, .none, .none, .ref 812, .int 1276 0, .int 474 0, .str "/claim/cut.py" 1277]
noncomputable def o814 (P : Params) : Obj := fo (fd (me 54 19) "text" "Grid.text" 3 [] .none .none .none (.str "termcore.grid" 1079) none (.ref 813) .none 0)
noncomputable def o815 (P : Params) : Obj := tp [.str "columns" 1279, .str "lines" 1280, .str "rows" 1281]
noncomputable def o816 (P : Params) : Obj := ⟨.type "dict", none, .dict #[e P "__module__" 1088 (.str "termcore.grid" 1079), e P "__firstlineno__" 1092 (.int 377 1091), e P "__init__" 1098 (.ref 686), e P "line" 1106 (.ref 693), e P "whole_area" 1113 (.ref 700), e P "is_wide" 1121 (.ref 707), e P "fresh" 1127 (.ref 712), e P "part_above" 1135 (.ref 719), e P "scroll_up" 1152 (.ref 726), e P "scroll_down" 1162 (.ref 733), e P "unwrap" 1171 (.ref 740), e P "insert_columns" 1182 (.ref 747), e P "delete_columns" 1193 (.ref 754), e P "cells_of" 1203 (.ref 761), e P "put_cells" 1217 (.ref 768), e P "erase_area" 1232 (.ref 776), e P "fill_area" 1241 (.ref 783), e P "copy_area" 1251 (.ref 790), e P "cells_in" 1257 (.ref 795), e P "copy" 1264 (.ref 802), e P "equals" 1272 (.ref 809), e P "text" 1278 (.ref 814), e P "__static_attributes__" 1282 (.ref 815), e P "__dict__" 1284 (.ref 818), e P "__weakref__" 1286 (.ref 819), e P "__doc__" 1287 .none] 4, #[]⟩
noncomputable def o817 (P : Params) : Obj := ⟨.type "type", none, .cls ⟨"Grid", [.type "object"], [.ref 817, .type "object"], 816, "Grid", true, [], [], false, none, false⟩, #[none, none, (some (.str "Grid" 1081)), (some (.str "Grid" 1089)), (some (.builtin "object.__new__")), (some (.bool true))]⟩
noncomputable def o818 (P : Params) : Obj := ⟨.type "getset_descriptor", none, .fields #[.str "__dict__" 1283, .ref 817, .builtin "function.__dict__", .builtin "function.__dict__#set"], #[]⟩
noncomputable def o819 (P : Params) : Obj := ⟨.type "getset_descriptor", none, .fields #[.str "__weakref__" 1285, .ref 817, .builtin "ExceptionGroup.__weakref__", .none], #[]⟩
noncomputable def o820 (P : Params) : Obj := ⟨.type "super", none, .fields #[.ref 817, .ref 817, .ref 817], #[]⟩
noncomputable def o821 (P : Params) : Obj := ⟨.type "builtin_function_or_method", none, .fields #[.builtin "object.__init_subclass__", .ref 817], #[]⟩
noncomputable def o822 (P : Params) : Obj := tp []
noncomputable def o823 (P : Params) : Obj := tb []
noncomputable def o824 (P : Params) : Obj := tp [.str "cell" 1293]
noncomputable def o825 (P : Params) : Obj := tp []
noncomputable def o826 (P : Params) : Obj := fp (fd (st 55) "grid_cut" "grid_cut" 0 [] .none .none .none .none none .none .none 0)
noncomputable def o827 (P : Params) : Obj := cd [.str "grid_cut" 1290, .str "grid_cut" 1291, .str "/claim/cut.py" 1292, .int 476 0, .int 1 0, .int 0 0, .int 0 0, .int 3 0, .ref 822, .bool true, .int 181 0, .ref 823, .none, .ref 824, .ref 825, .ref 826, .int 1294 0, .int 476 0, .str "/claim/cut.py" 1295]
noncomputable def o828 (P : Params) : Obj := fo (fd (st 55) "grid_cut" "grid_cut" 3 [] .none .none .none (.str "termcore.grid" 1079) none (.ref 827) .none 0)
noncomputable def o829 (P : Params) : Obj := tp []
noncomputable def o830 (P : Params) : Obj := tb []
noncomputable def o831 (P : Params) : Obj := tp [.str "cells" 1300, .str "found" 1301]
noncomputable def o832 (P : Params) : Obj := tp []
noncomputable def o833 (P : Params) : Obj := fp (fd (st 56) "grid_mended" "grid_mended" 0 [] .none .none .none .none none .none .none 0)
noncomputable def o834 (P : Params) : Obj := cd [.str "grid_mended" 1297, .str "grid_mended" 1298, .str "/claim/cut.py" 1299, .int 478 0, .int 1 0, .int 0 0, .int 0 0, .int 3 0, .ref 829, .bool true, .int 181 0, .ref 830, .none, .ref 831, .ref 832, .ref 833, .int 1302 0, .int 478 0, .str "/claim/cut.py" 1303]
noncomputable def o835 (P : Params) : Obj := fo (fd (st 56) "grid_mended" "grid_mended" 3 [] .none .none .none (.str "termcore.grid" 1079) none (.ref 834) .none 0)
noncomputable def o836 (P : Params) : Obj := tp [.str "wide" 1307, .str "top" 1308, .str "bottom" 1309]
noncomputable def o837 (P : Params) : Obj := tp []
noncomputable def o838 (P : Params) : Obj := ⟨.type "builtin_function_or_method", none, .fields #[.builtin "type.__prepare__", .type "type"], #[]⟩
noncomputable def o839 (P : Params) : Obj := ⟨.type "dict", none, .dict #[e P "__module__" 1318 (.str "termcore.screen" 1305), e P "__qualname__" 1320 (.str "Screen" 1319), e P "__firstlineno__" 1322 (.int 487 1321), e P "__init__" 1334 (.ref 851), e P "line" 1341 (.ref 858), e P "width_of_line" 1349 (.ref 865), e P "right_bound" 1356 (.ref 872), e P "left_bound" 1363 (.ref 879), e P "is_between_sides" 1370 (.ref 886), e P "is_whole" 1377 (.ref 893), e P "place" 1386 (.ref 900), e P "put_code" 1394 (.ref 907), e P "place_ahead" 1401 (.ref 914), e P "is_joined" 1409 (.ref 921), e P "join" 1417 (.ref 928), e P "put_sign" 1426 (.ref 935), e P "advance" 1435 (.ref 942), e P "wrap" 1445 (.ref 949), e P "repeat" 1453 (.ref 956), e P "scroll_up" 1463 (.ref 963), e P "scroll_down" 1471 (.ref 970), e P "index" 1478 (.ref 977), e P "reverse_index" 1485 (.ref 984), e P "keep_within_line" 1492 (.ref 991), e P "carriage_return" 1499 (.ref 998), e P "next_line" 1506 (.ref 1005), e P "backspace" 1513 (.ref 1012), e P "tab" 1522 (.ref 1020), e P "back_tab" 1531 (.ref 1028), e P "save_cursor" 1538 (.ref 1035), e P "restore_cursor" 1545 (.ref 1042), e P "home" 1552 (.ref 1049), e P "set_margins" 1561 (.ref 1056), e P "set_side_margins" 1570 (.ref 1063), e P "line_size" 1578 (.ref 1070), e P "align" 1585 (.ref 1077), e P "soft_reset" 1592 (.ref 1084), e P "full_reset" 1599 (.ref 1091), e P "blank" 1606 (.ref 1098), e P "__static_attributes__" 1620 (.ref 1099)] 40, #[]⟩
noncomputable def o840 (P : Params) : Obj := tp []
noncomputable def o841 (P : Params) : Obj := tb [.int 489 0, .int 4 0, .ref 850, .int 504 0, .int 4 0, .ref 857, .int 507 0, .int 4 0, .ref 864, .int 510 0, .int 4 0, .ref 871, .int 513 0, .int 4 0, .ref 878, .int 516 0, .int 4 0, .ref 885, .int 519 0, .int 4 0, .ref 892, .int 522 0, .int 4 0, .ref 899, .int 527 0, .int 4 0, .ref 906, .int 530 0, .int 4 0, .ref 913, .int 533 0, .int 4 0, .ref 920, .int 536 0, .int 4 0, .ref 927, .int 539 0, .int 4 0, .ref 934, .int 542 0, .int 4 0, .ref 941, .int 545 0, .int 4 0, .ref 948, .int 554 0, .int 4 0, .ref 955, .int 557 0, .int 4 0, .ref 962, .int 563 0, .int 4 0, .ref 969, .int 566 0, .int 4 0, .ref 976, .int 575 0, .int 4 0, .ref 983, .int 578 0, .int 4 0, .ref 990, .int 581 0, .int 4 0, .ref 997, .int 584 0, .int 4 0, .ref 1004, .int 587 0, .int 4 0, .ref 1011, .int 590 0, .int 4 0, .ref 1019, .int 593 0, .int 4 0, .ref 1027, .int 596 0, .int 4 0, .ref 1034, .int 599 0, .int 4 0, .ref 1041, .int 602 0, .int 4 0, .ref 1048, .int 605 0, .int 4 0, .ref 1055, .int 608 0, .int 4 0, .ref 1062, .int 611 0, .int 4 0, .ref 1069, .int 614 0, .int 4 0, .ref 1076, .int 617 0, .int 4 0, .ref 1083, .int 620 0, .int 4 0, .ref 1090, .int 623 0, .int 4 0, .ref 1097]
noncomputable def o842 (P : Params) : Obj := cd [.str "Screen" 1313, .str "Screen" 1314, .str "/claim/cut.py" 1315, .int 487 0, .int 0 0, .int 0 0, .int 0 0, .int 0 0, .ref 840, .bool false, .int 181 0, .ref 841, .none, .none, .none, .none, .int 1316 0, .int 487 0, .str "/claim/cut.py" 1317]
noncomputable def o843 (P : Params) : Obj := ⟨.type "frame", none, .plain, #[(some (.ref 842)), (some (.ref 3)), (some (.ref 839)), none, (some (.str "termcore.screen" 1305)), none, (some (.ref 0))]⟩
noncomputable def o844 (P : Params) : Obj := tp [.none]
noncomputable def o845 (P : Params) : Obj := tp []
noncomputable def o846 (P : Params) : Obj := tb []
noncomputable def o847 (P : Params) : Obj := tp [.str "self" 1326, .str "rows" 1327, .str "columns" 1328, .str "modes" 1329, .str "widths" 1330, .str "history" 1331]
noncomputable def o848 (P : Params) : Obj := tp []
noncomputable def o849 (P : Params) : Obj := fp (fd (me 59 0) "__init__" "Screen.__init__" 0 [] .none .none .none .none none .none .none 0)
noncomputable def o850 (P : Params) : Obj := cd [.str "__init__" 1323, .str "Screen.__init__" 1324, .str "/claim/cut.py" 1325, .int 489 0, .int 6 0, .int 0 0, .int 0 0, .int 3 0, .ref 845, .bool true, .int 181 0, .ref 846, .none, .ref 847, .ref 848, .ref 849, .int 1332 0, .int 489 0, .str "/claim/cut.py" 1333]
noncomputable def o851 (P : Params) : Obj := fo (fx a59x0 b59x0 s59x0 "__init__" "Screen.__init__" 3 [] (.ref 844) .none .none (.str "termcore.screen" 1305) none (.ref 850) .none 0)
noncomputable def o852 (P : Params) : Obj := tp []
noncomputable def o853 (P : Params) : Obj := tb []
noncomputable def o854 (P : Params) : Obj := tp [.str "self" 1338]
noncomputable def o855 (P : Params) : Obj := tp []
noncomputable def o856 (P : Params) : Obj := fp (fd (me 59 1) "line" "Screen.line" 0 [] .none .none .none .none none .none .none 0)
noncomputable def o857 (P : Params) : Obj := cd [.str "line" 1335, .str "Screen.line" 1336, .str "/claim/cut.py" 1337, .int 504 0, .int 1 0, .int 0 0, .int 0 0, .int 3 0, .ref 852, .bool true, .int 181 0, .ref 853, .none, .ref 854, .ref 855, .ref 856, .int 1339 0, .int 504 0, .str "/claim/cut.py" 1340]
noncomputable def o858 (P : Params) : Obj := fo (fd (me 59 1) "line" "Screen.line" 3 [] .none .none .none (.str "termcore.screen" 1305) none (.ref 857) .none 0)
noncomputable def o859 (P : Params) : Obj := tp []
noncomputable def o860 (P : Params) : Obj := tb []
noncomputable def o861 (P : Params) : Obj := tp [.str "self" 1345, .str "row" 1346]
noncomputable def o862 (P : Params) : Obj := tp []
noncomputable def o863 (P : Params) : Obj := fp (fd (me 59 2) "width_of_line" "Screen.width_of_line" 0 [] .none .none .none .none none .none .none 0)
noncomputable def o864 (P : Params) : Obj := cd [.str "width_of_line" 1342, .str "Screen.width_of_line" 1343, .str "/claim/cut.py" 1344, .int 507 0, .int 2 0, .int 0 0, .int 0 0, .int 3 0, .ref 859, .bool true, .int 181 0, .ref 860, .none, .ref 861, .ref 862, .ref 863, .int 1347 0, .int 507 0, .str "/claim/cut.py" 1348]
noncomputable def o865 (P : Params) : Obj := fo (fd (me 59 2) "width_of_line" "Screen.width_of_line" 3 [] .none .none .none (.str "termcore.screen" 1305) none (.ref 864) .none 0)
noncomputable def o866 (P : Params) : Obj := tp []
noncomputable def o867 (P : Params) : Obj := tb []
noncomputable def o868 (P : Params) : Obj := tp [.str "self" 1353]
noncomputable def o869 (P : Params) : Obj := tp []
noncomputable def o870 (P : Params) : Obj := fp (fd (me 59 3) "right_bound" "Screen.right_bound" 0 [] .none .none .none .none none .none .none 0)
noncomputable def o871 (P : Params) : Obj := cd [.str "right_bound" 1350, .str "Screen.right_bound" 1351, .str "/claim/cut.py" 1352, .int 510 0, .int 1 0, .int 0 0, .int 0 0, .int 3 0, .ref 866, .bool true, .int 181 0, .ref 867, .none, .ref 868, .ref 869, .ref 870, .int 1354 0, .int 510 0, .str "/claim/cut.py" 1355]
noncomputable def o872 (P : Params) : Obj := fo (fd (me 59 3) "right_bound" "Screen.right_bound" 3 [] .none .none .none (.str "termcore.screen" 1305) none (.ref 871) .none 0)
noncomputable def o873 (P : Params) : Obj := tp []
noncomputable def o874 (P : Params) : Obj := tb []
noncomputable def o875 (P : Params) : Obj := tp [.str "self" 1360]
noncomputable def o876 (P : Params) : Obj := tp []
noncomputable def o877 (P : Params) : Obj := fp (fd (me 59 4) "left_bound" "Screen.left_bound" 0 [] .none .none .none .none none .none .none 0)
noncomputable def o878 (P : Params) : Obj := cd [.str "left_bound" 1357, .str "Screen.left_bound" 1358, .str "/claim/cut.py" 1359, .int 513 0, .int 1 0, .int 0 0, .int 0 0, .int 3 0, .ref 873, .bool true, .int 181 0, .ref 874, .none, .ref 875, .ref 876, .ref 877, .int 1361 0, .int 513 0, .str "/claim/cut.py" 1362]
noncomputable def o879 (P : Params) : Obj := fo (fd (me 59 4) "left_bound" "Screen.left_bound" 3 [] .none .none .none (.str "termcore.screen" 1305) none (.ref 878) .none 0)
noncomputable def o880 (P : Params) : Obj := tp []
noncomputable def o881 (P : Params) : Obj := tb []
noncomputable def o882 (P : Params) : Obj := tp [.str "self" 1367]
noncomputable def o883 (P : Params) : Obj := tp []
noncomputable def o884 (P : Params) : Obj := fp (fd (me 59 5) "is_between_sides" "Screen.is_between_sides" 0 [] .none .none .none .none none .none .none 0)
noncomputable def o885 (P : Params) : Obj := cd [.str "is_between_sides" 1364, .str "Screen.is_between_sides" 1365, .str "/claim/cut.py" 1366, .int 516 0, .int 1 0, .int 0 0, .int 0 0, .int 3 0, .ref 880, .bool true, .int 181 0, .ref 881, .none, .ref 882, .ref 883, .ref 884, .int 1368 0, .int 516 0, .str "/claim/cut.py" 1369]
noncomputable def o886 (P : Params) : Obj := fo (fd (me 59 5) "is_between_sides" "Screen.is_between_sides" 3 [] .none .none .none (.str "termcore.screen" 1305) none (.ref 885) .none 0)
noncomputable def o887 (P : Params) : Obj := tp []
noncomputable def o888 (P : Params) : Obj := tb []
noncomputable def o889 (P : Params) : Obj := tp [.str "self" 1374]
noncomputable def o890 (P : Params) : Obj := tp []
noncomputable def o891 (P : Params) : Obj := fp (fd (me 59 6) "is_whole" "Screen.is_whole" 0 [] .none .none .none .none none .none .none 0)
noncomputable def o892 (P : Params) : Obj := cd [.str "is_whole" 1371, .str "Screen.is_whole" 1372, .str "/claim/cut.py" 1373, .int 519 0, .int 1 0, .int 0 0, .int 0 0, .int 3 0, .ref 887, .bool true, .int 181 0, .ref 888, .none, .ref 889, .ref 890, .ref 891, .int 1375 0, .int 519 0, .str "/claim/cut.py" 1376]
noncomputable def o893 (P : Params) : Obj := fo (fd (me 59 6) "is_whole" "Screen.is_whole" 3 [] .none .none .none (.str "termcore.screen" 1305) none (.ref 892) .none 0)
noncomputable def o894 (P : Params) : Obj := tp []
noncomputable def o895 (P : Params) : Obj := tb []
noncomputable def o896 (P : Params) : Obj := tp [.str "self" 1381, .str "row" 1382, .str "column" 1383]
noncomputable def o897 (P : Params) : Obj := tp []
noncomputable def o898 (P : Params) : Obj := fp (fd (me 59 7) "place" "Screen.place" 0 [] .none .none .none .none none .none .none 0)
noncomputable def o899 (P : Params) : Obj := cd [.str "place" 1378, .str "Screen.place" 1379, .str "/claim/cut.py" 1380, .int 522 0, .int 3 0, .int 0 0, .int 0 0, .int 3 0, .ref 894, .bool true, .int 181 0, .ref 895, .none, .ref 896, .ref 897, .ref 898, .int 1384 0, .int 522 0, .str "/claim/cut.py" 1385]
noncomputable def o900 (P : Params) : Obj := fo (fd (me 59 7) "place" "Screen.place" 3 [] .none .none .none (.str "termcore.screen" 1305) none (.ref 899) .none 0)
noncomputable def o901 (P : Params) : Obj := tp []
noncomputable def o902 (P : Params) : Obj := tb []
noncomputable def o903 (P : Params) : Obj := tp [.str "self" 1390, .str "code" 1391]
noncomputable def o904 (P : Params) : Obj := tp []
noncomputable def o905 (P : Params) : Obj := fp (fd (me 59 8) "put_code" "Screen.put_code" 0 [] .none .none .none .none none .none .none 0)
noncomputable def o906 (P : Params) : Obj := cd [.str "put_code" 1387, .str "Screen.put_code" 1388, .str "/claim/cut.py" 1389, .int 527 0, .int 2 0, .int 0 0, .int 0 0, .int 3 0, .ref 901, .bool true, .int 181 0, .ref 902, .none, .ref 903, .ref 904, .ref 905, .int 1392 0, .int 527 0, .str "/claim/cut.py" 1393]
noncomputable def o907 (P : Params) : Obj := fo (fd (me 59 8) "put_code" "Screen.put_code" 3 [] .none .none .none (.str "termcore.screen" 1305) none (.ref 906) .none 0)
noncomputable def o908 (P : Params) : Obj := tp []
noncomputable def o909 (P : Params) : Obj := tb []
noncomputable def o910 (P : Params) : Obj := tp [.str "self" 1398]
noncomputable def o911 (P : Params) : Obj := tp []
noncomputable def o912 (P : Params) : Obj := fp (fd (me 59 9) "place_ahead" "Screen.place_ahead" 0 [] .none .none .none .none none .none .none 0)
noncomputable def o913 (P : Params) : Obj := cd [.str "place_ahead" 1395, .str "Screen.place_ahead" 1396, .str "/claim/cut.py" 1397, .int 530 0, .int 1 0, .int 0 0, .int 0 0, .int 3 0, .ref 908, .bool true, .int 181 0, .ref 909, .none, .ref 910, .ref 911, .ref 912, .int 1399 0, .int 530 0, .str "/claim/cut.py" 1400]
noncomputable def o914 (P : Params) : Obj := fo (fd (me 59 9) "place_ahead" "Screen.place_ahead" 3 [] .none .none .none (.str "termcore.screen" 1305) none (.ref 913) .none 0)
noncomputable def o915 (P : Params) : Obj := tp []
noncomputable def o916 (P : Params) : Obj := tb []
noncomputable def o917 (P : Params) : Obj := tp [.str "self" 1405, .str "code" 1406]
noncomputable def o918 (P : Params) : Obj := tp []
noncomputable def o919 (P : Params) : Obj := fp (fd (me 59 10) "is_joined" "Screen.is_joined" 0 [] .none .none .none .none none .none .none 0)
noncomputable def o920 (P : Params) : Obj := cd [.str "is_joined" 1402, .str "Screen.is_joined" 1403, .str "/claim/cut.py" 1404, .int 533 0, .int 2 0, .int 0 0, .int 0 0, .int 3 0, .ref 915, .bool true, .int 181 0, .ref 916, .none, .ref 917, .ref 918, .ref 919, .int 1407 0, .int 533 0, .str "/claim/cut.py" 1408]
noncomputable def o921 (P : Params) : Obj := fo (fd (me 59 10) "is_joined" "Screen.is_joined" 3 [] .none .none .none (.str "termcore.screen" 1305) none (.ref 920) .none 0)
noncomputable def o922 (P : Params) : Obj := tp []
noncomputable def o923 (P : Params) : Obj := tb []
noncomputable def o924 (P : Params) : Obj := tp [.str "self" 1413, .str "code" 1414]
noncomputable def o925 (P : Params) : Obj := tp []
noncomputable def o926 (P : Params) : Obj := fp (fd (me 59 11) "join" "Screen.join" 0 [] .none .none .none .none none .none .none 0)
noncomputable def o927 (P : Params) : Obj := cd [.str "join" 1410, .str "Screen.join" 1411, .str "/claim/cut.py" 1412, .int 536 0, .int 2 0, .int 0 0, .int 0 0, .int 3 0, .ref 922, .bool true, .int 181 0, .ref 923, .none, .ref 924, .ref 925, .ref 926, .int 1415 0, .int 536 0, .str "/claim/cut.py" 1416]
noncomputable def o928 (P : Params) : Obj := fo (fd (me 59 11) "join" "Screen.join" 3 [] .none .none .none (.str "termcore.screen" 1305) none (.ref 927) .none 0)
noncomputable def o929 (P : Params) : Obj := tp []
noncomputable def o930 (P : Params) : Obj := tb []
noncomputable def o931 (P : Params) : Obj := tp [.str "self" 1421, .str "codes" 1422, .str "width" 1423]
noncomputable def o932 (P : Params) : Obj := tp []
noncomputable def o933 (P : Params) : Obj := fp (fd (me 59 12) "put_sign" "Screen.put_sign" 0 [] .none .none .none .none none .none .none 0)
noncomputable def o934 (P : Params) : Obj := cd [.str "put_sign" 1418, .str "Screen.put_sign" 1419, .str "/claim/cut.py" 1420, .int 539 0, .int 3 0, .int 0 0, .int 0 0, .int 3 0, .ref 929, .bool true, .int 181 0, .ref 930, .none, .ref 931, .ref 932, .ref 933, .int 1424 0, .int 539 0, .str "/claim/cut.py" 1425]
noncomputable def o935 (P : Params) : Obj := fo (fd (me 59 12) "put_sign" "Screen.put_sign" 3 [] .none .none .none (.str "termcore.screen" 1305) none (.ref 934) .none 0)
noncomputable def o936 (P : Params) : Obj := tp []
noncomputable def o937 (P : Params) : Obj := tb []
noncomputable def o938 (P : Params) : Obj := tp [.str "self" 1430, .str "column" 1431, .str "width" 1432]
noncomputable def o939 (P : Params) : Obj := tp []
noncomputable def o940 (P : Params) : Obj := fp (fd (me 59 13) "advance" "Screen.advance" 0 [] .none .none .none .none none .none .none 0)
noncomputable def o941 (P : Params) : Obj := cd [.str "advance" 1427, .str "Screen.advance" 1428, .str "/claim/cut.py" 1429, .int 542 0, .int 3 0, .int 0 0, .int 0 0, .int 3 0, .ref 936, .bool true, .int 181 0, .ref 937, .none, .ref 938, .ref 939, .ref 940, .int 1433 0, .int 542 0, .str "/claim/cut.py" 1434]
noncomputable def o942 (P : Params) : Obj := fo (fd (me 59 13) "advance" "Screen.advance" 3 [] .none .none .none (.str "termcore.screen" 1305) none (.ref 941) .none 0)
noncomputable def o943 (P : Params) : Obj := tp []
noncomputable def o944 (P : Params) : Obj := tb []
noncomputable def o945 (P : Params) : Obj := tp [.str "self" 1439, .str "left" 1440, .str "row" 1441, .str "is_wide" 1442]
noncomputable def o946 (P : Params) : Obj := tp []
noncomputable def o947 (P : Params) : Obj := fp (fd (me 59 14) "wrap" "Screen.wrap" 0 [] .none .none .none .none none .none .none 0)
noncomputable def o948 (P : Params) : Obj := cd [.str "wrap" 1436, .str "Screen.wrap" 1437, .str "/claim/cut.py" 1438, .int 545 0, .int 1 0, .int 0 0, .int 0 0, .int 3 0, .ref 943, .bool true, .int 181 0, .ref 944, .none, .ref 945, .ref 946, .ref 947, .int 1443 0, .int 545 0, .str "/claim/cut.py" 1444]
noncomputable def o949 (P : Params) : Obj := fo (fd (me 59 14) "wrap" "Screen.wrap" 3 [] .none .none .none (.str "termcore.screen" 1305) none (.ref 948) .none 0)
noncomputable def o950 (P : Params) : Obj := tp []
noncomputable def o951 (P : Params) : Obj := tb []
noncomputable def o952 (P : Params) : Obj := tp [.str "self" 1449, .str "many" 1450]
noncomputable def o953 (P : Params) : Obj := tp []
noncomputable def o954 (P : Params) : Obj := fp (fd (me 59 15) "repeat" "Screen.repeat" 0 [] .none .none .none .none none .none .none 0)
noncomputable def o955 (P : Params) : Obj := cd [.str "repeat" 1446, .str "Screen.repeat" 1447, .str "/claim/cut.py" 1448, .int 554 0, .int 2 0, .int 0 0, .int 0 0, .int 3 0, .ref 950, .bool true, .int 181 0, .ref 951, .none, .ref 952, .ref 953, .ref 954, .int 1451 0, .int 554 0, .str "/claim/cut.py" 1452]
noncomputable def o956 (P : Params) : Obj := fo (fd (me 59 15) "repeat" "Screen.repeat" 3 [] .none .none .none (.str "termcore.screen" 1305) none (.ref 955) .none 0)
noncomputable def o957 (P : Params) : Obj := tp []
noncomputable def o958 (P : Params) : Obj := tb []
noncomputable def o959 (P : Params) : Obj := tp [.str "self" 1457, .str "many" 1458, .str "gone" 1459, .str "line" 1460]
noncomputable def o960 (P : Params) : Obj := tp []
noncomputable def o961 (P : Params) : Obj := fp (fd (me 59 16) "scroll_up" "Screen.scroll_up" 0 [] .none .none .none .none none .none .none 0)
noncomputable def o962 (P : Params) : Obj := cd [.str "scroll_up" 1454, .str "Screen.scroll_up" 1455, .str "/claim/cut.py" 1456, .int 557 0, .int 2 0, .int 0 0, .int 0 0, .int 3 0, .ref 957, .bool true, .int 181 0, .ref 958, .none, .ref 959, .ref 960, .ref 961, .int 1461 0, .int 557 0, .str "/claim/cut.py" 1462]
noncomputable def o963 (P : Params) : Obj := fo (fd (me 59 16) "scroll_up" "Screen.scroll_up" 3 [] .none .none .none (.str "termcore.screen" 1305) none (.ref 962) .none 0)
noncomputable def o964 (P : Params) : Obj := tp []
noncomputable def o965 (P : Params) : Obj := tb []
noncomputable def o966 (P : Params) : Obj := tp [.str "self" 1467, .str "many" 1468]
noncomputable def o967 (P : Params) : Obj := tp []
noncomputable def o968 (P : Params) : Obj := fp (fd (me 59 17) "scroll_down" "Screen.scroll_down" 0 [] .none .none .none .none none .none .none 0)
noncomputable def o969 (P : Params) : Obj := cd [.str "scroll_down" 1464, .str "Screen.scroll_down" 1465, .str "/claim/cut.py" 1466, .int 563 0, .int 2 0, .int 0 0, .int 0 0, .int 3 0, .ref 964, .bool true, .int 181 0, .ref 965, .none, .ref 966, .ref 967, .ref 968, .int 1469 0, .int 563 0, .str "/claim/cut.py" 1470]
noncomputable def o970 (P : Params) : Obj := fo (fd (me 59 17) "scroll_down" "Screen.scroll_down" 3 [] .none .none .none (.str "termcore.screen" 1305) none (.ref 969) .none 0)
noncomputable def o971 (P : Params) : Obj := tp []
noncomputable def o972 (P : Params) : Obj := tb []
noncomputable def o973 (P : Params) : Obj := tp [.str "self" 1475]
noncomputable def o974 (P : Params) : Obj := tp []
noncomputable def o975 (P : Params) : Obj := fp (fd (me 59 18) "index" "Screen.index" 0 [] .none .none .none .none none .none .none 0)
noncomputable def o976 (P : Params) : Obj := cd [.str "index" 1472, .str "Screen.index" 1473, .str "/claim/cut.py" 1474, .int 566 0, .int 1 0, .int 0 0, .int 0 0, .int 3 0, .ref 971, .bool true, .int 181 0, .ref 972, .none, .ref 973, .ref 974, .ref 975, .int 1476 0, .int 566 0, .str "/claim/cut.py" 1477]
noncomputable def o977 (P : Params) : Obj := fo (fd (me 59 18) "index" "Screen.index" 3 [] .none .none .none (.str "termcore.screen" 1305) none (.ref 976) .none 0)
noncomputable def o978 (P : Params) : Obj := tp []
noncomputable def o979 (P : Params) : Obj := tb []
noncomputable def o980 (P : Params) : Obj := tp [.str "self" 1482]
noncomputable def o981 (P : Params) : Obj := tp []
noncomputable def o982 (P : Params) : Obj := fp (fd (me 59 19) "reverse_index" "Screen.reverse_index" 0 [] .none .none .none .none none .none .none 0)
noncomputable def o983 (P : Params) : Obj := cd [.str "reverse_index" 1479, .str "Screen.reverse_index" 1480, .str "/claim/cut.py" 1481, .int 575 0, .int 1 0, .int 0 0, .int 0 0, .int 3 0, .ref 978, .bool true, .int 181 0, .ref 979, .none, .ref 980, .ref 981, .ref 982, .int 1483 0, .int 575 0, .str "/claim/cut.py" 1484]
noncomputable def o984 (P : Params) : Obj := fo (fd (me 59 19) "reverse_index" "Screen.reverse_index" 3 [] .none .none .none (.str "termcore.screen" 1305) none (.ref 983) .none 0)
noncomputable def o985 (P : Params) : Obj := tp []
noncomputable def o986 (P : Params) : Obj := tb []
noncomputable def o987 (P : Params) : Obj := tp [.str "self" 1489]
noncomputable def o988 (P : Params) : Obj := tp []
noncomputable def o989 (P : Params) : Obj := fp (fd (me 59 20) "keep_within_line" "Screen.keep_within_line" 0 [] .none .none .none .none none .none .none 0)
noncomputable def o990 (P : Params) : Obj := cd [.str "keep_within_line" 1486, .str "Screen.keep_within_line" 1487, .str "/claim/cut.py" 1488, .int 578 0, .int 1 0, .int 0 0, .int 0 0, .int 3 0, .ref 985, .bool true, .int 181 0, .ref 986, .none, .ref 987, .ref 988, .ref 989, .int 1490 0, .int 578 0, .str "/claim/cut.py" 1491]
noncomputable def o991 (P : Params) : Obj := fo (fd (me 59 20) "keep_within_line" "Screen.keep_within_line" 3 [] .none .none .none (.str "termcore.screen" 1305) none (.ref 990) .none 0)
noncomputable def o992 (P : Params) : Obj := tp []
noncomputable def o993 (P : Params) : Obj := tb []
noncomputable def o994 (P : Params) : Obj := tp [.str "self" 1496]
noncomputable def o995 (P : Params) : Obj := tp []
noncomputable def o996 (P : Params) : Obj := fp (fd (me 59 21) "carriage_return" "Screen.carriage_return" 0 [] .none .none .none .none none .none .none 0)
noncomputable def o997 (P : Params) : Obj := cd [.str "carriage_return" 1493, .str "Screen.carriage_return" 1494, .str "/claim/cut.py" 1495, .int 581 0, .int 1 0, .int 0 0, .int 0 0, .int 3 0, .ref 992, .bool true, .int 181 0, .ref 993, .none, .ref 994, .ref 995, .ref 996, .int 1497 0, .int 581 0, .str "/claim/cut.py" 1498]
noncomputable def o998 (P : Params) : Obj := fo (fd (me 59 21) "carriage_return" "Screen.carriage_return" 3 [] .none .none .none (.str "termcore.screen" 1305) none (.ref 997) .none 0)
noncomputable def o999 (P : Params) : Obj := tp []
noncomputable def o1000 (P : Params) : Obj := tb []
noncomputable def o1001 (P : Params) : Obj := tp [.str "self" 1503]
noncomputable def o1002 (P : Params) : Obj := tp []
noncomputable def o1003 (P : Params) : Obj := fp (fd (me 59 22) "next_line" "Screen.next_line" 0 [] .none .none .none .none none .none .none 0)
noncomputable def o1004 (P : Params) : Obj := cd [.str "next_line" 1500, .str "Screen.next_line" 1501, .str "/claim/cut.py" 1502, .int 584 0, .int 1 0, .int 0 0, .int 0 0, .int 3 0, .ref 999, .bool true, .int 181 0, .ref 1000, .none, .ref 1001, .ref 1002, .ref 1003, .int 1504 0, .int 584 0, .str "/claim/cut.py" 1505]
noncomputable def o1005 (P : Params) : Obj := fo (fd (me 59 22) "next_line" "Screen.next_line" 3 [] .none .none .none (.str "termcore.screen" 1305) none (.ref 1004) .none 0)
noncomputable def o1006 (P : Params) : Obj := tp []
noncomputable def o1007 (P : Params) : Obj := tb []
noncomputable def o1008 (P : Params) : Obj := tp [.str "self" 1510]
noncomputable def o1009 (P : Params) : Obj := tp []
noncomputable def o1010 (P : Params) : Obj := fp (fd (me 59 23) "backspace" "Screen.backspace" 0 [] .none .none .none .none none .none .none 0)
noncomputable def o1011 (P : Params) : Obj := cd [.str "backspace" 1507, .str "Screen.backspace" 1508, .str "/claim/cut.py" 1509, .int 587 0, .int 1 0, .int 0 0, .int 0 0, .int 3 0, .ref 1006, .bool true, .int 181 0, .ref 1007, .none, .ref 1008, .ref 1009, .ref 1010, .int 1511 0, .int 587 0, .str "/claim/cut.py" 1512]
noncomputable def o1012 (P : Params) : Obj := fo (fd (me 59 23) "backspace" "Screen.backspace" 3 [] .none .none .none (.str "termcore.screen" 1305) none (.ref 1011) .none 0)
noncomputable def o1013 (P : Params) : Obj := tp [.int 1 1514]
noncomputable def o1014 (P : Params) : Obj := tp []
noncomputable def o1015 (P : Params) : Obj := tb []
noncomputable def o1016 (P : Params) : Obj := tp [.str "self" 1518, .str "many" 1519]
noncomputable def o1017 (P : Params) : Obj := tp []
noncomputable def o1018 (P : Params) : Obj := fp (fd (me 59 24) "tab" "Screen.tab" 0 [] .none .none .none .none none .none .none 0)
noncomputable def o1019 (P : Params) : Obj := cd [.str "tab" 1515, .str "Screen.tab" 1516, .str "/claim/cut.py" 1517, .int 590 0, .int 2 0, .int 0 0, .int 0 0, .int 3 0, .ref 1014, .bool true, .int 181 0, .ref 1015, .none, .ref 1016, .ref 1017, .ref 1018, .int 1520 0, .int 590 0, .str "/claim/cut.py" 1521]
noncomputable def o1020 (P : Params) : Obj := fo (fd (me 59 24) "tab" "Screen.tab" 3 [] (.ref 1013) .none .none (.str "termcore.screen" 1305) none (.ref 1019) .none 0)
noncomputable def o1021 (P : Params) : Obj := tp [.int 1 1523]
noncomputable def o1022 (P : Params) : Obj := tp []
noncomputable def o1023 (P : Params) : Obj := tb []
noncomputable def o1024 (P : Params) : Obj := tp [.str "self" 1527, .str "many" 1528]
noncomputable def o1025 (P : Params) : Obj := tp []
noncomputable def o1026 (P : Params) : Obj := fp (fd (me 59 25) "back_tab" "Screen.back_tab" 0 [] .none .none .none .none none .none .none 0)
noncomputable def o1027 (P : Params) : Obj := cd [.str "back_tab" 1524, .str "Screen.back_tab" 1525, .str "/claim/cut.py" 1526, .int 593 0, .int 2 0, .int 0 0, .int 0 0, .int 3 0, .ref 1022, .bool true, .int 181 0, .ref 1023, .none, .ref 1024, .ref 1025, .ref 1026, .int 1529 0, .int 593 0, .str "/claim/cut.py" 1530]
noncomputable def o1028 (P : Params) : Obj := fo (fd (me 59 25) "back_tab" "Screen.back_tab" 3 [] (.ref 1021) .none .none (.str "termcore.screen" 1305) none (.ref 1027) .none 0)
noncomputable def o1029 (P : Params) : Obj := tp []
noncomputable def o1030 (P : Params) : Obj := tb []
noncomputable def o1031 (P : Params) : Obj := tp [.str "self" 1535]
noncomputable def o1032 (P : Params) : Obj := tp []
noncomputable def o1033 (P : Params) : Obj := fp (fd (me 59 26) "save_cursor" "Screen.save_cursor" 0 [] .none .none .none .none none .none .none 0)
noncomputable def o1034 (P : Params) : Obj := cd [.str "save_cursor" 1532, .str "Screen.save_cursor" 1533, .str "/claim/cut.py" 1534, .int 596 0, .int 1 0, .int 0 0, .int 0 0, .int 3 0, .ref 1029, .bool true, .int 181 0, .ref 1030, .none, .ref 1031, .ref 1032, .ref 1033, .int 1536 0, .int 596 0, .str "/claim/cut.py" 1537]
noncomputable def o1035 (P : Params) : Obj := fo (fd (me 59 26) "save_cursor" "Screen.save_cursor" 3 [] .none .none .none (.str "termcore.screen" 1305) none (.ref 1034) .none 0)
noncomputable def o1036 (P : Params) : Obj := tp []
noncomputable def o1037 (P : Params) : Obj := tb []
noncomputable def o1038 (P : Params) : Obj := tp [.str "self" 1542]
noncomputable def o1039 (P : Params) : Obj := tp []
noncomputable def o1040 (P : Params) : Obj := fp (fd (me 59 27) "restore_cursor" "Screen.restore_cursor" 0 [] .none .none .none .none none .none .none 0)
noncomputable def o1041 (P : Params) : Obj := cd [.str "restore_cursor" 1539, .str "Screen.restore_cursor" 1540, .str "/claim/cut.py" 1541, .int 599 0, .int 1 0, .int 0 0, .int 0 0, .int 3 0, .ref 1036, .bool true, .int 181 0, .ref 1037, .none, .ref 1038, .ref 1039, .ref 1040, .int 1543 0, .int 599 0, .str "/claim/cut.py" 1544]
noncomputable def o1042 (P : Params) : Obj := fo (fd (me 59 27) "restore_cursor" "Screen.restore_cursor" 3 [] .none .none .none (.str "termcore.screen" 1305) none (.ref 1041) .none 0)
noncomputable def o1043 (P : Params) : Obj := tp []
noncomputable def o1044 (P : Params) : Obj := tb []
noncomputable def o1045 (P : Params) : Obj := tp [.str "self" 1549]
noncomputable def o1046 (P : Params) : Obj := tp []
noncomputable def o1047 (P : Params) : Obj := fp (fd (me 59 28) "home" "Screen.home" 0 [] .none .none .none .none none .none .none 0)
noncomputable def o1048 (P : Params) : Obj := cd [.str "home" 1546, .str "Screen.home" 1547, .str "/claim/cut.py" 1548, .int 602 0, .int 1 0, .int 0 0, .int 0 0, .int 3 0, .ref 1043, .bool true, .int 181 0, .ref 1044, .none, .ref 1045, .ref 1046, .ref 1047, .int 1550 0, .int 602 0, .str "/claim/cut.py" 1551]
noncomputable def o1049 (P : Params) : Obj := fo (fd (me 59 28) "home" "Screen.home" 3 [] .none .none .none (.str "termcore.screen" 1305) none (.ref 1048) .none 0)
noncomputable def o1050 (P : Params) : Obj := tp []
noncomputable def o1051 (P : Params) : Obj := tb []
noncomputable def o1052 (P : Params) : Obj := tp [.str "self" 1556, .str "top" 1557, .str "bottom" 1558]
noncomputable def o1053 (P : Params) : Obj := tp []
noncomputable def o1054 (P : Params) : Obj := fp (fd (me 59 29) "set_margins" "Screen.set_margins" 0 [] .none .none .none .none none .none .none 0)
noncomputable def o1055 (P : Params) : Obj := cd [.str "set_margins" 1553, .str "Screen.set_margins" 1554, .str "/claim/cut.py" 1555, .int 605 0, .int 3 0, .int 0 0, .int 0 0, .int 3 0, .ref 1050, .bool true, .int 181 0, .ref 1051, .none, .ref 1052, .ref 1053, .ref 1054, .int 1559 0, .int 605 0, .str "/claim/cut.py" 1560]
noncomputable def o1056 (P : Params) : Obj := fo (fd (me 59 29) "set_margins" "Screen.set_margins" 3 [] .none .none .none (.str "termcore.screen" 1305) none (.ref 1055) .none 0)
noncomputable def o1057 (P : Params) : Obj := tp []
noncomputable def o1058 (P : Params) : Obj := tb []
noncomputable def o1059 (P : Params) : Obj := tp [.str "self" 1565, .str "left" 1566, .str "right" 1567]
noncomputable def o1060 (P : Params) : Obj := tp []
noncomputable def o1061 (P : Params) : Obj := fp (fd (me 59 30) "set_side_margins" "Screen.set_side_margins" 0 [] .none .none .none .none none .none .none 0)
noncomputable def o1062 (P : Params) : Obj := cd [.str "set_side_margins" 1562, .str "Screen.set_side_margins" 1563, .str "/claim/cut.py" 1564, .int 608 0, .int 3 0, .int 0 0, .int 0 0, .int 3 0, .ref 1057, .bool true, .int 181 0, .ref 1058, .none, .ref 1059, .ref 1060, .ref 1061, .int 1568 0, .int 608 0, .str "/claim/cut.py" 1569]
noncomputable def o1063 (P : Params) : Obj := fo (fd (me 59 30) "set_side_margins" "Screen.set_side_margins" 3 [] .none .none .none (.str "termcore.screen" 1305) none (.ref 1062) .none 0)
noncomputable def o1064 (P : Params) : Obj := tp []
noncomputable def o1065 (P : Params) : Obj := tb []
noncomputable def o1066 (P : Params) : Obj := tp [.str "self" 1574, .str "word" 1575]
noncomputable def o1067 (P : Params) : Obj := tp []
noncomputable def o1068 (P : Params) : Obj := fp (fd (me 59 31) "line_size" "Screen.line_size" 0 [] .none .none .none .none none .none .none 0)
noncomputable def o1069 (P : Params) : Obj := cd [.str "line_size" 1571, .str "Screen.line_size" 1572, .str "/claim/cut.py" 1573, .int 611 0, .int 2 0, .int 0 0, .int 0 0, .int 3 0, .ref 1064, .bool true, .int 181 0, .ref 1065, .none, .ref 1066, .ref 1067, .ref 1068, .int 1576 0, .int 611 0, .str "/claim/cut.py" 1577]
noncomputable def o1070 (P : Params) : Obj := fo (fd (me 59 31) "line_size" "Screen.line_size" 3 [] .none .none .none (.str "termcore.screen" 1305) none (.ref 1069) .none 0)
noncomputable def o1071 (P : Params) : Obj := tp []
noncomputable def o1072 (P : Params) : Obj := tb []
noncomputable def o1073 (P : Params) : Obj := tp [.str "self" 1582]
noncomputable def o1074 (P : Params) : Obj := tp []
noncomputable def o1075 (P : Params) : Obj := fp (fd (me 59 32) "align" "Screen.align" 0 [] .none .none .none .none none .none .none 0)
noncomputable def o1076 (P : Params) : Obj := cd [.str "align" 1579, .str "Screen.align" 1580, .str "/claim/cut.py" 1581, .int 614 0, .int 1 0, .int 0 0, .int 0 0, .int 3 0, .ref 1071, .bool true, .int 181 0, .ref 1072, .none, .ref 1073, .ref 1074, .ref 1075, .int 1583 0, .int 614 0, .str "/claim/cut.py" 1584]
noncomputable def o1077 (P : Params) : Obj := fo (fd (me 59 32) "align" "Screen.align" 3 [] .none .none .none (.str "termcore.screen" 1305) none (.ref 1076) .none 0)
noncomputable def o1078 (P : Params) : Obj := tp []
noncomputable def o1079 (P : Params) : Obj := tb []
noncomputable def o1080 (P : Params) : Obj := tp [.str "self" 1589]
noncomputable def o1081 (P : Params) : Obj := tp []
noncomputable def o1082 (P : Params) : Obj := fp (fd (me 59 33) "soft_reset" "Screen.soft_reset" 0 [] .none .none .none .none none .none .none 0)
noncomputable def o1083 (P : Params) : Obj := cd [.str "soft_reset" 1586, .str "Screen.soft_reset" 1587, .str "/claim/cut.py" 1588, .int 617 0, .int 1 0, .int 0 0, .int 0 0, .int 3 0, .ref 1078, .bool true, .int 181 0, .ref 1079, .none, .ref 1080, .ref 1081, .ref 1082, .int 1590 0, .int 617 0, .str "/claim/cut.py" 1591]
noncomputable def o1084 (P : Params) : Obj := fo (fd (me 59 33) "soft_reset" "Screen.soft_reset" 3 [] .none .none .none (.str "termcore.screen" 1305) none (.ref 1083) .none 0)
noncomputable def o1085 (P : Params) : Obj := tp []
noncomputable def o1086 (P : Params) : Obj := tb []
noncomputable def o1087 (P : Params) : Obj := tp [.str "self" 1596]
noncomputable def o1088 (P : Params) : Obj := tp []
noncomputable def o1089 (P : Params) : Obj := fp (fd (me 59 34) "full_reset" "Screen.full_reset" 0 [] .none .none .none .none none .none .none 0)
noncomputable def o1090 (P : Params) : Obj := cd [.str "full_reset" 1593, .str "Screen.full_reset" 1594, .str "/claim/cut.py" 1595, .int 620 0, .int 1 0, .int 0 0, .int 0 0, .int 3 0, .ref 1085, .bool true, .int 181 0, .ref 1086, .none, .ref 1087, .ref 1088, .ref 1089, .int 1597 0, .int 620 0, .str "/claim/cut.py" 1598]
noncomputable def o1091 (P : Params) : Obj := fo (fd (me 59 34) "full_reset" "Screen.full_reset" 3 [] .none .none .none (.str "termcore.screen" 1305) none (.ref 1090) .none 0)
noncomputable def o1092 (P : Params) : Obj := tp []
noncomputable def o1093 (P : Params) : Obj := tb []
noncomputable def o1094 (P : Params) : Obj := tp [.str "self" 1603]
noncomputable def o1095 (P : Params) : Obj := tp []
noncomputable def o1096 (P : Params) : Obj := fp (fd (me 59 35) "blank" "Screen.blank" 0 [] .none .none .none .none none .none .none 0)
noncomputable def o1097 (P : Params) : Obj := cd [.str "blank" 1600, .str "Screen.blank" 1601, .str "/claim/cut.py" 1602, .int 623 0, .int 1 0, .int 0 0, .int 0 0, .int 3 0, .ref 1092, .bool true, .int 181 0, .ref 1093, .none, .ref 1094, .ref 1095, .ref 1096, .int 1604 0, .int 623 0, .str "/claim/cut.py" 1605]
noncomputable def o1098 (P : Params) : Obj := fo (fd (me 59 35) "blank" "Screen.blank" 3 [] .none .none .none (.str "termcore.screen" 1305) none (.ref 1097) .none 0)
noncomputable def o1099 (P : Params) : Obj := tp [.str "charsets" 1607, .str "columns" 1608, .str "cursor" 1609, .str "grid" 1610, .str "has_right" 1611, .str "history" 1612, .str "last" 1613, .str "margins" 1614, .str "modes" 1615, .str "rows" 1616, .str "saved" 1617, .str "tabs" 1618, .str "widths" 1619]
noncomputable def o1100 (P : Params) : Obj := ⟨.type "dict", none, .dict #[e P "__module__" 1318 (.str "termcore.screen" 1305), e P "__firstlineno__" 1322 (.int 487 1321), e P "__init__" 1334 (.ref 851), e P "line" 1341 (.ref 858), e P "width_of_line" 1349 (.ref 865), e P "right_bound" 1356 (.ref 872), e P "left_bound" 1363 (.ref 879), e P "is_between_sides" 1370 (.ref 886), e P "is_whole" 1377 (.ref 893), e P "place" 1386 (.ref 900), e P "put_code" 1394 (.ref 907), e P "place_ahead" 1401 (.ref 914), e P "is_joined" 1409 (.ref 921), e P "join" 1417 (.ref 928), e P "put_sign" 1426 (.ref 935), e P "advance" 1435 (.ref 942), e P "wrap" 1445 (.ref 949), e P "repeat" 1453 (.ref 956), e P "scroll_up" 1463 (.ref 963), e P "scroll_down" 1471 (.ref 970), e P "index" 1478 (.ref 977), e P "reverse_index" 1485 (.ref 984), e P "keep_within_line" 1492 (.ref 991), e P "carriage_return" 1499 (.ref 998), e P "next_line" 1506 (.ref 1005), e P "backspace" 1513 (.ref 1012), e P "tab" 1522 (.ref 1020), e P "back_tab" 1531 (.ref 1028), e P "save_cursor" 1538 (.ref 1035), e P "restore_cursor" 1545 (.ref 1042), e P "home" 1552 (.ref 1049), e P "set_margins" 1561 (.ref 1056), e P "set_side_margins" 1570 (.ref 1063), e P "line_size" 1578 (.ref 1070), e P "align" 1585 (.ref 1077), e P "soft_reset" 1592 (.ref 1084), e P "full_reset" 1599 (.ref 1091), e P "blank" 1606 (.ref 1098), e P "__static_attributes__" 1620 (.ref 1099), e P "__dict__" 1622 (.ref 1102), e P "__weakref__" 1624 (.ref 1103), e P "__doc__" 1625 .none] 4, #[]⟩
noncomputable def o1101 (P : Params) : Obj := ⟨.type "type", none, .cls ⟨"Screen", [.type "object"], [.ref 1101, .type "object"], 1100, "Screen", true, [], [], false, none, false⟩, #[none, none, (some (.str "Screen" 1311)), (some (.str "Screen" 1319)), (some (.builtin "object.__new__")), (some (.bool true))]⟩
noncomputable def o1102 (P : Params) : Obj := ⟨.type "getset_descriptor", none, .fields #[.str "__dict__" 1621, .ref 1101, .builtin "function.__dict__", .builtin "function.__dict__#set"], #[]⟩
noncomputable def o1103 (P : Params) : Obj := ⟨.type "getset_descriptor", none, .fields #[.str "__weakref__" 1623, .ref 1101, .builtin "ExceptionGroup.__weakref__", .none], #[]⟩
noncomputable def o1104 (P : Params) : Obj := ⟨.type "super", none, .fields #[.ref 1101, .ref 1101, .ref 1101], #[]⟩
noncomputable def o1105 (P : Params) : Obj := ⟨.type "builtin_function_or_method", none, .fields #[.builtin "object.__init_subclass__", .ref 1101], #[]⟩
noncomputable def o1106 (P : Params) : Obj := tp []
noncomputable def o1107 (P : Params) : Obj := tb []
noncomputable def o1108 (P : Params) : Obj := fp (fd (st 61) "_law_deck" "_law_deck" 0 [] .none .none .none .none none .none .none 0)
noncomputable def o1109 (P : Params) : Obj := cd [.str "_law_deck" 1630, .str "_law_deck" 1631, .str "/claim/cut.py" 1632, .int 626 0, .int 1 0, .int 0 0, .int 0 0, .int 3 0, .ref 1106, .bool true, .int 181 0, .ref 1107, .none, .none, .none, .ref 1108, .int 1633 0, .int 626 0, .str "/claim/cut.py" 1634]
noncomputable def o1110 (P : Params) : Obj := fo (fx a61 b61 s61 "_law_deck" "_law_deck" 3 [] .none .none .none (.str "law_np0284_01" 1628) none (.ref 1109) .none 0)
noncomputable def o1111 (P : Params) : Obj := tp []
noncomputable def o1112 (P : Params) : Obj := tb []
noncomputable def o1113 (P : Params) : Obj := tp [.str "deck" 1639, .str "many" 1640]
noncomputable def o1114 (P : Params) : Obj := tp []
noncomputable def o1115 (P : Params) : Obj := fp (fd (st 62) "_law_draw" "_law_draw" 0 [] .none .none .none .none none .none .none 0)
noncomputable def o1116 (P : Params) : Obj := cd [.str "_law_draw" 1636, .str "_law_draw" 1637, .str "/claim/cut.py" 1638, .int 631 0, .int 2 0, .int 0 0, .int 0 0, .int 3 0, .ref 1111, .bool true, .int 181 0, .ref 1112, .none, .ref 1113, .ref 1114, .ref 1115, .int 1641 0, .int 631 0, .str "/claim/cut.py" 1642]
noncomputable def o1117 (P : Params) : Obj := fo (fx a62 b62 s62 "_law_draw" "_law_draw" 3 [] .none .none .none (.str "law_np0284_01" 1628) none (.ref 1116) .none 0)
noncomputable def o1118 (P : Params) : Obj := tp []
noncomputable def o1119 (P : Params) : Obj := tb []
noncomputable def o1120 (P : Params) : Obj := tp [.str "deck" 1647, .str "screen" 1648, .str "cells" 1649, .str "row" 1650, .str "column" 1651, .str "way" 1652, .str "flags" 1653, .str "is_guarded" 1654, .str "bit" 1655, .str "codes" 1656, .str "width" 1657, .str "pen" 1658, .str "line" 1659, .str "spot" 1660]
noncomputable def o1121 (P : Params) : Obj := tp []
noncomputable def o1122 (P : Params) : Obj := fp (fd (st 63) "_law_put" "_law_put" 0 [] .none .none .none .none none .none .none 0)
noncomputable def o1123 (P : Params) : Obj := cd [.str "_law_put" 1644, .str "_law_put" 1645, .str "/claim/cut.py" 1646, .int 636 0, .int 3 0, .int 0 0, .int 0 0, .int 3 0, .ref 1118, .bool true, .int 181 0, .ref 1119, .none, .ref 1120, .ref 1121, .ref 1122, .int 1661 0, .int 636 0, .str "/claim/cut.py" 1662]
noncomputable def o1124 (P : Params) : Obj := fo (fx a63 b63 s63 "_law_put" "_law_put" 3 [] .none .none .none (.str "law_np0284_01" 1628) none (.ref 1123) .none 0)
noncomputable def o1125 (P : Params) : Obj := tp []
noncomputable def o1126 (P : Params) : Obj := tb []
noncomputable def o1127 (P : Params) : Obj := tp [.str "cells" 1667, .str "area" 1668, .str "total" 1669, .str "row" 1670, .str "codes" 1671, .str "width" 1672, .str "flags" 1673, .str "is_guarded" 1674, .str "bit" 1675, .str "weight" 1676]
noncomputable def o1128 (P : Params) : Obj := tp []
noncomputable def o1129 (P : Params) : Obj := fp (fd (st 64) "_law_sum" "_law_sum" 0 [] .none .none .none .none none .none .none 0)
noncomputable def o1130 (P : Params) : Obj := cd [.str "_law_sum" 1664, .str "_law_sum" 1665, .str "/claim/cut.py" 1666, .int 654 0, .int 2 0, .int 0 0, .int 0 0, .int 3 0, .ref 1125, .bool true, .int 181 0, .ref 1126, .none, .ref 1127, .ref 1128, .ref 1129, .int 1677 0, .int 654 0, .str "/claim/cut.py" 1678]
noncomputable def o1131 (P : Params) : Obj := fo (fx a64 b64 s64 "_law_sum" "_law_sum" 3 [] .none .none .none (.str "law_np0284_01" 1628) none (.ref 1130) .none 0)
noncomputable def o1132 (P : Params) : Obj := tp []
noncomputable def o1133 (P : Params) : Obj := tb []
noncomputable def o1134 (P : Params) : Obj := tp [.str "deck" 1683, .str "top" 1684, .str "left" 1685]
noncomputable def o1135 (P : Params) : Obj := tp []
noncomputable def o1136 (P : Params) : Obj := fp (fd (st 65) "_law_area" "_law_area" 0 [] .none .none .none .none none .none .none 0)
noncomputable def o1137 (P : Params) : Obj := cd [.str "_law_area" 1680, .str "_law_area" 1681, .str "/claim/cut.py" 1682, .int 663 0, .int 1 0, .int 0 0, .int 0 0, .int 3 0, .ref 1132, .bool true, .int 181 0, .ref 1133, .none, .ref 1134, .ref 1135, .ref 1136, .int 1686 0, .int 663 0, .str "/claim/cut.py" 1687]
noncomputable def o1138 (P : Params) : Obj := fo (fx a65 b65 s65 "_law_area" "_law_area" 3 [] .none .none .none (.str "law_np0284_01" 1628) none (.ref 1137) .none 0)
noncomputable def o1139 (P : Params) : Obj := tp []
noncomputable def o1140 (P : Params) : Obj := tb []
noncomputable def o1141 (P : Params) : Obj := fp (fd (st 66) "law" "law" 0 [] .none .none .none .none none .none .none 0)
noncomputable def o1142 (P : Params) : Obj := cd [.str "law" 1689, .str "law" 1690, .str "/claim/cut.py" 1691, .int 666 0, .int 1 0, .int 0 0, .int 0 0, .int 3 0, .ref 1139, .bool true, .int 181 0, .ref 1140, .none, .none, .none, .ref 1141, .int 1692 0, .int 666 0, .str "/claim/cut.py" 1693]
noncomputable def o1143 (P : Params) : Obj := fo (fx a66 b66 s66 "law" "law" 3 [] .none .none .none (.str "law_np0284_01" 1628) none (.ref 1142) .none 0)
noncomputable def tr (P : Params) : BT := .node (boot_o_0 P) (.node (boot_o_1 P) (.node (o3 P) (.node (boot_o_7 P) (.node (o15 P) (.node (o31 P) (.node (o63 P) (.node (o127 P) (.node (o255 P) (.node (o511 P) (.node (o1023 P) .nil .nil) .nil) (.node (o767 P) .nil .nil)) (.node (o383 P) (.node (o639 P) .nil .nil) (.node (o895 P) .nil .nil))) (.node (o191 P) (.node (o319 P) (.node (o575 P) (.node (o1087 P) .nil .nil) .nil) (.node (o831 P) .nil .nil)) (.node (o447 P) (.node (o703 P) .nil .nil) (.node (o959 P) .nil .nil)))) (.node (o95 P) (.node (o159 P) (.node (o287 P) (.node (o543 P) (.node (o1055 P) .nil .nil) .nil) (.node (o799 P) .nil .nil)) (.node (o415 P) (.node (o671 P) .nil .nil) (.node (o927 P) .nil .nil))) (.node (o223 P) (.node (o351 P) (.node (o607 P) (.node (o1119 P) .nil .nil) .nil) (.node (o863 P) .nil .nil)) (.node (o479 P) (.node (o735 P) .nil .nil) (.node (o991 P) .nil .nil))))) (.node (o47 P) (.node (o79 P) (.node (o143 P) (.node (o271 P) (.node (o527 P) (.node (o1039 P) .nil .nil) .nil) (.node (o783 P) .nil .nil)) (.node (o399 P) (.node (o655 P) .nil .nil) (.node (o911 P) .nil .nil))) (.node (o207 P) (.node (o335 P) (.node (o591 P) (.node (o1103 P) .nil .nil) .nil) (.node (o847 P) .nil .nil)) (.node (o463 P) (.node (o719 P) .nil .nil) (.node (o975 P) .nil .nil)))) (.node (o111 P) (.node (o175 P) (.node (o303 P) (.node (o559 P) (.node (o1071 P) .nil .nil) .nil) (.node (o815 P) .nil .nil)) (.node (o431 P) (.node (o687 P) .nil .nil) (.node (o943 P) .nil .nil))) (.node (o239 P) (.node (o367 P) (.node (o623 P) (.node (o1135 P) .nil .nil) .nil) (.node (o879 P) .nil .nil)) (.node (o495 P) (.node (o751 P) .nil .nil) (.node (o1007 P) .nil .nil)))))) (.node (o23 P) (.node (o39 P) (.node (o71 P) (.node (o135 P) (.node (o263 P) (.node (o519 P) (.node (o1031 P) .nil .nil) .nil) (.node (o775 P) .nil .nil)) (.node (o391 P) (.node (o647 P) .nil .nil) (.node (o903 P) .nil .nil))) (.node (o199 P) (.node (o327 P) (.node (o583 P) (.node (o1095 P) .nil .nil) .nil) (.node (o839 P) .nil .nil)) (.node (o455 P) (.node (o711 P) .nil .nil) (.node (o967 P) .nil .nil)))) (.node (o103 P) (.node (o167 P) (.node (o295 P) (.node (o551 P) (.node (o1063 P) .nil .nil) .nil) (.node (o807 P) .nil .nil)) (.node (o423 P) (.node (o679 P) .nil .nil) (.node (o935 P) .nil .nil))) (.node (o231 P) (.node (o359 P) (.node (o615 P) (.node (o1127 P) .nil .nil) .nil) (.node (o871 P) .nil .nil)) (.node (o487 P) (.node (o743 P) .nil .nil) (.node (o999 P) .nil .nil))))) (.node (o55 P) (.node (o87 P) (.node (o151 P) (.node (o279 P) (.node (o535 P) (.node (o1047 P) .nil .nil) .nil) (.node (o791 P) .nil .nil)) (.node (o407 P) (.node (o663 P) .nil .nil) (.node (o919 P) .nil .nil))) (.node (o215 P) (.node (o343 P) (.node (o599 P) (.node (o1111 P) .nil .nil) .nil) (.node (o855 P) .nil .nil)) (.node (o471 P) (.node (o727 P) .nil .nil) (.node (o983 P) .nil .nil)))) (.node (o119 P) (.node (o183 P) (.node (o311 P) (.node (o567 P) (.node (o1079 P) .nil .nil) .nil) (.node (o823 P) .nil .nil)) (.node (o439 P) (.node (o695 P) .nil .nil) (.node (o951 P) .nil .nil))) (.node (o247 P) (.node (o375 P) (.node (o631 P) (.node (o1143 P) .nil .nil) .nil) (.node (o887 P) .nil .nil)) (.node (o503 P) (.node (o759 P) .nil .nil) (.node (o1015 P) .nil .nil))))))) (.node (o11 P) (.node (o19 P) (.node (o35 P) (.node (o67 P) (.node (o131 P) (.node (o259 P) (.node (o515 P) (.node (o1027 P) .nil .nil) .nil) (.node (o771 P) .nil .nil)) (.node (o387 P) (.node (o643 P) .nil .nil) (.node (o899 P) .nil .nil))) (.node (o195 P) (.node (o323 P) (.node (o579 P) (.node (o1091 P) .nil .nil) .nil) (.node (o835 P) .nil .nil)) (.node (o451 P) (.node (o707 P) .nil .nil) (.node (o963 P) .nil .nil)))) (.node (o99 P) (.node (o163 P) (.node (o291 P) (.node (o547 P) (.node (o1059 P) .nil .nil) .nil) (.node (o803 P) .nil .nil)) (.node (o419 P) (.node (o675 P) .nil .nil) (.node (o931 P) .nil .nil))) (.node (o227 P) (.node (o355 P) (.node (o611 P) (.node (o1123 P) .nil .nil) .nil) (.node (o867 P) .nil .nil)) (.node (o483 P) (.node (o739 P) .nil .nil) (.node (o995 P) .nil .nil))))) (.node (o51 P) (.node (o83 P) (.node (o147 P) (.node (o275 P) (.node (o531 P) (.node (o1043 P) .nil .nil) .nil) (.node (o787 P) .nil .nil)) (.node (o403 P) (.node (o659 P) .nil .nil) (.node (o915 P) .nil .nil))) (.node (o211 P) (.node (o339 P) (.node (o595 P) (.node (o1107 P) .nil .nil) .nil) (.node (o851 P) .nil .nil)) (.node (o467 P) (.node (o723 P) .nil .nil) (.node (o979 P) .nil .nil)))) (.node (o115 P) (.node (o179 P) (.node (o307 P) (.node (o563 P) (.node (o1075 P) .nil .nil) .nil) (.node (o819 P) .nil .nil)) (.node (o435 P) (.node (o691 P) .nil .nil) (.node (o947 P) .nil .nil))) (.node (o243 P) (.node (o371 P) (.node (o627 P) (.node (o1139 P) .nil .nil) .nil) (.node (o883 P) .nil .nil)) (.node (o499 P) (.node (o755 P) .nil .nil) (.node (o1011 P) .nil .nil)))))) (.node (o27 P) (.node (o43 P) (.node (o75 P) (.node (o139 P) (.node (o267 P) (.node (o523 P) (.node (o1035 P) .nil .nil) .nil) (.node (o779 P) .nil .nil)) (.node (o395 P) (.node (o651 P) .nil .nil) (.node (o907 P) .nil .nil))) (.node (o203 P) (.node (o331 P) (.node (o587 P) (.node (o1099 P) .nil .nil) .nil) (.node (o843 P) .nil .nil)) (.node (o459 P) (.node (o715 P) .nil .nil) (.node (o971 P) .nil .nil)))) (.node (o107 P) (.node (o171 P) (.node (o299 P) (.node (o555 P) (.node (o1067 P) .nil .nil) .nil) (.node (o811 P) .nil .nil)) (.node (o427 P) (.node (o683 P) .nil .nil) (.node (o939 P) .nil .nil))) (.node (o235 P) (.node (o363 P) (.node (o619 P) (.node (o1131 P) .nil .nil) .nil) (.node (o875 P) .nil .nil)) (.node (o491 P) (.node (o747 P) .nil .nil) (.node (o1003 P) .nil .nil))))) (.node (o59 P) (.node (o91 P) (.node (o155 P) (.node (o283 P) (.node (o539 P) (.node (o1051 P) .nil .nil) .nil) (.node (o795 P) .nil .nil)) (.node (o411 P) (.node (o667 P) .nil .nil) (.node (o923 P) .nil .nil))) (.node (o219 P) (.node (o347 P) (.node (o603 P) (.node (o1115 P) .nil .nil) .nil) (.node (o859 P) .nil .nil)) (.node (o475 P) (.node (o731 P) .nil .nil) (.node (o987 P) .nil .nil)))) (.node (o123 P) (.node (o187 P) (.node (o315 P) (.node (o571 P) (.node (o1083 P) .nil .nil) .nil) (.node (o827 P) .nil .nil)) (.node (o443 P) (.node (o699 P) .nil .nil) (.node (o955 P) .nil .nil))) (.node (o251 P) (.node (o379 P) (.node (o635 P) .nil .nil) (.node (o891 P) .nil .nil)) (.node (o507 P) (.node (o763 P) .nil .nil) (.node (o1019 P) .nil .nil)))))))) (.node (boot_o_5 P) (.node (boot_o_9 P) (.node (o17 P) (.node (o33 P) (.node (o65 P) (.node (o129 P) (.node (o257 P) (.node (o513 P) (.node (o1025 P) .nil .nil) .nil) (.node (o769 P) .nil .nil)) (.node (o385 P) (.node (o641 P) .nil .nil) (.node (o897 P) .nil .nil))) (.node (o193 P) (.node (o321 P) (.node (o577 P) (.node (o1089 P) .nil .nil) .nil) (.node (o833 P) .nil .nil)) (.node (o449 P) (.node (o705 P) .nil .nil) (.node (o961 P) .nil .nil)))) (.node (o97 P) (.node (o161 P) (.node (o289 P) (.node (o545 P) (.node (o1057 P) .nil .nil) .nil) (.node (o801 P) .nil .nil)) (.node (o417 P) (.node (o673 P) .nil .nil) (.node (o929 P) .nil .nil))) (.node (o225 P) (.node (o353 P) (.node (o609 P) (.node (o1121 P) .nil .nil) .nil) (.node (o865 P) .nil .nil)) (.node (o481 P) (.node (o737 P) .nil .nil) (.node (o993 P) .nil .nil))))) (.node (o49 P) (.node (o81 P) (.node (o145 P) (.node (o273 P) (.node (o529 P) (.node (o1041 P) .nil .nil) .nil) (.node (o785 P) .nil .nil)) (.node (o401 P) (.node (o657 P) .nil .nil) (.node (o913 P) .nil .nil))) (.node (o209 P) (.node (o337 P) (.node (o593 P) (.node (o1105 P) .nil .nil) .nil) (.node (o849 P) .nil .nil)) (.node (o465 P) (.node (o721 P) .nil .nil) (.node (o977 P) .nil .nil)))) (.node (o113 P) (.node (o177 P) (.node (o305 P) (.node (o561 P) (.node (o1073 P) .nil .nil) .nil) (.node (o817 P) .nil .nil)) (.node (o433 P) (.node (o689 P) .nil .nil) (.node (o945 P) .nil .nil))) (.node (o241 P) (.node (o369 P) (.node (o625 P) (.node (o1137 P) .nil .nil) .nil) (.node (o881 P) .nil .nil)) (.node (o497 P) (.node (o753 P) .nil .nil) (.node (o1009 P) .nil .nil)))))) (.node (o25 P) (.node (o41 P) (.node (o73 P) (.node (o137 P) (.node (o265 P) (.node (o521 P) (.node (o1033 P) .nil .nil) .nil) (.node (o777 P) .nil .nil)) (.node (o393 P) (.node (o649 P) .nil .nil) (.node (o905 P) .nil .nil))) (.node (o201 P) (.node (o329 P) (.node (o585 P) (.node (o1097 P) .nil .nil) .nil) (.node (o841 P) .nil .nil)) (.node (o457 P) (.node (o713 P) .nil .nil) (.node (o969 P) .nil .nil)))) (.node (o105 P) (.node (o169 P) (.node (o297 P) (.node (o553 P) (.node (o1065 P) .nil .nil) .nil) (.node (o809 P) .nil .nil)) (.node (o425 P) (.node (o681 P) .nil .nil) (.node (o937 P) .nil .nil))) (.node (o233 P) (.node (o361 P) (.node (o617 P) (.node (o1129 P) .nil .nil) .nil) (.node (o873 P) .nil .nil)) (.node (o489 P) (.node (o745 P) .nil .nil) (.node (o1001 P) .nil .nil))))) (.node (o57 P) (.node (o89 P) (.node (o153 P) (.node (o281 P) (.node (o537 P) (.node (o1049 P) .nil .nil) .nil) (.node (o793 P) .nil .nil)) (.node (o409 P) (.node (o665 P) .nil .nil) (.node (o921 P) .nil .nil))) (.node (o217 P) (.node (o345 P) (.node (o601 P) (.node (o1113 P) .nil .nil) .nil) (.node (o857 P) .nil .nil)) (.node (o473 P) (.node (o729 P) .nil .nil) (.node (o985 P) .nil .nil)))) (.node (o121 P) (.node (o185 P) (.node (o313 P) (.node (o569 P) (.node (o1081 P) .nil .nil) .nil) (.node (o825 P) .nil .nil)) (.node (o441 P) (.node (o697 P) .nil .nil) (.node (o953 P) .nil .nil))) (.node (o249 P) (.node (o377 P) (.node (o633 P) .nil .nil) (.node (o889 P) .nil .nil)) (.node (o505 P) (.node (o761 P) .nil .nil) (.node (o1017 P) .nil .nil))))))) (.node (o13 P) (.node (o21 P) (.node (o37 P) (.node (o69 P) (.node (o133 P) (.node (o261 P) (.node (o517 P) (.node (o1029 P) .nil .nil) .nil) (.node (o773 P) .nil .nil)) (.node (o389 P) (.node (o645 P) .nil .nil) (.node (o901 P) .nil .nil))) (.node (o197 P) (.node (o325 P) (.node (o581 P) (.node (o1093 P) .nil .nil) .nil) (.node (o837 P) .nil .nil)) (.node (o453 P) (.node (o709 P) .nil .nil) (.node (o965 P) .nil .nil)))) (.node (o101 P) (.node (o165 P) (.node (o293 P) (.node (o549 P) (.node (o1061 P) .nil .nil) .nil) (.node (o805 P) .nil .nil)) (.node (o421 P) (.node (o677 P) .nil .nil) (.node (o933 P) .nil .nil))) (.node (o229 P) (.node (o357 P) (.node (o613 P) (.node (o1125 P) .nil .nil) .nil) (.node (o869 P) .nil .nil)) (.node (o485 P) (.node (o741 P) .nil .nil) (.node (o997 P) .nil .nil))))) (.node (o53 P) (.node (o85 P) (.node (o149 P) (.node (o277 P) (.node (o533 P) (.node (o1045 P) .nil .nil) .nil) (.node (o789 P) .nil .nil)) (.node (o405 P) (.node (o661 P) .nil .nil) (.node (o917 P) .nil .nil))) (.node (o213 P) (.node (o341 P) (.node (o597 P) (.node (o1109 P) .nil .nil) .nil) (.node (o853 P) .nil .nil)) (.node (o469 P) (.node (o725 P) .nil .nil) (.node (o981 P) .nil .nil)))) (.node (o117 P) (.node (o181 P) (.node (o309 P) (.node (o565 P) (.node (o1077 P) .nil .nil) .nil) (.node (o821 P) .nil .nil)) (.node (o437 P) (.node (o693 P) .nil .nil) (.node (o949 P) .nil .nil))) (.node (o245 P) (.node (o373 P) (.node (o629 P) (.node (o1141 P) .nil .nil) .nil) (.node (o885 P) .nil .nil)) (.node (o501 P) (.node (o757 P) .nil .nil) (.node (o1013 P) .nil .nil)))))) (.node (o29 P) (.node (o45 P) (.node (o77 P) (.node (o141 P) (.node (o269 P) (.node (o525 P) (.node (o1037 P) .nil .nil) .nil) (.node (o781 P) .nil .nil)) (.node (o397 P) (.node (o653 P) .nil .nil) (.node (o909 P) .nil .nil))) (.node (o205 P) (.node (o333 P) (.node (o589 P) (.node (o1101 P) .nil .nil) .nil) (.node (o845 P) .nil .nil)) (.node (o461 P) (.node (o717 P) .nil .nil) (.node (o973 P) .nil .nil)))) (.node (o109 P) (.node (o173 P) (.node (o301 P) (.node (o557 P) (.node (o1069 P) .nil .nil) .nil) (.node (o813 P) .nil .nil)) (.node (o429 P) (.node (o685 P) .nil .nil) (.node (o941 P) .nil .nil))) (.node (o237 P) (.node (o365 P) (.node (o621 P) (.node (o1133 P) .nil .nil) .nil) (.node (o877 P) .nil .nil)) (.node (o493 P) (.node (o749 P) .nil .nil) (.node (o1005 P) .nil .nil))))) (.node (o61 P) (.node (o93 P) (.node (o157 P) (.node (o285 P) (.node (o541 P) (.node (o1053 P) .nil .nil) .nil) (.node (o797 P) .nil .nil)) (.node (o413 P) (.node (o669 P) .nil .nil) (.node (o925 P) .nil .nil))) (.node (o221 P) (.node (o349 P) (.node (o605 P) (.node (o1117 P) .nil .nil) .nil) (.node (o861 P) .nil .nil)) (.node (o477 P) (.node (o733 P) .nil .nil) (.node (o989 P) .nil .nil)))) (.node (o125 P) (.node (o189 P) (.node (o317 P) (.node (o573 P) (.node (o1085 P) .nil .nil) .nil) (.node (o829 P) .nil .nil)) (.node (o445 P) (.node (o701 P) .nil .nil) (.node (o957 P) .nil .nil))) (.node (o253 P) (.node (o381 P) (.node (o637 P) .nil .nil) (.node (o893 P) .nil .nil)) (.node (o509 P) (.node (o765 P) .nil .nil) (.node (o1021 P) .nil .nil))))))))) (.node (o2 P) (.node (boot_o_4 P) (.node (boot_o_8 P) (.node (o16 P) (.node (o32 P) (.node (o64 P) (.node (o128 P) (.node (o256 P) (.node (o512 P) (.node (o1024 P) .nil .nil) .nil) (.node (o768 P) .nil .nil)) (.node (o384 P) (.node (o640 P) .nil .nil) (.node (o896 P) .nil .nil))) (.node (o192 P) (.node (o320 P) (.node (o576 P) (.node (o1088 P) .nil .nil) .nil) (.node (o832 P) .nil .nil)) (.node (o448 P) (.node (o704 P) .nil .nil) (.node (o960 P) .nil .nil)))) (.node (o96 P) (.node (o160 P) (.node (o288 P) (.node (o544 P) (.node (o1056 P) .nil .nil) .nil) (.node (o800 P) .nil .nil)) (.node (o416 P) (.node (o672 P) .nil .nil) (.node (o928 P) .nil .nil))) (.node (o224 P) (.node (o352 P) (.node (o608 P) (.node (o1120 P) .nil .nil) .nil) (.node (o864 P) .nil .nil)) (.node (o480 P) (.node (o736 P) .nil .nil) (.node (o992 P) .nil .nil))))) (.node (o48 P) (.node (o80 P) (.node (o144 P) (.node (o272 P) (.node (o528 P) (.node (o1040 P) .nil .nil) .nil) (.node (o784 P) .nil .nil)) (.node (o400 P) (.node (o656 P) .nil .nil) (.node (o912 P) .nil .nil))) (.node (o208 P) (.node (o336 P) (.node (o592 P) (.node (o1104 P) .nil .nil) .nil) (.node (o848 P) .nil .nil)) (.node (o464 P) (.node (o720 P) .nil .nil) (.node (o976 P) .nil .nil)))) (.node (o112 P) (.node (o176 P) (.node (o304 P) (.node (o560 P) (.node (o1072 P) .nil .nil) .nil) (.node (o816 P) .nil .nil)) (.node (o432 P) (.node (o688 P) .nil .nil) (.node (o944 P) .nil .nil))) (.node (o240 P) (.node (o368 P) (.node (o624 P) (.node (o1136 P) .nil .nil) .nil) (.node (o880 P) .nil .nil)) (.node (o496 P) (.node (o752 P) .nil .nil) (.node (o1008 P) .nil .nil)))))) (.node (o24 P) (.node (o40 P) (.node (o72 P) (.node (o136 P) (.node (o264 P) (.node (o520 P) (.node (o1032 P) .nil .nil) .nil) (.node (o776 P) .nil .nil)) (.node (o392 P) (.node (o648 P) .nil .nil) (.node (o904 P) .nil .nil))) (.node (o200 P) (.node (o328 P) (.node (o584 P) (.node (o1096 P) .nil .nil) .nil) (.node (o840 P) .nil .nil)) (.node (o456 P) (.node (o712 P) .nil .nil) (.node (o968 P) .nil .nil)))) (.node (o104 P) (.node (o168 P) (.node (o296 P) (.node (o552 P) (.node (o1064 P) .nil .nil) .nil) (.node (o808 P) .nil .nil)) (.node (o424 P) (.node (o680 P) .nil .nil) (.node (o936 P) .nil .nil))) (.node (o232 P) (.node (o360 P) (.node (o616 P) (.node (o1128 P) .nil .nil) .nil) (.node (o872 P) .nil .nil)) (.node (o488 P) (.node (o744 P) .nil .nil) (.node (o1000 P) .nil .nil))))) (.node (o56 P) (.node (o88 P) (.node (o152 P) (.node (o280 P) (.node (o536 P) (.node (o1048 P) .nil .nil) .nil) (.node (o792 P) .nil .nil)) (.node (o408 P) (.node (o664 P) .nil .nil) (.node (o920 P) .nil .nil))) (.node (o216 P) (.node (o344 P) (.node (o600 P) (.node (o1112 P) .nil .nil) .nil) (.node (o856 P) .nil .nil)) (.node (o472 P) (.node (o728 P) .nil .nil) (.node (o984 P) .nil .nil)))) (.node (o120 P) (.node (o184 P) (.node (o312 P) (.node (o568 P) (.node (o1080 P) .nil .nil) .nil) (.node (o824 P) .nil .nil)) (.node (o440 P) (.node (o696 P) .nil .nil) (.node (o952 P) .nil .nil))) (.node (o248 P) (.node (o376 P) (.node (o632 P) .nil .nil) (.node (o888 P) .nil .nil)) (.node (o504 P) (.node (o760 P) .nil .nil) (.node (o1016 P) .nil .nil))))))) (.node (o12 P) (.node (o20 P) (.node (o36 P) (.node (o68 P) (.node (o132 P) (.node (o260 P) (.node (o516 P) (.node (o1028 P) .nil .nil) .nil) (.node (o772 P) .nil .nil)) (.node (o388 P) (.node (o644 P) .nil .nil) (.node (o900 P) .nil .nil))) (.node (o196 P) (.node (o324 P) (.node (o580 P) (.node (o1092 P) .nil .nil) .nil) (.node (o836 P) .nil .nil)) (.node (o452 P) (.node (o708 P) .nil .nil) (.node (o964 P) .nil .nil)))) (.node (o100 P) (.node (o164 P) (.node (o292 P) (.node (o548 P) (.node (o1060 P) .nil .nil) .nil) (.node (o804 P) .nil .nil)) (.node (o420 P) (.node (o676 P) .nil .nil) (.node (o932 P) .nil .nil))) (.node (o228 P) (.node (o356 P) (.node (o612 P) (.node (o1124 P) .nil .nil) .nil) (.node (o868 P) .nil .nil)) (.node (o484 P) (.node (o740 P) .nil .nil) (.node (o996 P) .nil .nil))))) (.node (o52 P) (.node (o84 P) (.node (o148 P) (.node (o276 P) (.node (o532 P) (.node (o1044 P) .nil .nil) .nil) (.node (o788 P) .nil .nil)) (.node (o404 P) (.node (o660 P) .nil .nil) (.node (o916 P) .nil .nil))) (.node (o212 P) (.node (o340 P) (.node (o596 P) (.node (o1108 P) .nil .nil) .nil) (.node (o852 P) .nil .nil)) (.node (o468 P) (.node (o724 P) .nil .nil) (.node (o980 P) .nil .nil)))) (.node (o116 P) (.node (o180 P) (.node (o308 P) (.node (o564 P) (.node (o1076 P) .nil .nil) .nil) (.node (o820 P) .nil .nil)) (.node (o436 P) (.node (o692 P) .nil .nil) (.node (o948 P) .nil .nil))) (.node (o244 P) (.node (o372 P) (.node (o628 P) (.node (o1140 P) .nil .nil) .nil) (.node (o884 P) .nil .nil)) (.node (o500 P) (.node (o756 P) .nil .nil) (.node (o1012 P) .nil .nil)))))) (.node (o28 P) (.node (o44 P) (.node (o76 P) (.node (o140 P) (.node (o268 P) (.node (o524 P) (.node (o1036 P) .nil .nil) .nil) (.node (o780 P) .nil .nil)) (.node (o396 P) (.node (o652 P) .nil .nil) (.node (o908 P) .nil .nil))) (.node (o204 P) (.node (o332 P) (.node (o588 P) (.node (o1100 P) .nil .nil) .nil) (.node (o844 P) .nil .nil)) (.node (o460 P) (.node (o716 P) .nil .nil) (.node (o972 P) .nil .nil)))) (.node (o108 P) (.node (o172 P) (.node (o300 P) (.node (o556 P) (.node (o1068 P) .nil .nil) .nil) (.node (o812 P) .nil .nil)) (.node (o428 P) (.node (o684 P) .nil .nil) (.node (o940 P) .nil .nil))) (.node (o236 P) (.node (o364 P) (.node (o620 P) (.node (o1132 P) .nil .nil) .nil) (.node (o876 P) .nil .nil)) (.node (o492 P) (.node (o748 P) .nil .nil) (.node (o1004 P) .nil .nil))))) (.node (o60 P) (.node (o92 P) (.node (o156 P) (.node (o284 P) (.node (o540 P) (.node (o1052 P) .nil .nil) .nil) (.node (o796 P) .nil .nil)) (.node (o412 P) (.node (o668 P) .nil .nil) (.node (o924 P) .nil .nil))) (.node (o220 P) (.node (o348 P) (.node (o604 P) (.node (o1116 P) .nil .nil) .nil) (.node (o860 P) .nil .nil)) (.node (o476 P) (.node (o732 P) .nil .nil) (.node (o988 P) .nil .nil)))) (.node (o124 P) (.node (o188 P) (.node (o316 P) (.node (o572 P) (.node (o1084 P) .nil .nil) .nil) (.node (o828 P) .nil .nil)) (.node (o444 P) (.node (o700 P) .nil .nil) (.node (o956 P) .nil .nil))) (.node (o252 P) (.node (o380 P) (.node (o636 P) .nil .nil) (.node (o892 P) .nil .nil)) (.node (o508 P) (.node (o764 P) .nil .nil) (.node (o1020 P) .nil .nil)))))))) (.node (boot_o_6 P) (.node (boot_o_10 P) (.node (o18 P) (.node (o34 P) (.node (o66 P) (.node (o130 P) (.node (o258 P) (.node (o514 P) (.node (o1026 P) .nil .nil) .nil) (.node (o770 P) .nil .nil)) (.node (o386 P) (.node (o642 P) .nil .nil) (.node (o898 P) .nil .nil))) (.node (o194 P) (.node (o322 P) (.node (o578 P) (.node (o1090 P) .nil .nil) .nil) (.node (o834 P) .nil .nil)) (.node (o450 P) (.node (o706 P) .nil .nil) (.node (o962 P) .nil .nil)))) (.node (o98 P) (.node (o162 P) (.node (o290 P) (.node (o546 P) (.node (o1058 P) .nil .nil) .nil) (.node (o802 P) .nil .nil)) (.node (o418 P) (.node (o674 P) .nil .nil) (.node (o930 P) .nil .nil))) (.node (o226 P) (.node (o354 P) (.node (o610 P) (.node (o1122 P) .nil .nil) .nil) (.node (o866 P) .nil .nil)) (.node (o482 P) (.node (o738 P) .nil .nil) (.node (o994 P) .nil .nil))))) (.node (o50 P) (.node (o82 P) (.node (o146 P) (.node (o274 P) (.node (o530 P) (.node (o1042 P) .nil .nil) .nil) (.node (o786 P) .nil .nil)) (.node (o402 P) (.node (o658 P) .nil .nil) (.node (o914 P) .nil .nil))) (.node (o210 P) (.node (o338 P) (.node (o594 P) (.node (o1106 P) .nil .nil) .nil) (.node (o850 P) .nil .nil)) (.node (o466 P) (.node (o722 P) .nil .nil) (.node (o978 P) .nil .nil)))) (.node (o114 P) (.node (o178 P) (.node (o306 P) (.node (o562 P) (.node (o1074 P) .nil .nil) .nil) (.node (o818 P) .nil .nil)) (.node (o434 P) (.node (o690 P) .nil .nil) (.node (o946 P) .nil .nil))) (.node (o242 P) (.node (o370 P) (.node (o626 P) (.node (o1138 P) .nil .nil) .nil) (.node (o882 P) .nil .nil)) (.node (o498 P) (.node (o754 P) .nil .nil) (.node (o1010 P) .nil .nil)))))) (.node (o26 P) (.node (o42 P) (.node (o74 P) (.node (o138 P) (.node (o266 P) (.node (o522 P) (.node (o1034 P) .nil .nil) .nil) (.node (o778 P) .nil .nil)) (.node (o394 P) (.node (o650 P) .nil .nil) (.node (o906 P) .nil .nil))) (.node (o202 P) (.node (o330 P) (.node (o586 P) (.node (o1098 P) .nil .nil) .nil) (.node (o842 P) .nil .nil)) (.node (o458 P) (.node (o714 P) .nil .nil) (.node (o970 P) .nil .nil)))) (.node (o106 P) (.node (o170 P) (.node (o298 P) (.node (o554 P) (.node (o1066 P) .nil .nil) .nil) (.node (o810 P) .nil .nil)) (.node (o426 P) (.node (o682 P) .nil .nil) (.node (o938 P) .nil .nil))) (.node (o234 P) (.node (o362 P) (.node (o618 P) (.node (o1130 P) .nil .nil) .nil) (.node (o874 P) .nil .nil)) (.node (o490 P) (.node (o746 P) .nil .nil) (.node (o1002 P) .nil .nil))))) (.node (o58 P) (.node (o90 P) (.node (o154 P) (.node (o282 P) (.node (o538 P) (.node (o1050 P) .nil .nil) .nil) (.node (o794 P) .nil .nil)) (.node (o410 P) (.node (o666 P) .nil .nil) (.node (o922 P) .nil .nil))) (.node (o218 P) (.node (o346 P) (.node (o602 P) (.node (o1114 P) .nil .nil) .nil) (.node (o858 P) .nil .nil)) (.node (o474 P) (.node (o730 P) .nil .nil) (.node (o986 P) .nil .nil)))) (.node (o122 P) (.node (o186 P) (.node (o314 P) (.node (o570 P) (.node (o1082 P) .nil .nil) .nil) (.node (o826 P) .nil .nil)) (.node (o442 P) (.node (o698 P) .nil .nil) (.node (o954 P) .nil .nil))) (.node (o250 P) (.node (o378 P) (.node (o634 P) .nil .nil) (.node (o890 P) .nil .nil)) (.node (o506 P) (.node (o762 P) .nil .nil) (.node (o1018 P) .nil .nil))))))) (.node (o14 P) (.node (o22 P) (.node (o38 P) (.node (o70 P) (.node (o134 P) (.node (o262 P) (.node (o518 P) (.node (o1030 P) .nil .nil) .nil) (.node (o774 P) .nil .nil)) (.node (o390 P) (.node (o646 P) .nil .nil) (.node (o902 P) .nil .nil))) (.node (o198 P) (.node (o326 P) (.node (o582 P) (.node (o1094 P) .nil .nil) .nil) (.node (o838 P) .nil .nil)) (.node (o454 P) (.node (o710 P) .nil .nil) (.node (o966 P) .nil .nil)))) (.node (o102 P) (.node (o166 P) (.node (o294 P) (.node (o550 P) (.node (o1062 P) .nil .nil) .nil) (.node (o806 P) .nil .nil)) (.node (o422 P) (.node (o678 P) .nil .nil) (.node (o934 P) .nil .nil))) (.node (o230 P) (.node (o358 P) (.node (o614 P) (.node (o1126 P) .nil .nil) .nil) (.node (o870 P) .nil .nil)) (.node (o486 P) (.node (o742 P) .nil .nil) (.node (o998 P) .nil .nil))))) (.node (o54 P) (.node (o86 P) (.node (o150 P) (.node (o278 P) (.node (o534 P) (.node (o1046 P) .nil .nil) .nil) (.node (o790 P) .nil .nil)) (.node (o406 P) (.node (o662 P) .nil .nil) (.node (o918 P) .nil .nil))) (.node (o214 P) (.node (o342 P) (.node (o598 P) (.node (o1110 P) .nil .nil) .nil) (.node (o854 P) .nil .nil)) (.node (o470 P) (.node (o726 P) .nil .nil) (.node (o982 P) .nil .nil)))) (.node (o118 P) (.node (o182 P) (.node (o310 P) (.node (o566 P) (.node (o1078 P) .nil .nil) .nil) (.node (o822 P) .nil .nil)) (.node (o438 P) (.node (o694 P) .nil .nil) (.node (o950 P) .nil .nil))) (.node (o246 P) (.node (o374 P) (.node (o630 P) (.node (o1142 P) .nil .nil) .nil) (.node (o886 P) .nil .nil)) (.node (o502 P) (.node (o758 P) .nil .nil) (.node (o1014 P) .nil .nil)))))) (.node (o30 P) (.node (o46 P) (.node (o78 P) (.node (o142 P) (.node (o270 P) (.node (o526 P) (.node (o1038 P) .nil .nil) .nil) (.node (o782 P) .nil .nil)) (.node (o398 P) (.node (o654 P) .nil .nil) (.node (o910 P) .nil .nil))) (.node (o206 P) (.node (o334 P) (.node (o590 P) (.node (o1102 P) .nil .nil) .nil) (.node (o846 P) .nil .nil)) (.node (o462 P) (.node (o718 P) .nil .nil) (.node (o974 P) .nil .nil)))) (.node (o110 P) (.node (o174 P) (.node (o302 P) (.node (o558 P) (.node (o1070 P) .nil .nil) .nil) (.node (o814 P) .nil .nil)) (.node (o430 P) (.node (o686 P) .nil .nil) (.node (o942 P) .nil .nil))) (.node (o238 P) (.node (o366 P) (.node (o622 P) (.node (o1134 P) .nil .nil) .nil) (.node (o878 P) .nil .nil)) (.node (o494 P) (.node (o750 P) .nil .nil) (.node (o1006 P) .nil .nil))))) (.node (o62 P) (.node (o94 P) (.node (o158 P) (.node (o286 P) (.node (o542 P) (.node (o1054 P) .nil .nil) .nil) (.node (o798 P) .nil .nil)) (.node (o414 P) (.node (o670 P) .nil .nil) (.node (o926 P) .nil .nil))) (.node (o222 P) (.node (o350 P) (.node (o606 P) (.node (o1118 P) .nil .nil) .nil) (.node (o862 P) .nil .nil)) (.node (o478 P) (.node (o734 P) .nil .nil) (.node (o990 P) .nil .nil)))) (.node (o126 P) (.node (o190 P) (.node (o318 P) (.node (o574 P) (.node (o1086 P) .nil .nil) .nil) (.node (o830 P) .nil .nil)) (.node (o446 P) (.node (o702 P) .nil .nil) (.node (o958 P) .nil .nil))) (.node (o254 P) (.node (o382 P) (.node (o638 P) .nil .nil) (.node (o894 P) .nil .nil)) (.node (o510 P) (.node (o766 P) .nil .nil) (.node (o1022 P) .nil .nil)))))))))
noncomputable def trb (P : Params) : BT := .node (boot_o_0 P) (.node (boot_o_1 P) (.node (boot_o_3 P) (.node (boot_o_7 P) .nil .nil) (.node (o11 P) .nil .nil)) (.node (boot_o_5 P) (.node (boot_o_9 P) .nil .nil) (.node (o13 P) .nil .nil))) (.node (boot_o_2 P) (.node (boot_o_4 P) (.node (boot_o_8 P) .nil .nil) (.node (tb []) .nil .nil)) (.node (boot_o_6 P) (.node (boot_o_10 P) .nil .nil) (.node (o14 P) .nil .nil)))
noncomputable section
noncomputable def ev : Env := { scope := pw.main.scope, locals := mainNs, globals := mainNs, cells := [], code := .ref 13, frame := some 14 }
noncomputable abbrev p0 : Pos := ⟨0, 0, 0, 0⟩
noncomputable abbrev p1 : Pos := ⟨666, 0, 678, 68⟩
noncomputable abbrev bd : List Stmt := behindTheImports pw
noncomputable abbrev cE : Code := .body bd ev
end
noncomputable def c38x3 (P : Params) : Obj := ⟨.type "dict", none, .dict #[e P "__name__" 165 (.str "termcore.charsets" 336), e P "__doc__" 166 .none, e P "__package__" 167 .none, e P "__loader__" 168 (.builtin "__main__.__loader__#opaque"), e P "__spec__" 169 .none, e P "__annotations__" 170 (.ref 6), e P "__builtins__" 171 (.ref 4), e P "__file__" 173 (.str "/claim/cut.py" 172), e P "__cached__" 174 .none, e P "_wall" 193 (.ref 21), e P "BOLD" 197 (.int 1 196), e P "BLINK" 199 (.int 8 198), e P "INVERSE" 201 (.int 32 200), e P "HIDDEN" 203 (.int 64 202), e P "UNDER_SHIFT" 205 (.int 9 204), e P "UNDER_MASK" 208 (.int 3584 207), e P "NO_COLOUR" 211 (.int (-1) 210), e P "PLAIN" 214 (.ref 22), e P "FLAGS" 216 (.int 0 215), e P "BACK" 218 (.int 2 217), e P "BLANK" 220 (.int 32 219), e P "TermError" 249 (.ref 40), e P "BadSize" 265 (.ref 53), e P "clamp" 274 (.ref 62), e P "under_of" 281 (.ref 69), e P "erased_pen" 288 (.ref 76), e P "blank_cell" 295 (.ref 83), e P "is_blank" 302 (.ref 90), e P "EDIT_WEIGHTS" 309 (.ref 95), e P "EDIT_GUARDED" 311 (.int 4 310), e P "EDIT_UNDERLINED" 313 (.int 16 312), e P "EDIT_SUM" 315 (.int 65536 314), e P "edit_weight" 329 (.ref 102), e P "checksum_rectangle" 335 (.ref 107), e P "ASCII_SET" 339 (.bytes #[66] 338), e P "SUPPLEMENT_SET" 341 (.bytes #[37, 53] 340), e P "LATIN_SET" 343 (.bytes #[45, 65] 342), e P "LEFT_FIRST" 345 (.int 32 344), e P "LEFT_LAST" 347 (.int 127 346), e P "HIGH_BIT" 349 (.int 128 348), e P "charset_pairs" 357 (.ref 114), e P "charset_drawing" 364 (.ref 121), e P "charset_supplement" 373 (.ref 128), e P "charset_nationals" 393 (.ref 135), e P "charset_tables" 400 (.ref 142)] 45, #[]⟩
noncomputable def c38x12 (P : Params) : Obj := tb [.int 1 0, .int 0 0, .ref 20, .int 16 0, .int 0 0, .ref 28, .int 20 0, .int 0 0, .ref 49, .int 22 0, .int 0 0, .ref 61, .int 24 0, .int 0 0, .ref 68, .int 26 0, .int 0 0, .ref 75, .int 28 0, .int 0 0, .ref 82, .int 30 0, .int 0 0, .ref 89, .int 37 0, .int 0 0, .ref 101, .int 48 0, .int 0 0, .ref 106, .int 60 0, .int 0 0, .ref 113, .int 62 0, .int 0 0, .ref 120, .int 71 0, .int 0 0, .ref 127, .int 80 0, .int 0 0, .ref 134, .int 96 0, .int 0 0, .ref 141]
noncomputable def c42x3 (P : Params) : Obj := ⟨.type "dict", none, .dict #[e P "__name__" 165 (.str "termcore.cursor" 504), e P "__doc__" 166 .none, e P "__package__" 167 .none, e P "__loader__" 168 (.builtin "__main__.__loader__#opaque"), e P "__spec__" 169 .none, e P "__annotations__" 170 (.ref 6), e P "__builtins__" 171 (.ref 4), e P "__file__" 173 (.str "/claim/cut.py" 172), e P "__cached__" 174 .none, e P "_wall" 193 (.ref 21), e P "BOLD" 197 (.int 1 196), e P "BLINK" 199 (.int 8 198), e P "INVERSE" 201 (.int 32 200), e P "HIDDEN" 203 (.int 64 202), e P "UNDER_SHIFT" 205 (.int 9 204), e P "UNDER_MASK" 208 (.int 3584 207), e P "NO_COLOUR" 211 (.int (-1) 210), e P "PLAIN" 214 (.ref 22), e P "FLAGS" 216 (.int 0 215), e P "BACK" 218 (.int 2 217), e P "BLANK" 220 (.int 32 219), e P "TermError" 249 (.ref 40), e P "BadSize" 265 (.ref 53), e P "clamp" 274 (.ref 62), e P "under_of" 281 (.ref 69), e P "erased_pen" 288 (.ref 76), e P "blank_cell" 295 (.ref 83), e P "is_blank" 302 (.ref 90), e P "EDIT_WEIGHTS" 309 (.ref 95), e P "EDIT_GUARDED" 311 (.int 4 310), e P "EDIT_UNDERLINED" 313 (.int 16 312), e P "EDIT_SUM" 315 (.int 65536 314), e P "edit_weight" 329 (.ref 102), e P "checksum_rectangle" 335 (.ref 107), e P "ASCII_SET" 339 (.bytes #[66] 338), e P "SUPPLEMENT_SET" 341 (.bytes #[37, 53] 340), e P "LATIN_SET" 343 (.bytes #[45, 65] 342), e P "LEFT_FIRST" 345 (.int 32 344), e P "LEFT_LAST" 347 (.int 127 346), e P "HIGH_BIT" 349 (.int 128 348), e P "charset_pairs" 357 (.ref 114), e P "charset_drawing" 364 (.ref 121), e P "charset_supplement" 373 (.ref 128), e P "charset_nationals" 393 (.ref 135), e P "charset_tables" 400 (.ref 142), e P "Charsets" 503 (.ref 224), e P "TAB_WIDTH" 507 (.int 8 506), e P "Cursor" 571 (.ref 273)] 48, #[]⟩
noncomputable def c42x12 (P : Params) : Obj := tb [.int 1 0, .int 0 0, .ref 20, .int 16 0, .int 0 0, .ref 28, .int 20 0, .int 0 0, .ref 49, .int 22 0, .int 0 0, .ref 61, .int 24 0, .int 0 0, .ref 68, .int 26 0, .int 0 0, .ref 75, .int 28 0, .int 0 0, .ref 82, .int 30 0, .int 0 0, .ref 89, .int 37 0, .int 0 0, .ref 101, .int 48 0, .int 0 0, .ref 106, .int 60 0, .int 0 0, .ref 113, .int 62 0, .int 0 0, .ref 120, .int 71 0, .int 0 0, .ref 127, .int 80 0, .int 0 0, .ref 134, .int 96 0, .int 0 0, .ref 141, .int 105 0, .int 0 0, .ref 148, .int 142 0, .int 0 0, .ref 234]
noncomputable def c43x3 (P : Params) : Obj := ⟨.type "dict", none, .dict #[e P "__name__" 165 (.str "termcore.cursor" 504), e P "__doc__" 166 .none, e P "__package__" 167 .none, e P "__loader__" 168 (.builtin "__main__.__loader__#opaque"), e P "__spec__" 169 .none, e P "__annotations__" 170 (.ref 6), e P "__builtins__" 171 (.ref 4), e P "__file__" 173 (.str "/claim/cut.py" 172), e P "__cached__" 174 .none, e P "_wall" 193 (.ref 21), e P "BOLD" 197 (.int 1 196), e P "BLINK" 199 (.int 8 198), e P "INVERSE" 201 (.int 32 200), e P "HIDDEN" 203 (.int 64 202), e P "UNDER_SHIFT" 205 (.int 9 204), e P "UNDER_MASK" 208 (.int 3584 207), e P "NO_COLOUR" 211 (.int (-1) 210), e P "PLAIN" 214 (.ref 22), e P "FLAGS" 216 (.int 0 215), e P "BACK" 218 (.int 2 217), e P "BLANK" 220 (.int 32 219), e P "TermError" 249 (.ref 40), e P "BadSize" 265 (.ref 53), e P "clamp" 274 (.ref 62), e P "under_of" 281 (.ref 69), e P "erased_pen" 288 (.ref 76), e P "blank_cell" 295 (.ref 83), e P "is_blank" 302 (.ref 90), e P "EDIT_WEIGHTS" 309 (.ref 95), e P "EDIT_GUARDED" 311 (.int 4 310), e P "EDIT_UNDERLINED" 313 (.int 16 312), e P "EDIT_SUM" 315 (.int 65536 314), e P "edit_weight" 329 (.ref 102), e P "checksum_rectangle" 335 (.ref 107), e P "ASCII_SET" 339 (.bytes #[66] 338), e P "SUPPLEMENT_SET" 341 (.bytes #[37, 53] 340), e P "LATIN_SET" 343 (.bytes #[45, 65] 342), e P "LEFT_FIRST" 345 (.int 32 344), e P "LEFT_LAST" 347 (.int 127 346), e P "HIGH_BIT" 349 (.int 128 348), e P "charset_pairs" 357 (.ref 114), e P "charset_drawing" 364 (.ref 121), e P "charset_supplement" 373 (.ref 128), e P "charset_nationals" 393 (.ref 135), e P "charset_tables" 400 (.ref 142), e P "Charsets" 503 (.ref 224), e P "TAB_WIDTH" 507 (.int 8 506), e P "Cursor" 571 (.ref 273), e P "Margins" 732 (.ref 406)] 49, #[]⟩
noncomputable def c43x12 (P : Params) : Obj := tb [.int 1 0, .int 0 0, .ref 20, .int 16 0, .int 0 0, .ref 28, .int 20 0, .int 0 0, .ref 49, .int 22 0, .int 0 0, .ref 61, .int 24 0, .int 0 0, .ref 68, .int 26 0, .int 0 0, .ref 75, .int 28 0, .int 0 0, .ref 82, .int 30 0, .int 0 0, .ref 89, .int 37 0, .int 0 0, .ref 101, .int 48 0, .int 0 0, .ref 106, .int 60 0, .int 0 0, .ref 113, .int 62 0, .int 0 0, .ref 120, .int 71 0, .int 0 0, .ref 127, .int 80 0, .int 0 0, .ref 134, .int 96 0, .int 0 0, .ref 141, .int 105 0, .int 0 0, .ref 148, .int 142 0, .int 0 0, .ref 234, .int 165 0, .int 0 0, .ref 283]
noncomputable def c51x3 (P : Params) : Obj := ⟨.type "dict", none, .dict #[e P "__name__" 165 (.str "termcore.lines" 852), e P "__doc__" 166 .none, e P "__package__" 167 .none, e P "__loader__" 168 (.builtin "__main__.__loader__#opaque"), e P "__spec__" 169 .none, e P "__annotations__" 170 (.ref 6), e P "__builtins__" 171 (.ref 4), e P "__file__" 173 (.str "/claim/cut.py" 172), e P "__cached__" 174 .none, e P "_wall" 193 (.ref 21), e P "BOLD" 197 (.int 1 196), e P "BLINK" 199 (.int 8 198), e P "INVERSE" 201 (.int 32 200), e P "HIDDEN" 203 (.int 64 202), e P "UNDER_SHIFT" 205 (.int 9 204), e P "UNDER_MASK" 208 (.int 3584 207), e P "NO_COLOUR" 211 (.int (-1) 210), e P "PLAIN" 214 (.ref 22), e P "FLAGS" 216 (.int 0 215), e P "BACK" 218 (.int 2 217), e P "BLANK" 220 (.int 32 219), e P "TermError" 249 (.ref 40), e P "BadSize" 265 (.ref 53), e P "clamp" 274 (.ref 62), e P "under_of" 281 (.ref 69), e P "erased_pen" 288 (.ref 76), e P "blank_cell" 295 (.ref 83), e P "is_blank" 302 (.ref 90), e P "EDIT_WEIGHTS" 309 (.ref 95), e P "EDIT_GUARDED" 311 (.int 4 310), e P "EDIT_UNDERLINED" 313 (.int 16 312), e P "EDIT_SUM" 315 (.int 65536 314), e P "edit_weight" 329 (.ref 102), e P "checksum_rectangle" 335 (.ref 107), e P "ASCII_SET" 339 (.bytes #[66] 338), e P "SUPPLEMENT_SET" 341 (.bytes #[37, 53] 340), e P "LATIN_SET" 343 (.bytes #[45, 65] 342), e P "LEFT_FIRST" 345 (.int 32 344), e P "LEFT_LAST" 347 (.int 127 346), e P "HIGH_BIT" 349 (.int 128 348), e P "charset_pairs" 357 (.ref 114), e P "charset_drawing" 364 (.ref 121), e P "charset_supplement" 373 (.ref 128), e P "charset_nationals" 393 (.ref 135), e P "charset_tables" 400 (.ref 142), e P "Charsets" 503 (.ref 224), e P "TAB_WIDTH" 507 (.int 8 506), e P "Cursor" 571 (.ref 273), e P "Margins" 732 (.ref 406), e P "Tabs" 851 (.ref 505), e P "LINE_SIZES" 858 (.ref 510), e P "line_blanks" 866 (.ref 517), e P "right_half" 873 (.ref 524), e P "line_part" 881 (.ref 531), e P "line_slice" 891 (.ref 538), e P "line_codes" 901 (.ref 545)] 56, #[]⟩
noncomputable def c51x12 (P : Params) : Obj := tb [.int 1 0, .int 0 0, .ref 20, .int 16 0, .int 0 0, .ref 28, .int 20 0, .int 0 0, .ref 49, .int 22 0, .int 0 0, .ref 61, .int 24 0, .int 0 0, .ref 68, .int 26 0, .int 0 0, .ref 75, .int 28 0, .int 0 0, .ref 82, .int 30 0, .int 0 0, .ref 89, .int 37 0, .int 0 0, .ref 101, .int 48 0, .int 0 0, .ref 106, .int 60 0, .int 0 0, .ref 113, .int 62 0, .int 0 0, .ref 120, .int 71 0, .int 0 0, .ref 127, .int 80 0, .int 0 0, .ref 134, .int 96 0, .int 0 0, .ref 141, .int 105 0, .int 0 0, .ref 148, .int 142 0, .int 0 0, .ref 234, .int 165 0, .int 0 0, .ref 283, .int 222 0, .int 0 0, .ref 416, .int 269 0, .int 0 0, .ref 516, .int 271 0, .int 0 0, .ref 523, .int 273 0, .int 0 0, .ref 530, .int 277 0, .int 0 0, .ref 537, .int 284 0, .int 0 0, .ref 544]
noncomputable def c52x3 (P : Params) : Obj := ⟨.type "dict", none, .dict #[e P "__name__" 165 (.str "termcore.lines" 852), e P "__doc__" 166 .none, e P "__package__" 167 .none, e P "__loader__" 168 (.builtin "__main__.__loader__#opaque"), e P "__spec__" 169 .none, e P "__annotations__" 170 (.ref 6), e P "__builtins__" 171 (.ref 4), e P "__file__" 173 (.str "/claim/cut.py" 172), e P "__cached__" 174 .none, e P "_wall" 193 (.ref 21), e P "BOLD" 197 (.int 1 196), e P "BLINK" 199 (.int 8 198), e P "INVERSE" 201 (.int 32 200), e P "HIDDEN" 203 (.int 64 202), e P "UNDER_SHIFT" 205 (.int 9 204), e P "UNDER_MASK" 208 (.int 3584 207), e P "NO_COLOUR" 211 (.int (-1) 210), e P "PLAIN" 214 (.ref 22), e P "FLAGS" 216 (.int 0 215), e P "BACK" 218 (.int 2 217), e P "BLANK" 220 (.int 32 219), e P "TermError" 249 (.ref 40), e P "BadSize" 265 (.ref 53), e P "clamp" 274 (.ref 62), e P "under_of" 281 (.ref 69), e P "erased_pen" 288 (.ref 76), e P "blank_cell" 295 (.ref 83), e P "is_blank" 302 (.ref 90), e P "EDIT_WEIGHTS" 309 (.ref 95), e P "EDIT_GUARDED" 311 (.int 4 310), e P "EDIT_UNDERLINED" 313 (.int 16 312), e P "EDIT_SUM" 315 (.int 65536 314), e P "edit_weight" 329 (.ref 102), e P "checksum_rectangle" 335 (.ref 107), e P "ASCII_SET" 339 (.bytes #[66] 338), e P "SUPPLEMENT_SET" 341 (.bytes #[37, 53] 340), e P "LATIN_SET" 343 (.bytes #[45, 65] 342), e P "LEFT_FIRST" 345 (.int 32 344), e P "LEFT_LAST" 347 (.int 127 346), e P "HIGH_BIT" 349 (.int 128 348), e P "charset_pairs" 357 (.ref 114), e P "charset_drawing" 364 (.ref 121), e P "charset_supplement" 373 (.ref 128), e P "charset_nationals" 393 (.ref 135), e P "charset_tables" 400 (.ref 142), e P "Charsets" 503 (.ref 224), e P "TAB_WIDTH" 507 (.int 8 506), e P "Cursor" 571 (.ref 273), e P "Margins" 732 (.ref 406), e P "Tabs" 851 (.ref 505), e P "LINE_SIZES" 858 (.ref 510), e P "line_blanks" 866 (.ref 517), e P "right_half" 873 (.ref 524), e P "line_part" 881 (.ref 531), e P "line_slice" 891 (.ref 538), e P "line_codes" 901 (.ref 545), e P "Line" 1078 (.ref 670)] 57, #[]⟩
noncomputable def c52x12 (P : Params) : Obj := tb [.int 1 0, .int 0 0, .ref 20, .int 16 0, .int 0 0, .ref 28, .int 20 0, .int 0 0, .ref 49, .int 22 0, .int 0 0, .ref 61, .int 24 0, .int 0 0, .ref 68, .int 26 0, .int 0 0, .ref 75, .int 28 0, .int 0 0, .ref 82, .int 30 0, .int 0 0, .ref 89, .int 37 0, .int 0 0, .ref 101, .int 48 0, .int 0 0, .ref 106, .int 60 0, .int 0 0, .ref 113, .int 62 0, .int 0 0, .ref 120, .int 71 0, .int 0 0, .ref 127, .int 80 0, .int 0 0, .ref 134, .int 96 0, .int 0 0, .ref 141, .int 105 0, .int 0 0, .ref 148, .int 142 0, .int 0 0, .ref 234, .int 165 0, .int 0 0, .ref 283, .int 222 0, .int 0 0, .ref 416, .int 269 0, .int 0 0, .ref 516, .int 271 0, .int 0 0, .ref 523, .int 273 0, .int 0 0, .ref 530, .int 277 0, .int 0 0, .ref 537, .int 284 0, .int 0 0, .ref 544, .int 293 0, .int 0 0, .ref 551]
noncomputable def c54x3 (P : Params) : Obj := ⟨.type "dict", none, .dict #[e P "__name__" 165 (.str "termcore.grid" 1079), e P "__doc__" 166 .none, e P "__package__" 167 .none, e P "__loader__" 168 (.builtin "__main__.__loader__#opaque"), e P "__spec__" 169 .none, e P "__annotations__" 170 (.ref 6), e P "__builtins__" 171 (.ref 4), e P "__file__" 173 (.str "/claim/cut.py" 172), e P "__cached__" 174 .none, e P "_wall" 193 (.ref 21), e P "BOLD" 197 (.int 1 196), e P "BLINK" 199 (.int 8 198), e P "INVERSE" 201 (.int 32 200), e P "HIDDEN" 203 (.int 64 202), e P "UNDER_SHIFT" 205 (.int 9 204), e P "UNDER_MASK" 208 (.int 3584 207), e P "NO_COLOUR" 211 (.int (-1) 210), e P "PLAIN" 214 (.ref 22), e P "FLAGS" 216 (.int 0 215), e P "BACK" 218 (.int 2 217), e P "BLANK" 220 (.int 32 219), e P "TermError" 249 (.ref 40), e P "BadSize" 265 (.ref 53), e P "clamp" 274 (.ref 62), e P "under_of" 281 (.ref 69), e P "erased_pen" 288 (.ref 76), e P "blank_cell" 295 (.ref 83), e P "is_blank" 302 (.ref 90), e P "EDIT_WEIGHTS" 309 (.ref 95), e P "EDIT_GUARDED" 311 (.int 4 310), e P "EDIT_UNDERLINED" 313 (.int 16 312), e P "EDIT_SUM" 315 (.int 65536 314), e P "edit_weight" 329 (.ref 102), e P "checksum_rectangle" 335 (.ref 107), e P "ASCII_SET" 339 (.bytes #[66] 338), e P "SUPPLEMENT_SET" 341 (.bytes #[37, 53] 340), e P "LATIN_SET" 343 (.bytes #[45, 65] 342), e P "LEFT_FIRST" 345 (.int 32 344), e P "LEFT_LAST" 347 (.int 127 346), e P "HIGH_BIT" 349 (.int 128 348), e P "charset_pairs" 357 (.ref 114), e P "charset_drawing" 364 (.ref 121), e P "charset_supplement" 373 (.ref 128), e P "charset_nationals" 393 (.ref 135), e P "charset_tables" 400 (.ref 142), e P "Charsets" 503 (.ref 224), e P "TAB_WIDTH" 507 (.int 8 506), e P "Cursor" 571 (.ref 273), e P "Margins" 732 (.ref 406), e P "Tabs" 851 (.ref 505), e P "LINE_SIZES" 858 (.ref 510), e P "line_blanks" 866 (.ref 517), e P "right_half" 873 (.ref 524), e P "line_part" 881 (.ref 531), e P "line_slice" 891 (.ref 538), e P "line_codes" 901 (.ref 545), e P "Line" 1078 (.ref 670), e P "Grid" 1289 (.ref 817)] 58, #[]⟩
noncomputable def c54x12 (P : Params) : Obj := tb [.int 1 0, .int 0 0, .ref 20, .int 16 0, .int 0 0, .ref 28, .int 20 0, .int 0 0, .ref 49, .int 22 0, .int 0 0, .ref 61, .int 24 0, .int 0 0, .ref 68, .int 26 0, .int 0 0, .ref 75, .int 28 0, .int 0 0, .ref 82, .int 30 0, .int 0 0, .ref 89, .int 37 0, .int 0 0, .ref 101, .int 48 0, .int 0 0, .ref 106, .int 60 0, .int 0 0, .ref 113, .int 62 0, .int 0 0, .ref 120, .int 71 0, .int 0 0, .ref 127, .int 80 0, .int 0 0, .ref 134, .int 96 0, .int 0 0, .ref 141, .int 105 0, .int 0 0, .ref 148, .int 142 0, .int 0 0, .ref 234, .int 165 0, .int 0 0, .ref 283, .int 222 0, .int 0 0, .ref 416, .int 269 0, .int 0 0, .ref 516, .int 271 0, .int 0 0, .ref 523, .int 273 0, .int 0 0, .ref 530, .int 277 0, .int 0 0, .ref 537, .int 284 0, .int 0 0, .ref 544, .int 293 0, .int 0 0, .ref 551, .int 377 0, .int 0 0, .ref 680]
noncomputable def c59x3 (P : Params) : Obj := ⟨.type "dict", none, .dict #[e P "__name__" 165 (.str "termcore.screen" 1305), e P "__doc__" 166 .none, e P "__package__" 167 .none, e P "__loader__" 168 (.builtin "__main__.__loader__#opaque"), e P "__spec__" 169 .none, e P "__annotations__" 170 (.ref 6), e P "__builtins__" 171 (.ref 4), e P "__file__" 173 (.str "/claim/cut.py" 172), e P "__cached__" 174 .none, e P "_wall" 193 (.ref 21), e P "BOLD" 197 (.int 1 196), e P "BLINK" 199 (.int 8 198), e P "INVERSE" 201 (.int 32 200), e P "HIDDEN" 203 (.int 64 202), e P "UNDER_SHIFT" 205 (.int 9 204), e P "UNDER_MASK" 208 (.int 3584 207), e P "NO_COLOUR" 211 (.int (-1) 210), e P "PLAIN" 214 (.ref 22), e P "FLAGS" 216 (.int 0 215), e P "BACK" 218 (.int 2 217), e P "BLANK" 220 (.int 32 219), e P "TermError" 249 (.ref 40), e P "BadSize" 265 (.ref 53), e P "clamp" 274 (.ref 62), e P "under_of" 281 (.ref 69), e P "erased_pen" 288 (.ref 76), e P "blank_cell" 295 (.ref 83), e P "is_blank" 302 (.ref 90), e P "EDIT_WEIGHTS" 309 (.ref 95), e P "EDIT_GUARDED" 311 (.int 4 310), e P "EDIT_UNDERLINED" 313 (.int 16 312), e P "EDIT_SUM" 315 (.int 65536 314), e P "edit_weight" 329 (.ref 102), e P "checksum_rectangle" 335 (.ref 107), e P "ASCII_SET" 339 (.bytes #[66] 338), e P "SUPPLEMENT_SET" 341 (.bytes #[37, 53] 340), e P "LATIN_SET" 343 (.bytes #[45, 65] 342), e P "LEFT_FIRST" 345 (.int 32 344), e P "LEFT_LAST" 347 (.int 127 346), e P "HIGH_BIT" 349 (.int 128 348), e P "charset_pairs" 357 (.ref 114), e P "charset_drawing" 364 (.ref 121), e P "charset_supplement" 373 (.ref 128), e P "charset_nationals" 393 (.ref 135), e P "charset_tables" 400 (.ref 142), e P "Charsets" 503 (.ref 224), e P "TAB_WIDTH" 507 (.int 8 506), e P "Cursor" 571 (.ref 273), e P "Margins" 732 (.ref 406), e P "Tabs" 851 (.ref 505), e P "LINE_SIZES" 858 (.ref 510), e P "line_blanks" 866 (.ref 517), e P "right_half" 873 (.ref 524), e P "line_part" 881 (.ref 531), e P "line_slice" 891 (.ref 538), e P "line_codes" 901 (.ref 545), e P "Line" 1078 (.ref 670), e P "Grid" 1289 (.ref 817), e P "grid_cut" 1296 (.ref 828), e P "grid_mended" 1304 (.ref 835), e P "WIDE_SIZES" 1310 (.ref 836), e P "Screen" 1627 (.ref 1101)] 62, #[]⟩
noncomputable def c59x12 (P : Params) : Obj := tb [.int 1 0, .int 0 0, .ref 20, .int 16 0, .int 0 0, .ref 28, .int 20 0, .int 0 0, .ref 49, .int 22 0, .int 0 0, .ref 61, .int 24 0, .int 0 0, .ref 68, .int 26 0, .int 0 0, .ref 75, .int 28 0, .int 0 0, .ref 82, .int 30 0, .int 0 0, .ref 89, .int 37 0, .int 0 0, .ref 101, .int 48 0, .int 0 0, .ref 106, .int 60 0, .int 0 0, .ref 113, .int 62 0, .int 0 0, .ref 120, .int 71 0, .int 0 0, .ref 127, .int 80 0, .int 0 0, .ref 134, .int 96 0, .int 0 0, .ref 141, .int 105 0, .int 0 0, .ref 148, .int 142 0, .int 0 0, .ref 234, .int 165 0, .int 0 0, .ref 283, .int 222 0, .int 0 0, .ref 416, .int 269 0, .int 0 0, .ref 516, .int 271 0, .int 0 0, .ref 523, .int 273 0, .int 0 0, .ref 530, .int 277 0, .int 0 0, .ref 537, .int 284 0, .int 0 0, .ref 544, .int 293 0, .int 0 0, .ref 551, .int 377 0, .int 0 0, .ref 680, .int 476 0, .int 0 0, .ref 827, .int 478 0, .int 0 0, .ref 834, .int 487 0, .int 0 0, .ref 842]
noncomputable def tr38 (P : Params) : BT := .node (boot_o_0 P) (.node (boot_o_1 P) (.node (c38x3 P) (.node (boot_o_7 P) (.node (o15 P) (.node (o31 P) (.node (o63 P) (.node (o127 P) .nil .nil) .nil) (.node (o95 P) .nil .nil)) (.node (o47 P) (.node (o79 P) .nil .nil) (.node (o111 P) .nil .nil))) (.node (o23 P) (.node (o39 P) (.node (o71 P) (.node (o135 P) .nil .nil) .nil) (.node (o103 P) .nil .nil)) (.node (o55 P) (.node (o87 P) .nil .nil) (.node (o119 P) .nil .nil)))) (.node (o11 P) (.node (o19 P) (.node (o35 P) (.node (o67 P) (.node (o131 P) .nil .nil) .nil) (.node (o99 P) .nil .nil)) (.node (o51 P) (.node (o83 P) .nil .nil) (.node (o115 P) .nil .nil))) (.node (o27 P) (.node (o43 P) (.node (o75 P) (.node (o139 P) .nil .nil) .nil) (.node (o107 P) .nil .nil)) (.node (o59 P) (.node (o91 P) .nil .nil) (.node (o123 P) .nil .nil))))) (.node (boot_o_5 P) (.node (boot_o_9 P) (.node (o17 P) (.node (o33 P) (.node (o65 P) (.node (o129 P) .nil .nil) .nil) (.node (o97 P) .nil .nil)) (.node (o49 P) (.node (o81 P) .nil .nil) (.node (o113 P) .nil .nil))) (.node (o25 P) (.node (o41 P) (.node (o73 P) (.node (o137 P) .nil .nil) .nil) (.node (o105 P) .nil .nil)) (.node (o57 P) (.node (o89 P) .nil .nil) (.node (o121 P) .nil .nil)))) (.node (o13 P) (.node (o21 P) (.node (o37 P) (.node (o69 P) (.node (o133 P) .nil .nil) .nil) (.node (o101 P) .nil .nil)) (.node (o53 P) (.node (o85 P) .nil .nil) (.node (o117 P) .nil .nil))) (.node (o29 P) (.node (o45 P) (.node (o77 P) (.node (o141 P) .nil .nil) .nil) (.node (o109 P) .nil .nil)) (.node (o61 P) (.node (o93 P) .nil .nil) (.node (o125 P) .nil .nil)))))) (.node (o2 P) (.node (boot_o_4 P) (.node (boot_o_8 P) (.node (o16 P) (.node (o32 P) (.node (o64 P) (.node (o128 P) .nil .nil) .nil) (.node (o96 P) .nil .nil)) (.node (o48 P) (.node (o80 P) .nil .nil) (.node (o112 P) .nil .nil))) (.node (o24 P) (.node (o40 P) (.node (o72 P) (.node (o136 P) .nil .nil) .nil) (.node (o104 P) .nil .nil)) (.node (o56 P) (.node (o88 P) .nil .nil) (.node (o120 P) .nil .nil)))) (.node (c38x12 P) (.node (o20 P) (.node (o36 P) (.node (o68 P) (.node (o132 P) .nil .nil) .nil) (.node (o100 P) .nil .nil)) (.node (o52 P) (.node (o84 P) .nil .nil) (.node (o116 P) .nil .nil))) (.node (o28 P) (.node (o44 P) (.node (o76 P) (.node (o140 P) .nil .nil) .nil) (.node (o108 P) .nil .nil)) (.node (o60 P) (.node (o92 P) .nil .nil) (.node (o124 P) .nil .nil))))) (.node (boot_o_6 P) (.node (boot_o_10 P) (.node (o18 P) (.node (o34 P) (.node (o66 P) (.node (o130 P) .nil .nil) .nil) (.node (o98 P) .nil .nil)) (.node (o50 P) (.node (o82 P) .nil .nil) (.node (o114 P) .nil .nil))) (.node (o26 P) (.node (o42 P) (.node (o74 P) (.node (o138 P) .nil .nil) .nil) (.node (o106 P) .nil .nil)) (.node (o58 P) (.node (o90 P) .nil .nil) (.node (o122 P) .nil .nil)))) (.node (o14 P) (.node (o22 P) (.node (o38 P) (.node (o70 P) (.node (o134 P) .nil .nil) .nil) (.node (o102 P) .nil .nil)) (.node (o54 P) (.node (o86 P) .nil .nil) (.node (o118 P) .nil .nil))) (.node (o30 P) (.node (o46 P) (.node (o78 P) (.node (o142 P) .nil .nil) .nil) (.node (o110 P) .nil .nil)) (.node (o62 P) (.node (o94 P) .nil .nil) (.node (o126 P) .nil .nil))))))
noncomputable def tr42 (P : Params) : BT := .node (boot_o_0 P) (.node (boot_o_1 P) (.node (c42x3 P) (.node (boot_o_7 P) (.node (o15 P) (.node (o31 P) (.node (o63 P) (.node (o127 P) (.node (o255 P) .nil .nil) .nil) (.node (o191 P) .nil .nil)) (.node (o95 P) (.node (o159 P) .nil .nil) (.node (o223 P) .nil .nil))) (.node (o47 P) (.node (o79 P) (.node (o143 P) (.node (o271 P) .nil .nil) .nil) (.node (o207 P) .nil .nil)) (.node (o111 P) (.node (o175 P) .nil .nil) (.node (o239 P) .nil .nil)))) (.node (o23 P) (.node (o39 P) (.node (o71 P) (.node (o135 P) (.node (o263 P) .nil .nil) .nil) (.node (o199 P) .nil .nil)) (.node (o103 P) (.node (o167 P) .nil .nil) (.node (o231 P) .nil .nil))) (.node (o55 P) (.node (o87 P) (.node (o151 P) .nil .nil) (.node (o215 P) .nil .nil)) (.node (o119 P) (.node (o183 P) .nil .nil) (.node (o247 P) .nil .nil))))) (.node (o11 P) (.node (o19 P) (.node (o35 P) (.node (o67 P) (.node (o131 P) (.node (o259 P) .nil .nil) .nil) (.node (o195 P) .nil .nil)) (.node (o99 P) (.node (o163 P) .nil .nil) (.node (o227 P) .nil .nil))) (.node (o51 P) (.node (o83 P) (.node (o147 P) (.node (o275 P) .nil .nil) .nil) (.node (o211 P) .nil .nil)) (.node (o115 P) (.node (o179 P) .nil .nil) (.node (o243 P) .nil .nil)))) (.node (o27 P) (.node (o43 P) (.node (o75 P) (.node (o139 P) (.node (o267 P) .nil .nil) .nil) (.node (o203 P) .nil .nil)) (.node (o107 P) (.node (o171 P) .nil .nil) (.node (o235 P) .nil .nil))) (.node (o59 P) (.node (o91 P) (.node (o155 P) .nil .nil) (.node (o219 P) .nil .nil)) (.node (o123 P) (.node (o187 P) .nil .nil) (.node (o251 P) .nil .nil)))))) (.node (boot_o_5 P) (.node (boot_o_9 P) (.node (o17 P) (.node (o33 P) (.node (o65 P) (.node (o129 P) (.node (o257 P) .nil .nil) .nil) (.node (o193 P) .nil .nil)) (.node (o97 P) (.node (o161 P) .nil .nil) (.node (o225 P) .nil .nil))) (.node (o49 P) (.node (o81 P) (.node (o145 P) (.node (o273 P) .nil .nil) .nil) (.node (o209 P) .nil .nil)) (.node (o113 P) (.node (o177 P) .nil .nil) (.node (o241 P) .nil .nil)))) (.node (o25 P) (.node (o41 P) (.node (o73 P) (.node (o137 P) (.node (o265 P) .nil .nil) .nil) (.node (o201 P) .nil .nil)) (.node (o105 P) (.node (o169 P) .nil .nil) (.node (o233 P) .nil .nil))) (.node (o57 P) (.node (o89 P) (.node (o153 P) .nil .nil) (.node (o217 P) .nil .nil)) (.node (o121 P) (.node (o185 P) .nil .nil) (.node (o249 P) .nil .nil))))) (.node (o13 P) (.node (o21 P) (.node (o37 P) (.node (o69 P) (.node (o133 P) (.node (o261 P) .nil .nil) .nil) (.node (o197 P) .nil .nil)) (.node (o101 P) (.node (o165 P) .nil .nil) (.node (o229 P) .nil .nil))) (.node (o53 P) (.node (o85 P) (.node (o149 P) (.node (o277 P) .nil .nil) .nil) (.node (o213 P) .nil .nil)) (.node (o117 P) (.node (o181 P) .nil .nil) (.node (o245 P) .nil .nil)))) (.node (o29 P) (.node (o45 P) (.node (o77 P) (.node (o141 P) (.node (o269 P) .nil .nil) .nil) (.node (o205 P) .nil .nil)) (.node (o109 P) (.node (o173 P) .nil .nil) (.node (o237 P) .nil .nil))) (.node (o61 P) (.node (o93 P) (.node (o157 P) .nil .nil) (.node (o221 P) .nil .nil)) (.node (o125 P) (.node (o189 P) .nil .nil) (.node (o253 P) .nil .nil))))))) (.node (o2 P) (.node (boot_o_4 P) (.node (boot_o_8 P) (.node (o16 P) (.node (o32 P) (.node (o64 P) (.node (o128 P) (.node (o256 P) .nil .nil) .nil) (.node (o192 P) .nil .nil)) (.node (o96 P) (.node (o160 P) .nil .nil) (.node (o224 P) .nil .nil))) (.node (o48 P) (.node (o80 P) (.node (o144 P) (.node (o272 P) .nil .nil) .nil) (.node (o208 P) .nil .nil)) (.node (o112 P) (.node (o176 P) .nil .nil) (.node (o240 P) .nil .nil)))) (.node (o24 P) (.node (o40 P) (.node (o72 P) (.node (o136 P) (.node (o264 P) .nil .nil) .nil) (.node (o200 P) .nil .nil)) (.node (o104 P) (.node (o168 P) .nil .nil) (.node (o232 P) .nil .nil))) (.node (o56 P) (.node (o88 P) (.node (o152 P) .nil .nil) (.node (o216 P) .nil .nil)) (.node (o120 P) (.node (o184 P) .nil .nil) (.node (o248 P) .nil .nil))))) (.node (c42x12 P) (.node (o20 P) (.node (o36 P) (.node (o68 P) (.node (o132 P) (.node (o260 P) .nil .nil) .nil) (.node (o196 P) .nil .nil)) (.node (o100 P) (.node (o164 P) .nil .nil) (.node (o228 P) .nil .nil))) (.node (o52 P) (.node (o84 P) (.node (o148 P) (.node (o276 P) .nil .nil) .nil) (.node (o212 P) .nil .nil)) (.node (o116 P) (.node (o180 P) .nil .nil) (.node (o244 P) .nil .nil)))) (.node (o28 P) (.node (o44 P) (.node (o76 P) (.node (o140 P) (.node (o268 P) .nil .nil) .nil) (.node (o204 P) .nil .nil)) (.node (o108 P) (.node (o172 P) .nil .nil) (.node (o236 P) .nil .nil))) (.node (o60 P) (.node (o92 P) (.node (o156 P) .nil .nil) (.node (o220 P) .nil .nil)) (.node (o124 P) (.node (o188 P) .nil .nil) (.node (o252 P) .nil .nil)))))) (.node (boot_o_6 P) (.node (boot_o_10 P) (.node (o18 P) (.node (o34 P) (.node (o66 P) (.node (o130 P) (.node (o258 P) .nil .nil) .nil) (.node (o194 P) .nil .nil)) (.node (o98 P) (.node (o162 P) .nil .nil) (.node (o226 P) .nil .nil))) (.node (o50 P) (.node (o82 P) (.node (o146 P) (.node (o274 P) .nil .nil) .nil) (.node (o210 P) .nil .nil)) (.node (o114 P) (.node (o178 P) .nil .nil) (.node (o242 P) .nil .nil)))) (.node (o26 P) (.node (o42 P) (.node (o74 P) (.node (o138 P) (.node (o266 P) .nil .nil) .nil) (.node (o202 P) .nil .nil)) (.node (o106 P) (.node (o170 P) .nil .nil) (.node (o234 P) .nil .nil))) (.node (o58 P) (.node (o90 P) (.node (o154 P) .nil .nil) (.node (o218 P) .nil .nil)) (.node (o122 P) (.node (o186 P) .nil .nil) (.node (o250 P) .nil .nil))))) (.node (o14 P) (.node (o22 P) (.node (o38 P) (.node (o70 P) (.node (o134 P) (.node (o262 P) .nil .nil) .nil) (.node (o198 P) .nil .nil)) (.node (o102 P) (.node (o166 P) .nil .nil) (.node (o230 P) .nil .nil))) (.node (o54 P) (.node (o86 P) (.node (o150 P) .nil .nil) (.node (o214 P) .nil .nil)) (.node (o118 P) (.node (o182 P) .nil .nil) (.node (o246 P) .nil .nil)))) (.node (o30 P) (.node (o46 P) (.node (o78 P) (.node (o142 P) (.node (o270 P) .nil .nil) .nil) (.node (o206 P) .nil .nil)) (.node (o110 P) (.node (o174 P) .nil .nil) (.node (o238 P) .nil .nil))) (.node (o62 P) (.node (o94 P) (.node (o158 P) .nil .nil) (.node (o222 P) .nil .nil)) (.node (o126 P) (.node (o190 P) .nil .nil) (.node (o254 P) .nil .nil)))))))
noncomputable def tr43 (P : Params) : BT := .node (boot_o_0 P) (.node (boot_o_1 P) (.node (c43x3 P) (.node (boot_o_7 P) (.node (o15 P) (.node (o31 P) (.node (o63 P) (.node (o127 P) (.node (o255 P) .nil .nil) (.node (o383 P) .nil .nil)) (.node (o191 P) (.node (o319 P) .nil .nil) .nil)) (.node (o95 P) (.node (o159 P) (.node (o287 P) .nil .nil) .nil) (.node (o223 P) (.node (o351 P) .nil .nil) .nil))) (.node (o47 P) (.node (o79 P) (.node (o143 P) (.node (o271 P) .nil .nil) (.node (o399 P) .nil .nil)) (.node (o207 P) (.node (o335 P) .nil .nil) .nil)) (.node (o111 P) (.node (o175 P) (.node (o303 P) .nil .nil) .nil) (.node (o239 P) (.node (o367 P) .nil .nil) .nil)))) (.node (o23 P) (.node (o39 P) (.node (o71 P) (.node (o135 P) (.node (o263 P) .nil .nil) (.node (o391 P) .nil .nil)) (.node (o199 P) (.node (o327 P) .nil .nil) .nil)) (.node (o103 P) (.node (o167 P) (.node (o295 P) .nil .nil) .nil) (.node (o231 P) (.node (o359 P) .nil .nil) .nil))) (.node (o55 P) (.node (o87 P) (.node (o151 P) (.node (o279 P) .nil .nil) (.node (o407 P) .nil .nil)) (.node (o215 P) (.node (o343 P) .nil .nil) .nil)) (.node (o119 P) (.node (o183 P) (.node (o311 P) .nil .nil) .nil) (.node (o247 P) (.node (o375 P) .nil .nil) .nil))))) (.node (o11 P) (.node (o19 P) (.node (o35 P) (.node (o67 P) (.node (o131 P) (.node (o259 P) .nil .nil) (.node (o387 P) .nil .nil)) (.node (o195 P) (.node (o323 P) .nil .nil) .nil)) (.node (o99 P) (.node (o163 P) (.node (o291 P) .nil .nil) .nil) (.node (o227 P) (.node (o355 P) .nil .nil) .nil))) (.node (o51 P) (.node (o83 P) (.node (o147 P) (.node (o275 P) .nil .nil) (.node (o403 P) .nil .nil)) (.node (o211 P) (.node (o339 P) .nil .nil) .nil)) (.node (o115 P) (.node (o179 P) (.node (o307 P) .nil .nil) .nil) (.node (o243 P) (.node (o371 P) .nil .nil) .nil)))) (.node (o27 P) (.node (o43 P) (.node (o75 P) (.node (o139 P) (.node (o267 P) .nil .nil) (.node (o395 P) .nil .nil)) (.node (o203 P) (.node (o331 P) .nil .nil) .nil)) (.node (o107 P) (.node (o171 P) (.node (o299 P) .nil .nil) .nil) (.node (o235 P) (.node (o363 P) .nil .nil) .nil))) (.node (o59 P) (.node (o91 P) (.node (o155 P) (.node (o283 P) .nil .nil) .nil) (.node (o219 P) (.node (o347 P) .nil .nil) .nil)) (.node (o123 P) (.node (o187 P) (.node (o315 P) .nil .nil) .nil) (.node (o251 P) (.node (o379 P) .nil .nil) .nil)))))) (.node (boot_o_5 P) (.node (boot_o_9 P) (.node (o17 P) (.node (o33 P) (.node (o65 P) (.node (o129 P) (.node (o257 P) .nil .nil) (.node (o385 P) .nil .nil)) (.node (o193 P) (.node (o321 P) .nil .nil) .nil)) (.node (o97 P) (.node (o161 P) (.node (o289 P) .nil .nil) .nil) (.node (o225 P) (.node (o353 P) .nil .nil) .nil))) (.node (o49 P) (.node (o81 P) (.node (o145 P) (.node (o273 P) .nil .nil) (.node (o401 P) .nil .nil)) (.node (o209 P) (.node (o337 P) .nil .nil) .nil)) (.node (o113 P) (.node (o177 P) (.node (o305 P) .nil .nil) .nil) (.node (o241 P) (.node (o369 P) .nil .nil) .nil)))) (.node (o25 P) (.node (o41 P) (.node (o73 P) (.node (o137 P) (.node (o265 P) .nil .nil) (.node (o393 P) .nil .nil)) (.node (o201 P) (.node (o329 P) .nil .nil) .nil)) (.node (o105 P) (.node (o169 P) (.node (o297 P) .nil .nil) .nil) (.node (o233 P) (.node (o361 P) .nil .nil) .nil))) (.node (o57 P) (.node (o89 P) (.node (o153 P) (.node (o281 P) .nil .nil) (.node (o409 P) .nil .nil)) (.node (o217 P) (.node (o345 P) .nil .nil) .nil)) (.node (o121 P) (.node (o185 P) (.node (o313 P) .nil .nil) .nil) (.node (o249 P) (.node (o377 P) .nil .nil) .nil))))) (.node (o13 P) (.node (o21 P) (.node (o37 P) (.node (o69 P) (.node (o133 P) (.node (o261 P) .nil .nil) (.node (o389 P) .nil .nil)) (.node (o197 P) (.node (o325 P) .nil .nil) .nil)) (.node (o101 P) (.node (o165 P) (.node (o293 P) .nil .nil) .nil) (.node (o229 P) (.node (o357 P) .nil .nil) .nil))) (.node (o53 P) (.node (o85 P) (.node (o149 P) (.node (o277 P) .nil .nil) (.node (o405 P) .nil .nil)) (.node (o213 P) (.node (o341 P) .nil .nil) .nil)) (.node (o117 P) (.node (o181 P) (.node (o309 P) .nil .nil) .nil) (.node (o245 P) (.node (o373 P) .nil .nil) .nil)))) (.node (o29 P) (.node (o45 P) (.node (o77 P) (.node (o141 P) (.node (o269 P) .nil .nil) (.node (o397 P) .nil .nil)) (.node (o205 P) (.node (o333 P) .nil .nil) .nil)) (.node (o109 P) (.node (o173 P) (.node (o301 P) .nil .nil) .nil) (.node (o237 P) (.node (o365 P) .nil .nil) .nil))) (.node (o61 P) (.node (o93 P) (.node (o157 P) (.node (o285 P) .nil .nil) .nil) (.node (o221 P) (.node (o349 P) .nil .nil) .nil)) (.node (o125 P) (.node (o189 P) (.node (o317 P) .nil .nil) .nil) (.node (o253 P) (.node (o381 P) .nil .nil) .nil))))))) (.node (o2 P) (.node (boot_o_4 P) (.node (boot_o_8 P) (.node (o16 P) (.node (o32 P) (.node (o64 P) (.node (o128 P) (.node (o256 P) .nil .nil) (.node (o384 P) .nil .nil)) (.node (o192 P) (.node (o320 P) .nil .nil) .nil)) (.node (o96 P) (.node (o160 P) (.node (o288 P) .nil .nil) .nil) (.node (o224 P) (.node (o352 P) .nil .nil) .nil))) (.node (o48 P) (.node (o80 P) (.node (o144 P) (.node (o272 P) .nil .nil) (.node (o400 P) .nil .nil)) (.node (o208 P) (.node (o336 P) .nil .nil) .nil)) (.node (o112 P) (.node (o176 P) (.node (o304 P) .nil .nil) .nil) (.node (o240 P) (.node (o368 P) .nil .nil) .nil)))) (.node (o24 P) (.node (o40 P) (.node (o72 P) (.node (o136 P) (.node (o264 P) .nil .nil) (.node (o392 P) .nil .nil)) (.node (o200 P) (.node (o328 P) .nil .nil) .nil)) (.node (o104 P) (.node (o168 P) (.node (o296 P) .nil .nil) .nil) (.node (o232 P) (.node (o360 P) .nil .nil) .nil))) (.node (o56 P) (.node (o88 P) (.node (o152 P) (.node (o280 P) .nil .nil) (.node (o408 P) .nil .nil)) (.node (o216 P) (.node (o344 P) .nil .nil) .nil)) (.node (o120 P) (.node (o184 P) (.node (o312 P) .nil .nil) .nil) (.node (o248 P) (.node (o376 P) .nil .nil) .nil))))) (.node (c43x12 P) (.node (o20 P) (.node (o36 P) (.node (o68 P) (.node (o132 P) (.node (o260 P) .nil .nil) (.node (o388 P) .nil .nil)) (.node (o196 P) (.node (o324 P) .nil .nil) .nil)) (.node (o100 P) (.node (o164 P) (.node (o292 P) .nil .nil) .nil) (.node (o228 P) (.node (o356 P) .nil .nil) .nil))) (.node (o52 P) (.node (o84 P) (.node (o148 P) (.node (o276 P) .nil .nil) (.node (o404 P) .nil .nil)) (.node (o212 P) (.node (o340 P) .nil .nil) .nil)) (.node (o116 P) (.node (o180 P) (.node (o308 P) .nil .nil) .nil) (.node (o244 P) (.node (o372 P) .nil .nil) .nil)))) (.node (o28 P) (.node (o44 P) (.node (o76 P) (.node (o140 P) (.node (o268 P) .nil .nil) (.node (o396 P) .nil .nil)) (.node (o204 P) (.node (o332 P) .nil .nil) .nil)) (.node (o108 P) (.node (o172 P) (.node (o300 P) .nil .nil) .nil) (.node (o236 P) (.node (o364 P) .nil .nil) .nil))) (.node (o60 P) (.node (o92 P) (.node (o156 P) (.node (o284 P) .nil .nil) .nil) (.node (o220 P) (.node (o348 P) .nil .nil) .nil)) (.node (o124 P) (.node (o188 P) (.node (o316 P) .nil .nil) .nil) (.node (o252 P) (.node (o380 P) .nil .nil) .nil)))))) (.node (boot_o_6 P) (.node (boot_o_10 P) (.node (o18 P) (.node (o34 P) (.node (o66 P) (.node (o130 P) (.node (o258 P) .nil .nil) (.node (o386 P) .nil .nil)) (.node (o194 P) (.node (o322 P) .nil .nil) .nil)) (.node (o98 P) (.node (o162 P) (.node (o290 P) .nil .nil) .nil) (.node (o226 P) (.node (o354 P) .nil .nil) .nil))) (.node (o50 P) (.node (o82 P) (.node (o146 P) (.node (o274 P) .nil .nil) (.node (o402 P) .nil .nil)) (.node (o210 P) (.node (o338 P) .nil .nil) .nil)) (.node (o114 P) (.node (o178 P) (.node (o306 P) .nil .nil) .nil) (.node (o242 P) (.node (o370 P) .nil .nil) .nil)))) (.node (o26 P) (.node (o42 P) (.node (o74 P) (.node (o138 P) (.node (o266 P) .nil .nil) (.node (o394 P) .nil .nil)) (.node (o202 P) (.node (o330 P) .nil .nil) .nil)) (.node (o106 P) (.node (o170 P) (.node (o298 P) .nil .nil) .nil) (.node (o234 P) (.node (o362 P) .nil .nil) .nil))) (.node (o58 P) (.node (o90 P) (.node (o154 P) (.node (o282 P) .nil .nil) (.node (o410 P) .nil .nil)) (.node (o218 P) (.node (o346 P) .nil .nil) .nil)) (.node (o122 P) (.node (o186 P) (.node (o314 P) .nil .nil) .nil) (.node (o250 P) (.node (o378 P) .nil .nil) .nil))))) (.node (o14 P) (.node (o22 P) (.node (o38 P) (.node (o70 P) (.node (o134 P) (.node (o262 P) .nil .nil) (.node (o390 P) .nil .nil)) (.node (o198 P) (.node (o326 P) .nil .nil) .nil)) (.node (o102 P) (.node (o166 P) (.node (o294 P) .nil .nil) .nil) (.node (o230 P) (.node (o358 P) .nil .nil) .nil))) (.node (o54 P) (.node (o86 P) (.node (o150 P) (.node (o278 P) .nil .nil) (.node (o406 P) .nil .nil)) (.node (o214 P) (.node (o342 P) .nil .nil) .nil)) (.node (o118 P) (.node (o182 P) (.node (o310 P) .nil .nil) .nil) (.node (o246 P) (.node (o374 P) .nil .nil) .nil)))) (.node (o30 P) (.node (o46 P) (.node (o78 P) (.node (o142 P) (.node (o270 P) .nil .nil) (.node (o398 P) .nil .nil)) (.node (o206 P) (.node (o334 P) .nil .nil) .nil)) (.node (o110 P) (.node (o174 P) (.node (o302 P) .nil .nil) .nil) (.node (o238 P) (.node (o366 P) .nil .nil) .nil))) (.node (o62 P) (.node (o94 P) (.node (o158 P) (.node (o286 P) .nil .nil) .nil) (.node (o222 P) (.node (o350 P) .nil .nil) .nil)) (.node (o126 P) (.node (o190 P) (.node (o318 P) .nil .nil) .nil) (.node (o254 P) (.node (o382 P) .nil .nil) .nil)))))))
noncomputable def tr51 (P : Params) : BT := .node (boot_o_0 P) (.node (boot_o_1 P) (.node (c51x3 P) (.node (boot_o_7 P) (.node (o15 P) (.node (o31 P) (.node (o63 P) (.node (o127 P) (.node (o255 P) (.node (o511 P) .nil .nil) .nil) (.node (o383 P) .nil .nil)) (.node (o191 P) (.node (o319 P) .nil .nil) (.node (o447 P) .nil .nil))) (.node (o95 P) (.node (o159 P) (.node (o287 P) (.node (o543 P) .nil .nil) .nil) (.node (o415 P) .nil .nil)) (.node (o223 P) (.node (o351 P) .nil .nil) (.node (o479 P) .nil .nil)))) (.node (o47 P) (.node (o79 P) (.node (o143 P) (.node (o271 P) (.node (o527 P) .nil .nil) .nil) (.node (o399 P) .nil .nil)) (.node (o207 P) (.node (o335 P) .nil .nil) (.node (o463 P) .nil .nil))) (.node (o111 P) (.node (o175 P) (.node (o303 P) .nil .nil) (.node (o431 P) .nil .nil)) (.node (o239 P) (.node (o367 P) .nil .nil) (.node (o495 P) .nil .nil))))) (.node (o23 P) (.node (o39 P) (.node (o71 P) (.node (o135 P) (.node (o263 P) (.node (o519 P) .nil .nil) .nil) (.node (o391 P) .nil .nil)) (.node (o199 P) (.node (o327 P) .nil .nil) (.node (o455 P) .nil .nil))) (.node (o103 P) (.node (o167 P) (.node (o295 P) .nil .nil) (.node (o423 P) .nil .nil)) (.node (o231 P) (.node (o359 P) .nil .nil) (.node (o487 P) .nil .nil)))) (.node (o55 P) (.node (o87 P) (.node (o151 P) (.node (o279 P) (.node (o535 P) .nil .nil) .nil) (.node (o407 P) .nil .nil)) (.node (o215 P) (.node (o343 P) .nil .nil) (.node (o471 P) .nil .nil))) (.node (o119 P) (.node (o183 P) (.node (o311 P) .nil .nil) (.node (o439 P) .nil .nil)) (.node (o247 P) (.node (o375 P) .nil .nil) (.node (o503 P) .nil .nil)))))) (.node (o11 P) (.node (o19 P) (.node (o35 P) (.node (o67 P) (.node (o131 P) (.node (o259 P) (.node (o515 P) .nil .nil) .nil) (.node (o387 P) .nil .nil)) (.node (o195 P) (.node (o323 P) .nil .nil) (.node (o451 P) .nil .nil))) (.node (o99 P) (.node (o163 P) (.node (o291 P) .nil .nil) (.node (o419 P) .nil .nil)) (.node (o227 P) (.node (o355 P) .nil .nil) (.node (o483 P) .nil .nil)))) (.node (o51 P) (.node (o83 P) (.node (o147 P) (.node (o275 P) (.node (o531 P) .nil .nil) .nil) (.node (o403 P) .nil .nil)) (.node (o211 P) (.node (o339 P) .nil .nil) (.node (o467 P) .nil .nil))) (.node (o115 P) (.node (o179 P) (.node (o307 P) .nil .nil) (.node (o435 P) .nil .nil)) (.node (o243 P) (.node (o371 P) .nil .nil) (.node (o499 P) .nil .nil))))) (.node (o27 P) (.node (o43 P) (.node (o75 P) (.node (o139 P) (.node (o267 P) (.node (o523 P) .nil .nil) .nil) (.node (o395 P) .nil .nil)) (.node (o203 P) (.node (o331 P) .nil .nil) (.node (o459 P) .nil .nil))) (.node (o107 P) (.node (o171 P) (.node (o299 P) .nil .nil) (.node (o427 P) .nil .nil)) (.node (o235 P) (.node (o363 P) .nil .nil) (.node (o491 P) .nil .nil)))) (.node (o59 P) (.node (o91 P) (.node (o155 P) (.node (o283 P) (.node (o539 P) .nil .nil) .nil) (.node (o411 P) .nil .nil)) (.node (o219 P) (.node (o347 P) .nil .nil) (.node (o475 P) .nil .nil))) (.node (o123 P) (.node (o187 P) (.node (o315 P) .nil .nil) (.node (o443 P) .nil .nil)) (.node (o251 P) (.node (o379 P) .nil .nil) (.node (o507 P) .nil .nil))))))) (.node (boot_o_5 P) (.node (boot_o_9 P) (.node (o17 P) (.node (o33 P) (.node (o65 P) (.node (o129 P) (.node (o257 P) (.node (o513 P) .nil .nil) .nil) (.node (o385 P) .nil .nil)) (.node (o193 P) (.node (o321 P) .nil .nil) (.node (o449 P) .nil .nil))) (.node (o97 P) (.node (o161 P) (.node (o289 P) (.node (o545 P) .nil .nil) .nil) (.node (o417 P) .nil .nil)) (.node (o225 P) (.node (o353 P) .nil .nil) (.node (o481 P) .nil .nil)))) (.node (o49 P) (.node (o81 P) (.node (o145 P) (.node (o273 P) (.node (o529 P) .nil .nil) .nil) (.node (o401 P) .nil .nil)) (.node (o209 P) (.node (o337 P) .nil .nil) (.node (o465 P) .nil .nil))) (.node (o113 P) (.node (o177 P) (.node (o305 P) .nil .nil) (.node (o433 P) .nil .nil)) (.node (o241 P) (.node (o369 P) .nil .nil) (.node (o497 P) .nil .nil))))) (.node (o25 P) (.node (o41 P) (.node (o73 P) (.node (o137 P) (.node (o265 P) (.node (o521 P) .nil .nil) .nil) (.node (o393 P) .nil .nil)) (.node (o201 P) (.node (o329 P) .nil .nil) (.node (o457 P) .nil .nil))) (.node (o105 P) (.node (o169 P) (.node (o297 P) .nil .nil) (.node (o425 P) .nil .nil)) (.node (o233 P) (.node (o361 P) .nil .nil) (.node (o489 P) .nil .nil)))) (.node (o57 P) (.node (o89 P) (.node (o153 P) (.node (o281 P) (.node (o537 P) .nil .nil) .nil) (.node (o409 P) .nil .nil)) (.node (o217 P) (.node (o345 P) .nil .nil) (.node (o473 P) .nil .nil))) (.node (o121 P) (.node (o185 P) (.node (o313 P) .nil .nil) (.node (o441 P) .nil .nil)) (.node (o249 P) (.node (o377 P) .nil .nil) (.node (o505 P) .nil .nil)))))) (.node (o13 P) (.node (o21 P) (.node (o37 P) (.node (o69 P) (.node (o133 P) (.node (o261 P) (.node (o517 P) .nil .nil) .nil) (.node (o389 P) .nil .nil)) (.node (o197 P) (.node (o325 P) .nil .nil) (.node (o453 P) .nil .nil))) (.node (o101 P) (.node (o165 P) (.node (o293 P) .nil .nil) (.node (o421 P) .nil .nil)) (.node (o229 P) (.node (o357 P) .nil .nil) (.node (o485 P) .nil .nil)))) (.node (o53 P) (.node (o85 P) (.node (o149 P) (.node (o277 P) (.node (o533 P) .nil .nil) .nil) (.node (o405 P) .nil .nil)) (.node (o213 P) (.node (o341 P) .nil .nil) (.node (o469 P) .nil .nil))) (.node (o117 P) (.node (o181 P) (.node (o309 P) .nil .nil) (.node (o437 P) .nil .nil)) (.node (o245 P) (.node (o373 P) .nil .nil) (.node (o501 P) .nil .nil))))) (.node (o29 P) (.node (o45 P) (.node (o77 P) (.node (o141 P) (.node (o269 P) (.node (o525 P) .nil .nil) .nil) (.node (o397 P) .nil .nil)) (.node (o205 P) (.node (o333 P) .nil .nil) (.node (o461 P) .nil .nil))) (.node (o109 P) (.node (o173 P) (.node (o301 P) .nil .nil) (.node (o429 P) .nil .nil)) (.node (o237 P) (.node (o365 P) .nil .nil) (.node (o493 P) .nil .nil)))) (.node (o61 P) (.node (o93 P) (.node (o157 P) (.node (o285 P) (.node (o541 P) .nil .nil) .nil) (.node (o413 P) .nil .nil)) (.node (o221 P) (.node (o349 P) .nil .nil) (.node (o477 P) .nil .nil))) (.node (o125 P) (.node (o189 P) (.node (o317 P) .nil .nil) (.node (o445 P) .nil .nil)) (.node (o253 P) (.node (o381 P) .nil .nil) (.node (o509 P) .nil .nil)))))))) (.node (o2 P) (.node (boot_o_4 P) (.node (boot_o_8 P) (.node (o16 P) (.node (o32 P) (.node (o64 P) (.node (o128 P) (.node (o256 P) (.node (o512 P) .nil .nil) .nil) (.node (o384 P) .nil .nil)) (.node (o192 P) (.node (o320 P) .nil .nil) (.node (o448 P) .nil .nil))) (.node (o96 P) (.node (o160 P) (.node (o288 P) (.node (o544 P) .nil .nil) .nil) (.node (o416 P) .nil .nil)) (.node (o224 P) (.node (o352 P) .nil .nil) (.node (o480 P) .nil .nil)))) (.node (o48 P) (.node (o80 P) (.node (o144 P) (.node (o272 P) (.node (o528 P) .nil .nil) .nil) (.node (o400 P) .nil .nil)) (.node (o208 P) (.node (o336 P) .nil .nil) (.node (o464 P) .nil .nil))) (.node (o112 P) (.node (o176 P) (.node (o304 P) .nil .nil) (.node (o432 P) .nil .nil)) (.node (o240 P) (.node (o368 P) .nil .nil) (.node (o496 P) .nil .nil))))) (.node (o24 P) (.node (o40 P) (.node (o72 P) (.node (o136 P) (.node (o264 P) (.node (o520 P) .nil .nil) .nil) (.node (o392 P) .nil .nil)) (.node (o200 P) (.node (o328 P) .nil .nil) (.node (o456 P) .nil .nil))) (.node (o104 P) (.node (o168 P) (.node (o296 P) .nil .nil) (.node (o424 P) .nil .nil)) (.node (o232 P) (.node (o360 P) .nil .nil) (.node (o488 P) .nil .nil)))) (.node (o56 P) (.node (o88 P) (.node (o152 P) (.node (o280 P) (.node (o536 P) .nil .nil) .nil) (.node (o408 P) .nil .nil)) (.node (o216 P) (.node (o344 P) .nil .nil) (.node (o472 P) .nil .nil))) (.node (o120 P) (.node (o184 P) (.node (o312 P) .nil .nil) (.node (o440 P) .nil .nil)) (.node (o248 P) (.node (o376 P) .nil .nil) (.node (o504 P) .nil .nil)))))) (.node (c51x12 P) (.node (o20 P) (.node (o36 P) (.node (o68 P) (.node (o132 P) (.node (o260 P) (.node (o516 P) .nil .nil) .nil) (.node (o388 P) .nil .nil)) (.node (o196 P) (.node (o324 P) .nil .nil) (.node (o452 P) .nil .nil))) (.node (o100 P) (.node (o164 P) (.node (o292 P) .nil .nil) (.node (o420 P) .nil .nil)) (.node (o228 P) (.node (o356 P) .nil .nil) (.node (o484 P) .nil .nil)))) (.node (o52 P) (.node (o84 P) (.node (o148 P) (.node (o276 P) (.node (o532 P) .nil .nil) .nil) (.node (o404 P) .nil .nil)) (.node (o212 P) (.node (o340 P) .nil .nil) (.node (o468 P) .nil .nil))) (.node (o116 P) (.node (o180 P) (.node (o308 P) .nil .nil) (.node (o436 P) .nil .nil)) (.node (o244 P) (.node (o372 P) .nil .nil) (.node (o500 P) .nil .nil))))) (.node (o28 P) (.node (o44 P) (.node (o76 P) (.node (o140 P) (.node (o268 P) (.node (o524 P) .nil .nil) .nil) (.node (o396 P) .nil .nil)) (.node (o204 P) (.node (o332 P) .nil .nil) (.node (o460 P) .nil .nil))) (.node (o108 P) (.node (o172 P) (.node (o300 P) .nil .nil) (.node (o428 P) .nil .nil)) (.node (o236 P) (.node (o364 P) .nil .nil) (.node (o492 P) .nil .nil)))) (.node (o60 P) (.node (o92 P) (.node (o156 P) (.node (o284 P) (.node (o540 P) .nil .nil) .nil) (.node (o412 P) .nil .nil)) (.node (o220 P) (.node (o348 P) .nil .nil) (.node (o476 P) .nil .nil))) (.node (o124 P) (.node (o188 P) (.node (o316 P) .nil .nil) (.node (o444 P) .nil .nil)) (.node (o252 P) (.node (o380 P) .nil .nil) (.node (o508 P) .nil .nil))))))) (.node (boot_o_6 P) (.node (boot_o_10 P) (.node (o18 P) (.node (o34 P) (.node (o66 P) (.node (o130 P) (.node (o258 P) (.node (o514 P) .nil .nil) .nil) (.node (o386 P) .nil .nil)) (.node (o194 P) (.node (o322 P) .nil .nil) (.node (o450 P) .nil .nil))) (.node (o98 P) (.node (o162 P) (.node (o290 P) .nil .nil) (.node (o418 P) .nil .nil)) (.node (o226 P) (.node (o354 P) .nil .nil) (.node (o482 P) .nil .nil)))) (.node (o50 P) (.node (o82 P) (.node (o146 P) (.node (o274 P) (.node (o530 P) .nil .nil) .nil) (.node (o402 P) .nil .nil)) (.node (o210 P) (.node (o338 P) .nil .nil) (.node (o466 P) .nil .nil))) (.node (o114 P) (.node (o178 P) (.node (o306 P) .nil .nil) (.node (o434 P) .nil .nil)) (.node (o242 P) (.node (o370 P) .nil .nil) (.node (o498 P) .nil .nil))))) (.node (o26 P) (.node (o42 P) (.node (o74 P) (.node (o138 P) (.node (o266 P) (.node (o522 P) .nil .nil) .nil) (.node (o394 P) .nil .nil)) (.node (o202 P) (.node (o330 P) .nil .nil) (.node (o458 P) .nil .nil))) (.node (o106 P) (.node (o170 P) (.node (o298 P) .nil .nil) (.node (o426 P) .nil .nil)) (.node (o234 P) (.node (o362 P) .nil .nil) (.node (o490 P) .nil .nil)))) (.node (o58 P) (.node (o90 P) (.node (o154 P) (.node (o282 P) (.node (o538 P) .nil .nil) .nil) (.node (o410 P) .nil .nil)) (.node (o218 P) (.node (o346 P) .nil .nil) (.node (o474 P) .nil .nil))) (.node (o122 P) (.node (o186 P) (.node (o314 P) .nil .nil) (.node (o442 P) .nil .nil)) (.node (o250 P) (.node (o378 P) .nil .nil) (.node (o506 P) .nil .nil)))))) (.node (o14 P) (.node (o22 P) (.node (o38 P) (.node (o70 P) (.node (o134 P) (.node (o262 P) (.node (o518 P) .nil .nil) .nil) (.node (o390 P) .nil .nil)) (.node (o198 P) (.node (o326 P) .nil .nil) (.node (o454 P) .nil .nil))) (.node (o102 P) (.node (o166 P) (.node (o294 P) .nil .nil) (.node (o422 P) .nil .nil)) (.node (o230 P) (.node (o358 P) .nil .nil) (.node (o486 P) .nil .nil)))) (.node (o54 P) (.node (o86 P) (.node (o150 P) (.node (o278 P) (.node (o534 P) .nil .nil) .nil) (.node (o406 P) .nil .nil)) (.node (o214 P) (.node (o342 P) .nil .nil) (.node (o470 P) .nil .nil))) (.node (o118 P) (.node (o182 P) (.node (o310 P) .nil .nil) (.node (o438 P) .nil .nil)) (.node (o246 P) (.node (o374 P) .nil .nil) (.node (o502 P) .nil .nil))))) (.node (o30 P) (.node (o46 P) (.node (o78 P) (.node (o142 P) (.node (o270 P) (.node (o526 P) .nil .nil) .nil) (.node (o398 P) .nil .nil)) (.node (o206 P) (.node (o334 P) .nil .nil) (.node (o462 P) .nil .nil))) (.node (o110 P) (.node (o174 P) (.node (o302 P) .nil .nil) (.node (o430 P) .nil .nil)) (.node (o238 P) (.node (o366 P) .nil .nil) (.node (o494 P) .nil .nil)))) (.node (o62 P) (.node (o94 P) (.node (o158 P) (.node (o286 P) (.node (o542 P) .nil .nil) .nil) (.node (o414 P) .nil .nil)) (.node (o222 P) (.node (o350 P) .nil .nil) (.node (o478 P) .nil .nil))) (.node (o126 P) (.node (o190 P) (.node (o318 P) .nil .nil) (.node (o446 P) .nil .nil)) (.node (o254 P) (.node (o382 P) .nil .nil) (.node (o510 P) .nil .nil))))))))
noncomputable def tr52 (P : Params) : BT := .node (boot_o_0 P) (.node (boot_o_1 P) (.node (c52x3 P) (.node (boot_o_7 P) (.node (o15 P) (.node (o31 P) (.node (o63 P) (.node (o127 P) (.node (o255 P) (.node (o511 P) .nil .nil) .nil) (.node (o383 P) (.node (o639 P) .nil .nil) .nil)) (.node (o191 P) (.node (o319 P) (.node (o575 P) .nil .nil) .nil) (.node (o447 P) .nil .nil))) (.node (o95 P) (.node (o159 P) (.node (o287 P) (.node (o543 P) .nil .nil) .nil) (.node (o415 P) (.node (o671 P) .nil .nil) .nil)) (.node (o223 P) (.node (o351 P) (.node (o607 P) .nil .nil) .nil) (.node (o479 P) .nil .nil)))) (.node (o47 P) (.node (o79 P) (.node (o143 P) (.node (o271 P) (.node (o527 P) .nil .nil) .nil) (.node (o399 P) (.node (o655 P) .nil .nil) .nil)) (.node (o207 P) (.node (o335 P) (.node (o591 P) .nil .nil) .nil) (.node (o463 P) .nil .nil))) (.node (o111 P) (.node (o175 P) (.node (o303 P) (.node (o559 P) .nil .nil) .nil) (.node (o431 P) .nil .nil)) (.node (o239 P) (.node (o367 P) (.node (o623 P) .nil .nil) .nil) (.node (o495 P) .nil .nil))))) (.node (o23 P) (.node (o39 P) (.node (o71 P) (.node (o135 P) (.node (o263 P) (.node (o519 P) .nil .nil) .nil) (.node (o391 P) (.node (o647 P) .nil .nil) .nil)) (.node (o199 P) (.node (o327 P) (.node (o583 P) .nil .nil) .nil) (.node (o455 P) .nil .nil))) (.node (o103 P) (.node (o167 P) (.node (o295 P) (.node (o551 P) .nil .nil) .nil) (.node (o423 P) .nil .nil)) (.node (o231 P) (.node (o359 P) (.node (o615 P) .nil .nil) .nil) (.node (o487 P) .nil .nil)))) (.node (o55 P) (.node (o87 P) (.node (o151 P) (.node (o279 P) (.node (o535 P) .nil .nil) .nil) (.node (o407 P) (.node (o663 P) .nil .nil) .nil)) (.node (o215 P) (.node (o343 P) (.node (o599 P) .nil .nil) .nil) (.node (o471 P) .nil .nil))) (.node (o119 P) (.node (o183 P) (.node (o311 P) (.node (o567 P) .nil .nil) .nil) (.node (o439 P) .nil .nil)) (.node (o247 P) (.node (o375 P) (.node (o631 P) .nil .nil) .nil) (.node (o503 P) .nil .nil)))))) (.node (o11 P) (.node (o19 P) (.node (o35 P) (.node (o67 P) (.node (o131 P) (.node (o259 P) (.node (o515 P) .nil .nil) .nil) (.node (o387 P) (.node (o643 P) .nil .nil) .nil)) (.node (o195 P) (.node (o323 P) (.node (o579 P) .nil .nil) .nil) (.node (o451 P) .nil .nil))) (.node (o99 P) (.node (o163 P) (.node (o291 P) (.node (o547 P) .nil .nil) .nil) (.node (o419 P) .nil .nil)) (.node (o227 P) (.node (o355 P) (.node (o611 P) .nil .nil) .nil) (.node (o483 P) .nil .nil)))) (.node (o51 P) (.node (o83 P) (.node (o147 P) (.node (o275 P) (.node (o531 P) .nil .nil) .nil) (.node (o403 P) (.node (o659 P) .nil .nil) .nil)) (.node (o211 P) (.node (o339 P) (.node (o595 P) .nil .nil) .nil) (.node (o467 P) .nil .nil))) (.node (o115 P) (.node (o179 P) (.node (o307 P) (.node (o563 P) .nil .nil) .nil) (.node (o435 P) .nil .nil)) (.node (o243 P) (.node (o371 P) (.node (o627 P) .nil .nil) .nil) (.node (o499 P) .nil .nil))))) (.node (o27 P) (.node (o43 P) (.node (o75 P) (.node (o139 P) (.node (o267 P) (.node (o523 P) .nil .nil) .nil) (.node (o395 P) (.node (o651 P) .nil .nil) .nil)) (.node (o203 P) (.node (o331 P) (.node (o587 P) .nil .nil) .nil) (.node (o459 P) .nil .nil))) (.node (o107 P) (.node (o171 P) (.node (o299 P) (.node (o555 P) .nil .nil) .nil) (.node (o427 P) .nil .nil)) (.node (o235 P) (.node (o363 P) (.node (o619 P) .nil .nil) .nil) (.node (o491 P) .nil .nil)))) (.node (o59 P) (.node (o91 P) (.node (o155 P) (.node (o283 P) (.node (o539 P) .nil .nil) .nil) (.node (o411 P) (.node (o667 P) .nil .nil) .nil)) (.node (o219 P) (.node (o347 P) (.node (o603 P) .nil .nil) .nil) (.node (o475 P) .nil .nil))) (.node (o123 P) (.node (o187 P) (.node (o315 P) (.node (o571 P) .nil .nil) .nil) (.node (o443 P) .nil .nil)) (.node (o251 P) (.node (o379 P) (.node (o635 P) .nil .nil) .nil) (.node (o507 P) .nil .nil))))))) (.node (boot_o_5 P) (.node (boot_o_9 P) (.node (o17 P) (.node (o33 P) (.node (o65 P) (.node (o129 P) (.node (o257 P) (.node (o513 P) .nil .nil) .nil) (.node (o385 P) (.node (o641 P) .nil .nil) .nil)) (.node (o193 P) (.node (o321 P) (.node (o577 P) .nil .nil) .nil) (.node (o449 P) .nil .nil))) (.node (o97 P) (.node (o161 P) (.node (o289 P) (.node (o545 P) .nil .nil) .nil) (.node (o417 P) (.node (o673 P) .nil .nil) .nil)) (.node (o225 P) (.node (o353 P) (.node (o609 P) .nil .nil) .nil) (.node (o481 P) .nil .nil)))) (.node (o49 P) (.node (o81 P) (.node (o145 P) (.node (o273 P) (.node (o529 P) .nil .nil) .nil) (.node (o401 P) (.node (o657 P) .nil .nil) .nil)) (.node (o209 P) (.node (o337 P) (.node (o593 P) .nil .nil) .nil) (.node (o465 P) .nil .nil))) (.node (o113 P) (.node (o177 P) (.node (o305 P) (.node (o561 P) .nil .nil) .nil) (.node (o433 P) .nil .nil)) (.node (o241 P) (.node (o369 P) (.node (o625 P) .nil .nil) .nil) (.node (o497 P) .nil .nil))))) (.node (o25 P) (.node (o41 P) (.node (o73 P) (.node (o137 P) (.node (o265 P) (.node (o521 P) .nil .nil) .nil) (.node (o393 P) (.node (o649 P) .nil .nil) .nil)) (.node (o201 P) (.node (o329 P) (.node (o585 P) .nil .nil) .nil) (.node (o457 P) .nil .nil))) (.node (o105 P) (.node (o169 P) (.node (o297 P) (.node (o553 P) .nil .nil) .nil) (.node (o425 P) .nil .nil)) (.node (o233 P) (.node (o361 P) (.node (o617 P) .nil .nil) .nil) (.node (o489 P) .nil .nil)))) (.node (o57 P) (.node (o89 P) (.node (o153 P) (.node (o281 P) (.node (o537 P) .nil .nil) .nil) (.node (o409 P) (.node (o665 P) .nil .nil) .nil)) (.node (o217 P) (.node (o345 P) (.node (o601 P) .nil .nil) .nil) (.node (o473 P) .nil .nil))) (.node (o121 P) (.node (o185 P) (.node (o313 P) (.node (o569 P) .nil .nil) .nil) (.node (o441 P) .nil .nil)) (.node (o249 P) (.node (o377 P) (.node (o633 P) .nil .nil) .nil) (.node (o505 P) .nil .nil)))))) (.node (o13 P) (.node (o21 P) (.node (o37 P) (.node (o69 P) (.node (o133 P) (.node (o261 P) (.node (o517 P) .nil .nil) .nil) (.node (o389 P) (.node (o645 P) .nil .nil) .nil)) (.node (o197 P) (.node (o325 P) (.node (o581 P) .nil .nil) .nil) (.node (o453 P) .nil .nil))) (.node (o101 P) (.node (o165 P) (.node (o293 P) (.node (o549 P) .nil .nil) .nil) (.node (o421 P) .nil .nil)) (.node (o229 P) (.node (o357 P) (.node (o613 P) .nil .nil) .nil) (.node (o485 P) .nil .nil)))) (.node (o53 P) (.node (o85 P) (.node (o149 P) (.node (o277 P) (.node (o533 P) .nil .nil) .nil) (.node (o405 P) (.node (o661 P) .nil .nil) .nil)) (.node (o213 P) (.node (o341 P) (.node (o597 P) .nil .nil) .nil) (.node (o469 P) .nil .nil))) (.node (o117 P) (.node (o181 P) (.node (o309 P) (.node (o565 P) .nil .nil) .nil) (.node (o437 P) .nil .nil)) (.node (o245 P) (.node (o373 P) (.node (o629 P) .nil .nil) .nil) (.node (o501 P) .nil .nil))))) (.node (o29 P) (.node (o45 P) (.node (o77 P) (.node (o141 P) (.node (o269 P) (.node (o525 P) .nil .nil) .nil) (.node (o397 P) (.node (o653 P) .nil .nil) .nil)) (.node (o205 P) (.node (o333 P) (.node (o589 P) .nil .nil) .nil) (.node (o461 P) .nil .nil))) (.node (o109 P) (.node (o173 P) (.node (o301 P) (.node (o557 P) .nil .nil) .nil) (.node (o429 P) .nil .nil)) (.node (o237 P) (.node (o365 P) (.node (o621 P) .nil .nil) .nil) (.node (o493 P) .nil .nil)))) (.node (o61 P) (.node (o93 P) (.node (o157 P) (.node (o285 P) (.node (o541 P) .nil .nil) .nil) (.node (o413 P) (.node (o669 P) .nil .nil) .nil)) (.node (o221 P) (.node (o349 P) (.node (o605 P) .nil .nil) .nil) (.node (o477 P) .nil .nil))) (.node (o125 P) (.node (o189 P) (.node (o317 P) (.node (o573 P) .nil .nil) .nil) (.node (o445 P) .nil .nil)) (.node (o253 P) (.node (o381 P) (.node (o637 P) .nil .nil) .nil) (.node (o509 P) .nil .nil)))))))) (.node (o2 P) (.node (boot_o_4 P) (.node (boot_o_8 P) (.node (o16 P) (.node (o32 P) (.node (o64 P) (.node (o128 P) (.node (o256 P) (.node (o512 P) .nil .nil) .nil) (.node (o384 P) (.node (o640 P) .nil .nil) .nil)) (.node (o192 P) (.node (o320 P) (.node (o576 P) .nil .nil) .nil) (.node (o448 P) .nil .nil))) (.node (o96 P) (.node (o160 P) (.node (o288 P) (.node (o544 P) .nil .nil) .nil) (.node (o416 P) (.node (o672 P) .nil .nil) .nil)) (.node (o224 P) (.node (o352 P) (.node (o608 P) .nil .nil) .nil) (.node (o480 P) .nil .nil)))) (.node (o48 P) (.node (o80 P) (.node (o144 P) (.node (o272 P) (.node (o528 P) .nil .nil) .nil) (.node (o400 P) (.node (o656 P) .nil .nil) .nil)) (.node (o208 P) (.node (o336 P) (.node (o592 P) .nil .nil) .nil) (.node (o464 P) .nil .nil))) (.node (o112 P) (.node (o176 P) (.node (o304 P) (.node (o560 P) .nil .nil) .nil) (.node (o432 P) .nil .nil)) (.node (o240 P) (.node (o368 P) (.node (o624 P) .nil .nil) .nil) (.node (o496 P) .nil .nil))))) (.node (o24 P) (.node (o40 P) (.node (o72 P) (.node (o136 P) (.node (o264 P) (.node (o520 P) .nil .nil) .nil) (.node (o392 P) (.node (o648 P) .nil .nil) .nil)) (.node (o200 P) (.node (o328 P) (.node (o584 P) .nil .nil) .nil) (.node (o456 P) .nil .nil))) (.node (o104 P) (.node (o168 P) (.node (o296 P) (.node (o552 P) .nil .nil) .nil) (.node (o424 P) .nil .nil)) (.node (o232 P) (.node (o360 P) (.node (o616 P) .nil .nil) .nil) (.node (o488 P) .nil .nil)))) (.node (o56 P) (.node (o88 P) (.node (o152 P) (.node (o280 P) (.node (o536 P) .nil .nil) .nil) (.node (o408 P) (.node (o664 P) .nil .nil) .nil)) (.node (o216 P) (.node (o344 P) (.node (o600 P) .nil .nil) .nil) (.node (o472 P) .nil .nil))) (.node (o120 P) (.node (o184 P) (.node (o312 P) (.node (o568 P) .nil .nil) .nil) (.node (o440 P) .nil .nil)) (.node (o248 P) (.node (o376 P) (.node (o632 P) .nil .nil) .nil) (.node (o504 P) .nil .nil)))))) (.node (c52x12 P) (.node (o20 P) (.node (o36 P) (.node (o68 P) (.node (o132 P) (.node (o260 P) (.node (o516 P) .nil .nil) .nil) (.node (o388 P) (.node (o644 P) .nil .nil) .nil)) (.node (o196 P) (.node (o324 P) (.node (o580 P) .nil .nil) .nil) (.node (o452 P) .nil .nil))) (.node (o100 P) (.node (o164 P) (.node (o292 P) (.node (o548 P) .nil .nil) .nil) (.node (o420 P) .nil .nil)) (.node (o228 P) (.node (o356 P) (.node (o612 P) .nil .nil) .nil) (.node (o484 P) .nil .nil)))) (.node (o52 P) (.node (o84 P) (.node (o148 P) (.node (o276 P) (.node (o532 P) .nil .nil) .nil) (.node (o404 P) (.node (o660 P) .nil .nil) .nil)) (.node (o212 P) (.node (o340 P) (.node (o596 P) .nil .nil) .nil) (.node (o468 P) .nil .nil))) (.node (o116 P) (.node (o180 P) (.node (o308 P) (.node (o564 P) .nil .nil) .nil) (.node (o436 P) .nil .nil)) (.node (o244 P) (.node (o372 P) (.node (o628 P) .nil .nil) .nil) (.node (o500 P) .nil .nil))))) (.node (o28 P) (.node (o44 P) (.node (o76 P) (.node (o140 P) (.node (o268 P) (.node (o524 P) .nil .nil) .nil) (.node (o396 P) (.node (o652 P) .nil .nil) .nil)) (.node (o204 P) (.node (o332 P) (.node (o588 P) .nil .nil) .nil) (.node (o460 P) .nil .nil))) (.node (o108 P) (.node (o172 P) (.node (o300 P) (.node (o556 P) .nil .nil) .nil) (.node (o428 P) .nil .nil)) (.node (o236 P) (.node (o364 P) (.node (o620 P) .nil .nil) .nil) (.node (o492 P) .nil .nil)))) (.node (o60 P) (.node (o92 P) (.node (o156 P) (.node (o284 P) (.node (o540 P) .nil .nil) .nil) (.node (o412 P) (.node (o668 P) .nil .nil) .nil)) (.node (o220 P) (.node (o348 P) (.node (o604 P) .nil .nil) .nil) (.node (o476 P) .nil .nil))) (.node (o124 P) (.node (o188 P) (.node (o316 P) (.node (o572 P) .nil .nil) .nil) (.node (o444 P) .nil .nil)) (.node (o252 P) (.node (o380 P) (.node (o636 P) .nil .nil) .nil) (.node (o508 P) .nil .nil))))))) (.node (boot_o_6 P) (.node (boot_o_10 P) (.node (o18 P) (.node (o34 P) (.node (o66 P) (.node (o130 P) (.node (o258 P) (.node (o514 P) .nil .nil) .nil) (.node (o386 P) (.node (o642 P) .nil .nil) .nil)) (.node (o194 P) (.node (o322 P) (.node (o578 P) .nil .nil) .nil) (.node (o450 P) .nil .nil))) (.node (o98 P) (.node (o162 P) (.node (o290 P) (.node (o546 P) .nil .nil) .nil) (.node (o418 P) (.node (o674 P) .nil .nil) .nil)) (.node (o226 P) (.node (o354 P) (.node (o610 P) .nil .nil) .nil) (.node (o482 P) .nil .nil)))) (.node (o50 P) (.node (o82 P) (.node (o146 P) (.node (o274 P) (.node (o530 P) .nil .nil) .nil) (.node (o402 P) (.node (o658 P) .nil .nil) .nil)) (.node (o210 P) (.node (o338 P) (.node (o594 P) .nil .nil) .nil) (.node (o466 P) .nil .nil))) (.node (o114 P) (.node (o178 P) (.node (o306 P) (.node (o562 P) .nil .nil) .nil) (.node (o434 P) .nil .nil)) (.node (o242 P) (.node (o370 P) (.node (o626 P) .nil .nil) .nil) (.node (o498 P) .nil .nil))))) (.node (o26 P) (.node (o42 P) (.node (o74 P) (.node (o138 P) (.node (o266 P) (.node (o522 P) .nil .nil) .nil) (.node (o394 P) (.node (o650 P) .nil .nil) .nil)) (.node (o202 P) (.node (o330 P) (.node (o586 P) .nil .nil) .nil) (.node (o458 P) .nil .nil))) (.node (o106 P) (.node (o170 P) (.node (o298 P) (.node (o554 P) .nil .nil) .nil) (.node (o426 P) .nil .nil)) (.node (o234 P) (.node (o362 P) (.node (o618 P) .nil .nil) .nil) (.node (o490 P) .nil .nil)))) (.node (o58 P) (.node (o90 P) (.node (o154 P) (.node (o282 P) (.node (o538 P) .nil .nil) .nil) (.node (o410 P) (.node (o666 P) .nil .nil) .nil)) (.node (o218 P) (.node (o346 P) (.node (o602 P) .nil .nil) .nil) (.node (o474 P) .nil .nil))) (.node (o122 P) (.node (o186 P) (.node (o314 P) (.node (o570 P) .nil .nil) .nil) (.node (o442 P) .nil .nil)) (.node (o250 P) (.node (o378 P) (.node (o634 P) .nil .nil) .nil) (.node (o506 P) .nil .nil)))))) (.node (o14 P) (.node (o22 P) (.node (o38 P) (.node (o70 P) (.node (o134 P) (.node (o262 P) (.node (o518 P) .nil .nil) .nil) (.node (o390 P) (.node (o646 P) .nil .nil) .nil)) (.node (o198 P) (.node (o326 P) (.node (o582 P) .nil .nil) .nil) (.node (o454 P) .nil .nil))) (.node (o102 P) (.node (o166 P) (.node (o294 P) (.node (o550 P) .nil .nil) .nil) (.node (o422 P) .nil .nil)) (.node (o230 P) (.node (o358 P) (.node (o614 P) .nil .nil) .nil) (.node (o486 P) .nil .nil)))) (.node (o54 P) (.node (o86 P) (.node (o150 P) (.node (o278 P) (.node (o534 P) .nil .nil) .nil) (.node (o406 P) (.node (o662 P) .nil .nil) .nil)) (.node (o214 P) (.node (o342 P) (.node (o598 P) .nil .nil) .nil) (.node (o470 P) .nil .nil))) (.node (o118 P) (.node (o182 P) (.node (o310 P) (.node (o566 P) .nil .nil) .nil) (.node (o438 P) .nil .nil)) (.node (o246 P) (.node (o374 P) (.node (o630 P) .nil .nil) .nil) (.node (o502 P) .nil .nil))))) (.node (o30 P) (.node (o46 P) (.node (o78 P) (.node (o142 P) (.node (o270 P) (.node (o526 P) .nil .nil) .nil) (.node (o398 P) (.node (o654 P) .nil .nil) .nil)) (.node (o206 P) (.node (o334 P) (.node (o590 P) .nil .nil) .nil) (.node (o462 P) .nil .nil))) (.node (o110 P) (.node (o174 P) (.node (o302 P) (.node (o558 P) .nil .nil) .nil) (.node (o430 P) .nil .nil)) (.node (o238 P) (.node (o366 P) (.node (o622 P) .nil .nil) .nil) (.node (o494 P) .nil .nil)))) (.node (o62 P) (.node (o94 P) (.node (o158 P) (.node (o286 P) (.node (o542 P) .nil .nil) .nil) (.node (o414 P) (.node (o670 P) .nil .nil) .nil)) (.node (o222 P) (.node (o350 P) (.node (o606 P) .nil .nil) .nil) (.node (o478 P) .nil .nil))) (.node (o126 P) (.node (o190 P) (.node (o318 P) (.node (o574 P) .nil .nil) .nil) (.node (o446 P) .nil .nil)) (.node (o254 P) (.node (o382 P) (.node (o638 P) .nil .nil) .nil) (.node (o510 P) .nil .nil))))))))
noncomputable def tr54 (P : Params) : BT := .node (boot_o_0 P) (.node (boot_o_1 P) (.node (c54x3 P) (.node (boot_o_7 P) (.node (o15 P) (.node (o31 P) (.node (o63 P) (.node (o127 P) (.node (o255 P) (.node (o511 P) .nil .nil) (.node (o767 P) .nil .nil)) (.node (o383 P) (.node (o639 P) .nil .nil) .nil)) (.node (o191 P) (.node (o319 P) (.node (o575 P) .nil .nil) .nil) (.node (o447 P) (.node (o703 P) .nil .nil) .nil))) (.node (o95 P) (.node (o159 P) (.node (o287 P) (.node (o543 P) .nil .nil) (.node (o799 P) .nil .nil)) (.node (o415 P) (.node (o671 P) .nil .nil) .nil)) (.node (o223 P) (.node (o351 P) (.node (o607 P) .nil .nil) .nil) (.node (o479 P) (.node (o735 P) .nil .nil) .nil)))) (.node (o47 P) (.node (o79 P) (.node (o143 P) (.node (o271 P) (.node (o527 P) .nil .nil) (.node (o783 P) .nil .nil)) (.node (o399 P) (.node (o655 P) .nil .nil) .nil)) (.node (o207 P) (.node (o335 P) (.node (o591 P) .nil .nil) .nil) (.node (o463 P) (.node (o719 P) .nil .nil) .nil))) (.node (o111 P) (.node (o175 P) (.node (o303 P) (.node (o559 P) .nil .nil) (.node (o815 P) .nil .nil)) (.node (o431 P) (.node (o687 P) .nil .nil) .nil)) (.node (o239 P) (.node (o367 P) (.node (o623 P) .nil .nil) .nil) (.node (o495 P) (.node (o751 P) .nil .nil) .nil))))) (.node (o23 P) (.node (o39 P) (.node (o71 P) (.node (o135 P) (.node (o263 P) (.node (o519 P) .nil .nil) (.node (o775 P) .nil .nil)) (.node (o391 P) (.node (o647 P) .nil .nil) .nil)) (.node (o199 P) (.node (o327 P) (.node (o583 P) .nil .nil) .nil) (.node (o455 P) (.node (o711 P) .nil .nil) .nil))) (.node (o103 P) (.node (o167 P) (.node (o295 P) (.node (o551 P) .nil .nil) (.node (o807 P) .nil .nil)) (.node (o423 P) (.node (o679 P) .nil .nil) .nil)) (.node (o231 P) (.node (o359 P) (.node (o615 P) .nil .nil) .nil) (.node (o487 P) (.node (o743 P) .nil .nil) .nil)))) (.node (o55 P) (.node (o87 P) (.node (o151 P) (.node (o279 P) (.node (o535 P) .nil .nil) (.node (o791 P) .nil .nil)) (.node (o407 P) (.node (o663 P) .nil .nil) .nil)) (.node (o215 P) (.node (o343 P) (.node (o599 P) .nil .nil) .nil) (.node (o471 P) (.node (o727 P) .nil .nil) .nil))) (.node (o119 P) (.node (o183 P) (.node (o311 P) (.node (o567 P) .nil .nil) .nil) (.node (o439 P) (.node (o695 P) .nil .nil) .nil)) (.node (o247 P) (.node (o375 P) (.node (o631 P) .nil .nil) .nil) (.node (o503 P) (.node (o759 P) .nil .nil) .nil)))))) (.node (o11 P) (.node (o19 P) (.node (o35 P) (.node (o67 P) (.node (o131 P) (.node (o259 P) (.node (o515 P) .nil .nil) (.node (o771 P) .nil .nil)) (.node (o387 P) (.node (o643 P) .nil .nil) .nil)) (.node (o195 P) (.node (o323 P) (.node (o579 P) .nil .nil) .nil) (.node (o451 P) (.node (o707 P) .nil .nil) .nil))) (.node (o99 P) (.node (o163 P) (.node (o291 P) (.node (o547 P) .nil .nil) (.node (o803 P) .nil .nil)) (.node (o419 P) (.node (o675 P) .nil .nil) .nil)) (.node (o227 P) (.node (o355 P) (.node (o611 P) .nil .nil) .nil) (.node (o483 P) (.node (o739 P) .nil .nil) .nil)))) (.node (o51 P) (.node (o83 P) (.node (o147 P) (.node (o275 P) (.node (o531 P) .nil .nil) (.node (o787 P) .nil .nil)) (.node (o403 P) (.node (o659 P) .nil .nil) .nil)) (.node (o211 P) (.node (o339 P) (.node (o595 P) .nil .nil) .nil) (.node (o467 P) (.node (o723 P) .nil .nil) .nil))) (.node (o115 P) (.node (o179 P) (.node (o307 P) (.node (o563 P) .nil .nil) (.node (o819 P) .nil .nil)) (.node (o435 P) (.node (o691 P) .nil .nil) .nil)) (.node (o243 P) (.node (o371 P) (.node (o627 P) .nil .nil) .nil) (.node (o499 P) (.node (o755 P) .nil .nil) .nil))))) (.node (o27 P) (.node (o43 P) (.node (o75 P) (.node (o139 P) (.node (o267 P) (.node (o523 P) .nil .nil) (.node (o779 P) .nil .nil)) (.node (o395 P) (.node (o651 P) .nil .nil) .nil)) (.node (o203 P) (.node (o331 P) (.node (o587 P) .nil .nil) .nil) (.node (o459 P) (.node (o715 P) .nil .nil) .nil))) (.node (o107 P) (.node (o171 P) (.node (o299 P) (.node (o555 P) .nil .nil) (.node (o811 P) .nil .nil)) (.node (o427 P) (.node (o683 P) .nil .nil) .nil)) (.node (o235 P) (.node (o363 P) (.node (o619 P) .nil .nil) .nil) (.node (o491 P) (.node (o747 P) .nil .nil) .nil)))) (.node (o59 P) (.node (o91 P) (.node (o155 P) (.node (o283 P) (.node (o539 P) .nil .nil) (.node (o795 P) .nil .nil)) (.node (o411 P) (.node (o667 P) .nil .nil) .nil)) (.node (o219 P) (.node (o347 P) (.node (o603 P) .nil .nil) .nil) (.node (o475 P) (.node (o731 P) .nil .nil) .nil))) (.node (o123 P) (.node (o187 P) (.node (o315 P) (.node (o571 P) .nil .nil) .nil) (.node (o443 P) (.node (o699 P) .nil .nil) .nil)) (.node (o251 P) (.node (o379 P) (.node (o635 P) .nil .nil) .nil) (.node (o507 P) (.node (o763 P) .nil .nil) .nil))))))) (.node (boot_o_5 P) (.node (boot_o_9 P) (.node (o17 P) (.node (o33 P) (.node (o65 P) (.node (o129 P) (.node (o257 P) (.node (o513 P) .nil .nil) (.node (o769 P) .nil .nil)) (.node (o385 P) (.node (o641 P) .nil .nil) .nil)) (.node (o193 P) (.node (o321 P) (.node (o577 P) .nil .nil) .nil) (.node (o449 P) (.node (o705 P) .nil .nil) .nil))) (.node (o97 P) (.node (o161 P) (.node (o289 P) (.node (o545 P) .nil .nil) (.node (o801 P) .nil .nil)) (.node (o417 P) (.node (o673 P) .nil .nil) .nil)) (.node (o225 P) (.node (o353 P) (.node (o609 P) .nil .nil) .nil) (.node (o481 P) (.node (o737 P) .nil .nil) .nil)))) (.node (o49 P) (.node (o81 P) (.node (o145 P) (.node (o273 P) (.node (o529 P) .nil .nil) (.node (o785 P) .nil .nil)) (.node (o401 P) (.node (o657 P) .nil .nil) .nil)) (.node (o209 P) (.node (o337 P) (.node (o593 P) .nil .nil) .nil) (.node (o465 P) (.node (o721 P) .nil .nil) .nil))) (.node (o113 P) (.node (o177 P) (.node (o305 P) (.node (o561 P) .nil .nil) (.node (o817 P) .nil .nil)) (.node (o433 P) (.node (o689 P) .nil .nil) .nil)) (.node (o241 P) (.node (o369 P) (.node (o625 P) .nil .nil) .nil) (.node (o497 P) (.node (o753 P) .nil .nil) .nil))))) (.node (o25 P) (.node (o41 P) (.node (o73 P) (.node (o137 P) (.node (o265 P) (.node (o521 P) .nil .nil) (.node (o777 P) .nil .nil)) (.node (o393 P) (.node (o649 P) .nil .nil) .nil)) (.node (o201 P) (.node (o329 P) (.node (o585 P) .nil .nil) .nil) (.node (o457 P) (.node (o713 P) .nil .nil) .nil))) (.node (o105 P) (.node (o169 P) (.node (o297 P) (.node (o553 P) .nil .nil) (.node (o809 P) .nil .nil)) (.node (o425 P) (.node (o681 P) .nil .nil) .nil)) (.node (o233 P) (.node (o361 P) (.node (o617 P) .nil .nil) .nil) (.node (o489 P) (.node (o745 P) .nil .nil) .nil)))) (.node (o57 P) (.node (o89 P) (.node (o153 P) (.node (o281 P) (.node (o537 P) .nil .nil) (.node (o793 P) .nil .nil)) (.node (o409 P) (.node (o665 P) .nil .nil) .nil)) (.node (o217 P) (.node (o345 P) (.node (o601 P) .nil .nil) .nil) (.node (o473 P) (.node (o729 P) .nil .nil) .nil))) (.node (o121 P) (.node (o185 P) (.node (o313 P) (.node (o569 P) .nil .nil) .nil) (.node (o441 P) (.node (o697 P) .nil .nil) .nil)) (.node (o249 P) (.node (o377 P) (.node (o633 P) .nil .nil) .nil) (.node (o505 P) (.node (o761 P) .nil .nil) .nil)))))) (.node (o13 P) (.node (o21 P) (.node (o37 P) (.node (o69 P) (.node (o133 P) (.node (o261 P) (.node (o517 P) .nil .nil) (.node (o773 P) .nil .nil)) (.node (o389 P) (.node (o645 P) .nil .nil) .nil)) (.node (o197 P) (.node (o325 P) (.node (o581 P) .nil .nil) .nil) (.node (o453 P) (.node (o709 P) .nil .nil) .nil))) (.node (o101 P) (.node (o165 P) (.node (o293 P) (.node (o549 P) .nil .nil) (.node (o805 P) .nil .nil)) (.node (o421 P) (.node (o677 P) .nil .nil) .nil)) (.node (o229 P) (.node (o357 P) (.node (o613 P) .nil .nil) .nil) (.node (o485 P) (.node (o741 P) .nil .nil) .nil)))) (.node (o53 P) (.node (o85 P) (.node (o149 P) (.node (o277 P) (.node (o533 P) .nil .nil) (.node (o789 P) .nil .nil)) (.node (o405 P) (.node (o661 P) .nil .nil) .nil)) (.node (o213 P) (.node (o341 P) (.node (o597 P) .nil .nil) .nil) (.node (o469 P) (.node (o725 P) .nil .nil) .nil))) (.node (o117 P) (.node (o181 P) (.node (o309 P) (.node (o565 P) .nil .nil) (.node (o821 P) .nil .nil)) (.node (o437 P) (.node (o693 P) .nil .nil) .nil)) (.node (o245 P) (.node (o373 P) (.node (o629 P) .nil .nil) .nil) (.node (o501 P) (.node (o757 P) .nil .nil) .nil))))) (.node (o29 P) (.node (o45 P) (.node (o77 P) (.node (o141 P) (.node (o269 P) (.node (o525 P) .nil .nil) (.node (o781 P) .nil .nil)) (.node (o397 P) (.node (o653 P) .nil .nil) .nil)) (.node (o205 P) (.node (o333 P) (.node (o589 P) .nil .nil) .nil) (.node (o461 P) (.node (o717 P) .nil .nil) .nil))) (.node (o109 P) (.node (o173 P) (.node (o301 P) (.node (o557 P) .nil .nil) (.node (o813 P) .nil .nil)) (.node (o429 P) (.node (o685 P) .nil .nil) .nil)) (.node (o237 P) (.node (o365 P) (.node (o621 P) .nil .nil) .nil) (.node (o493 P) (.node (o749 P) .nil .nil) .nil)))) (.node (o61 P) (.node (o93 P) (.node (o157 P) (.node (o285 P) (.node (o541 P) .nil .nil) (.node (o797 P) .nil .nil)) (.node (o413 P) (.node (o669 P) .nil .nil) .nil)) (.node (o221 P) (.node (o349 P) (.node (o605 P) .nil .nil) .nil) (.node (o477 P) (.node (o733 P) .nil .nil) .nil))) (.node (o125 P) (.node (o189 P) (.node (o317 P) (.node (o573 P) .nil .nil) .nil) (.node (o445 P) (.node (o701 P) .nil .nil) .nil)) (.node (o253 P) (.node (o381 P) (.node (o637 P) .nil .nil) .nil) (.node (o509 P) (.node (o765 P) .nil .nil) .nil)))))))) (.node (o2 P) (.node (boot_o_4 P) (.node (boot_o_8 P) (.node (o16 P) (.node (o32 P) (.node (o64 P) (.node (o128 P) (.node (o256 P) (.node (o512 P) .nil .nil) (.node (o768 P) .nil .nil)) (.node (o384 P) (.node (o640 P) .nil .nil) .nil)) (.node (o192 P) (.node (o320 P) (.node (o576 P) .nil .nil) .nil) (.node (o448 P) (.node (o704 P) .nil .nil) .nil))) (.node (o96 P) (.node (o160 P) (.node (o288 P) (.node (o544 P) .nil .nil) (.node (o800 P) .nil .nil)) (.node (o416 P) (.node (o672 P) .nil .nil) .nil)) (.node (o224 P) (.node (o352 P) (.node (o608 P) .nil .nil) .nil) (.node (o480 P) (.node (o736 P) .nil .nil) .nil)))) (.node (o48 P) (.node (o80 P) (.node (o144 P) (.node (o272 P) (.node (o528 P) .nil .nil) (.node (o784 P) .nil .nil)) (.node (o400 P) (.node (o656 P) .nil .nil) .nil)) (.node (o208 P) (.node (o336 P) (.node (o592 P) .nil .nil) .nil) (.node (o464 P) (.node (o720 P) .nil .nil) .nil))) (.node (o112 P) (.node (o176 P) (.node (o304 P) (.node (o560 P) .nil .nil) (.node (o816 P) .nil .nil)) (.node (o432 P) (.node (o688 P) .nil .nil) .nil)) (.node (o240 P) (.node (o368 P) (.node (o624 P) .nil .nil) .nil) (.node (o496 P) (.node (o752 P) .nil .nil) .nil))))) (.node (o24 P) (.node (o40 P) (.node (o72 P) (.node (o136 P) (.node (o264 P) (.node (o520 P) .nil .nil) (.node (o776 P) .nil .nil)) (.node (o392 P) (.node (o648 P) .nil .nil) .nil)) (.node (o200 P) (.node (o328 P) (.node (o584 P) .nil .nil) .nil) (.node (o456 P) (.node (o712 P) .nil .nil) .nil))) (.node (o104 P) (.node (o168 P) (.node (o296 P) (.node (o552 P) .nil .nil) (.node (o808 P) .nil .nil)) (.node (o424 P) (.node (o680 P) .nil .nil) .nil)) (.node (o232 P) (.node (o360 P) (.node (o616 P) .nil .nil) .nil) (.node (o488 P) (.node (o744 P) .nil .nil) .nil)))) (.node (o56 P) (.node (o88 P) (.node (o152 P) (.node (o280 P) (.node (o536 P) .nil .nil) (.node (o792 P) .nil .nil)) (.node (o408 P) (.node (o664 P) .nil .nil) .nil)) (.node (o216 P) (.node (o344 P) (.node (o600 P) .nil .nil) .nil) (.node (o472 P) (.node (o728 P) .nil .nil) .nil))) (.node (o120 P) (.node (o184 P) (.node (o312 P) (.node (o568 P) .nil .nil) .nil) (.node (o440 P) (.node (o696 P) .nil .nil) .nil)) (.node (o248 P) (.node (o376 P) (.node (o632 P) .nil .nil) .nil) (.node (o504 P) (.node (o760 P) .nil .nil) .nil)))))) (.node (c54x12 P) (.node (o20 P) (.node (o36 P) (.node (o68 P) (.node (o132 P) (.node (o260 P) (.node (o516 P) .nil .nil) (.node (o772 P) .nil .nil)) (.node (o388 P) (.node (o644 P) .nil .nil) .nil)) (.node (o196 P) (.node (o324 P) (.node (o580 P) .nil .nil) .nil) (.node (o452 P) (.node (o708 P) .nil .nil) .nil))) (.node (o100 P) (.node (o164 P) (.node (o292 P) (.node (o548 P) .nil .nil) (.node (o804 P) .nil .nil)) (.node (o420 P) (.node (o676 P) .nil .nil) .nil)) (.node (o228 P) (.node (o356 P) (.node (o612 P) .nil .nil) .nil) (.node (o484 P) (.node (o740 P) .nil .nil) .nil)))) (.node (o52 P) (.node (o84 P) (.node (o148 P) (.node (o276 P) (.node (o532 P) .nil .nil) (.node (o788 P) .nil .nil)) (.node (o404 P) (.node (o660 P) .nil .nil) .nil)) (.node (o212 P) (.node (o340 P) (.node (o596 P) .nil .nil) .nil) (.node (o468 P) (.node (o724 P) .nil .nil) .nil))) (.node (o116 P) (.node (o180 P) (.node (o308 P) (.node (o564 P) .nil .nil) (.node (o820 P) .nil .nil)) (.node (o436 P) (.node (o692 P) .nil .nil) .nil)) (.node (o244 P) (.node (o372 P) (.node (o628 P) .nil .nil) .nil) (.node (o500 P) (.node (o756 P) .nil .nil) .nil))))) (.node (o28 P) (.node (o44 P) (.node (o76 P) (.node (o140 P) (.node (o268 P) (.node (o524 P) .nil .nil) (.node (o780 P) .nil .nil)) (.node (o396 P) (.node (o652 P) .nil .nil) .nil)) (.node (o204 P) (.node (o332 P) (.node (o588 P) .nil .nil) .nil) (.node (o460 P) (.node (o716 P) .nil .nil) .nil))) (.node (o108 P) (.node (o172 P) (.node (o300 P) (.node (o556 P) .nil .nil) (.node (o812 P) .nil .nil)) (.node (o428 P) (.node (o684 P) .nil .nil) .nil)) (.node (o236 P) (.node (o364 P) (.node (o620 P) .nil .nil) .nil) (.node (o492 P) (.node (o748 P) .nil .nil) .nil)))) (.node (o60 P) (.node (o92 P) (.node (o156 P) (.node (o284 P) (.node (o540 P) .nil .nil) (.node (o796 P) .nil .nil)) (.node (o412 P) (.node (o668 P) .nil .nil) .nil)) (.node (o220 P) (.node (o348 P) (.node (o604 P) .nil .nil) .nil) (.node (o476 P) (.node (o732 P) .nil .nil) .nil))) (.node (o124 P) (.node (o188 P) (.node (o316 P) (.node (o572 P) .nil .nil) .nil) (.node (o444 P) (.node (o700 P) .nil .nil) .nil)) (.node (o252 P) (.node (o380 P) (.node (o636 P) .nil .nil) .nil) (.node (o508 P) (.node (o764 P) .nil .nil) .nil))))))) (.node (boot_o_6 P) (.node (boot_o_10 P) (.node (o18 P) (.node (o34 P) (.node (o66 P) (.node (o130 P) (.node (o258 P) (.node (o514 P) .nil .nil) (.node (o770 P) .nil .nil)) (.node (o386 P) (.node (o642 P) .nil .nil) .nil)) (.node (o194 P) (.node (o322 P) (.node (o578 P) .nil .nil) .nil) (.node (o450 P) (.node (o706 P) .nil .nil) .nil))) (.node (o98 P) (.node (o162 P) (.node (o290 P) (.node (o546 P) .nil .nil) (.node (o802 P) .nil .nil)) (.node (o418 P) (.node (o674 P) .nil .nil) .nil)) (.node (o226 P) (.node (o354 P) (.node (o610 P) .nil .nil) .nil) (.node (o482 P) (.node (o738 P) .nil .nil) .nil)))) (.node (o50 P) (.node (o82 P) (.node (o146 P) (.node (o274 P) (.node (o530 P) .nil .nil) (.node (o786 P) .nil .nil)) (.node (o402 P) (.node (o658 P) .nil .nil) .nil)) (.node (o210 P) (.node (o338 P) (.node (o594 P) .nil .nil) .nil) (.node (o466 P) (.node (o722 P) .nil .nil) .nil))) (.node (o114 P) (.node (o178 P) (.node (o306 P) (.node (o562 P) .nil .nil) (.node (o818 P) .nil .nil)) (.node (o434 P) (.node (o690 P) .nil .nil) .nil)) (.node (o242 P) (.node (o370 P) (.node (o626 P) .nil .nil) .nil) (.node (o498 P) (.node (o754 P) .nil .nil) .nil))))) (.node (o26 P) (.node (o42 P) (.node (o74 P) (.node (o138 P) (.node (o266 P) (.node (o522 P) .nil .nil) (.node (o778 P) .nil .nil)) (.node (o394 P) (.node (o650 P) .nil .nil) .nil)) (.node (o202 P) (.node (o330 P) (.node (o586 P) .nil .nil) .nil) (.node (o458 P) (.node (o714 P) .nil .nil) .nil))) (.node (o106 P) (.node (o170 P) (.node (o298 P) (.node (o554 P) .nil .nil) (.node (o810 P) .nil .nil)) (.node (o426 P) (.node (o682 P) .nil .nil) .nil)) (.node (o234 P) (.node (o362 P) (.node (o618 P) .nil .nil) .nil) (.node (o490 P) (.node (o746 P) .nil .nil) .nil)))) (.node (o58 P) (.node (o90 P) (.node (o154 P) (.node (o282 P) (.node (o538 P) .nil .nil) (.node (o794 P) .nil .nil)) (.node (o410 P) (.node (o666 P) .nil .nil) .nil)) (.node (o218 P) (.node (o346 P) (.node (o602 P) .nil .nil) .nil) (.node (o474 P) (.node (o730 P) .nil .nil) .nil))) (.node (o122 P) (.node (o186 P) (.node (o314 P) (.node (o570 P) .nil .nil) .nil) (.node (o442 P) (.node (o698 P) .nil .nil) .nil)) (.node (o250 P) (.node (o378 P) (.node (o634 P) .nil .nil) .nil) (.node (o506 P) (.node (o762 P) .nil .nil) .nil)))))) (.node (o14 P) (.node (o22 P) (.node (o38 P) (.node (o70 P) (.node (o134 P) (.node (o262 P) (.node (o518 P) .nil .nil) (.node (o774 P) .nil .nil)) (.node (o390 P) (.node (o646 P) .nil .nil) .nil)) (.node (o198 P) (.node (o326 P) (.node (o582 P) .nil .nil) .nil) (.node (o454 P) (.node (o710 P) .nil .nil) .nil))) (.node (o102 P) (.node (o166 P) (.node (o294 P) (.node (o550 P) .nil .nil) (.node (o806 P) .nil .nil)) (.node (o422 P) (.node (o678 P) .nil .nil) .nil)) (.node (o230 P) (.node (o358 P) (.node (o614 P) .nil .nil) .nil) (.node (o486 P) (.node (o742 P) .nil .nil) .nil)))) (.node (o54 P) (.node (o86 P) (.node (o150 P) (.node (o278 P) (.node (o534 P) .nil .nil) (.node (o790 P) .nil .nil)) (.node (o406 P) (.node (o662 P) .nil .nil) .nil)) (.node (o214 P) (.node (o342 P) (.node (o598 P) .nil .nil) .nil) (.node (o470 P) (.node (o726 P) .nil .nil) .nil))) (.node (o118 P) (.node (o182 P) (.node (o310 P) (.node (o566 P) .nil .nil) .nil) (.node (o438 P) (.node (o694 P) .nil .nil) .nil)) (.node (o246 P) (.node (o374 P) (.node (o630 P) .nil .nil) .nil) (.node (o502 P) (.node (o758 P) .nil .nil) .nil))))) (.node (o30 P) (.node (o46 P) (.node (o78 P) (.node (o142 P) (.node (o270 P) (.node (o526 P) .nil .nil) (.node (o782 P) .nil .nil)) (.node (o398 P) (.node (o654 P) .nil .nil) .nil)) (.node (o206 P) (.node (o334 P) (.node (o590 P) .nil .nil) .nil) (.node (o462 P) (.node (o718 P) .nil .nil) .nil))) (.node (o110 P) (.node (o174 P) (.node (o302 P) (.node (o558 P) .nil .nil) (.node (o814 P) .nil .nil)) (.node (o430 P) (.node (o686 P) .nil .nil) .nil)) (.node (o238 P) (.node (o366 P) (.node (o622 P) .nil .nil) .nil) (.node (o494 P) (.node (o750 P) .nil .nil) .nil)))) (.node (o62 P) (.node (o94 P) (.node (o158 P) (.node (o286 P) (.node (o542 P) .nil .nil) (.node (o798 P) .nil .nil)) (.node (o414 P) (.node (o670 P) .nil .nil) .nil)) (.node (o222 P) (.node (o350 P) (.node (o606 P) .nil .nil) .nil) (.node (o478 P) (.node (o734 P) .nil .nil) .nil))) (.node (o126 P) (.node (o190 P) (.node (o318 P) (.node (o574 P) .nil .nil) .nil) (.node (o446 P) (.node (o702 P) .nil .nil) .nil)) (.node (o254 P) (.node (o382 P) (.node (o638 P) .nil .nil) .nil) (.node (o510 P) (.node (o766 P) .nil .nil) .nil))))))))
noncomputable def tr59 (P : Params) : BT := .node (boot_o_0 P) (.node (boot_o_1 P) (.node (c59x3 P) (.node (boot_o_7 P) (.node (o15 P) (.node (o31 P) (.node (o63 P) (.node (o127 P) (.node (o255 P) (.node (o511 P) (.node (o1023 P) .nil .nil) .nil) (.node (o767 P) .nil .nil)) (.node (o383 P) (.node (o639 P) .nil .nil) (.node (o895 P) .nil .nil))) (.node (o191 P) (.node (o319 P) (.node (o575 P) (.node (o1087 P) .nil .nil) .nil) (.node (o831 P) .nil .nil)) (.node (o447 P) (.node (o703 P) .nil .nil) (.node (o959 P) .nil .nil)))) (.node (o95 P) (.node (o159 P) (.node (o287 P) (.node (o543 P) (.node (o1055 P) .nil .nil) .nil) (.node (o799 P) .nil .nil)) (.node (o415 P) (.node (o671 P) .nil .nil) (.node (o927 P) .nil .nil))) (.node (o223 P) (.node (o351 P) (.node (o607 P) .nil .nil) (.node (o863 P) .nil .nil)) (.node (o479 P) (.node (o735 P) .nil .nil) (.node (o991 P) .nil .nil))))) (.node (o47 P) (.node (o79 P) (.node (o143 P) (.node (o271 P) (.node (o527 P) (.node (o1039 P) .nil .nil) .nil) (.node (o783 P) .nil .nil)) (.node (o399 P) (.node (o655 P) .nil .nil) (.node (o911 P) .nil .nil))) (.node (o207 P) (.node (o335 P) (.node (o591 P) (.node (o1103 P) .nil .nil) .nil) (.node (o847 P) .nil .nil)) (.node (o463 P) (.node (o719 P) .nil .nil) (.node (o975 P) .nil .nil)))) (.node (o111 P) (.node (o175 P) (.node (o303 P) (.node (o559 P) (.node (o1071 P) .nil .nil) .nil) (.node (o815 P) .nil .nil)) (.node (o431 P) (.node (o687 P) .nil .nil) (.node (o943 P) .nil .nil))) (.node (o239 P) (.node (o367 P) (.node (o623 P) .nil .nil) (.node (o879 P) .nil .nil)) (.node (o495 P) (.node (o751 P) .nil .nil) (.node (o1007 P) .nil .nil)))))) (.node (o23 P) (.node (o39 P) (.node (o71 P) (.node (o135 P) (.node (o263 P) (.node (o519 P) (.node (o1031 P) .nil .nil) .nil) (.node (o775 P) .nil .nil)) (.node (o391 P) (.node (o647 P) .nil .nil) (.node (o903 P) .nil .nil))) (.node (o199 P) (.node (o327 P) (.node (o583 P) (.node (o1095 P) .nil .nil) .nil) (.node (o839 P) .nil .nil)) (.node (o455 P) (.node (o711 P) .nil .nil) (.node (o967 P) .nil .nil)))) (.node (o103 P) (.node (o167 P) (.node (o295 P) (.node (o551 P) (.node (o1063 P) .nil .nil) .nil) (.node (o807 P) .nil .nil)) (.node (o423 P) (.node (o679 P) .nil .nil) (.node (o935 P) .nil .nil))) (.node (o231 P) (.node (o359 P) (.node (o615 P) .nil .nil) (.node (o871 P) .nil .nil)) (.node (o487 P) (.node (o743 P) .nil .nil) (.node (o999 P) .nil .nil))))) (.node (o55 P) (.node (o87 P) (.node (o151 P) (.node (o279 P) (.node (o535 P) (.node (o1047 P) .nil .nil) .nil) (.node (o791 P) .nil .nil)) (.node (o407 P) (.node (o663 P) .nil .nil) (.node (o919 P) .nil .nil))) (.node (o215 P) (.node (o343 P) (.node (o599 P) .nil .nil) (.node (o855 P) .nil .nil)) (.node (o471 P) (.node (o727 P) .nil .nil) (.node (o983 P) .nil .nil)))) (.node (o119 P) (.node (o183 P) (.node (o311 P) (.node (o567 P) (.node (o1079 P) .nil .nil) .nil) (.node (o823 P) .nil .nil)) (.node (o439 P) (.node (o695 P) .nil .nil) (.node (o951 P) .nil .nil))) (.node (o247 P) (.node (o375 P) (.node (o631 P) .nil .nil) (.node (o887 P) .nil .nil)) (.node (o503 P) (.node (o759 P) .nil .nil) (.node (o1015 P) .nil .nil))))))) (.node (o11 P) (.node (o19 P) (.node (o35 P) (.node (o67 P) (.node (o131 P) (.node (o259 P) (.node (o515 P) (.node (o1027 P) .nil .nil) .nil) (.node (o771 P) .nil .nil)) (.node (o387 P) (.node (o643 P) .nil .nil) (.node (o899 P) .nil .nil))) (.node (o195 P) (.node (o323 P) (.node (o579 P) (.node (o1091 P) .nil .nil) .nil) (.node (o835 P) .nil .nil)) (.node (o451 P) (.node (o707 P) .nil .nil) (.node (o963 P) .nil .nil)))) (.node (o99 P) (.node (o163 P) (.node (o291 P) (.node (o547 P) (.node (o1059 P) .nil .nil) .nil) (.node (o803 P) .nil .nil)) (.node (o419 P) (.node (o675 P) .nil .nil) (.node (o931 P) .nil .nil))) (.node (o227 P) (.node (o355 P) (.node (o611 P) .nil .nil) (.node (o867 P) .nil .nil)) (.node (o483 P) (.node (o739 P) .nil .nil) (.node (o995 P) .nil .nil))))) (.node (o51 P) (.node (o83 P) (.node (o147 P) (.node (o275 P) (.node (o531 P) (.node (o1043 P) .nil .nil) .nil) (.node (o787 P) .nil .nil)) (.node (o403 P) (.node (o659 P) .nil .nil) (.node (o915 P) .nil .nil))) (.node (o211 P) (.node (o339 P) (.node (o595 P) .nil .nil) (.node (o851 P) .nil .nil)) (.node (o467 P) (.node (o723 P) .nil .nil) (.node (o979 P) .nil .nil)))) (.node (o115 P) (.node (o179 P) (.node (o307 P) (.node (o563 P) (.node (o1075 P) .nil .nil) .nil) (.node (o819 P) .nil .nil)) (.node (o435 P) (.node (o691 P) .nil .nil) (.node (o947 P) .nil .nil))) (.node (o243 P) (.node (o371 P) (.node (o627 P) .nil .nil) (.node (o883 P) .nil .nil)) (.node (o499 P) (.node (o755 P) .nil .nil) (.node (o1011 P) .nil .nil)))))) (.node (o27 P) (.node (o43 P) (.node (o75 P) (.node (o139 P) (.node (o267 P) (.node (o523 P) (.node (o1035 P) .nil .nil) .nil) (.node (o779 P) .nil .nil)) (.node (o395 P) (.node (o651 P) .nil .nil) (.node (o907 P) .nil .nil))) (.node (o203 P) (.node (o331 P) (.node (o587 P) (.node (o1099 P) .nil .nil) .nil) (.node (o843 P) .nil .nil)) (.node (o459 P) (.node (o715 P) .nil .nil) (.node (o971 P) .nil .nil)))) (.node (o107 P) (.node (o171 P) (.node (o299 P) (.node (o555 P) (.node (o1067 P) .nil .nil) .nil) (.node (o811 P) .nil .nil)) (.node (o427 P) (.node (o683 P) .nil .nil) (.node (o939 P) .nil .nil))) (.node (o235 P) (.node (o363 P) (.node (o619 P) .nil .nil) (.node (o875 P) .nil .nil)) (.node (o491 P) (.node (o747 P) .nil .nil) (.node (o1003 P) .nil .nil))))) (.node (o59 P) (.node (o91 P) (.node (o155 P) (.node (o283 P) (.node (o539 P) (.node (o1051 P) .nil .nil) .nil) (.node (o795 P) .nil .nil)) (.node (o411 P) (.node (o667 P) .nil .nil) (.node (o923 P) .nil .nil))) (.node (o219 P) (.node (o347 P) (.node (o603 P) .nil .nil) (.node (o859 P) .nil .nil)) (.node (o475 P) (.node (o731 P) .nil .nil) (.node (o987 P) .nil .nil)))) (.node (o123 P) (.node (o187 P) (.node (o315 P) (.node (o571 P) (.node (o1083 P) .nil .nil) .nil) (.node (o827 P) .nil .nil)) (.node (o443 P) (.node (o699 P) .nil .nil) (.node (o955 P) .nil .nil))) (.node (o251 P) (.node (o379 P) (.node (o635 P) .nil .nil) (.node (o891 P) .nil .nil)) (.node (o507 P) (.node (o763 P) .nil .nil) (.node (o1019 P) .nil .nil)))))))) (.node (boot_o_5 P) (.node (boot_o_9 P) (.node (o17 P) (.node (o33 P) (.node (o65 P) (.node (o129 P) (.node (o257 P) (.node (o513 P) (.node (o1025 P) .nil .nil) .nil) (.node (o769 P) .nil .nil)) (.node (o385 P) (.node (o641 P) .nil .nil) (.node (o897 P) .nil .nil))) (.node (o193 P) (.node (o321 P) (.node (o577 P) (.node (o1089 P) .nil .nil) .nil) (.node (o833 P) .nil .nil)) (.node (o449 P) (.node (o705 P) .nil .nil) (.node (o961 P) .nil .nil)))) (.node (o97 P) (.node (o161 P) (.node (o289 P) (.node (o545 P) (.node (o1057 P) .nil .nil) .nil) (.node (o801 P) .nil .nil)) (.node (o417 P) (.node (o673 P) .nil .nil) (.node (o929 P) .nil .nil))) (.node (o225 P) (.node (o353 P) (.node (o609 P) .nil .nil) (.node (o865 P) .nil .nil)) (.node (o481 P) (.node (o737 P) .nil .nil) (.node (o993 P) .nil .nil))))) (.node (o49 P) (.node (o81 P) (.node (o145 P) (.node (o273 P) (.node (o529 P) (.node (o1041 P) .nil .nil) .nil) (.node (o785 P) .nil .nil)) (.node (o401 P) (.node (o657 P) .nil .nil) (.node (o913 P) .nil .nil))) (.node (o209 P) (.node (o337 P) (.node (o593 P) (.node (o1105 P) .nil .nil) .nil) (.node (o849 P) .nil .nil)) (.node (o465 P) (.node (o721 P) .nil .nil) (.node (o977 P) .nil .nil)))) (.node (o113 P) (.node (o177 P) (.node (o305 P) (.node (o561 P) (.node (o1073 P) .nil .nil) .nil) (.node (o817 P) .nil .nil)) (.node (o433 P) (.node (o689 P) .nil .nil) (.node (o945 P) .nil .nil))) (.node (o241 P) (.node (o369 P) (.node (o625 P) .nil .nil) (.node (o881 P) .nil .nil)) (.node (o497 P) (.node (o753 P) .nil .nil) (.node (o1009 P) .nil .nil)))))) (.node (o25 P) (.node (o41 P) (.node (o73 P) (.node (o137 P) (.node (o265 P) (.node (o521 P) (.node (o1033 P) .nil .nil) .nil) (.node (o777 P) .nil .nil)) (.node (o393 P) (.node (o649 P) .nil .nil) (.node (o905 P) .nil .nil))) (.node (o201 P) (.node (o329 P) (.node (o585 P) (.node (o1097 P) .nil .nil) .nil) (.node (o841 P) .nil .nil)) (.node (o457 P) (.node (o713 P) .nil .nil) (.node (o969 P) .nil .nil)))) (.node (o105 P) (.node (o169 P) (.node (o297 P) (.node (o553 P) (.node (o1065 P) .nil .nil) .nil) (.node (o809 P) .nil .nil)) (.node (o425 P) (.node (o681 P) .nil .nil) (.node (o937 P) .nil .nil))) (.node (o233 P) (.node (o361 P) (.node (o617 P) .nil .nil) (.node (o873 P) .nil .nil)) (.node (o489 P) (.node (o745 P) .nil .nil) (.node (o1001 P) .nil .nil))))) (.node (o57 P) (.node (o89 P) (.node (o153 P) (.node (o281 P) (.node (o537 P) (.node (o1049 P) .nil .nil) .nil) (.node (o793 P) .nil .nil)) (.node (o409 P) (.node (o665 P) .nil .nil) (.node (o921 P) .nil .nil))) (.node (o217 P) (.node (o345 P) (.node (o601 P) .nil .nil) (.node (o857 P) .nil .nil)) (.node (o473 P) (.node (o729 P) .nil .nil) (.node (o985 P) .nil .nil)))) (.node (o121 P) (.node (o185 P) (.node (o313 P) (.node (o569 P) (.node (o1081 P) .nil .nil) .nil) (.node (o825 P) .nil .nil)) (.node (o441 P) (.node (o697 P) .nil .nil) (.node (o953 P) .nil .nil))) (.node (o249 P) (.node (o377 P) (.node (o633 P) .nil .nil) (.node (o889 P) .nil .nil)) (.node (o505 P) (.node (o761 P) .nil .nil) (.node (o1017 P) .nil .nil))))))) (.node (o13 P) (.node (o21 P) (.node (o37 P) (.node (o69 P) (.node (o133 P) (.node (o261 P) (.node (o517 P) (.node (o1029 P) .nil .nil) .nil) (.node (o773 P) .nil .nil)) (.node (o389 P) (.node (o645 P) .nil .nil) (.node (o901 P) .nil .nil))) (.node (o197 P) (.node (o325 P) (.node (o581 P) (.node (o1093 P) .nil .nil) .nil) (.node (o837 P) .nil .nil)) (.node (o453 P) (.node (o709 P) .nil .nil) (.node (o965 P) .nil .nil)))) (.node (o101 P) (.node (o165 P) (.node (o293 P) (.node (o549 P) (.node (o1061 P) .nil .nil) .nil) (.node (o805 P) .nil .nil)) (.node (o421 P) (.node (o677 P) .nil .nil) (.node (o933 P) .nil .nil))) (.node (o229 P) (.node (o357 P) (.node (o613 P) .nil .nil) (.node (o869 P) .nil .nil)) (.node (o485 P) (.node (o741 P) .nil .nil) (.node (o997 P) .nil .nil))))) (.node (o53 P) (.node (o85 P) (.node (o149 P) (.node (o277 P) (.node (o533 P) (.node (o1045 P) .nil .nil) .nil) (.node (o789 P) .nil .nil)) (.node (o405 P) (.node (o661 P) .nil .nil) (.node (o917 P) .nil .nil))) (.node (o213 P) (.node (o341 P) (.node (o597 P) .nil .nil) (.node (o853 P) .nil .nil)) (.node (o469 P) (.node (o725 P) .nil .nil) (.node (o981 P) .nil .nil)))) (.node (o117 P) (.node (o181 P) (.node (o309 P) (.node (o565 P) (.node (o1077 P) .nil .nil) .nil) (.node (o821 P) .nil .nil)) (.node (o437 P) (.node (o693 P) .nil .nil) (.node (o949 P) .nil .nil))) (.node (o245 P) (.node (o373 P) (.node (o629 P) .nil .nil) (.node (o885 P) .nil .nil)) (.node (o501 P) (.node (o757 P) .nil .nil) (.node (o1013 P) .nil .nil)))))) (.node (o29 P) (.node (o45 P) (.node (o77 P) (.node (o141 P) (.node (o269 P) (.node (o525 P) (.node (o1037 P) .nil .nil) .nil) (.node (o781 P) .nil .nil)) (.node (o397 P) (.node (o653 P) .nil .nil) (.node (o909 P) .nil .nil))) (.node (o205 P) (.node (o333 P) (.node (o589 P) (.node (o1101 P) .nil .nil) .nil) (.node (o845 P) .nil .nil)) (.node (o461 P) (.node (o717 P) .nil .nil) (.node (o973 P) .nil .nil)))) (.node (o109 P) (.node (o173 P) (.node (o301 P) (.node (o557 P) (.node (o1069 P) .nil .nil) .nil) (.node (o813 P) .nil .nil)) (.node (o429 P) (.node (o685 P) .nil .nil) (.node (o941 P) .nil .nil))) (.node (o237 P) (.node (o365 P) (.node (o621 P) .nil .nil) (.node (o877 P) .nil .nil)) (.node (o493 P) (.node (o749 P) .nil .nil) (.node (o1005 P) .nil .nil))))) (.node (o61 P) (.node (o93 P) (.node (o157 P) (.node (o285 P) (.node (o541 P) (.node (o1053 P) .nil .nil) .nil) (.node (o797 P) .nil .nil)) (.node (o413 P) (.node (o669 P) .nil .nil) (.node (o925 P) .nil .nil))) (.node (o221 P) (.node (o349 P) (.node (o605 P) .nil .nil) (.node (o861 P) .nil .nil)) (.node (o477 P) (.node (o733 P) .nil .nil) (.node (o989 P) .nil .nil)))) (.node (o125 P) (.node (o189 P) (.node (o317 P) (.node (o573 P) (.node (o1085 P) .nil .nil) .nil) (.node (o829 P) .nil .nil)) (.node (o445 P) (.node (o701 P) .nil .nil) (.node (o957 P) .nil .nil))) (.node (o253 P) (.node (o381 P) (.node (o637 P) .nil .nil) (.node (o893 P) .nil .nil)) (.node (o509 P) (.node (o765 P) .nil .nil) (.node (o1021 P) .nil .nil))))))))) (.node (o2 P) (.node (boot_o_4 P) (.node (boot_o_8 P) (.node (o16 P) (.node (o32 P) (.node (o64 P) (.node (o128 P) (.node (o256 P) (.node (o512 P) (.node (o1024 P) .nil .nil) .nil) (.node (o768 P) .nil .nil)) (.node (o384 P) (.node (o640 P) .nil .nil) (.node (o896 P) .nil .nil))) (.node (o192 P) (.node (o320 P) (.node (o576 P) (.node (o1088 P) .nil .nil) .nil) (.node (o832 P) .nil .nil)) (.node (o448 P) (.node (o704 P) .nil .nil) (.node (o960 P) .nil .nil)))) (.node (o96 P) (.node (o160 P) (.node (o288 P) (.node (o544 P) (.node (o1056 P) .nil .nil) .nil) (.node (o800 P) .nil .nil)) (.node (o416 P) (.node (o672 P) .nil .nil) (.node (o928 P) .nil .nil))) (.node (o224 P) (.node (o352 P) (.node (o608 P) .nil .nil) (.node (o864 P) .nil .nil)) (.node (o480 P) (.node (o736 P) .nil .nil) (.node (o992 P) .nil .nil))))) (.node (o48 P) (.node (o80 P) (.node (o144 P) (.node (o272 P) (.node (o528 P) (.node (o1040 P) .nil .nil) .nil) (.node (o784 P) .nil .nil)) (.node (o400 P) (.node (o656 P) .nil .nil) (.node (o912 P) .nil .nil))) (.node (o208 P) (.node (o336 P) (.node (o592 P) (.node (o1104 P) .nil .nil) .nil) (.node (o848 P) .nil .nil)) (.node (o464 P) (.node (o720 P) .nil .nil) (.node (o976 P) .nil .nil)))) (.node (o112 P) (.node (o176 P) (.node (o304 P) (.node (o560 P) (.node (o1072 P) .nil .nil) .nil) (.node (o816 P) .nil .nil)) (.node (o432 P) (.node (o688 P) .nil .nil) (.node (o944 P) .nil .nil))) (.node (o240 P) (.node (o368 P) (.node (o624 P) .nil .nil) (.node (o880 P) .nil .nil)) (.node (o496 P) (.node (o752 P) .nil .nil) (.node (o1008 P) .nil .nil)))))) (.node (o24 P) (.node (o40 P) (.node (o72 P) (.node (o136 P) (.node (o264 P) (.node (o520 P) (.node (o1032 P) .nil .nil) .nil) (.node (o776 P) .nil .nil)) (.node (o392 P) (.node (o648 P) .nil .nil) (.node (o904 P) .nil .nil))) (.node (o200 P) (.node (o328 P) (.node (o584 P) (.node (o1096 P) .nil .nil) .nil) (.node (o840 P) .nil .nil)) (.node (o456 P) (.node (o712 P) .nil .nil) (.node (o968 P) .nil .nil)))) (.node (o104 P) (.node (o168 P) (.node (o296 P) (.node (o552 P) (.node (o1064 P) .nil .nil) .nil) (.node (o808 P) .nil .nil)) (.node (o424 P) (.node (o680 P) .nil .nil) (.node (o936 P) .nil .nil))) (.node (o232 P) (.node (o360 P) (.node (o616 P) .nil .nil) (.node (o872 P) .nil .nil)) (.node (o488 P) (.node (o744 P) .nil .nil) (.node (o1000 P) .nil .nil))))) (.node (o56 P) (.node (o88 P) (.node (o152 P) (.node (o280 P) (.node (o536 P) (.node (o1048 P) .nil .nil) .nil) (.node (o792 P) .nil .nil)) (.node (o408 P) (.node (o664 P) .nil .nil) (.node (o920 P) .nil .nil))) (.node (o216 P) (.node (o344 P) (.node (o600 P) .nil .nil) (.node (o856 P) .nil .nil)) (.node (o472 P) (.node (o728 P) .nil .nil) (.node (o984 P) .nil .nil)))) (.node (o120 P) (.node (o184 P) (.node (o312 P) (.node (o568 P) (.node (o1080 P) .nil .nil) .nil) (.node (o824 P) .nil .nil)) (.node (o440 P) (.node (o696 P) .nil .nil) (.node (o952 P) .nil .nil))) (.node (o248 P) (.node (o376 P) (.node (o632 P) .nil .nil) (.node (o888 P) .nil .nil)) (.node (o504 P) (.node (o760 P) .nil .nil) (.node (o1016 P) .nil .nil))))))) (.node (c59x12 P) (.node (o20 P) (.node (o36 P) (.node (o68 P) (.node (o132 P) (.node (o260 P) (.node (o516 P) (.node (o1028 P) .nil .nil) .nil) (.node (o772 P) .nil .nil)) (.node (o388 P) (.node (o644 P) .nil .nil) (.node (o900 P) .nil .nil))) (.node (o196 P) (.node (o324 P) (.node (o580 P) (.node (o1092 P) .nil .nil) .nil) (.node (o836 P) .nil .nil)) (.node (o452 P) (.node (o708 P) .nil .nil) (.node (o964 P) .nil .nil)))) (.node (o100 P) (.node (o164 P) (.node (o292 P) (.node (o548 P) (.node (o1060 P) .nil .nil) .nil) (.node (o804 P) .nil .nil)) (.node (o420 P) (.node (o676 P) .nil .nil) (.node (o932 P) .nil .nil))) (.node (o228 P) (.node (o356 P) (.node (o612 P) .nil .nil) (.node (o868 P) .nil .nil)) (.node (o484 P) (.node (o740 P) .nil .nil) (.node (o996 P) .nil .nil))))) (.node (o52 P) (.node (o84 P) (.node (o148 P) (.node (o276 P) (.node (o532 P) (.node (o1044 P) .nil .nil) .nil) (.node (o788 P) .nil .nil)) (.node (o404 P) (.node (o660 P) .nil .nil) (.node (o916 P) .nil .nil))) (.node (o212 P) (.node (o340 P) (.node (o596 P) .nil .nil) (.node (o852 P) .nil .nil)) (.node (o468 P) (.node (o724 P) .nil .nil) (.node (o980 P) .nil .nil)))) (.node (o116 P) (.node (o180 P) (.node (o308 P) (.node (o564 P) (.node (o1076 P) .nil .nil) .nil) (.node (o820 P) .nil .nil)) (.node (o436 P) (.node (o692 P) .nil .nil) (.node (o948 P) .nil .nil))) (.node (o244 P) (.node (o372 P) (.node (o628 P) .nil .nil) (.node (o884 P) .nil .nil)) (.node (o500 P) (.node (o756 P) .nil .nil) (.node (o1012 P) .nil .nil)))))) (.node (o28 P) (.node (o44 P) (.node (o76 P) (.node (o140 P) (.node (o268 P) (.node (o524 P) (.node (o1036 P) .nil .nil) .nil) (.node (o780 P) .nil .nil)) (.node (o396 P) (.node (o652 P) .nil .nil) (.node (o908 P) .nil .nil))) (.node (o204 P) (.node (o332 P) (.node (o588 P) (.node (o1100 P) .nil .nil) .nil) (.node (o844 P) .nil .nil)) (.node (o460 P) (.node (o716 P) .nil .nil) (.node (o972 P) .nil .nil)))) (.node (o108 P) (.node (o172 P) (.node (o300 P) (.node (o556 P) (.node (o1068 P) .nil .nil) .nil) (.node (o812 P) .nil .nil)) (.node (o428 P) (.node (o684 P) .nil .nil) (.node (o940 P) .nil .nil))) (.node (o236 P) (.node (o364 P) (.node (o620 P) .nil .nil) (.node (o876 P) .nil .nil)) (.node (o492 P) (.node (o748 P) .nil .nil) (.node (o1004 P) .nil .nil))))) (.node (o60 P) (.node (o92 P) (.node (o156 P) (.node (o284 P) (.node (o540 P) (.node (o1052 P) .nil .nil) .nil) (.node (o796 P) .nil .nil)) (.node (o412 P) (.node (o668 P) .nil .nil) (.node (o924 P) .nil .nil))) (.node (o220 P) (.node (o348 P) (.node (o604 P) .nil .nil) (.node (o860 P) .nil .nil)) (.node (o476 P) (.node (o732 P) .nil .nil) (.node (o988 P) .nil .nil)))) (.node (o124 P) (.node (o188 P) (.node (o316 P) (.node (o572 P) (.node (o1084 P) .nil .nil) .nil) (.node (o828 P) .nil .nil)) (.node (o444 P) (.node (o700 P) .nil .nil) (.node (o956 P) .nil .nil))) (.node (o252 P) (.node (o380 P) (.node (o636 P) .nil .nil) (.node (o892 P) .nil .nil)) (.node (o508 P) (.node (o764 P) .nil .nil) (.node (o1020 P) .nil .nil)))))))) (.node (boot_o_6 P) (.node (boot_o_10 P) (.node (o18 P) (.node (o34 P) (.node (o66 P) (.node (o130 P) (.node (o258 P) (.node (o514 P) (.node (o1026 P) .nil .nil) .nil) (.node (o770 P) .nil .nil)) (.node (o386 P) (.node (o642 P) .nil .nil) (.node (o898 P) .nil .nil))) (.node (o194 P) (.node (o322 P) (.node (o578 P) (.node (o1090 P) .nil .nil) .nil) (.node (o834 P) .nil .nil)) (.node (o450 P) (.node (o706 P) .nil .nil) (.node (o962 P) .nil .nil)))) (.node (o98 P) (.node (o162 P) (.node (o290 P) (.node (o546 P) (.node (o1058 P) .nil .nil) .nil) (.node (o802 P) .nil .nil)) (.node (o418 P) (.node (o674 P) .nil .nil) (.node (o930 P) .nil .nil))) (.node (o226 P) (.node (o354 P) (.node (o610 P) .nil .nil) (.node (o866 P) .nil .nil)) (.node (o482 P) (.node (o738 P) .nil .nil) (.node (o994 P) .nil .nil))))) (.node (o50 P) (.node (o82 P) (.node (o146 P) (.node (o274 P) (.node (o530 P) (.node (o1042 P) .nil .nil) .nil) (.node (o786 P) .nil .nil)) (.node (o402 P) (.node (o658 P) .nil .nil) (.node (o914 P) .nil .nil))) (.node (o210 P) (.node (o338 P) (.node (o594 P) .nil .nil) (.node (o850 P) .nil .nil)) (.node (o466 P) (.node (o722 P) .nil .nil) (.node (o978 P) .nil .nil)))) (.node (o114 P) (.node (o178 P) (.node (o306 P) (.node (o562 P) (.node (o1074 P) .nil .nil) .nil) (.node (o818 P) .nil .nil)) (.node (o434 P) (.node (o690 P) .nil .nil) (.node (o946 P) .nil .nil))) (.node (o242 P) (.node (o370 P) (.node (o626 P) .nil .nil) (.node (o882 P) .nil .nil)) (.node (o498 P) (.node (o754 P) .nil .nil) (.node (o1010 P) .nil .nil)))))) (.node (o26 P) (.node (o42 P) (.node (o74 P) (.node (o138 P) (.node (o266 P) (.node (o522 P) (.node (o1034 P) .nil .nil) .nil) (.node (o778 P) .nil .nil)) (.node (o394 P) (.node (o650 P) .nil .nil) (.node (o906 P) .nil .nil))) (.node (o202 P) (.node (o330 P) (.node (o586 P) (.node (o1098 P) .nil .nil) .nil) (.node (o842 P) .nil .nil)) (.node (o458 P) (.node (o714 P) .nil .nil) (.node (o970 P) .nil .nil)))) (.node (o106 P) (.node (o170 P) (.node (o298 P) (.node (o554 P) (.node (o1066 P) .nil .nil) .nil) (.node (o810 P) .nil .nil)) (.node (o426 P) (.node (o682 P) .nil .nil) (.node (o938 P) .nil .nil))) (.node (o234 P) (.node (o362 P) (.node (o618 P) .nil .nil) (.node (o874 P) .nil .nil)) (.node (o490 P) (.node (o746 P) .nil .nil) (.node (o1002 P) .nil .nil))))) (.node (o58 P) (.node (o90 P) (.node (o154 P) (.node (o282 P) (.node (o538 P) (.node (o1050 P) .nil .nil) .nil) (.node (o794 P) .nil .nil)) (.node (o410 P) (.node (o666 P) .nil .nil) (.node (o922 P) .nil .nil))) (.node (o218 P) (.node (o346 P) (.node (o602 P) .nil .nil) (.node (o858 P) .nil .nil)) (.node (o474 P) (.node (o730 P) .nil .nil) (.node (o986 P) .nil .nil)))) (.node (o122 P) (.node (o186 P) (.node (o314 P) (.node (o570 P) (.node (o1082 P) .nil .nil) .nil) (.node (o826 P) .nil .nil)) (.node (o442 P) (.node (o698 P) .nil .nil) (.node (o954 P) .nil .nil))) (.node (o250 P) (.node (o378 P) (.node (o634 P) .nil .nil) (.node (o890 P) .nil .nil)) (.node (o506 P) (.node (o762 P) .nil .nil) (.node (o1018 P) .nil .nil))))))) (.node (o14 P) (.node (o22 P) (.node (o38 P) (.node (o70 P) (.node (o134 P) (.node (o262 P) (.node (o518 P) (.node (o1030 P) .nil .nil) .nil) (.node (o774 P) .nil .nil)) (.node (o390 P) (.node (o646 P) .nil .nil) (.node (o902 P) .nil .nil))) (.node (o198 P) (.node (o326 P) (.node (o582 P) (.node (o1094 P) .nil .nil) .nil) (.node (o838 P) .nil .nil)) (.node (o454 P) (.node (o710 P) .nil .nil) (.node (o966 P) .nil .nil)))) (.node (o102 P) (.node (o166 P) (.node (o294 P) (.node (o550 P) (.node (o1062 P) .nil .nil) .nil) (.node (o806 P) .nil .nil)) (.node (o422 P) (.node (o678 P) .nil .nil) (.node (o934 P) .nil .nil))) (.node (o230 P) (.node (o358 P) (.node (o614 P) .nil .nil) (.node (o870 P) .nil .nil)) (.node (o486 P) (.node (o742 P) .nil .nil) (.node (o998 P) .nil .nil))))) (.node (o54 P) (.node (o86 P) (.node (o150 P) (.node (o278 P) (.node (o534 P) (.node (o1046 P) .nil .nil) .nil) (.node (o790 P) .nil .nil)) (.node (o406 P) (.node (o662 P) .nil .nil) (.node (o918 P) .nil .nil))) (.node (o214 P) (.node (o342 P) (.node (o598 P) .nil .nil) (.node (o854 P) .nil .nil)) (.node (o470 P) (.node (o726 P) .nil .nil) (.node (o982 P) .nil .nil)))) (.node (o118 P) (.node (o182 P) (.node (o310 P) (.node (o566 P) (.node (o1078 P) .nil .nil) .nil) (.node (o822 P) .nil .nil)) (.node (o438 P) (.node (o694 P) .nil .nil) (.node (o950 P) .nil .nil))) (.node (o246 P) (.node (o374 P) (.node (o630 P) .nil .nil) (.node (o886 P) .nil .nil)) (.node (o502 P) (.node (o758 P) .nil .nil) (.node (o1014 P) .nil .nil)))))) (.node (o30 P) (.node (o46 P) (.node (o78 P) (.node (o142 P) (.node (o270 P) (.node (o526 P) (.node (o1038 P) .nil .nil) .nil) (.node (o782 P) .nil .nil)) (.node (o398 P) (.node (o654 P) .nil .nil) (.node (o910 P) .nil .nil))) (.node (o206 P) (.node (o334 P) (.node (o590 P) (.node (o1102 P) .nil .nil) .nil) (.node (o846 P) .nil .nil)) (.node (o462 P) (.node (o718 P) .nil .nil) (.node (o974 P) .nil .nil)))) (.node (o110 P) (.node (o174 P) (.node (o302 P) (.node (o558 P) (.node (o1070 P) .nil .nil) .nil) (.node (o814 P) .nil .nil)) (.node (o430 P) (.node (o686 P) .nil .nil) (.node (o942 P) .nil .nil))) (.node (o238 P) (.node (o366 P) (.node (o622 P) .nil .nil) (.node (o878 P) .nil .nil)) (.node (o494 P) (.node (o750 P) .nil .nil) (.node (o1006 P) .nil .nil))))) (.node (o62 P) (.node (o94 P) (.node (o158 P) (.node (o286 P) (.node (o542 P) (.node (o1054 P) .nil .nil) .nil) (.node (o798 P) .nil .nil)) (.node (o414 P) (.node (o670 P) .nil .nil) (.node (o926 P) .nil .nil))) (.node (o222 P) (.node (o350 P) (.node (o606 P) .nil .nil) (.node (o862 P) .nil .nil)) (.node (o478 P) (.node (o734 P) .nil .nil) (.node (o990 P) .nil .nil)))) (.node (o126 P) (.node (o190 P) (.node (o318 P) (.node (o574 P) (.node (o1086 P) .nil .nil) .nil) (.node (o830 P) .nil .nil)) (.node (o446 P) (.node (o702 P) .nil .nil) (.node (o958 P) .nil .nil))) (.node (o254 P) (.node (o382 P) (.node (o638 P) .nil .nil) (.node (o894 P) .nil .nil)) (.node (o510 P) (.node (o766 P) .nil .nil) (.node (o1022 P) .nil .nil)))))))))
noncomputable abbrev lc0 : List Stmt := bd.take 39
noncomputable abbrev rc0 : List Stmt := bd.drop 39
noncomputable abbrev lc1 : List Stmt := rc0.take 4
noncomputable abbrev rc1 : List Stmt := rc0.drop 4
noncomputable abbrev lc2 : List Stmt := rc1.take 1
noncomputable abbrev rc2 : List Stmt := rc1.drop 1
noncomputable abbrev lc3 : List Stmt := rc2.take 8
noncomputable abbrev rc3 : List Stmt := rc2.drop 8
noncomputable abbrev lc4 : List Stmt := rc3.take 1
noncomputable abbrev rc4 : List Stmt := rc3.drop 1
noncomputable abbrev lc5 : List Stmt := rc4.take 2
noncomputable abbrev rc5 : List Stmt := rc4.drop 2
noncomputable abbrev lc6 : List Stmt := rc5.take 5
noncomputable abbrev rc6 : List Stmt := rc5.drop 5
theorem runA0 (w : World) : (fun os => Fast.tw10110043849684766642 Fast.tw14364793385576792824 pw w (nat_lit 11) (some (.ref (nat_lit 6))) (nat_lit 1) (nat_lit 1200) ⟨trb w.params, (nat_lit 15), {}, #[], {}, (nat_lit 187), os⟩ (piecesOf lc0 ev cE p0 [topFrame p0])) =
  fun os => some (.next, ⟨tr38 w.params, (nat_lit 143), {}, #[], {}, (nat_lit 401), os⟩, cE, (⟨96, 0, 104, 16⟩ : Pos)) := by kernel_rfl
theorem runB0 (w : World) (os : OsState) : segRunT treeTable pw w (nat_lit 11) (some (.ref (nat_lit 6))) (nat_lit 1) (nat_lit 1200) ⟨trb w.params, (nat_lit 15), {}, #[], {}, (nat_lit 187), os⟩ (piecesOf lc0 ev cE p0 [topFrame p0]) =
  some (.next, ⟨tr38 w.params, (nat_lit 143), {}, #[], {}, (nat_lit 401), os⟩, cE, (⟨96, 0, 104, 16⟩ : Pos)) := by
  rw [Fast.te10110043849684766642, Fast.te14364793385576792824]
  exact congrFun (runA0 w) os
theorem runA1 (w : World) : (fun os => Fast.tw10110043849684766642 Fast.tw14364793385576792824 pw w (nat_lit 11) (some (.ref (nat_lit 6))) (nat_lit 1) (nat_lit 1000) ⟨tr38 w.params, (nat_lit 143), {}, #[], {}, (nat_lit 401), os⟩ (piecesOf lc1 ev cE (⟨96, 0, 104, 16⟩ : Pos) [topFrame p0])) =
  fun os => some (.next, ⟨tr42 w.params, (nat_lit 278), {}, #[], {}, (nat_lit 572), os⟩, cE, (⟨142, 0, 164, 16⟩ : Pos)) := by kernel_rfl
theorem runB1 (w : World) (os : OsState) : segRunT treeTable pw w (nat_lit 11) (some (.ref (nat_lit 6))) (nat_lit 1) (nat_lit 1000) ⟨tr38 w.params, (nat_lit 143), {}, #[], {}, (nat_lit 401), os⟩ (piecesOf lc1 ev cE (⟨96, 0, 104, 16⟩ : Pos) [topFrame p0]) =
  some (.next, ⟨tr42 w.params, (nat_lit 278), {}, #[], {}, (nat_lit 572), os⟩, cE, (⟨142, 0, 164, 16⟩ : Pos)) := by
  rw [Fast.te10110043849684766642, Fast.te14364793385576792824]
  exact congrFun (runA1 w) os
theorem runA2 (w : World) : (fun os => Fast.tw10110043849684766642 Fast.tw14364793385576792824 pw w (nat_lit 11) (some (.ref (nat_lit 6))) (nat_lit 1) (nat_lit 850) ⟨tr42 w.params, (nat_lit 278), {}, #[], {}, (nat_lit 572), os⟩ (piecesOf lc2 ev cE (⟨142, 0, 164, 16⟩ : Pos) [topFrame p0])) =
  fun os => some (.next, ⟨tr43 w.params, (nat_lit 411), {}, #[], {}, (nat_lit 733), os⟩, cE, (⟨165, 0, 221, 17⟩ : Pos)) := by kernel_rfl
theorem runB2 (w : World) (os : OsState) : segRunT treeTable pw w (nat_lit 11) (some (.ref (nat_lit 6))) (nat_lit 1) (nat_lit 850) ⟨tr42 w.params, (nat_lit 278), {}, #[], {}, (nat_lit 572), os⟩ (piecesOf lc2 ev cE (⟨142, 0, 164, 16⟩ : Pos) [topFrame p0]) =
  some (.next, ⟨tr43 w.params, (nat_lit 411), {}, #[], {}, (nat_lit 733), os⟩, cE, (⟨165, 0, 221, 17⟩ : Pos)) := by
  rw [Fast.te10110043849684766642, Fast.te14364793385576792824]
  exact congrFun (runA2 w) os
theorem runA3 (w : World) : (fun os => Fast.tw10110043849684766642 Fast.tw14364793385576792824 pw w (nat_lit 11) (some (.ref (nat_lit 6))) (nat_lit 1) (nat_lit 900) ⟨tr43 w.params, (nat_lit 411), {}, #[], {}, (nat_lit 733), os⟩ (piecesOf lc3 ev cE (⟨165, 0, 221, 17⟩ : Pos) [topFrame p0])) =
  fun os => some (.next, ⟨tr51 w.params, (nat_lit 546), {}, #[], {}, (nat_lit 902), os⟩, cE, (⟨284, 0, 292, 16⟩ : Pos)) := by kernel_rfl
theorem runB3 (w : World) (os : OsState) : segRunT treeTable pw w (nat_lit 11) (some (.ref (nat_lit 6))) (nat_lit 1) (nat_lit 900) ⟨tr43 w.params, (nat_lit 411), {}, #[], {}, (nat_lit 733), os⟩ (piecesOf lc3 ev cE (⟨165, 0, 221, 17⟩ : Pos) [topFrame p0]) =
  some (.next, ⟨tr51 w.params, (nat_lit 546), {}, #[], {}, (nat_lit 902), os⟩, cE, (⟨284, 0, 292, 16⟩ : Pos)) := by
  rw [Fast.te10110043849684766642, Fast.te14364793385576792824]
  exact congrFun (runA3 w) os
theorem runA4 (w : World) : (fun os => Fast.tw10110043849684766642 Fast.tw14364793385576792824 pw w (nat_lit 11) (some (.ref (nat_lit 6))) (nat_lit 1) (nat_lit 900) ⟨tr51 w.params, (nat_lit 546), {}, #[], {}, (nat_lit 902), os⟩ (piecesOf lc4 ev cE (⟨284, 0, 292, 16⟩ : Pos) [topFrame p0])) =
  fun os => some (.next, ⟨tr52 w.params, (nat_lit 675), {}, #[], {}, (nat_lit 1079), os⟩, cE, (⟨293, 0, 375, 17⟩ : Pos)) := by kernel_rfl
theorem runB4 (w : World) (os : OsState) : segRunT treeTable pw w (nat_lit 11) (some (.ref (nat_lit 6))) (nat_lit 1) (nat_lit 900) ⟨tr51 w.params, (nat_lit 546), {}, #[], {}, (nat_lit 902), os⟩ (piecesOf lc4 ev cE (⟨284, 0, 292, 16⟩ : Pos) [topFrame p0]) =
  some (.next, ⟨tr52 w.params, (nat_lit 675), {}, #[], {}, (nat_lit 1079), os⟩, cE, (⟨293, 0, 375, 17⟩ : Pos)) := by
  rw [Fast.te10110043849684766642, Fast.te14364793385576792824]
  exact congrFun (runA4 w) os
theorem runA5 (w : World) : (fun os => Fast.tw10110043849684766642 Fast.tw14364793385576792824 pw w (nat_lit 11) (some (.ref (nat_lit 6))) (nat_lit 1) (nat_lit 1000) ⟨tr52 w.params, (nat_lit 675), {}, #[], {}, (nat_lit 1079), os⟩ (piecesOf lc5 ev cE (⟨293, 0, 375, 17⟩ : Pos) [topFrame p0])) =
  fun os => some (.next, ⟨tr54 w.params, (nat_lit 822), {}, #[], {}, (nat_lit 1290), os⟩, cE, (⟨377, 0, 475, 87⟩ : Pos)) := by kernel_rfl
theorem runB5 (w : World) (os : OsState) : segRunT treeTable pw w (nat_lit 11) (some (.ref (nat_lit 6))) (nat_lit 1) (nat_lit 1000) ⟨tr52 w.params, (nat_lit 675), {}, #[], {}, (nat_lit 1079), os⟩ (piecesOf lc5 ev cE (⟨293, 0, 375, 17⟩ : Pos) [topFrame p0]) =
  some (.next, ⟨tr54 w.params, (nat_lit 822), {}, #[], {}, (nat_lit 1290), os⟩, cE, (⟨377, 0, 475, 87⟩ : Pos)) := by
  rw [Fast.te10110043849684766642, Fast.te14364793385576792824]
  exact congrFun (runA5 w) os
theorem runA6 (w : World) : (fun os => Fast.tw10110043849684766642 Fast.tw14364793385576792824 pw w (nat_lit 11) (some (.ref (nat_lit 6))) (nat_lit 1) (nat_lit 1600) ⟨tr54 w.params, (nat_lit 822), {}, #[], {}, (nat_lit 1290), os⟩ (piecesOf lc6 ev cE (⟨377, 0, 475, 87⟩ : Pos) [topFrame p0])) =
  fun os => some (.next, ⟨tr59 w.params, (nat_lit 1106), {}, #[], {}, (nat_lit 1628), os⟩, cE, (⟨487, 0, 624, 42⟩ : Pos)) := by kernel_rfl
theorem runB6 (w : World) (os : OsState) : segRunT treeTable pw w (nat_lit 11) (some (.ref (nat_lit 6))) (nat_lit 1) (nat_lit 1600) ⟨tr54 w.params, (nat_lit 822), {}, #[], {}, (nat_lit 1290), os⟩ (piecesOf lc6 ev cE (⟨377, 0, 475, 87⟩ : Pos) [topFrame p0]) =
  some (.next, ⟨tr59 w.params, (nat_lit 1106), {}, #[], {}, (nat_lit 1628), os⟩, cE, (⟨487, 0, 624, 42⟩ : Pos)) := by
  rw [Fast.te10110043849684766642, Fast.te14364793385576792824]
  exact congrFun (runA6 w) os
theorem runA7 (w : World) : (fun os => Fast.tw10110043849684766642 Fast.tw14364793385576792824 pw w (nat_lit 11) (some (.ref (nat_lit 6))) (nat_lit 1) (nat_lit 550) ⟨tr59 w.params, (nat_lit 1106), {}, #[], {}, (nat_lit 1628), os⟩ (piecesOf rc6 ev cE (⟨487, 0, 624, 42⟩ : Pos) [topFrame p0])) =
  fun os => some (.next, ⟨tr w.params, (nat_lit 1144), {}, #[], {}, (nat_lit 1695), os⟩, cE, p1) := by kernel_rfl
theorem runB7 (w : World) (os : OsState) : segRunT treeTable pw w (nat_lit 11) (some (.ref (nat_lit 6))) (nat_lit 1) (nat_lit 550) ⟨tr59 w.params, (nat_lit 1106), {}, #[], {}, (nat_lit 1628), os⟩ (piecesOf rc6 ev cE (⟨487, 0, 624, 42⟩ : Pos) [topFrame p0]) =
  some (.next, ⟨tr w.params, (nat_lit 1144), {}, #[], {}, (nat_lit 1695), os⟩, cE, p1) := by
  rw [Fast.te10110043849684766642, Fast.te14364793385576792824]
  exact congrFun (runA7 w) os
noncomputable section
noncomputable def hA (P : Params) : Heap := ⟨[boot_o_0 P, boot_o_1 P, boot_o_2 P, boot_o_3 P, boot_o_4 P, boot_o_5 P, boot_o_6 P, boot_o_7 P, boot_o_8 P, boot_o_9 P, boot_o_10 P, o11 P, tb [], o13 P, o14 P].toArray, {}⟩
noncomputable def hF (P : Params) : Heap := ⟨[boot_o_0 P, boot_o_1 P, o2 P, o3 P, boot_o_4 P, boot_o_5 P, boot_o_6 P, boot_o_7 P, boot_o_8 P, boot_o_9 P, boot_o_10 P, o11 P, o12 P, o13 P, o14 P, o15 P, o16 P, o17 P, o18 P, o19 P, o20 P, o21 P, o22 P, o23 P, o24 P, o25 P, o26 P, o27 P, o28 P, o29 P, o30 P, o31 P, o32 P, o33 P, o34 P, o35 P, o36 P, o37 P, o38 P, o39 P, o40 P, o41 P, o42 P, o43 P, o44 P, o45 P, o46 P, o47 P, o48 P, o49 P, o50 P, o51 P, o52 P, o53 P, o54 P, o55 P, o56 P, o57 P, o58 P, o59 P, o60 P, o61 P, o62 P, o63 P, o64 P, o65 P, o66 P, o67 P, o68 P, o69 P, o70 P, o71 P, o72 P, o73 P, o74 P, o75 P, o76 P, o77 P, o78 P, o79 P, o80 P, o81 P, o82 P, o83 P, o84 P, o85 P, o86 P, o87 P, o88 P, o89 P, o90 P, o91 P, o92 P, o93 P, o94 P, o95 P, o96 P, o97 P, o98 P, o99 P, o100 P, o101 P, o102 P, o103 P, o104 P, o105 P, o106 P, o107 P, o108 P, o109 P, o110 P, o111 P, o112 P, o113 P, o114 P, o115 P, o116 P, o117 P, o118 P, o119 P, o120 P, o121 P, o122 P, o123 P, o124 P, o125 P, o126 P, o127 P, o128 P, o129 P, o130 P, o131 P, o132 P, o133 P, o134 P, o135 P, o136 P, o137 P, o138 P, o139 P, o140 P, o141 P, o142 P, o143 P, o144 P, o145 P, o146 P, o147 P, o148 P, o149 P, o150 P, o151 P, o152 P, o153 P, o154 P, o155 P, o156 P, o157 P, o158 P, o159 P, o160 P, o161 P, o162 P, o163 P, o164 P, o165 P, o166 P, o167 P, o168 P, o169 P, o170 P, o171 P, o172 P, o173 P, o174 P, o175 P, o176 P, o177 P, o178 P, o179 P, o180 P, o181 P, o182 P, o183 P, o184 P, o185 P, o186 P, o187 P, o188 P, o189 P, o190 P, o191 P, o192 P, o193 P, o194 P, o195 P, o196 P, o197 P, o198 P, o199 P, o200 P, o201 P, o202 P, o203 P, o204 P, o205 P, o206 P, o207 P, o208 P, o209 P, o210 P, o211 P, o212 P, o213 P, o214 P, o215 P, o216 P, o217 P, o218 P, o219 P, o220 P, o221 P, o222 P, o223 P, o224 P, o225 P, o226 P, o227 P, o228 P, o229 P, o230 P, o231 P, o232 P, o233 P, o234 P, o235 P, o236 P, o237 P, o238 P, o239 P, o240 P, o241 P, o242 P, o243 P, o244 P, o245 P, o246 P, o247 P, o248 P, o249 P, o250 P, o251 P, o252 P, o253 P, o254 P, o255 P, o256 P, o257 P, o258 P, o259 P, o260 P, o261 P, o262 P, o263 P, o264 P, o265 P, o266 P, o267 P, o268 P, o269 P, o270 P, o271 P, o272 P, o273 P, o274 P, o275 P, o276 P, o277 P, o278 P, o279 P, o280 P, o281 P, o282 P, o283 P, o284 P, o285 P, o286 P, o287 P, o288 P, o289 P, o290 P, o291 P, o292 P, o293 P, o294 P, o295 P, o296 P, o297 P, o298 P, o299 P, o300 P, o301 P, o302 P, o303 P, o304 P, o305 P, o306 P, o307 P, o308 P, o309 P, o310 P, o311 P, o312 P, o313 P, o314 P, o315 P, o316 P, o317 P, o318 P, o319 P, o320 P, o321 P, o322 P, o323 P, o324 P, o325 P, o326 P, o327 P, o328 P, o329 P, o330 P, o331 P, o332 P, o333 P, o334 P, o335 P, o336 P, o337 P, o338 P, o339 P, o340 P, o341 P, o342 P, o343 P, o344 P, o345 P, o346 P, o347 P, o348 P, o349 P, o350 P, o351 P, o352 P, o353 P, o354 P, o355 P, o356 P, o357 P, o358 P, o359 P, o360 P, o361 P, o362 P, o363 P, o364 P, o365 P, o366 P, o367 P, o368 P, o369 P, o370 P, o371 P, o372 P, o373 P, o374 P, o375 P, o376 P, o377 P, o378 P, o379 P, o380 P, o381 P, o382 P, o383 P, o384 P, o385 P, o386 P, o387 P, o388 P, o389 P, o390 P, o391 P, o392 P, o393 P, o394 P, o395 P, o396 P, o397 P, o398 P, o399 P, o400 P, o401 P, o402 P, o403 P, o404 P, o405 P, o406 P, o407 P, o408 P, o409 P, o410 P, o411 P, o412 P, o413 P, o414 P, o415 P, o416 P, o417 P, o418 P, o419 P, o420 P, o421 P, o422 P, o423 P, o424 P, o425 P, o426 P, o427 P, o428 P, o429 P, o430 P, o431 P, o432 P, o433 P, o434 P, o435 P, o436 P, o437 P, o438 P, o439 P, o440 P, o441 P, o442 P, o443 P, o444 P, o445 P, o446 P, o447 P, o448 P, o449 P, o450 P, o451 P, o452 P, o453 P, o454 P, o455 P, o456 P, o457 P, o458 P, o459 P, o460 P, o461 P, o462 P, o463 P, o464 P, o465 P, o466 P, o467 P, o468 P, o469 P, o470 P, o471 P, o472 P, o473 P, o474 P, o475 P, o476 P, o477 P, o478 P, o479 P, o480 P, o481 P, o482 P, o483 P, o484 P, o485 P, o486 P, o487 P, o488 P, o489 P, o490 P, o491 P, o492 P, o493 P, o494 P, o495 P, o496 P, o497 P, o498 P, o499 P, o500 P, o501 P, o502 P, o503 P, o504 P, o505 P, o506 P, o507 P, o508 P, o509 P, o510 P, o511 P, o512 P, o513 P, o514 P, o515 P, o516 P, o517 P, o518 P, o519 P, o520 P, o521 P, o522 P, o523 P, o524 P, o525 P, o526 P, o527 P, o528 P, o529 P, o530 P, o531 P, o532 P, o533 P, o534 P, o535 P, o536 P, o537 P, o538 P, o539 P, o540 P, o541 P, o542 P, o543 P, o544 P, o545 P, o546 P, o547 P, o548 P, o549 P, o550 P, o551 P, o552 P, o553 P, o554 P, o555 P, o556 P, o557 P, o558 P, o559 P, o560 P, o561 P, o562 P, o563 P, o564 P, o565 P, o566 P, o567 P, o568 P, o569 P, o570 P, o571 P, o572 P, o573 P, o574 P, o575 P, o576 P, o577 P, o578 P, o579 P, o580 P, o581 P, o582 P, o583 P, o584 P, o585 P, o586 P, o587 P, o588 P, o589 P, o590 P, o591 P, o592 P, o593 P, o594 P, o595 P, o596 P, o597 P, o598 P, o599 P, o600 P, o601 P, o602 P, o603 P, o604 P, o605 P, o606 P, o607 P, o608 P, o609 P, o610 P, o611 P, o612 P, o613 P, o614 P, o615 P, o616 P, o617 P, o618 P, o619 P, o620 P, o621 P, o622 P, o623 P, o624 P, o625 P, o626 P, o627 P, o628 P, o629 P, o630 P, o631 P, o632 P, o633 P, o634 P, o635 P, o636 P, o637 P, o638 P, o639 P, o640 P, o641 P, o642 P, o643 P, o644 P, o645 P, o646 P, o647 P, o648 P, o649 P, o650 P, o651 P, o652 P, o653 P, o654 P, o655 P, o656 P, o657 P, o658 P, o659 P, o660 P, o661 P, o662 P, o663 P, o664 P, o665 P, o666 P, o667 P, o668 P, o669 P, o670 P, o671 P, o672 P, o673 P, o674 P, o675 P, o676 P, o677 P, o678 P, o679 P, o680 P, o681 P, o682 P, o683 P, o684 P, o685 P, o686 P, o687 P, o688 P, o689 P, o690 P, o691 P, o692 P, o693 P, o694 P, o695 P, o696 P, o697 P, o698 P, o699 P, o700 P, o701 P, o702 P, o703 P, o704 P, o705 P, o706 P, o707 P, o708 P, o709 P, o710 P, o711 P, o712 P, o713 P, o714 P, o715 P, o716 P, o717 P, o718 P, o719 P, o720 P, o721 P, o722 P, o723 P, o724 P, o725 P, o726 P, o727 P, o728 P, o729 P, o730 P, o731 P, o732 P, o733 P, o734 P, o735 P, o736 P, o737 P, o738 P, o739 P, o740 P, o741 P, o742 P, o743 P, o744 P, o745 P, o746 P, o747 P, o748 P, o749 P, o750 P, o751 P, o752 P, o753 P, o754 P, o755 P, o756 P, o757 P, o758 P, o759 P, o760 P, o761 P, o762 P, o763 P, o764 P, o765 P, o766 P, o767 P, o768 P, o769 P, o770 P, o771 P, o772 P, o773 P, o774 P, o775 P, o776 P, o777 P, o778 P, o779 P, o780 P, o781 P, o782 P, o783 P, o784 P, o785 P, o786 P, o787 P, o788 P, o789 P, o790 P, o791 P, o792 P, o793 P, o794 P, o795 P, o796 P, o797 P, o798 P, o799 P, o800 P, o801 P, o802 P, o803 P, o804 P, o805 P, o806 P, o807 P, o808 P, o809 P, o810 P, o811 P, o812 P, o813 P, o814 P, o815 P, o816 P, o817 P, o818 P, o819 P, o820 P, o821 P, o822 P, o823 P, o824 P, o825 P, o826 P, o827 P, o828 P, o829 P, o830 P, o831 P, o832 P, o833 P, o834 P, o835 P, o836 P, o837 P, o838 P, o839 P, o840 P, o841 P, o842 P, o843 P, o844 P, o845 P, o846 P, o847 P, o848 P, o849 P, o850 P, o851 P, o852 P, o853 P, o854 P, o855 P, o856 P, o857 P, o858 P, o859 P, o860 P, o861 P, o862 P, o863 P, o864 P, o865 P, o866 P, o867 P, o868 P, o869 P, o870 P, o871 P, o872 P, o873 P, o874 P, o875 P, o876 P, o877 P, o878 P, o879 P, o880 P, o881 P, o882 P, o883 P, o884 P, o885 P, o886 P, o887 P, o888 P, o889 P, o890 P, o891 P, o892 P, o893 P, o894 P, o895 P, o896 P, o897 P, o898 P, o899 P, o900 P, o901 P, o902 P, o903 P, o904 P, o905 P, o906 P, o907 P, o908 P, o909 P, o910 P, o911 P, o912 P, o913 P, o914 P, o915 P, o916 P, o917 P, o918 P, o919 P, o920 P, o921 P, o922 P, o923 P, o924 P, o925 P, o926 P, o927 P, o928 P, o929 P, o930 P, o931 P, o932 P, o933 P, o934 P, o935 P, o936 P, o937 P, o938 P, o939 P, o940 P, o941 P, o942 P, o943 P, o944 P, o945 P, o946 P, o947 P, o948 P, o949 P, o950 P, o951 P, o952 P, o953 P, o954 P, o955 P, o956 P, o957 P, o958 P, o959 P, o960 P, o961 P, o962 P, o963 P, o964 P, o965 P, o966 P, o967 P, o968 P, o969 P, o970 P, o971 P, o972 P, o973 P, o974 P, o975 P, o976 P, o977 P, o978 P, o979 P, o980 P, o981 P, o982 P, o983 P, o984 P, o985 P, o986 P, o987 P, o988 P, o989 P, o990 P, o991 P, o992 P, o993 P, o994 P, o995 P, o996 P, o997 P, o998 P, o999 P, o1000 P, o1001 P, o1002 P, o1003 P, o1004 P, o1005 P, o1006 P, o1007 P, o1008 P, o1009 P, o1010 P, o1011 P, o1012 P, o1013 P, o1014 P, o1015 P, o1016 P, o1017 P, o1018 P, o1019 P, o1020 P, o1021 P, o1022 P, o1023 P, o1024 P, o1025 P, o1026 P, o1027 P, o1028 P, o1029 P, o1030 P, o1031 P, o1032 P, o1033 P, o1034 P, o1035 P, o1036 P, o1037 P, o1038 P, o1039 P, o1040 P, o1041 P, o1042 P, o1043 P, o1044 P, o1045 P, o1046 P, o1047 P, o1048 P, o1049 P, o1050 P, o1051 P, o1052 P, o1053 P, o1054 P, o1055 P, o1056 P, o1057 P, o1058 P, o1059 P, o1060 P, o1061 P, o1062 P, o1063 P, o1064 P, o1065 P, o1066 P, o1067 P, o1068 P, o1069 P, o1070 P, o1071 P, o1072 P, o1073 P, o1074 P, o1075 P, o1076 P, o1077 P, o1078 P, o1079 P, o1080 P, o1081 P, o1082 P, o1083 P, o1084 P, o1085 P, o1086 P, o1087 P, o1088 P, o1089 P, o1090 P, o1091 P, o1092 P, o1093 P, o1094 P, o1095 P, o1096 P, o1097 P, o1098 P, o1099 P, o1100 P, o1101 P, o1102 P, o1103 P, o1104 P, o1105 P, o1106 P, o1107 P, o1108 P, o1109 P, o1110 P, o1111 P, o1112 P, o1113 P, o1114 P, o1115 P, o1116 P, o1117 P, o1118 P, o1119 P, o1120 P, o1121 P, o1122 P, o1123 P, o1124 P, o1125 P, o1126 P, o1127 P, o1128 P, o1129 P, o1130 P, o1131 P, o1132 P, o1133 P, o1134 P, o1135 P, o1136 P, o1137 P, o1138 P, o1139 P, o1140 P, o1141 P, o1142 P, o1143 P].toArray, {}⟩
noncomputable def qv : Program := view pw [66]
noncomputable def lo : List Str := [("_wall" : Str), ("BOLD" : Str), ("BLINK" : Str), ("INVERSE" : Str), ("HIDDEN" : Str), ("UNDER_SHIFT" : Str), ("UNDER_MASK" : Str), ("NO_COLOUR" : Str), ("PLAIN" : Str), ("FLAGS" : Str), ("BACK" : Str), ("BLANK" : Str), ("TermError" : Str), ("BadSize" : Str), ("clamp" : Str), ("under_of" : Str), ("erased_pen" : Str), ("blank_cell" : Str), ("is_blank" : Str), ("EDIT_WEIGHTS" : Str), ("EDIT_GUARDED" : Str), ("EDIT_UNDERLINED" : Str), ("EDIT_SUM" : Str), ("edit_weight" : Str), ("checksum_rectangle" : Str), ("ASCII_SET" : Str), ("SUPPLEMENT_SET" : Str), ("LATIN_SET" : Str), ("LEFT_FIRST" : Str), ("LEFT_LAST" : Str), ("HIGH_BIT" : Str), ("charset_pairs" : Str), ("charset_drawing" : Str), ("charset_supplement" : Str), ("charset_nationals" : Str), ("charset_tables" : Str), ("Charsets" : Str), ("TAB_WIDTH" : Str), ("Cursor" : Str), ("Margins" : Str), ("Tabs" : Str), ("LINE_SIZES" : Str), ("line_blanks" : Str), ("right_half" : Str), ("line_part" : Str), ("line_slice" : Str), ("line_codes" : Str), ("Line" : Str), ("Grid" : Str), ("grid_cut" : Str), ("grid_mended" : Str), ("WIDE_SIZES" : Str), ("Screen" : Str), ("_law_deck" : Str), ("_law_draw" : Str), ("_law_put" : Str), ("_law_sum" : Str), ("_law_area" : Str)]
end
theorem sizeL (w : World) : ((boot_heap w.params).isNs mainGlobals && (Array.mk [] : Array GenState).size == 0, (boot_heap w.params).objs.size, (boot_heap w.params).nsMap mainGlobals "__annotations__") = (true, nat_lit 11, some (.ref (nat_lit 6))) := by
  rw [Fast.te8920871248978507458]; kernel_rfl
theorem pre1 (w : World) : (fun os => topGo treeTable pw w (nat_lit 11) (some (.ref (nat_lit 6))) (nat_lit 12) ⟨boot_heap w.params, Array.mk [], boot_drawn, boot_toks, os⟩ (topStub pw)) =
    fun os => some (⟨hA w.params, Array.mk [], {}, (nat_lit 187), os⟩, ⟨denote treeTable cE, cE, p0, [topFrame p0]⟩) := by
  rw [Fast.te15667345088766844465, Fast.te14364793385576792824, Fast.te11892475500146522536]; kernel_rfl
theorem blk1 (w : World) : (fun os => segRun treeTable pw w (nat_lit 11) (some (.ref (nat_lit 6))) (nat_lit 1) (nat_lit 1) ⟨hA w.params, Array.mk [], {}, (nat_lit 187), os⟩ (blockOf bd ev cE p0 [topFrame p0])) =
    fun os => some (.next, SharedT.abs ⟨trb w.params, (nat_lit 15), {}, #[], {}, (nat_lit 187), os⟩, cE, p0) := by
  rw [Fast.te14374325043358763698, Fast.te14364793385576792824]; kernel_rfl
theorem fin1 (w : World) : (fun os => topRun treeTable pw w (nat_lit 11) (some (.ref (nat_lit 6))) (nat_lit 2) (SharedT.abs ⟨tr w.params, (nat_lit 1144), {}, #[], {}, (nat_lit 1695), os⟩) ⟨doneF .next, cE, p1, [topFrame p0]⟩) =
    fun os => some ⟨hF w.params, Array.mk [], {}, (nat_lit 1695), os⟩ := by
  rw [Fast.te14082659384304107361, Fast.te14364793385576792824]; kernel_rfl
theorem runL (w : World) (os : OsState) : topRun treeTable pw w (nat_lit 11) (some (.ref (nat_lit 6))) (nat_lit 12 + (nat_lit 1 + (nat_lit 8000 + nat_lit 2))) ⟨boot_heap w.params, Array.mk [], boot_drawn, boot_toks, os⟩ (topStub pw) = some ⟨hF w.params, Array.mk [], {}, (nat_lit 1695), os⟩ := by
  refine go_top (congrFun (pre1 w) os) ?_
  refine piece_block (congrFun (blk1 w) os) ?_
  have k7 := piece_app (rest := []) (segRun_of (runB7 w os)) (piece_nil (congrFun (fin1 w) os))
  rw [List.append_nil] at k7
  have k6 := piece_app (rest := rc6) (segRun_of (runB6 w os)) k7
  rw [show lc6 ++ rc6 = rc5 from List.take_append_drop 5 rc5] at k6
  have k5 := piece_app (rest := rc5) (segRun_of (runB5 w os)) k6
  rw [show lc5 ++ rc5 = rc4 from List.take_append_drop 2 rc4] at k5
  have k4 := piece_app (rest := rc4) (segRun_of (runB4 w os)) k5
  rw [show lc4 ++ rc4 = rc3 from List.take_append_drop 1 rc3] at k4
  have k3 := piece_app (rest := rc3) (segRun_of (runB3 w os)) k4
  rw [show lc3 ++ rc3 = rc2 from List.take_append_drop 8 rc2] at k3
  have k2 := piece_app (rest := rc2) (segRun_of (runB2 w os)) k3
  rw [show lc2 ++ rc2 = rc1 from List.take_append_drop 1 rc1] at k2
  have k1 := piece_app (rest := rc1) (segRun_of (runB1 w os)) k2
  rw [show lc1 ++ rc1 = rc0 from List.take_append_drop 4 rc0] at k1
  have k0 := piece_app (rest := rc0) (segRun_of (runB0 w os)) k1
  rw [show lc0 ++ rc0 = bd from List.take_append_drop 39 bd] at k0
  exact k0
noncomputable def Kx : Params → Frag := fun P => (nat_lit 2, o2 P) :: (nat_lit 3, o3 P) :: (nat_lit 13, o13 P) :: (nat_lit 14, o14 P) :: (nat_lit 20, o20 P) :: (nat_lit 21, o21 P) :: (nat_lit 22, o22 P) :: (nat_lit 24, o24 P) :: (nat_lit 25, o25 P) :: (nat_lit 28, o28 P) :: (nat_lit 29, o29 P) :: (nat_lit 36, o36 P) :: (nat_lit 37, o37 P) :: (nat_lit 39, o39 P) :: (nat_lit 40, o40 P) :: (nat_lit 41, o41 P) :: (nat_lit 42, o42 P) :: (nat_lit 43, o43 P) :: (nat_lit 45, o45 P) :: (nat_lit 46, o46 P) :: (nat_lit 49, o49 P) :: (nat_lit 50, o50 P) :: (nat_lit 52, o52 P) :: (nat_lit 53, o53 P) :: (nat_lit 54, o54 P) :: (nat_lit 55, o55 P) :: (nat_lit 61, o61 P) :: (nat_lit 62, o62 P) :: (nat_lit 68, o68 P) :: (nat_lit 69, o69 P) :: (nat_lit 75, o75 P) :: (nat_lit 76, o76 P) :: (nat_lit 82, o82 P) :: (nat_lit 83, o83 P) :: (nat_lit 89, o89 P) :: (nat_lit 90, o90 P) :: (nat_lit 91, o91 P) :: (nat_lit 92, o92 P) :: (nat_lit 93, o93 P) :: (nat_lit 94, o94 P) :: (nat_lit 95, o95 P) :: (nat_lit 101, o101 P) :: (nat_lit 102, o102 P) :: (nat_lit 106, o106 P) :: (nat_lit 107, o107 P) :: (nat_lit 113, o113 P) :: (nat_lit 114, o114 P) :: (nat_lit 120, o120 P) :: (nat_lit 121, o121 P) :: (nat_lit 127, o127 P) :: (nat_lit 128, o128 P) :: (nat_lit 134, o134 P) :: (nat_lit 135, o135 P) :: (nat_lit 141, o141 P) :: (nat_lit 142, o142 P) :: (nat_lit 144, o144 P) :: (nat_lit 145, o145 P) :: (nat_lit 148, o148 P) :: (nat_lit 149, o149 P) :: (nat_lit 150, o150 P) :: (nat_lit 156, o156 P) :: (nat_lit 157, o157 P) :: (nat_lit 163, o163 P) :: (nat_lit 164, o164 P) :: (nat_lit 170, o170 P) :: (nat_lit 171, o171 P) :: (nat_lit 177, o177 P) :: (nat_lit 178, o178 P) :: (nat_lit 184, o184 P) :: (nat_lit 185, o185 P) :: (nat_lit 191, o191 P) :: (nat_lit 192, o192 P) :: (nat_lit 198, o198 P) :: (nat_lit 199, o199 P) :: (nat_lit 205, o205 P) :: (nat_lit 206, o206 P) :: (nat_lit 213, o213 P) :: (nat_lit 214, o214 P) :: (nat_lit 220, o220 P) :: (nat_lit 221, o221 P) :: (nat_lit 223, o223 P) :: (nat_lit 224, o224 P) :: (nat_lit 225, o225 P) :: (nat_lit 226, o226 P) :: (nat_lit 227, o227 P) :: (nat_lit 228, o228 P) :: (nat_lit 230, o230 P) :: (nat_lit 231, o231 P) :: (nat_lit 234, o234 P) :: (nat_lit 235, o235 P) :: (nat_lit 241, o241 P) :: (nat_lit 242, o242 P) :: (nat_lit 248, o248 P) :: (nat_lit 249, o249 P) :: (nat_lit 255, o255 P) :: (nat_lit 256, o256 P) :: (nat_lit 262, o262 P) :: (nat_lit 263, o263 P) :: (nat_lit 269, o269 P) :: (nat_lit 270, o270 P) :: (nat_lit 272, o272 P) :: (nat_lit 273, o273 P) :: (nat_lit 274, o274 P) :: (nat_lit 275, o275 P) :: (nat_lit 276, o276 P) :: (nat_lit 277, o277 P) :: (nat_lit 279, o279 P) :: (nat_lit 280, o280 P) :: (nat_lit 283, o283 P) :: (nat_lit 284, o284 P) :: (nat_lit 290, o290 P) :: (nat_lit 291, o291 P) :: (nat_lit 297, o297 P) :: (nat_lit 298, o298 P) :: (nat_lit 304, o304 P) :: (nat_lit 305, o305 P) :: (nat_lit 311, o311 P) :: (nat_lit 312, o312 P) :: (nat_lit 318, o318 P) :: (nat_lit 319, o319 P) :: (nat_lit 325, o325 P) :: (nat_lit 326, o326 P) :: (nat_lit 332, o332 P) :: (nat_lit 333, o333 P) :: (nat_lit 339, o339 P) :: (nat_lit 340, o340 P) :: (nat_lit 346, o346 P) :: (nat_lit 347, o347 P) :: (nat_lit 353, o353 P) :: (nat_lit 354, o354 P) :: (nat_lit 360, o360 P) :: (nat_lit 361, o361 P) :: (nat_lit 367, o367 P) :: (nat_lit 368, o368 P) :: (nat_lit 374, o374 P) :: (nat_lit 375, o375 P) :: (nat_lit 381, o381 P) :: (nat_lit 382, o382 P) :: (nat_lit 388, o388 P) :: (nat_lit 389, o389 P) :: (nat_lit 395, o395 P) :: (nat_lit 396, o396 P) :: (nat_lit 402, o402 P) :: (nat_lit 403, o403 P) :: (nat_lit 405, o405 P) :: (nat_lit 406, o406 P) :: (nat_lit 407, o407 P) :: (nat_lit 408, o408 P) :: (nat_lit 409, o409 P) :: (nat_lit 410, o410 P) :: (nat_lit 412, o412 P) :: (nat_lit 413, o413 P) :: (nat_lit 416, o416 P) :: (nat_lit 417, o417 P) :: (nat_lit 423, o423 P) :: (nat_lit 424, o424 P) :: (nat_lit 430, o430 P) :: (nat_lit 431, o431 P) :: (nat_lit 437, o437 P) :: (nat_lit 438, o438 P) :: (nat_lit 444, o444 P) :: (nat_lit 445, o445 P) :: (nat_lit 451, o451 P) :: (nat_lit 452, o452 P) :: (nat_lit 458, o458 P) :: (nat_lit 459, o459 P) :: (nat_lit 465, o465 P) :: (nat_lit 466, o466 P) :: (nat_lit 472, o472 P) :: (nat_lit 473, o473 P) :: (nat_lit 479, o479 P) :: (nat_lit 480, o480 P) :: (nat_lit 487, o487 P) :: (nat_lit 488, o488 P) :: (nat_lit 494, o494 P) :: (nat_lit 495, o495 P) :: (nat_lit 501, o501 P) :: (nat_lit 502, o502 P) :: (nat_lit 504, o504 P) :: (nat_lit 505, o505 P) :: (nat_lit 506, o506 P) :: (nat_lit 507, o507 P) :: (nat_lit 508, o508 P) :: (nat_lit 509, o509 P) :: (nat_lit 510, o510 P) :: (nat_lit 516, o516 P) :: (nat_lit 517, o517 P) :: (nat_lit 523, o523 P) :: (nat_lit 524, o524 P) :: (nat_lit 530, o530 P) :: (nat_lit 531, o531 P) :: (nat_lit 537, o537 P) :: (nat_lit 538, o538 P) :: (nat_lit 544, o544 P) :: (nat_lit 545, o545 P) :: (nat_lit 547, o547 P) :: (nat_lit 548, o548 P) :: (nat_lit 551, o551 P) :: (nat_lit 552, o552 P) :: (nat_lit 558, o558 P) :: (nat_lit 559, o559 P) :: (nat_lit 565, o565 P) :: (nat_lit 566, o566 P) :: (nat_lit 567, o567 P) :: (nat_lit 573, o573 P) :: (nat_lit 574, o574 P) :: (nat_lit 580, o580 P) :: (nat_lit 581, o581 P) :: (nat_lit 587, o587 P) :: (nat_lit 588, o588 P) :: (nat_lit 594, o594 P) :: (nat_lit 595, o595 P) :: (nat_lit 602, o602 P) :: (nat_lit 603, o603 P) :: (nat_lit 609, o609 P) :: (nat_lit 610, o610 P) :: (nat_lit 616, o616 P) :: (nat_lit 617, o617 P) :: (nat_lit 623, o623 P) :: (nat_lit 624, o624 P) :: (nat_lit 630, o630 P) :: (nat_lit 631, o631 P) :: (nat_lit 637, o637 P) :: (nat_lit 638, o638 P) :: (nat_lit 645, o645 P) :: (nat_lit 646, o646 P) :: (nat_lit 652, o652 P) :: (nat_lit 653, o653 P) :: (nat_lit 659, o659 P) :: (nat_lit 660, o660 P) :: (nat_lit 666, o666 P) :: (nat_lit 667, o667 P) :: (nat_lit 669, o669 P) :: (nat_lit 670, o670 P) :: (nat_lit 671, o671 P) :: (nat_lit 672, o672 P) :: (nat_lit 673, o673 P) :: (nat_lit 674, o674 P) :: (nat_lit 676, o676 P) :: (nat_lit 677, o677 P) :: (nat_lit 680, o680 P) :: (nat_lit 681, o681 P) :: (nat_lit 685, o685 P) :: (nat_lit 686, o686 P) :: (nat_lit 692, o692 P) :: (nat_lit 693, o693 P) :: (nat_lit 699, o699 P) :: (nat_lit 700, o700 P) :: (nat_lit 706, o706 P) :: (nat_lit 707, o707 P) :: (nat_lit 711, o711 P) :: (nat_lit 712, o712 P) :: (nat_lit 718, o718 P) :: (nat_lit 719, o719 P) :: (nat_lit 725, o725 P) :: (nat_lit 726, o726 P) :: (nat_lit 732, o732 P) :: (nat_lit 733, o733 P) :: (nat_lit 739, o739 P) :: (nat_lit 740, o740 P) :: (nat_lit 746, o746 P) :: (nat_lit 747, o747 P) :: (nat_lit 753, o753 P) :: (nat_lit 754, o754 P) :: (nat_lit 760, o760 P) :: (nat_lit 761, o761 P) :: (nat_lit 767, o767 P) :: (nat_lit 768, o768 P) :: (nat_lit 775, o775 P) :: (nat_lit 776, o776 P) :: (nat_lit 782, o782 P) :: (nat_lit 783, o783 P) :: (nat_lit 789, o789 P) :: (nat_lit 790, o790 P) :: (nat_lit 794, o794 P) :: (nat_lit 795, o795 P) :: (nat_lit 801, o801 P) :: (nat_lit 802, o802 P) :: (nat_lit 808, o808 P) :: (nat_lit 809, o809 P) :: (nat_lit 813, o813 P) :: (nat_lit 814, o814 P) :: (nat_lit 816, o816 P) :: (nat_lit 817, o817 P) :: (nat_lit 818, o818 P) :: (nat_lit 819, o819 P) :: (nat_lit 820, o820 P) :: (nat_lit 821, o821 P) :: (nat_lit 827, o827 P) :: (nat_lit 828, o828 P) :: (nat_lit 834, o834 P) :: (nat_lit 835, o835 P) :: (nat_lit 836, o836 P) :: (nat_lit 838, o838 P) :: (nat_lit 839, o839 P) :: (nat_lit 842, o842 P) :: (nat_lit 843, o843 P) :: (nat_lit 844, o844 P) :: (nat_lit 850, o850 P) :: (nat_lit 851, o851 P) :: (nat_lit 857, o857 P) :: (nat_lit 858, o858 P) :: (nat_lit 864, o864 P) :: (nat_lit 865, o865 P) :: (nat_lit 871, o871 P) :: (nat_lit 872, o872 P) :: (nat_lit 878, o878 P) :: (nat_lit 879, o879 P) :: (nat_lit 885, o885 P) :: (nat_lit 886, o886 P) :: (nat_lit 892, o892 P) :: (nat_lit 893, o893 P) :: (nat_lit 899, o899 P) :: (nat_lit 900, o900 P) :: (nat_lit 906, o906 P) :: (nat_lit 907, o907 P) :: (nat_lit 913, o913 P) :: (nat_lit 914, o914 P) :: (nat_lit 920, o920 P) :: (nat_lit 921, o921 P) :: (nat_lit 927, o927 P) :: (nat_lit 928, o928 P) :: (nat_lit 934, o934 P) :: (nat_lit 935, o935 P) :: (nat_lit 941, o941 P) :: (nat_lit 942, o942 P) :: (nat_lit 948, o948 P) :: (nat_lit 949, o949 P) :: (nat_lit 955, o955 P) :: (nat_lit 956, o956 P) :: (nat_lit 962, o962 P) :: (nat_lit 963, o963 P) :: (nat_lit 969, o969 P) :: (nat_lit 970, o970 P) :: (nat_lit 976, o976 P) :: (nat_lit 977, o977 P) :: (nat_lit 983, o983 P) :: (nat_lit 984, o984 P) :: (nat_lit 990, o990 P) :: (nat_lit 991, o991 P) :: (nat_lit 997, o997 P) :: (nat_lit 998, o998 P) :: (nat_lit 1004, o1004 P) :: (nat_lit 1005, o1005 P) :: (nat_lit 1011, o1011 P) :: (nat_lit 1012, o1012 P) :: (nat_lit 1019, o1019 P) :: (nat_lit 1020, o1020 P) :: (nat_lit 1027, o1027 P) :: (nat_lit 1028, o1028 P) :: (nat_lit 1034, o1034 P) :: (nat_lit 1035, o1035 P) :: (nat_lit 1041, o1041 P) :: (nat_lit 1042, o1042 P) :: (nat_lit 1048, o1048 P) :: (nat_lit 1049, o1049 P) :: (nat_lit 1055, o1055 P) :: (nat_lit 1056, o1056 P) :: (nat_lit 1062, o1062 P) :: (nat_lit 1063, o1063 P) :: (nat_lit 1069, o1069 P) :: (nat_lit 1070, o1070 P) :: (nat_lit 1076, o1076 P) :: (nat_lit 1077, o1077 P) :: (nat_lit 1083, o1083 P) :: (nat_lit 1084, o1084 P) :: (nat_lit 1090, o1090 P) :: (nat_lit 1091, o1091 P) :: (nat_lit 1097, o1097 P) :: (nat_lit 1098, o1098 P) :: (nat_lit 1100, o1100 P) :: (nat_lit 1101, o1101 P) :: (nat_lit 1102, o1102 P) :: (nat_lit 1103, o1103 P) :: (nat_lit 1104, o1104 P) :: (nat_lit 1105, o1105 P) :: (nat_lit 1109, o1109 P) :: (nat_lit 1110, o1110 P) :: (nat_lit 1116, o1116 P) :: (nat_lit 1117, o1117 P) :: (nat_lit 1123, o1123 P) :: (nat_lit 1124, o1124 P) :: (nat_lit 1130, o1130 P) :: (nat_lit 1131, o1131 P) :: (nat_lit 1137, o1137 P) :: (nat_lit 1138, o1138 P) :: (nat_lit 1142, o1142 P) :: (nat_lit 1143, o1143 P) :: []
noncomputable def KA : List Addr := [nat_lit 2, nat_lit 3, nat_lit 13, nat_lit 14, nat_lit 20, nat_lit 21, nat_lit 22, nat_lit 24, nat_lit 25, nat_lit 28, nat_lit 29, nat_lit 36, nat_lit 37, nat_lit 39, nat_lit 40, nat_lit 41, nat_lit 42, nat_lit 43, nat_lit 45, nat_lit 46, nat_lit 49, nat_lit 50, nat_lit 52, nat_lit 53, nat_lit 54, nat_lit 55, nat_lit 61, nat_lit 62, nat_lit 68, nat_lit 69, nat_lit 75, nat_lit 76, nat_lit 82, nat_lit 83, nat_lit 89, nat_lit 90, nat_lit 91, nat_lit 92, nat_lit 93, nat_lit 94, nat_lit 95, nat_lit 101, nat_lit 102, nat_lit 106, nat_lit 107, nat_lit 113, nat_lit 114, nat_lit 120, nat_lit 121, nat_lit 127, nat_lit 128, nat_lit 134, nat_lit 135, nat_lit 141, nat_lit 142, nat_lit 144, nat_lit 145, nat_lit 148, nat_lit 149, nat_lit 150, nat_lit 156, nat_lit 157, nat_lit 163, nat_lit 164, nat_lit 170, nat_lit 171, nat_lit 177, nat_lit 178, nat_lit 184, nat_lit 185, nat_lit 191, nat_lit 192, nat_lit 198, nat_lit 199, nat_lit 205, nat_lit 206, nat_lit 213, nat_lit 214, nat_lit 220, nat_lit 221, nat_lit 223, nat_lit 224, nat_lit 225, nat_lit 226, nat_lit 227, nat_lit 228, nat_lit 230, nat_lit 231, nat_lit 234, nat_lit 235, nat_lit 241, nat_lit 242, nat_lit 248, nat_lit 249, nat_lit 255, nat_lit 256, nat_lit 262, nat_lit 263, nat_lit 269, nat_lit 270, nat_lit 272, nat_lit 273, nat_lit 274, nat_lit 275, nat_lit 276, nat_lit 277, nat_lit 279, nat_lit 280, nat_lit 283, nat_lit 284, nat_lit 290, nat_lit 291, nat_lit 297, nat_lit 298, nat_lit 304, nat_lit 305, nat_lit 311, nat_lit 312, nat_lit 318, nat_lit 319, nat_lit 325, nat_lit 326, nat_lit 332, nat_lit 333, nat_lit 339, nat_lit 340, nat_lit 346, nat_lit 347, nat_lit 353, nat_lit 354, nat_lit 360, nat_lit 361, nat_lit 367, nat_lit 368, nat_lit 374, nat_lit 375, nat_lit 381, nat_lit 382, nat_lit 388, nat_lit 389, nat_lit 395, nat_lit 396, nat_lit 402, nat_lit 403, nat_lit 405, nat_lit 406, nat_lit 407, nat_lit 408, nat_lit 409, nat_lit 410, nat_lit 412, nat_lit 413, nat_lit 416, nat_lit 417, nat_lit 423, nat_lit 424, nat_lit 430, nat_lit 431, nat_lit 437, nat_lit 438, nat_lit 444, nat_lit 445, nat_lit 451, nat_lit 452, nat_lit 458, nat_lit 459, nat_lit 465, nat_lit 466, nat_lit 472, nat_lit 473, nat_lit 479, nat_lit 480, nat_lit 487, nat_lit 488, nat_lit 494, nat_lit 495, nat_lit 501, nat_lit 502, nat_lit 504, nat_lit 505, nat_lit 506, nat_lit 507, nat_lit 508, nat_lit 509, nat_lit 510, nat_lit 516, nat_lit 517, nat_lit 523, nat_lit 524, nat_lit 530, nat_lit 531, nat_lit 537, nat_lit 538, nat_lit 544, nat_lit 545, nat_lit 547, nat_lit 548, nat_lit 551, nat_lit 552, nat_lit 558, nat_lit 559, nat_lit 565, nat_lit 566, nat_lit 567, nat_lit 573, nat_lit 574, nat_lit 580, nat_lit 581, nat_lit 587, nat_lit 588, nat_lit 594, nat_lit 595, nat_lit 602, nat_lit 603, nat_lit 609, nat_lit 610, nat_lit 616, nat_lit 617, nat_lit 623, nat_lit 624, nat_lit 630, nat_lit 631, nat_lit 637, nat_lit 638, nat_lit 645, nat_lit 646, nat_lit 652, nat_lit 653, nat_lit 659, nat_lit 660, nat_lit 666, nat_lit 667, nat_lit 669, nat_lit 670, nat_lit 671, nat_lit 672, nat_lit 673, nat_lit 674, nat_lit 676, nat_lit 677, nat_lit 680, nat_lit 681, nat_lit 685, nat_lit 686, nat_lit 692, nat_lit 693, nat_lit 699, nat_lit 700, nat_lit 706, nat_lit 707, nat_lit 711, nat_lit 712, nat_lit 718, nat_lit 719, nat_lit 725, nat_lit 726, nat_lit 732, nat_lit 733, nat_lit 739, nat_lit 740, nat_lit 746, nat_lit 747, nat_lit 753, nat_lit 754, nat_lit 760, nat_lit 761, nat_lit 767, nat_lit 768, nat_lit 775, nat_lit 776, nat_lit 782, nat_lit 783, nat_lit 789, nat_lit 790, nat_lit 794, nat_lit 795, nat_lit 801, nat_lit 802, nat_lit 808, nat_lit 809, nat_lit 813, nat_lit 814, nat_lit 816, nat_lit 817, nat_lit 818, nat_lit 819, nat_lit 820, nat_lit 821, nat_lit 827, nat_lit 828, nat_lit 834, nat_lit 835, nat_lit 836, nat_lit 838, nat_lit 839, nat_lit 842, nat_lit 843, nat_lit 844, nat_lit 850, nat_lit 851, nat_lit 857, nat_lit 858, nat_lit 864, nat_lit 865, nat_lit 871, nat_lit 872, nat_lit 878, nat_lit 879, nat_lit 885, nat_lit 886, nat_lit 892, nat_lit 893, nat_lit 899, nat_lit 900, nat_lit 906, nat_lit 907, nat_lit 913, nat_lit 914, nat_lit 920, nat_lit 921, nat_lit 927, nat_lit 928, nat_lit 934, nat_lit 935, nat_lit 941, nat_lit 942, nat_lit 948, nat_lit 949, nat_lit 955, nat_lit 956, nat_lit 962, nat_lit 963, nat_lit 969, nat_lit 970, nat_lit 976, nat_lit 977, nat_lit 983, nat_lit 984, nat_lit 990, nat_lit 991, nat_lit 997, nat_lit 998, nat_lit 1004, nat_lit 1005, nat_lit 1011, nat_lit 1012, nat_lit 1019, nat_lit 1020, nat_lit 1027, nat_lit 1028, nat_lit 1034, nat_lit 1035, nat_lit 1041, nat_lit 1042, nat_lit 1048, nat_lit 1049, nat_lit 1055, nat_lit 1056, nat_lit 1062, nat_lit 1063, nat_lit 1069, nat_lit 1070, nat_lit 1076, nat_lit 1077, nat_lit 1083, nat_lit 1084, nat_lit 1090, nat_lit 1091, nat_lit 1097, nat_lit 1098, nat_lit 1100, nat_lit 1101, nat_lit 1102, nat_lit 1103, nat_lit 1104, nat_lit 1105, nat_lit 1109, nat_lit 1110, nat_lit 1116, nat_lit 1117, nat_lit 1123, nat_lit 1124, nat_lit 1130, nat_lit 1131, nat_lit 1137, nat_lit 1138, nat_lit 1142, nat_lit 1143]
theorem KAe (P : Params) : KA = (Kx P).map (·.1) := by kernel_rfl
noncomputable abbrev Xt : Shared → Bool := fun s => xlAt qv [] s && recOk (RowW.records PySem.Challenge.rw_np0284_01.row.toRowW) s
noncomputable abbrev Hk : Hook := kHook Kx KA KAe
theorem lkA (w : World) : (fun (os : OsState) => (staticsOk (importedModules pw.main.body) (boot_heap w.params) (hF w.params) && namesBound pw (hF w.params) && gensDone ⟨hF w.params, Array.mk [], {}, (nat_lit 1695), os⟩ && laidKept (boot_heap w.params) (hF w.params))) = fun _ => true := by
  kernel_rfl
theorem cutm {α β γ : Type} (n : Nat) (l : List α) (l' : List γ) (f : α → β) (g : γ → β) (h1 : (l.take n).map f = (l'.take n).map g) (h2 : (l.drop n).map f = (l'.drop n).map g) : l.map f = l'.map g := by
  have a : l.map f = (l.take n).map f ++ (l.drop n).map f := by rw [← List.map_append, List.take_append_drop]
  have b : l'.map g = (l'.take n).map g ++ (l'.drop n).map g := by rw [← List.map_append, List.take_append_drop]
  rw [a, b, h1, h2]
theorem lk0 (w : World) : (KA.take 130).map (hF w.params).get? = ((Kx w.params).take 130).map (fun p => some p.2) := by kernel_rfl
theorem lk1 (w : World) : ((KA.drop 130).take 100).map (hF w.params).get? = (((Kx w.params).drop 130).take 100).map (fun p => some p.2) := by kernel_rfl
theorem lk2 (w : World) : (((KA.drop 130).drop 100).take 80).map (hF w.params).get? = ((((Kx w.params).drop 130).drop 100).take 80).map (fun p => some p.2) := by kernel_rfl
theorem lk3 (w : World) : (((KA.drop 130).drop 100).drop 80).map (hF w.params).get? = ((((Kx w.params).drop 130).drop 100).drop 80).map (fun p => some p.2) := by kernel_rfl
theorem lkD (w : World) : KA.map (hF w.params).get? = (Kx w.params).map (fun p => some p.2) := by
  with_reducible exact cutm 130 _ _ _ _ (lk0 w) (cutm 100 _ _ _ _ (lk1 w) (cutm 80 _ _ _ _ (lk2 w) (lk3 w)))
theorem lkC (w : World) : (fun (os : OsState) => Hk.obs ⟨hF w.params, Array.mk [], {}, (nat_lit 1695), os⟩) = fun _ => Hk.val w := funext fun _ => lkD w
theorem lkB (w : World) : (fun (os : OsState) => openSeen qv lo (importedModules pw.main.body) Xt true ⟨hF w.params, Array.mk [], {}, (nat_lit 1695), os⟩) = fun _ => openGood qv lo := by
  rw [Fast.te4187177175401517315]
  kernel_rfl
theorem left : LeftO PySem.Challenge.pw_np0284_01 qv lo Xt Hk.obs Hk.val (nat_lit 13646) :=
  LeftO.of_pieces (boot_open (by kernel_rfl) (by kernel_rfl) (fun s => by rfl)) (fun w => sizeL w) (fun w os => runL w os) (by kernel_rfl) (fun w => funext fun os => Prod.ext (congrFun (lkA w) os) (Prod.ext (congrFun (lkB w) os) (congrFun (lkC w) os)))
open PySem.Calls
theorem bytes_len : typeLookup (.type "bytes") "__len__" = pure (some (.builtin "bytes.__len__")) := by rw [typeLookup_type, builtinLookup_eq_fast]; kernel_rfl
noncomputable def ByteAt (b : Array UInt8) (i : Nat) (v : Value) : Prop := ∃ c u, b[i]? = some c ∧ v = .int (c.toNat : Int) u
section
variable {prog : Program} {w : World} {A : Around} {E : Value → Shared → Prop} {s : Shared} {b : Array UInt8} {t : Tok}
theorem init_bytes {R : Result → Shared → Prop} (hh : A.handled = none) (S : Addr) (hS : s.heap.get? S = some { cls := .type "list", data := .seq #[] })
    (hR : ∀ h' tk acc' c', (∀ x o, x ≠ S → s.heap.get? x = some o → h'.get? x = some o) → h'.get? S = some { cls := .type "list", dict := none, data := .seq acc' c', slots := #[] } →
      ItemsOf (ByteAt b) acc' b.size → R (.ok (.ret .none)) { s with heap := h', toks := tk }) (hn : b.size ≤ sizeLine) :
    wpAny (model prog w) A.in1 (Builtin.«list.__init__» ⟨[.ref S, .bytes b t], []⟩)
      (fun fin s' => match fin with | .done f => R (.ok f) s' | .again c' => c'.quiet = true ∧ codeAny (model prog w) A c' R s') (fun e s' => R (.error e) s') s := by
  show wpAny _ _ (do let old ← Builtin.List.listItems (.ref S); Builtin.List.listUpdate (.ref S) (fun _ => #[]); letGo old.toList.reverse; Builtin.List.listExtendWith (.ref S) (.bytes b t) .none) _ _ s
  refine wpAny_bind ?_
  unfold Builtin.List.listItems
  refine wpAny_bind (wpAny_seqItems hS rfl (wpAny_pure ?_))
  show wpAny _ _ (updateSeq S (fun _ => #[]) >>= fun _ => letGo (#[] : Array Value).toList.reverse >>= fun _ => Builtin.List.listExtendWith (.ref S) (.bytes b t) .none) _ _ s
  refine wpAny_bind (wpAny_updateSeq hS rfl ?_)
  have hS₂ := Heap.get?_update_self (Obj.mapSeq (fun _ => (#[] : Array Value))) hS rfl
  have oth : ∀ x o, x ≠ S → s.heap.get? x = some o → (s.heap.update S (Obj.mapSeq (fun _ => (#[] : Array Value)))).get? x = some o :=
    fun x o hb e => (Heap.get?_update_other _ _ (Ne.symm hb)).trans e
  refine wpAny_bind (wpAny_letGo ?_)
  generalize hh2 : s.heap.update S (Obj.mapSeq (fun _ => (#[] : Array Value))) = h2 at hS₂ oth
  have hSI : S ≠ h2.objs.size := Nat.ne_of_lt (Heap.lt_size hS₂)
  have hSf : S ∉ [h2.objs.size] := fun hm => hSI (List.mem_singleton.mp hm)
  unfold Builtin.List.listExtendWith
  refine wpAny_bind (wpAny_typeOf (T := "bytes") (v := .bytes b t) rfl ?_)
  have h1 : Builtin.List.listSameRef (.ref S) (.bytes b t) = false := rfl
  have h2' : (Value.type "bytes" == Value.type "list") = false := by decide
  have h3 : (Value.type "bytes" == Value.type "tuple") = false := by decide
  simp only [h1, h2', h3, Bool.or_false, Bool.false_eq_true, if_false]
  refine wpAny_bind (KBw.pyIter_bytes ?_)
  refine wpAny_bind (wpAny_holding ?_)
  unfold Builtin.List.listLengthHint
  refine wpAny_bind (wpAny_specialOf (T := "bytes") (v := .bytes b t) rfl bytes_len ?_)
  wp_delta
  refine wpAny_bind (wpAny_isInstance (T := "bytes") (v := .bytes b t) (b := true) rfl (by rw [isSubtype_type]; kernel_rfl) ?_)
  show wpAny _ _ (typeOf (Value.bytes b t) >>= _) _ _ _
  refine wpAny_bind (wpAny_typeOf (T := "bytes") (v := .bytes b t) rfl ?_)
  refine wpAny_pure ?_
  rw [if_neg (by decide)]
  have hst : KBw.IsBytesIter (h2.push { cls := .type "bytes_iterator", data := .fields #[.bytes b t, .int 0 0] }) h2.objs.size b t 0 := ⟨_, Heap.get?_push_size _ rfl, rfl, rfl⟩
  refine wpAny_pure ⟨plainId_quiet F.plain_extend_loop _, codeAny_extend_loopS (KBw.walks (A := A.in1) hh h2.objs.size b t).toS hn _ hSf _ b.size 0 _ _ _ rfl (Nat.zero_le _) hst (Heap.get?_push_of_some _ hS₂) (ItemsOf.nil _) fun s' acc' c' hm hS' hacc => ?_⟩
  rw [Moved.eq_with hm]
  refine hR s'.heap s'.toks acc' c' (fun x ob hb e => hm.heap x ob (fun hmem => ?_) (Heap.get?_push_of_some _ (oth x ob hb e))) hS' hacc
  rcases List.mem_cons.mp hmem with e' | hmem
  · exact hb e'
  · exact absurd (Heap.lt_size (oth x ob hb e)) (by rw [List.mem_singleton.mp hmem]; exact Nat.lt_irrefl _)
theorem items_ints : ∀ {l : List UInt8} {vs : List Value}, vs.length = l.length → (∀ (j : Nat) (v : Value), vs[j]? = some v → ∃ (c : UInt8) (u : Tok), l[j]? = some c ∧ v = Value.int (c.toNat : Int) u) → IntsAre vs (l.map fun c => (c.toNat : Int))
  | [], [], _, _ => .nil
  | c :: l, v :: vs, h, k => by
    obtain ⟨c', u, h1, rfl⟩ := k 0 v rfl
    have e : c = c' := Option.some.inj h1
    subst e
    exact .cons _ _ (items_ints (Nat.succ.inj h) fun j v hj => k (j + 1) v hj)
theorem list_bytes {h₀ : Heap} {L : Addr} {m : Str → Option Value} {news : List (Addr × Obj)} {Q : Value → Shared → Prop} (F : Fr h₀ L s.heap m) (N : News h₀ L s.heap news) (hh : A.handled = none) (hn : b.size ≤ 100)
    (h : ∀ l h' tk vs n, AllLt l news → vs.length ≤ 100 → IntsAre vs (KBw.bInts b) → Fr h₀ L h' m → News h₀ L h' ((l, listOf vs.toArray n) :: news) → Q (.ref l) { s with heap := h', toks := tk }) :
    wpAny (model prog w) A (call (.type "list") [.bytes b t]) Q E s := by
  refine callType_codes (Q₁ := fun obj s₁ => obj = .ref s.heap.objs.size ∧ s₁ = { s with heap := s.heap.push { cls := .type "list", data := .seq #[] } }) PySem.F.called_list (PySem.F.typeCall_list_1 _) PySem.F.entry_list_init
    (code_list_new _ ⟨rfl, rfl⟩) fun obj s₁ h₁ => ?_
  obtain ⟨rfl, rfl⟩ := h₁
  have hS : (s.heap.push { cls := .type "list", data := .seq #[] }).get? s.heap.objs.size = some { cls := .type "list", data := .seq #[] } := Heap.get?_push_size _ rfl
  refine ⟨⟨_, hS, rfl⟩, PySem.F.args_list_init_2 _ _, init_bytes (A := A.in1) hh _ hS (fun h' tk acc' c' hk hS' hacc => ?_) (by rw [sizeLine_eq]; omega)⟩
  have keep : ∀ x o, s.heap.get? x = some o → h'.get? x = some o := fun x o e => hk x o (Nat.ne_of_lt (Heap.lt_size e)) (Heap.get?_push_of_some _ e)
  refine ⟨rfl, h s.heap.objs.size h' tk acc'.toList c' (allLt_of fun p hp => Heap.lt_size (N p hp).1) (by rw [Array.length_toList, hacc.1]; exact hn) ?_ (F.keptAll keep) ?_⟩
  · refine items_ints (l := b.toList) (by rw [Array.length_toList, Array.length_toList, hacc.1]) fun j v hj => ?_
    obtain ⟨c, u, h1, h2⟩ := hacc.2 j v (by rw [← Array.getElem?_toList]; exact hj)
    exact ⟨c, u, by rw [Array.getElem?_toList]; exact h1, h2⟩
  · intro p hp
    rcases List.mem_cons.mp hp with rfl | hp
    · exact ⟨by show h'.get? s.heap.objs.size = some (W.listOf acc'.toList.toArray c'); rw [Array.toArray_toList]; exact hS', Nat.ne_of_gt F.ns.lt, next_is_new F⟩
    · exact ⟨keep _ _ (N p hp).1, (N p hp).2⟩
end
theorem zip_getattr_none : typeLookup (.type "zip") "__getattr__" = pure none := by rw [typeLookup_type, builtinLookup_eq_fast]; kernel_rfl
theorem zip_no_keys : typeLookup (.type "zip") (Str.ofString "keys") = pure none := by rw [typeLookup_type, builtinLookup_eq_fast]; kernel_rfl
theorem entry_zip_getattribute : entryFor table "zip.__getattribute__" = some Builtin.«object.__getattribute__» :=
  entryFor_alias (id' := "object.__getattribute__") (by kernel_rfl) (by decide +kernel) (by decide +kernel) (by kernel_rfl)
theorem zip_miss (a : Addr) (vs : Array Value) (sl : Array (Option Value)) (u : Tok) :
    Meets (Builtin.«object.__getattribute__» ⟨[.ref a, .str (Str.ofString "keys") u], []⟩) (fun A R s => s.heap.get? a = some { cls := .type "zip", dict := none, data := .fields vs, slots := sl } ∧ raisesAttr (.ref a) (Str.ofString "keys") A R s) :=
  Meets.of_wp fun prog w A R s hs => by
    obtain ⟨hp, g, d, tk, os⟩ := s
    obtain ⟨hx, hs⟩ := hs
    have hT : (⟨hp, g, d, tk, os⟩ : Shared).TypeIs (.ref a) "zip" := ⟨_, hx, rfl⟩
    have hname : (["__module__", "__name__", "__qualname__", "__doc__", "__annotations__"] : List Str).contains (Str.ofString "keys") = false := by decide +kernel
    have hmiss := zip_no_keys
    unfold Builtin.«object.__getattribute__»
    repeat (any_goals (first | assumption | wp_step))
    exact wpAny_raiseAttrError hs.1 hs.2 (attrMsg_fits (by decide +kernel) (by decide +kernel))
theorem zip_keys {prog : Program} {w : World} {A : Around} {E : Value → Shared → Prop} {s : Shared} {a : Addr} {vs : Array Value} {sl : Array (Option Value)} {Q : Option Value → Shared → Prop}
    (hx : s.heap.get? a = some { cls := .type "zip", dict := none, data := .fields vs, slots := sl }) (hA : A.handled = none)
    (h : ∀ h' tk, (∀ b o, s.heap.get? b = some o → h'.get? b = some o) → Q none { s with heap := h', toks := tk }) :
    wpAny (model prog w) A (getAttr? (.ref a) (Str.ofString "keys")) Q E s := by
  obtain ⟨hp, g, d, tk, os⟩ := s
  have hT : ∀ tk', (⟨hp, g, d, tk', os⟩ : Shared).TypeIs (.ref a) "zip" := fun _ => ⟨_, hx, rfl⟩
  have f1 := sub_AttributeError
  have f3 := F.slot_zip_getattribute.lookup
  have f4 := F.slot_zip_getattribute.bind (.ref a)
  have f5 := zip_getattr_none
  unfold getAttr? getAttrBy? getAttrBy
  repeat (any_goals (first | assumption | exact hT _ | ((with_reducible show wpAny _ _ (call (Value.builtin "zip.__getattribute__") _ _) _ _ _); refine call_meets F.slot_zip_getattribute (hT _) entry_zip_getattribute (F.args_zip_getattribute_2 _ _) (zip_miss a vs sl _) ⟨hx, hA, fun h' tk' e hx' => ?_⟩) | wp_step))
  obtain ⟨t', u', he⟩ := hx'.there
  show wpAny _ _ (getattributeRaised _ _ _ _ _ _ _) _ _ _
  unfold getattributeRaised
  repeat (any_goals (first | assumption | wp_step))
  exact h _ _ fun b o e => hx'.keeps b o e
noncomputable abbrev ZAt (h : Heap) (z TI TO : Addr) (f0 : Value) (f1 : Bool) : Prop := h.get? z = some { cls := .type "zip", dict := none, data := .fields #[f0, .bool f1, .bool false, .ref TI, .ref TO], slots := #[] }
section
variable {prog : Program} {w : World} {A : Around} {E : Value → Shared → Prop} {s : Shared}
theorem loadAlive {a : Addr} {o : Obj} {Q : Option Obj → Shared → Prop} (ho : s.heap.get? a = some o) (h : Q (some o) s) : wpAny (model prog w) A (loadIfAlive a) Q E s := fun Γ p hΓ => by
  show Q (s.heap.get? a) s
  rw [ho]; exact h
theorem busy_owned {z TI TO T : Addr} {f1 : Bool} {o : Obj} {Q : Bool → Shared → Prop} (hz : ZAt s.heap z TI TO (rawInt T) f1) (hT : s.heap.get? T = some o)
    (h : ∀ h', ZAt h' z TI TO (rawInt T) true → Heap.SameBut z s.heap h' → Q false { s with heap := h' }) :
    wpAny (model prog w) A (Builtin.SmallTypes.ownedTupleIsFree (.ref z)) Q E s := by
  unfold Builtin.SmallTypes.ownedTupleIsFree
  refine wpAny_bind (wpAny_field hz rfl (x := rawInt T) rfl ?_)
  show wpAny _ _ (loadIfAlive (Int.toNat (T : Int)) >>= _) _ _ _
  rw [Int.toNat_natCast]
  refine wpAny_bind (loadAlive hT ?_)
  simp only [Option.isNone_some, Bool.false_eq_true, if_false]
  refine wpAny_bind (wpAny_field hz rfl (x := .bool f1) rfl ?_)
  cases f1 with
  | true => exact wpAny_pure (h _ hz ⟨rfl, fun _ _ => rfl⟩)
  | false =>
    show wpAny _ _ (setField (Value.ref z) 1 (Value.bool true) >>= fun _ => pure false) _ _ _
    refine wpAny_bind (wpAny_setField_rec hz (by simp) fun h' hz' hs' => ?_)
    exact wpAny_pure (h _ hz' hs')
theorem zip_busy_item {z TI TO i1 i2 l1 l2 T : Addr} {f1 : Bool} {oT : Obj} {k1 k2 : Nat} {xs ys : Array Value} {x y : Value} {Q : Value → Shared → Prop} (D : ZipApart z TI TO i1 i2 l1 l2)
    (hz : ZAt s.heap z TI TO (rawInt T) f1) (hT : s.heap.get? T = some oT) (hTI : IsPair s.heap TI (.ref i1) (.ref i2))
    (h1 : s.heap.IsListIter i1 l1 k1) (h2 : s.heap.IsListIter i2 l2 k2) (hl1 : s.heap.IsList l1 xs) (hl2 : s.heap.IsList l2 ys) (hx : xs[k1]? = some x) (hy : ys[k2]? = some y)
    (hQ : ∀ h', ZAt h' z TI TO (rawInt T) true → h'.IsListIter i1 l1 (k1 + 1) → h'.IsListIter i2 l2 (k2 + 1) → IsPair h' s.heap.objs.size x y → h'.objs.size = s.heap.objs.size + 1 →
      (∀ c o, c ≠ z → c ≠ i1 → c ≠ i2 → s.heap.get? c = some o → h'.get? c = some o) → Q (.ref s.heap.objs.size) { s with heap := h' }) :
    wpAny (model prog w) A (Builtin.«zip.__next__» ⟨[.ref z], []⟩) (fun fin s' => ∃ v, fin = .done (.ret v) ∧ Q v s') E s := by
  show wpAny _ _ (field (.ref z) 2 >>= _) _ _ _
  refine wpAny_bind (wpAny_field hz rfl (x := .bool false) rfl ?_)
  show wpAny _ _ (field (.ref z) 3 >>= _) _ _ _
  refine wpAny_bind (wpAny_field hz rfl (x := .ref TI) rfl ?_)
  refine wpAny_bind (wpAny_seqItems hTI rfl ?_)
  show wpAny _ _ (Builtin.SmallTypes.ownedTupleIsFree (.ref z) >>= _) _ _ _
  refine wpAny_bind (busy_owned hz hT fun ha hza hsa => ?_)
  simp only [Bool.false_eq_true, if_false]
  refine wpAny_bind ?_
  simp only [List.forIn_toArray, List.forIn_cons, List.forIn_nil]
  refine wpAny_bind (wpAny_bind (wpAny_holding ?_))
  show wpAny _ _ (Builtin.SmallTypes.nextOf (.ref i1) >>= _) _ _ _
  refine wpAny_bind (wpAny_nextOf_list_item (h1.extBut hsa.extBut D.i1z) (hl1.extBut hsa.extBut D.l1z) hx fun hb h1b hsb => wpAny_pure (wpAny_pure ?_))
  refine wpAny_bind (wpAny_bind (wpAny_holding ?_))
  show wpAny _ _ (Builtin.SmallTypes.nextOf (.ref i2) >>= _) _ _ _
  refine wpAny_bind (wpAny_nextOf_list_item ((h2.extBut hsa.extBut D.i2z).extBut hsb.extBut D.i12.symm) ((hl2.extBut hsa.extBut D.l2z).extBut hsb.extBut D.l2i1) hy fun hc h2c hsc => wpAny_pure (wpAny_pure (wpAny_pure ?_)))
  show wpAny _ _ (newTuple [x, y] >>= _) _ _ _
  refine wpAny_bind (wpAny_newTuple ?_)
  have hsz : hc.objs.size = s.heap.objs.size := by rw [hsc.1, hsb.1, hsa.1]
  have hk : ∀ c o, c ≠ z → c ≠ i1 → c ≠ i2 → s.heap.get? c = some o → hc.get? c = some o := fun c o c1 c2 c3 e => hsc.extBut _ _ c3 (hsb.extBut _ _ c2 (hsa.extBut _ _ c1 e))
  have hzc : ZAt hc z TI TO (rawInt T) true := hsc.extBut _ _ D.i2z.symm (hsb.extBut _ _ D.i1z.symm hza)
  have h1c : hc.IsListIter i1 l1 (k1 + 1) := h1b.extBut hsc.extBut D.i12
  refine wpAny_pure ⟨_, rfl, ?_⟩
  show Q (.ref hc.objs.size) _
  have q := hQ (hc.push { cls := .type "tuple", data := .seq [x, y].toArray }) (Heap.get?_push_of_some _ hzc) (h1c.at fun o e => Heap.get?_push_of_some _ e) (h2c.at fun o e => Heap.get?_push_of_some _ e) (by rw [← hsz]; exact Heap.get?_push_size _ rfl) (by rw [Heap.size_push, hsz])
    (fun c o c1 c2 c3 e => Heap.get?_push_of_some _ (hk c o c1 c2 c3 e))
  rw [hsz]
  exact q
theorem zip_busy_end {z TI TO i1 i2 l1 l2 T : Addr} {f1 : Bool} {oT : Obj} {k1 k2 : Nat} {xs ys : Array Value} {Q : Fin → Shared → Prop} (hh : A.handled = none) (D : ZipApart z TI TO i1 i2 l1 l2)
    (hz : ZAt s.heap z TI TO (rawInt T) f1) (hT : s.heap.get? T = some oT) (hTI : IsPair s.heap TI (.ref i1) (.ref i2))
    (h1 : s.heap.IsListIter i1 l1 k1) (h2 : s.heap.IsListIter i2 l2 k2) (hl1 : s.heap.IsList l1 xs) (hl2 : s.heap.IsList l2 ys) (hend : xs[k1]? = none ∨ ys[k2]? = none)
    (hE : ∀ h' e, (∀ c o, c ≠ z → c ≠ i1 → c ≠ i2 → s.heap.get? c = some o → h'.get? c = some o) → (∃ o, h'.get? e = some o ∧ o.cls = .type "StopIteration") → E (.ref e) { s with heap := h' }) :
    wpAny (model prog w) A (Builtin.«zip.__next__» ⟨[.ref z], []⟩) Q E s := by
  show wpAny _ _ (field (.ref z) 2 >>= _) _ _ _
  refine wpAny_bind (wpAny_field hz rfl (x := .bool false) rfl ?_)
  show wpAny _ _ (field (.ref z) 3 >>= _) _ _ _
  refine wpAny_bind (wpAny_field hz rfl (x := .ref TI) rfl ?_)
  refine wpAny_bind (wpAny_seqItems hTI rfl ?_)
  show wpAny _ _ (Builtin.SmallTypes.ownedTupleIsFree (.ref z) >>= _) _ _ _
  refine wpAny_bind (busy_owned hz hT fun ha hza hsa => ?_)
  simp only [Bool.false_eq_true, if_false]
  refine wpAny_bind ?_
  simp only [List.forIn_toArray, List.forIn_cons, List.forIn_nil]
  refine wpAny_bind (wpAny_bind (wpAny_holding ?_))
  show wpAny _ _ (Builtin.SmallTypes.nextOf (.ref i1) >>= _) _ _ _
  cases hx : xs[k1]? with
  | none =>
    refine wpAny_bind (wpAny_nextOf_list_end hh (h1.extBut hsa.extBut D.i1z) (hl1.extBut hsa.extBut D.l1z) hx fun hb e hsb he => ?_)
    exact hE hb e (fun c o c1 c2 c3 x => hsb _ _ c2 (hsa.extBut _ _ c1 x)) he
  | some x =>
    have hy : ys[k2]? = none := by rcases hend with h | h; rw [hx] at h; cases h; exact h
    refine wpAny_bind (wpAny_nextOf_list_item (h1.extBut hsa.extBut D.i1z) (hl1.extBut hsa.extBut D.l1z) hx fun hb h1b hsb => wpAny_pure (wpAny_pure ?_))
    refine wpAny_bind (wpAny_bind (wpAny_holding ?_))
    show wpAny _ _ (Builtin.SmallTypes.nextOf (.ref i2) >>= _) _ _ _
    refine wpAny_bind (wpAny_nextOf_list_end hh ((h2.extBut hsa.extBut D.i2z).extBut hsb.extBut D.i12.symm) ((hl2.extBut hsa.extBut D.l2z).extBut hsb.extBut D.l2i1) hy fun hc e hsc he => ?_)
    exact hE hc e (fun c o c1 c2 c3 x => hsc _ _ c3 (hsb.extBut _ _ c2 (hsa.extBut _ _ c1 x))) he
/-- a zip's state ahead of its next -/
noncomputable def ZState (h : Heap) (z TI TO : Addr) : Prop := (IsZip h z TI TO .none ∧ ∃ a b, IsPair h TO a b) ∨ ∃ T f1 o, T ≠ z ∧ h.get? T = some o ∧ o.cls = .type "tuple" ∧ ZAt h z TI TO (rawInt T) f1
end
noncomputable def AllInts (vs : List Value) : Prop := ∀ v ∈ vs, ∃ x t, v = Value.int x t
theorem ints_all {vs : List Value} {ns : List Int} (h : IntsAre vs ns) : AllInts vs := by
  induction h with
  | nil => intro v hv; cases hv
  | cons n t _ ih =>
    intro v hv
    rcases List.mem_cons.mp hv with rfl | hv
    · exact ⟨n, t, rfl⟩
    · exact ih v hv
theorem plain_update_loop : plainId "dict.update.loop" = true := by decide +kernel
theorem entry_update_loop : entryFor table "dict.update.loop" = some Builtin.«dict.update.loop» := entryFor_of_fast (by kernel_rfl)
structure ZInv (h : Heap) (z TI TO i1 i2 l1 l2 : Addr) (xs ys : Array Value) (i : Nat) : Prop where
  zs : ZState h z TI TO
  ti : IsPair h TI (.ref i1) (.ref i2)
  h1 : h.IsListIter i1 l1 i
  h2 : h.IsListIter i2 l2 i
  m1 : h.IsList l1 xs
  m2 : h.IsList l2 ys
section
variable {prog : Program} {w : World} {A : Around} {E : Value → Shared → Prop} {s : Shared}
theorem zip_next_any {z TI TO i1 i2 l1 l2 : Addr} {i : Nat} {xs ys : Array Value} {x y : Value} {Q : Option Value → Shared → Prop} (D : ZipApart z TI TO i1 i2 l1 l2) (I : ZInv s.heap z TI TO i1 i2 l1 l2 xs ys i) (hx : xs[i]? = some x) (hy : ys[i]? = some y)
    (hQ : ∀ h' T, ZInv h' z TI TO i1 i2 l1 l2 xs ys (i + 1) → IsPair h' T x y → (∀ c o, c ≠ z → c ≠ TO → c ≠ i1 → c ≠ i2 → s.heap.get? c = some o → h'.get? c = some o) → Q (some (.ref T)) { s with heap := h' }) :
    wpAny (model prog w) A (pyNext (.ref z)) Q E s := by
  rcases I.zs with ⟨hz, a, b, hTO⟩ | ⟨T, f1, oT, hTz, hT, hTc, hz⟩
  · refine wpAny_pyNext_zip_item D hz I.ti hTO I.h1 I.h2 I.m1 I.m2 hx hy fun h' a1 a2 a3 a4 a5 a6 a7 => hQ h' _ ⟨.inr ⟨_, false, _, ?_, a5, rfl, a1⟩, a7 _ _ D.TIz D.TITO D.TIi1 D.TIi2 I.ti, a3, a4, ?_, ?_⟩ a5 a7
    · exact fun e => absurd (Heap.lt_size hz) (by rw [← e]; exact Nat.lt_irrefl _)
    · exact I.m1.at fun o e => a7 _ _ D.l1z D.l1TO D.l1i1 D.l1i2 e
    · exact I.m2.at fun o e => a7 _ _ D.l2z D.l2TO D.l2i1 D.l2i2 e
  · have hTy : s.TypeIs (.ref z) "zip" := ⟨_, hz, rfl⟩
    obtain ⟨o1, ho1, hc1, _⟩ := I.h1
    obtain ⟨o2, ho2, hc2, _⟩ := I.h2
    have t1 : T ≠ i1 := fun e => by subst e; rw [hT] at ho1; cases ho1; rw [hTc] at hc1; exact absurd (Value.type.inj hc1) (by decide)
    have t2 : T ≠ i2 := fun e => by subst e; rw [hT] at ho2; cases ho2; rw [hTc] at hc2; exact absurd (Value.type.inj hc2) (by decide)
    unfold pyNext
    refine wpAny_bind (wpAny_attempt (wpAny_callSpecial?_slot (name := Str.ofString "__next__") hTy F.slot_zip_next
      (wpAny_call_entry F.slot_zip_next hTy F.entry_zip_next
        (zip_busy_item D hz hT I.ti I.h1 I.h2 I.m1 I.m2 hx hy fun h' a1 a3 a4 a5 a6 a7 => wpAny_pure ?_) (F.args_zip_next_1 _))))
    refine hQ h' _ ⟨.inr ⟨T, true, oT, hTz, a7 _ _ hTz t1 t2 hT, hTc, a1⟩, a7 _ _ D.TIz D.TIi1 D.TIi2 I.ti, a3, a4, ?_, ?_⟩ a5 (fun c o c1 _ c3 c4 e => a7 c o c1 c3 c4 e)
    · exact I.m1.at fun o e => a7 _ _ D.l1z D.l1i1 D.l1i2 e
    · exact I.m2.at fun o e => a7 _ _ D.l2z D.l2i1 D.l2i2 e
theorem zip_next_none {z TI TO i1 i2 l1 l2 : Addr} {i : Nat} {xs ys : Array Value} {Q : Option Value → Shared → Prop} (hh : A.handled = none) (D : ZipApart z TI TO i1 i2 l1 l2) (I : ZInv s.heap z TI TO i1 i2 l1 l2 xs ys i) (hend : xs[i]? = none ∨ ys[i]? = none)
    (hQ : ∀ h', (∀ c o, c ≠ z → c ≠ TO → c ≠ i1 → c ≠ i2 → s.heap.get? c = some o → h'.get? c = some o) → Q none { s with heap := h' }) :
    wpAny (model prog w) A (pyNext (.ref z)) Q E s := by
  rcases I.zs with ⟨hz, a, b, hTO⟩ | ⟨T, f1, oT, hTz, hT, hTc, hz⟩
  · exact wpAny_pyNext_zip_end hh D hz I.ti hTO I.h1 I.h2 I.m1 I.m2 hend hQ
  · have hTy : s.TypeIs (.ref z) "zip" := ⟨_, hz, rfl⟩
    unfold pyNext
    refine wpAny_bind (wpAny_attempt (wpAny_callSpecial?_slot (name := Str.ofString "__next__") hTy F.slot_zip_next
      (wpAny_call_entry F.slot_zip_next hTy F.entry_zip_next (zip_busy_end hh D hz hT I.ti I.h1 I.h2 I.m1 I.m2 hend fun h' e hk he => ?_) (F.args_zip_next_1 _))))
    obtain ⟨o, ho, hc⟩ := he
    refine wpAny_bind (wpAny_isInstance (T := "StopIteration") (b := true) ⟨o, ho, hc⟩ isSubtype_stop ?_)
    exact wpAny_pure (hQ _ fun c o c1 _ c3 c4 e => hk c o c1 c3 c4 e)
end
theorem zinv_to {h : Heap} {z TI TO i1 i2 l1 l2 : Addr} {xs ys : Array Value} {i : Nat} (I : ZInv h z TI TO i1 i2 l1 l2 xs ys i) : ∃ o, h.get? z = some o ∧ o.cls = .type "zip" := by
  rcases I.zs with ⟨hz, _⟩ | ⟨_, _, _, _, _, _, hz⟩
  · exact ⟨_, hz, rfl⟩
  · exact ⟨_, hz, rfl⟩
theorem ne_cls {h : Heap} {a b : Addr} {o o' : Obj} {x y : String} (h1 : h.get? a = some o) (c1 : o.cls = .type x) (h2 : h.get? b = some o') (c2 : o'.cls = .type y) (hne : x ≠ y) : a ≠ b := fun e => by
  subst e
  rw [h1] at h2; cases h2
  rw [c1] at c2
  exact hne (Value.type.inj c2)
/-- what the loop must not meet: d is a dict -/
theorem zinv_set {h h' : Heap} {z TI TO i1 i2 l1 l2 d : Addr} {od : Obj} {xs ys : Array Value} {i : Nat} (I : ZInv h z TI TO i1 i2 l1 l2 xs ys i) (hd : h.get? d = some od) (hc : od.cls = .type "dict") (hTO : d ≠ TO) (hs : Heap.SameBut d h h') :
    ZInv h' z TI TO i1 i2 l1 l2 xs ys i := by
  have k : ∀ b o x, h.get? b = some o → o.cls = .type x → x ≠ "dict" → h'.get? b = some o := fun b o x e c ne => (hs.2 b (ne_cls e c hd hc ne)).trans e
  obtain ⟨o1, ho1, hc1, hd1⟩ := I.h1
  obtain ⟨o2, ho2, hc2, hd2⟩ := I.h2
  obtain ⟨p1, hp1, hpc1, hpd1⟩ := I.m1
  obtain ⟨p2, hp2, hpc2, hpd2⟩ := I.m2
  refine ⟨?_, k _ _ _ I.ti rfl (by decide), ⟨o1, k _ _ _ ho1 hc1 (by decide), hc1, hd1⟩, ⟨o2, k _ _ _ ho2 hc2 (by decide), hc2, hd2⟩, ⟨p1, k _ _ _ hp1 hpc1 (by decide), hpc1, hpd1⟩, ⟨p2, k _ _ _ hp2 hpc2 (by decide), hpc2, hpd2⟩⟩
  rcases I.zs with ⟨hz, a, b, hTO'⟩ | ⟨T, f1, oT, hTz, hT, hTc, hz⟩
  · exact .inl ⟨k _ _ _ hz rfl (by decide), a, b, k _ _ _ hTO' rfl (by decide)⟩
  · exact .inr ⟨T, f1, oT, hTz, k _ _ _ hT hTc (by decide), hTc, k _ _ _ hz rfl (by decide)⟩
open PyProof.V in
noncomputable def IntTab (prog : Program) (w : World) (h : Heap) (d : Addr) (b : Nat) : Prop := ∃ kvs D, h.DictOf (PySem.intKind prog w) d kvs ∧ FlatPairs PyData.int kvs D ∧ D.length ≤ b
section
variable {prog : Program} {w : World} {A : Around} {E : Value → Shared → Prop}
theorem dict_obj {K : Type} [DecidableEq K] {knd : KeyKind prog w K} {h : Heap} {d : Addr} {kvs : List (K × Value)} (hd : h.DictOf knd d kvs) : ∃ o, h.get? d = some o ∧ o.cls = .type "dict" := by
  obtain ⟨o, es, ep, ho, hc, _⟩ := hd
  exact ⟨o, ho, hc.1⟩
theorem inttab_keep {h h' : Heap} {z TI TO i1 i2 l1 l2 d : Addr} {xs ys : Array Value} {i b b' : Nat} (I : ZInv h z TI TO i1 i2 l1 l2 xs ys i) (hd : IntTab prog w h d b) (hTO : d ≠ TO) (hb : b ≤ b')
    (hk : ∀ c o, c ≠ z → c ≠ TO → c ≠ i1 → c ≠ i2 → h.get? c = some o → h'.get? c = some o) : IntTab prog w h' d b' := by
  obtain ⟨kvs, D, hdk, hf, hl⟩ := hd
  obtain ⟨o, ho, hod⟩ := Heap.dictOf_iff.mp hdk
  obtain ⟨o', ho', hc⟩ := dict_obj hdk
  rw [ho] at ho'; cases ho'
  obtain ⟨oz, hz, hzc⟩ := zinv_to I
  obtain ⟨o1, h1, hc1, _⟩ := I.h1
  obtain ⟨o2, h2, hc2, _⟩ := I.h2
  exact ⟨kvs, D, Heap.dictOf_iff.mpr ⟨o, hk d o (ne_cls ho hc hz hzc (by decide)) hTO (ne_cls ho hc h1 hc1 (by decide)) (ne_cls ho hc h2 hc2 (by decide)) ho, hod⟩, hf, Nat.le_trans hl hb⟩
theorem update_loop {R : Result → Shared → Prop} (hh : A.handled = none) {z TI TO i1 i2 l1 l2 d : Addr} {xs ys : Array Value} (D : ZipApart z TI TO i1 i2 l1 l2) (hx : AllInts xs.toList) (hy : AllInts ys.toList) (hTO : d ≠ TO) (hz : xs.size ≤ 100) :
    ∀ (k i : Nat) (s : Shared), xs.size - i = k → i ≤ xs.size → ZInv s.heap z TI TO i1 i2 l1 l2 xs ys i → IntTab prog w s.heap d i →
    (∀ h' tk, IntTab prog w h' d xs.size → (∀ c o, c ≠ z → c ≠ TO → c ≠ i1 → c ≠ i2 → c ≠ d → s.heap.get? c = some o → h'.get? c = some o) → R (.ok (.ret .none)) { s with heap := h', toks := tk }) →
    codeAny (model prog w) A (.builtin "dict.update.loop" ⟨[.ref d, .ref z, rawInt i, .none], []⟩) R s := by
  intro k
  induction k with
  | zero =>
    intro i s hk hi I hd hR
    refine codeAny_builtin entry_update_loop ?_
    rw [Around.under_plainId plain_update_loop _]
    show wpAny _ A.in1 (pyNext (.ref z) >>= _) _ _ s
    refine wpAny_bind (zip_next_none (A := A.in1) hh D I (.inl (by rw [Array.getElem?_eq_none]; omega)) fun h' hk' => ?_)
    show wpAny _ _ (Builtin.Dict.addKeywords d [] >>= _) _ _ _
    exact wpAny_bind (wpAny_pure (wpAny_pure (hR h' s.toks (inttab_keep I hd hTO (by omega) hk') fun c o c1 c2 c3 c4 _ e => hk' c o c1 c2 c3 c4 e)))
  | succ k ih =>
    intro i s hk hi I hd hR
    refine codeAny_builtin entry_update_loop ?_
    rw [Around.under_plainId plain_update_loop _]
    show wpAny _ A.in1 (pyNext (.ref z) >>= _) _ _ s
    obtain ⟨x, ex⟩ : ∃ x, xs[i]? = some x := ⟨xs[i]'(by omega), Array.getElem?_eq_getElem (by omega)⟩
    cases ey : ys[i]? with
    | none =>
      refine wpAny_bind (zip_next_none (A := A.in1) hh D I (.inr ey) fun h' hk' => ?_)
      show wpAny _ _ (Builtin.Dict.addKeywords d [] >>= _) _ _ _
      exact wpAny_bind (wpAny_pure (wpAny_pure (hR h' s.toks (inttab_keep I hd hTO (by omega) hk') fun c o c1 c2 c3 c4 _ e => hk' c o c1 c2 c3 c4 e)))
    | some y =>
      refine wpAny_bind (zip_next_any D I ex ey fun h' T I' hT hk' => ?_)
      obtain ⟨vx, tx, rfl⟩ := hx x (by rw [← Array.getElem?_toList] at ex; exact List.mem_of_getElem? ex)
      obtain ⟨vy, ty, rfl⟩ := hy y (by rw [← Array.getElem?_toList] at ey; exact List.mem_of_getElem? ey)
      obtain ⟨kvs, D', hdk, hf, hl⟩ := inttab_keep I hd hTO (Nat.le_refl i) hk'
      refine wpAny_bind (wpAny_holding (wpAny_bind (wpAny_tryCatch ?_)))
      unfold Builtin.Dict.pairItems
      refine wpAny_bind (wpAny_typeOf (T := "tuple") ⟨_, hT, rfl⟩ ?_)
      rw [if_pos (by decide)]
      refine wpAny_bind (wpAny_seqItems hT rfl (wpAny_pure ?_))
      show wpAny _ _ (holding [Value.int vx tx, Value.int vy ty] (dictSet d (Value.int vx tx) (Value.int vy ty))) _ _ _
      have hlen := hf.length
      refine wpAny_holding (wpAny_dictSet_pairs (intKind_is _ _ vx tx) hdk (fun h2 hd2 hs2 => ?_) (by rw [sizeLine_eq]; omega))
      refine wpAny_pure ⟨plainId_quiet plain_update_loop _, ?_⟩
      have e1 : (rawInt ((i : Int) + 1)) = rawInt ((i + 1 : Nat) : Int) := rfl
      rw [e1]
      obtain ⟨od, hod, hcd⟩ := dict_obj hdk
      refine ih (i + 1) _ (by omega) (by omega) (zinv_set I' hod hcd hTO hs2) ⟨_, _, hd2, hf.stored PyProof.V.same_int vx (.int vy ty), Nat.le_trans (PyProof.V.putD_length_le _ _ _) (by omega)⟩ fun h3 tk3 ht3 hk3 => ?_
      exact hR h3 tk3 ht3 fun c o c1 c2 c3 c4 c5 e => hk3 c o c1 c2 c3 c4 c5 ((hs2.2 c c5).trans (hk' c o c1 c2 c3 c4 e))
end
open PyProof.V in
noncomputable def IntObj (prog : Program) (w : World) (o : Obj) (b : Nat) : Prop := ∃ kvs D, o.IsDictOf (PySem.intKind prog w) kvs ∧ FlatPairs PyData.int kvs D ∧ D.length ≤ b
theorem lt_mem {T : List (Addr × Obj)} {q : Nat} (h : AllLt q T) : ∀ {p}, p ∈ T → p.1 < q := by
  induction T with
  | nil => intro p hp; cases hp
  | cons x T ih =>
    intro p hp
    rcases List.mem_cons.mp hp with rfl | hp
    · exact h.1
    · exact ih h.2 hp
section
variable {prog : Program} {w : World} {A : Around} {E : Value → Shared → Prop} {s : Shared}
theorem call_dict_zip {z TI TO i1 i2 l1 l2 : Addr} {xs ys : Array Value} {Q : Value → Shared → Prop} (hh : A.handled = none) (D : ZipApart z TI TO i1 i2 l1 l2) (hz0 : IsZip s.heap z TI TO .none) (I : ZInv s.heap z TI TO i1 i2 l1 l2 xs ys 0) (hx : AllInts xs.toList) (hy : AllInts ys.toList) (hz : xs.size ≤ 100)
    (h : ∀ h' tk, IntTab prog w h' s.heap.objs.size xs.size → (∀ c o, c ≠ z → c ≠ TO → c ≠ i1 → c ≠ i2 → s.heap.get? c = some o → h'.get? c = some o) → Q (.ref s.heap.objs.size) { s with heap := h', toks := tk }) :
    wpAny (model prog w) A (call (.type "dict") [.ref z]) Q E s := by
  refine callType_codes (Q₁ := fun obj s₁ => obj = .ref s.heap.objs.size ∧ s₁ = { s with heap := s.heap.push { cls := .type "dict", data := .dict #[] } }) PySem.F.kt_called_dict (PySem.F.kt_typeCall_dict_1 _) PySem.F.entry_dict_init (kt_code_dict_new _ ⟨rfl, rfl⟩) ?_
  rintro obj s₁ ⟨rfl, rfl⟩
  have hnew : (s.heap.push { cls := .type "dict", data := .dict #[] }).DictOf (PySem.intKind prog w) s.heap.objs.size [] := Heap.DictOf.new s.heap
  have up : ∀ c o, s.heap.get? c = some o → (s.heap.push { cls := .type "dict", data := .dict #[] }).get? c = some o := fun c o e => Heap.get?_push_of_some _ e
  have keepI : ∀ {h h' : Heap}, ZInv h z TI TO i1 i2 l1 l2 xs ys 0 → (∀ c o, h.get? c = some o → h'.get? c = some o) → ZInv h' z TI TO i1 i2 l1 l2 xs ys 0 := by
    intro h h' I up
    refine ⟨?_, up _ _ I.ti, I.h1.at fun o e => up _ _ e, I.h2.at fun o e => up _ _ e, I.m1.at fun o e => up _ _ e, I.m2.at fun o e => up _ _ e⟩
    rcases I.zs with ⟨hz, a, b, hTO'⟩ | ⟨T, f1, oT, hTz, hT, hTc, hz⟩
    · exact .inl ⟨up _ _ hz, a, b, up _ _ hTO'⟩
    · exact .inr ⟨T, f1, oT, hTz, up _ _ hT, hTc, up _ _ hz⟩
  have I1 := keepI I up
  obtain ⟨oz, hzo, hzc⟩ := zinv_to I1
  refine ⟨hnew.typeIs, PySem.F.args_dict_init_2 _ _, ?_⟩
  unfold Builtin.«dict.__init__»
  refine wpAny_bind ?_
  unfold Builtin.Dict.selfAndRest
  refine wpAny_bind (wpAny_notOrdered_dict hnew.typeIs ?_)
  show wpAny _ _ (pure (s.heap.objs.size, [Value.ref z])) _ _ _
  refine wpAny_pure ?_
  show wpAny _ _ (Builtin.Dict.updateFrom "dict.__init__" s.heap.objs.size (.ref z) [] .none) _ _ _
  unfold Builtin.Dict.updateFrom
  refine wpAny_bind (wpAny_typeOf (T := "zip") ⟨oz, hzo, hzc⟩ ?_)
  rw [if_pos (by decide)]
  refine wpAny_bind (zip_keys (up _ _ hz0) (by exact hh) fun h1 tk1 hk1 => ?_)
  rw [if_pos (by rfl)]
  refine wpAny_bind (wpAny_rule ?_)
  have hk : ∀ c o, s.heap.get? c = some o → h1.get? c = some o := fun c o e => hk1 c o (up c o e)
  refine wpAny_bind (wpAny_pyIter_zip (f0 := .none) (hk _ _ hz0) ?_)
  have hlt : ∀ {b o}, s.heap.get? b = some o → s.heap.objs.size ≠ b := fun e q => Nat.lt_irrefl _ (by have := Heap.lt_size e; rw [← q] at this; exact this)
  obtain ⟨o1, ho1, _⟩ := I.h1
  obtain ⟨o2, ho2, _⟩ := I.h2
  have hTO : s.heap.objs.size ≠ TO := by
    rcases I.zs with ⟨_, a, b, hTO'⟩ | ⟨T, f1, oT, hTz, hT, hTc, hz⟩
    · exact hlt hTO'
    · have q := hz0.symm.trans hz
      cases q
  have hnew1 : IntTab prog w h1 s.heap.objs.size 0 := by
    obtain ⟨o, ho, hod⟩ := Heap.dictOf_iff.mp hnew
    exact ⟨[], [], Heap.dictOf_iff.mpr ⟨o, hk1 _ _ ho, hod⟩, .nil, Nat.le_refl _⟩
  refine wpAny_pure ⟨plainId_quiet plain_update_loop _, ?_⟩
  refine update_loop (A := A.in1) hh D hx hy hTO hz _ 0 _ rfl (Nat.zero_le _) (keepI I hk) hnew1 fun h' tk ht hk' => ?_
  exact ⟨rfl, h h' tk ht fun c o c1 c2 c3 c4 e => hk' c o c1 c2 c3 c4 (hlt e).symm (hk c o e)⟩
theorem zip_K {h₀ : Heap} {L : Addr} {m : Str → Option Value} {news : List (Addr × Obj)} {l1 l2 n1 n2 : Nat} {xs ys : List Value} {Q : Value → Shared → Prop} (F : Fr h₀ L s.heap m) (N : News h₀ L s.heap news)
    (m1 : (l1, listOf xs.toArray n1) ∈ news) (m2 : (l2, listOf ys.toArray n2) ∈ news)
    (h : ∀ h' z TI TO i1 i2 oz oTO o1 o2, ZipApart z TI TO i1 i2 l1 l2 → IsZip h' z TI TO .none → ZInv h' z TI TO i1 i2 l1 l2 xs.toArray ys.toArray 0 → AllLt z news → AllLt TO news → AllLt i1 news → AllLt i2 news → Fr h₀ L h' m → News h₀ L h' ((z, oz) :: (TO, oTO) :: (i1, o1) :: (i2, o2) :: news) → Q (.ref z) { s with heap := h' }) :
    wpAny (model prog w) A (call (.type "zip") [.ref l1, .ref l2]) Q E s := by
  have hl1 : s.heap.IsList l1 xs.toArray := ⟨_, (N _ m1).1, rfl, n1, rfl⟩
  have hl2 : s.heap.IsList l2 ys.toArray := ⟨_, (N _ m2).1, rfl, n2, rfl⟩
  have hL := F.ns.lt
  refine call_zip_2 hl1 hl2 fun h' hz hTI hTO hi1 hi2 hsz hk => ?_
  obtain ⟨o1, ho1, r1⟩ := id hi1
  obtain ⟨o2, ho2, r2⟩ := id hi2
  have new : ∀ {b}, s.heap.objs.size ≤ b → AllLt b news := fun hb => allLt_of fun p hp => Nat.lt_of_lt_of_le (Heap.lt_size (N p hp).1) hb
  have lo : ∀ {b}, s.heap.objs.size ≤ b → b ≠ L ∧ h₀.get? b = none := fun hb => ⟨Nat.ne_of_gt (Nat.lt_of_lt_of_le hL hb), ktu_new F hb⟩
  refine h h' _ _ _ _ _ { cls := .type "zip", dict := none, data := .fields #[.none, .bool false, .bool false, .ref (s.heap.objs.size + 2), .ref (s.heap.objs.size + 3)], slots := #[] } { cls := .type "tuple", data := .seq #[.none, .none] } o1 o2 (zipApart_new (Heap.lt_size (N _ m1).1) (Heap.lt_size (N _ m2).1)) hz ⟨.inl ⟨hz, _, _, hTO⟩, hTI, hi1, hi2, hl1.at fun o e => hk _ _ e, hl2.at fun o e => hk _ _ e⟩
    (new (Nat.le_add_right _ 4)) (new (Nat.le_add_right _ 3)) (new (Nat.le_refl _)) (new (Nat.le_add_right _ 1)) (F.keeps hk) ?_
  intro p hp
  rcases List.mem_cons.mp hp with rfl | hp
  · exact ⟨hz, lo (Nat.le_add_right _ 4)⟩
  rcases List.mem_cons.mp hp with rfl | hp
  · exact ⟨hTO, lo (Nat.le_add_right _ 3)⟩
  rcases List.mem_cons.mp hp with rfl | hp
  · exact ⟨ho1, lo (Nat.le_refl _)⟩
  rcases List.mem_cons.mp hp with rfl | hp
  · exact ⟨ho2, lo (Nat.le_add_right _ 1)⟩
  · exact ⟨hk _ _ (N p hp).1, (N p hp).2⟩
theorem dict_zip_K {h₀ : Heap} {L : Addr} {m : Str → Option Value} {news : List (Addr × Obj)} {z TI TO i1 i2 l1 l2 : Nat} {oz oTO o1 o2 : Obj} {xs ys : List Value} {Q : Value → Shared → Prop} (F : Fr h₀ L s.heap m)
    (N : News h₀ L s.heap ((z, oz) :: (TO, oTO) :: (i1, o1) :: (i2, o2) :: news)) (hh : A.handled = none) (D : ZipApart z TI TO i1 i2 l1 l2) (hz0 : IsZip s.heap z TI TO .none) (I : ZInv s.heap z TI TO i1 i2 l1 l2 xs.toArray ys.toArray 0) (hx : AllInts xs) (hy : AllInts ys) (hz : xs.length ≤ 100)
    (a1 : AllLt z news) (a2 : AllLt TO news) (a3 : AllLt i1 news) (a4 : AllLt i2 news) (hbig : h₀.NoLimit)
    (h : ∀ d od h' tk, AllLt d news → (d == sysModules) = false → Fr h₀ L h' m → News h₀ L h' ((d, od) :: news) → IntObj prog w od xs.length → Q (.ref d) { s with heap := h', toks := tk }) :
    wpAny (model prog w) A (call (.type "dict") [.ref z]) Q E s := by
  refine call_dict_zip hh D hz0 I (by simpa using hx) (by simpa using hy) (by simpa using hz) fun h' tk ht hk => ?_
  obtain ⟨kvs, DD, hd, hf, hl⟩ := ht
  obtain ⟨od, hod, hdd⟩ := Heap.dictOf_iff.mp hd
  have nz := N _ (.head _)
  have nT := N _ (.tail _ (.head _))
  have n1 := N _ (.tail _ (.tail _ (.head _)))
  have n2 := N _ (.tail _ (.tail _ (.tail _ (.head _))))
  have F' : Fr h₀ L h' m := by
    refine ⟨F.ns.at fun o e => hk L o nz.2.1.symm nT.2.1.symm n1.2.1.symm n2.2.1.symm e, fun b o e => hk b o ?_ ?_ ?_ ?_ (F.keep b o e), F.above⟩
    all_goals (rintro rfl)
    · rw [nz.2.2] at e; cases e
    · rw [nT.2.2] at e; cases e
    · rw [n1.2.2] at e; cases e
    · rw [n2.2.2] at e; cases e
  refine h s.heap.objs.size od h' tk (allLt_of fun p hp => Heap.lt_size (N p (.tail _ (.tail _ (.tail _ (.tail _ hp))))).1) (F.notModules (modules_low hbig)) F' ?_ ⟨kvs, DD, hdd, hf, by simpa using hl⟩
  intro p hp
  rcases List.mem_cons.mp hp with rfl | hp
  · exact ⟨hod, Nat.ne_of_gt F.ns.lt, next_is_new F⟩
  · have q := N p (.tail _ (.tail _ (.tail _ (.tail _ hp))))
    exact ⟨hk _ _ (Nat.ne_of_lt (lt_mem a1 hp)) (Nat.ne_of_lt (lt_mem a2 hp)) (Nat.ne_of_lt (lt_mem a3 hp)) (Nat.ne_of_lt (lt_mem a4 hp)) q.1, q.2⟩
end
noncomputable abbrev lw := PySem.Challenge.rw_np0284_01
theorem said0 : (sreFenced lw.row.prog.main) = true := by kernel_rfl
theorem said1 : (((moduleNames lw.row.prog.main.body).isEmpty || lookedIntoSs (moduleNames lw.row.prog.main.body) lw.row.prog.main.body)) = true := by kernel_rfl
theorem said2 : (namesResolve lw.row.prog) = true := by kernel_rfl
theorem said3 : ((lw.row.prog.boundNames.all fun n => !worldNames.contains n)) = true := by kernel_rfl
theorem said4a : readsOut lw.row.prog lw.row.prog.main.body (Str.ofString "vars") = false := by kernel_rfl
theorem said4b : readsOut lw.row.prog lw.row.prog.main.body (Str.ofString "dir") = false := by kernel_rfl
theorem said4c : readsOut lw.row.prog lw.row.prog.main.body (Str.ofString "locals") = false := by kernel_rfl
theorem said4d : noRoadLSs { strict := !(importedModules lw.row.prog.main.body).all cThrough.contains, foot := none, bare := [] } lw.row.prog.main.body = true := by kernel_rfl
theorem said4 : noRoadLSs { strict := !(importedModules lw.row.prog.main.body).all cThrough.contains, foot := none, bare := List.filter (readsOut lw.row.prog lw.row.prog.main.body) [Str.ofString "vars", Str.ofString "dir", Str.ofString "locals"] } lw.row.prog.main.body = true := by
  rw [List.filter_cons_of_neg (by rw [said4a]; exact Bool.false_ne_true), List.filter_cons_of_neg (by rw [said4b]; exact Bool.false_ne_true), List.filter_cons_of_neg (by rw [said4c]; exact Bool.false_ne_true), List.filter_nil]
  exact said4d
theorem said5 : ((namesMeet lw.row.prog lw.row.prog.main.body fun x n => attrL n)) = true := by kernel_rfl
theorem said12 : (lw.row.solid) = true := by kernel_rfl
theorem said19 : (lw.row.prog.boundNames.contains lw.row.name) = true := by kernel_rfl
theorem said20 : ((!startupNames.contains lw.row.name)) = true := by kernel_rfl
theorem said21 : (decide (lw.foot ≤ (behindTheImports lw.prog).length)) = true := by kernel_rfl
theorem said22 : (lw.footing.all footLine) = true := by kernel_rfl
theorem said23 : (noClassBlock lw.prog lw.footing) = true := by kernel_rfl
theorem said26 : (noRoadLSs { strict := true, foot := some lw.bound', writes := lw.writes, may := lw.may } lw.footing) = true := by kernel_rfl
theorem said27 : (defStands lw.about lw.above) = true := by kernel_rfl
theorem said28 : (lw.namesIt) = true := by kernel_rfl
theorem said30 : ((lw.bound'.all fun n => !builtinNamed n || lw.about == [n] || !lw.reads n)) = true := by kernel_rfl
theorem said31 : ((!lw.writes || (List.flatMap importedNames lw.prog.main.body).all fun n => !lw.reads n)) = true := by kernel_rfl
theorem said32 : (((List.flatMap importedNames lw.prog.main.body).all fun n => !lw.reads n || (drawsOf n lw.prog.main.body).all fun mn => mn.snd != Str.ofString "attrgetter" && mn.snd != Str.ofString "methodcaller")) = true := by kernel_rfl
theorem said33 : ((namesMeet lw.prog lw.footing fun sc n => (![Str.ofString "type", Str.ofString "isinstance", Str.ofString "issubclass", Str.ofString "getattr", Str.ofString "hasattr"].contains n || List.lookup n sc.names == some NameKind.globalImplicit) && (lw.may != some n || sc.kind == ScopeKind.module || List.lookup n sc.names == some NameKind.globalImplicit))) = true := by kernel_rfl
theorem said34 : (lw.own.contains lw.name) = true := by kernel_rfl
theorem said35 : ((lw.own.eraseDups.length == lw.own.length)) = true := by kernel_rfl
theorem said36 : ((lw.own.all fun n => !builtinNamed n)) = true := by kernel_rfl
theorem said37 : ((namesMeet lw.prog lw.above fun x n => !lw.own.contains n)) = true := by kernel_rfl
theorem said38 : ((namesMeet lw.prog lw.footing fun sc n => sc.kind == ScopeKind.module || List.lookup n sc.names != some NameKind.globalExplicit)) = true := by kernel_rfl
theorem said : lw.wellSaid = true := by
  unfold OpenLaw.wellSaid OpenRow.wellSaid OpenRow.partSaid looksOpen
  repeat' (with_reducible refine look_both ?_ ?_)
  · with_reducible exact said0
  · with_reducible exact said1
  · with_reducible exact said2
  · with_reducible exact said3
  · with_reducible exact said4
  · with_reducible exact said5
  · kernel_rfl
  · kernel_rfl
  · kernel_rfl
  · kernel_rfl
  · kernel_rfl
  · kernel_rfl
  · with_reducible exact said12
  · kernel_rfl
  · kernel_rfl
  · kernel_rfl
  · kernel_rfl
  · kernel_rfl
  · kernel_rfl
  · with_reducible exact said19
  · with_reducible exact said20
  · with_reducible exact said21
  · with_reducible exact said22
  · with_reducible exact said23
  · kernel_rfl
  · kernel_rfl
  · with_reducible exact said26
  · with_reducible exact said27
  · with_reducible exact said28
  · kernel_rfl
  · with_reducible exact said30
  · with_reducible exact said31
  · with_reducible exact said32
  · with_reducible exact said33
  · with_reducible exact said34
  · with_reducible exact said35
  · with_reducible exact said36
  · with_reducible exact said37
  · with_reducible exact said38
noncomputable abbrev Led := List (Addr × Obj)
noncomputable abbrev PR : Program := PySem.Challenge.rw_np0284_01.row.prog
/-- a contract of a def: from the ledger `news` the call gives a value and a ledger as `Post` says -/
noncomputable def Ctr (w : World) (mean : ExcName → Option Value) (mg mb : Str → Option Value) (f : Addr) (dd uu : Nat) (vs : List Value) (news : Led) (Post : Value → Led → Prop) : Prop :=
  ∀ (dp un : Nat) (gd : Option (List Code)) (cn : Str) (cs : Scope) (a : Addr) (ccd : Value) (cl : List (Str × Addr)) (outer : List Env) (A₀ : Around) (base h₀ : Heap) (L : Addr) (m : Str → Option Value) (s : Shared) (Q E : Value → Shared → Prop),
    Below A₀ base outer h₀ → Fr h₀ L s.heap m → (Kx w.params).In h₀ → News h₀ L s.heap news → Top qv (looseW qv lo) mean mg mb h₀ → cs.kind = .function →
    dp + dd < recursionLimit → un + uu < cLine →
    (∀ (r : Value) (news' : Led) (h' : Heap) (tk' : Nat), Post r news' → Fr h₀ L h' m → News h₀ L h' news' → Q r { s with heap := h', toks := tk' }) →
    wpAny (model PySem.Challenge.rw_np0284_01.row.prog w) (ktrTop dp un gd cn cs L a ccd cl outer) (call (.ref f) vs) Q E s
theorem fn {α : Type} {p : α → Prop} : ∀ x ∈ ([] : List α), p x := fun x h => nomatch h
theorem fc {α : Type} {a : α} {l : List α} {p : α → Prop} (h : p a) (t : ∀ x ∈ l, p x) : ∀ x ∈ a :: l, p x := List.forall_mem_cons.mpr ⟨h, t⟩
theorem fa {α : Type} {l m : List α} {p : α → Prop} (h : ∀ x ∈ l, p x) (t : ∀ x ∈ m, p x) : ∀ x ∈ l ++ m, p x := fun x hx => (List.mem_append.mp hx).elim (h x) (t x)
theorem mh {α : Type} {a : α} {l : List α} : a ∈ a :: l := .head _
theorem mt {α : Type} {a x : α} {l : List α} (h : x ∈ l) : x ∈ a :: l := .tail _ h
theorem ml {α : Type} {x : α} {l m : List α} (h : x ∈ l) : x ∈ l ++ m := List.mem_append.mpr (.inl h)
theorem mr {α : Type} {x : α} {l m : List α} (h : x ∈ m) : x ∈ l ++ m := List.mem_append.mpr (.inr h)
/-! ### cells -/
structure Cell where
  codes : List Int
  width : Int
  flags : Int
  g : Bool
noncomputable def blankC : Cell := ⟨[], 1, 0, false⟩
/-- a screen's cell at v -/
inductive CellS (T : Led) (v : Value) (c : Cell) : Prop
  | mk (a ac ap : Nat) (cv : List Value) (tw tf t1 t2 t3 t4 : Tok) (h1 : v = .ref a) (h2 : (a, tp [.ref ac, .int c.width tw, .ref ap, .bool c.g]) ∈ T) (h3 : (ac, tp cv) ∈ T) (h4 : IntsAre cv c.codes) (h5 : (ap, tp [.int c.flags tf, .int (-1) t1, .int (-1) t2, .int (-1) t3, .int 0 t4]) ∈ T) : CellS T v c
/-- a cell of the law's own lists -/
inductive CellL (T : Led) (v : Value) (c : Cell) : Prop
  | mk (a ac : Nat) (cv : List Value) (tw tf : Tok) (h1 : v = .ref a) (h2 : (a, tp [.ref ac, .int c.width tw, .int c.flags tf, .bool c.g]) ∈ T) (h3 : (ac, tp cv) ∈ T) (h4 : IntsAre cv c.codes) : CellL T v c
theorem CellS.mono {T T' : Led} {v : Value} {c : Cell} (h : CellS T v c) (k : ∀ p ∈ T, p ∈ T') : CellS T' v c := by
  obtain ⟨a, ac, ap, cv, tw, tf, t1, t2, t3, t4, e, h1, h2, h3, h4⟩ := h
  exact ⟨a, ac, ap, cv, tw, tf, t1, t2, t3, t4, e, k _ h1, k _ h2, h3, k _ h4⟩
theorem CellL.mono {T T' : Led} {v : Value} {c : Cell} (h : CellL T v c) (k : ∀ p ∈ T, p ∈ T') : CellL T' v c := by
  obtain ⟨a, ac, cv, tw, tf, e, h1, h2, h3⟩ := h
  exact ⟨a, ac, cv, tw, tf, e, k _ h1, k _ h2, h3⟩
inductive AllC (R : Value → Cell → Prop) : List Value → List Cell → Prop
  | nil : AllC R [] []
  | cons {v c vs cs} : R v c → AllC R vs cs → AllC R (v :: vs) (c :: cs)
theorem AllC.mono {R R' : Value → Cell → Prop} (k : ∀ v c, R v c → R' v c) {vs : List Value} {cs : List Cell} (h : AllC R vs cs) : AllC R' vs cs := by
  induction h with
  | nil => exact .nil
  | cons r _ ih => exact .cons (k _ _ r) ih
theorem AllC.length {R : Value → Cell → Prop} {vs : List Value} {cs : List Cell} (h : AllC R vs cs) : vs.length = cs.length := by
  induction h with
  | nil => rfl
  | cons _ _ ih => rw [List.length_cons, List.length_cons, ih]
theorem AllC.get {R : Value → Cell → Prop} {vs : List Value} {cs : List Cell} (h : AllC R vs cs) : ∀ {k : Nat}, k < vs.length → ∃ v c, vs[k]? = some v ∧ cs[k]? = some c ∧ R v c := by
  induction h with
  | nil => intro k hk; exact absurd hk (Nat.not_lt_zero _)
  | cons r _ ih =>
    intro k hk
    cases k with
    | zero => exact ⟨_, _, rfl, rfl, r⟩
    | succ k => obtain ⟨v, c, a, b, d⟩ := ih (Nat.lt_of_succ_lt_succ hk); exact ⟨v, c, a, b, d⟩
theorem AllC.set {R : Value → Cell → Prop} {vs : List Value} {cs : List Cell} (h : AllC R vs cs) {v : Value} {c : Cell} (r : R v c) : ∀ (k : Nat), AllC R (vs.set k v) (cs.set k c) := by
  induction h with
  | nil => intro k; exact .nil
  | cons r' h' ih =>
    intro k
    cases k with
    | zero => exact .cons r h'
    | succ k => exact .cons r' (ih k)
theorem AllC.drop {R : Value → Cell → Prop} {vs : List Value} {cs : List Cell} (h : AllC R vs cs) : ∀ (k : Nat), AllC R (vs.drop k) (cs.drop k) := by
  induction h with
  | nil => intro k; rw [List.drop_nil, List.drop_nil]; exact .nil
  | cons r' h' ih =>
    intro k
    cases k with
    | zero => exact .cons r' h'
    | succ k => exact ih k
theorem AllC.take {R : Value → Cell → Prop} {vs : List Value} {cs : List Cell} (h : AllC R vs cs) : ∀ (k : Nat), AllC R (vs.take k) (cs.take k) := by
  induction h with
  | nil => intro k; rw [List.take_nil, List.take_nil]; exact .nil
  | cons r' h' ih =>
    intro k
    cases k with
    | zero => exact .nil
    | succ k => exact .cons r' (ih k)
/-! ### ledgers -/
/-- what was made lies above what stood -/
noncomputable def Above (X T : Led) : Prop := ∀ p ∈ X, ∀ q ∈ T, q.1 < p.1
theorem off_lt {T : Led} {q a : Nat} (h : AllLt q T) : ∀ p ∈ T, p.1 ≠ q := by
  induction T with
  | nil => intro p hp; cases hp
  | cons x T ih =>
    intro p hp
    rcases List.mem_cons.mp hp with rfl | hp
    · exact Nat.ne_of_lt h.1
    · exact ih h.2 p hp
theorem allLt_mem {T : Led} {q : Nat} (h : AllLt q T) : ∀ p ∈ T, p.1 < q := by
  induction T with
  | nil => intro p hp; cases hp
  | cons x T ih =>
    intro p hp
    rcases List.mem_cons.mp hp with rfl | hp
    · exact h.1
    · exact ih h.2 p hp
section
variable {prog : Program} {w : World} {A : Around} {E : Value → Shared → Prop} {s : Shared} {h₀ : Heap} {L C : Addr} {m : Str → Option Value} {news news' T : Led} {vs : List Value} {cs : List Cell} {n : Nat} {k : Int} {u : Tok}
theorem cs_item {value slice : PySem.Expr} {Q : Value → Shared → Prop} (N : News h₀ L s.heap news) (hm : (C, listOf vs.toArray n) ∈ news) (hC : AllC (CellS T) vs cs) (h0 : 0 ≤ k) (h1 : k < vs.length) (hfit : k < 2 ^ 63)
    (h : ∀ (a ac ap : Nat) (cv : List Value) (c : Cell) (tw tf t1 t2 t3 t4 : Tok), cs[k.toNat]? = some c → (a, tp [.ref ac, .int c.width tw, .ref ap, .bool c.g]) ∈ T → (ac, tp cv) ∈ T → IntsAre cv c.codes → (ap, tp [.int c.flags tf, .int (-1) t1, .int (-1) t2, .int (-1) t3, .int 0 t4]) ∈ T → Q (.ref a) s)
    (hs : subscripted slice false (.ref C) (.int k u) = operate [.ref C, .int k u] (getItem (.ref C) (.int k u)) := by with_unfolding_all rfl) (hg : ∀ r, letTemporaryGo value (.ref C) r = pure () := by intro _; with_unfolding_all rfl) :
    wpAny (model prog w) A (subscriptTail value slice (.ref C) (.int k u)) Q E s := by
  obtain ⟨v, c, e1, e2, a, ac, ap, cv, tw, tf, t1, t2, t3, t4, rfl, m1, m2, m3, m4⟩ := hC.get (k := k.toNat) (by omega)
  exact kim_list N hm rfl rfl h0 hfit e1 (h a ac ap cv c tw tf t1 t2 t3 t4 e2 m1 m2 m3 m4) hs hg
theorem cl_item {value slice : PySem.Expr} {Q : Value → Shared → Prop} (N : News h₀ L s.heap news) (hm : (C, listOf vs.toArray n) ∈ news) (hC : AllC (CellL T) vs cs) (h0 : 0 ≤ k) (h1 : k < vs.length) (hfit : k < 2 ^ 63)
    (h : ∀ (a ac : Nat) (cv : List Value) (c : Cell) (tw tf : Tok), cs[k.toNat]? = some c → (a, tp [.ref ac, .int c.width tw, .int c.flags tf, .bool c.g]) ∈ T → (ac, tp cv) ∈ T → IntsAre cv c.codes → Q (.ref a) s)
    (hs : subscripted slice false (.ref C) (.int k u) = operate [.ref C, .int k u] (getItem (.ref C) (.int k u)) := by with_unfolding_all rfl) (hg : ∀ r, letTemporaryGo value (.ref C) r = pure () := by intro _; with_unfolding_all rfl) :
    wpAny (model prog w) A (subscriptTail value slice (.ref C) (.int k u)) Q E s := by
  obtain ⟨v, c, e1, e2, a, ac, cv, tw, tf, rfl, m1, m2, m3⟩ := hC.get (k := k.toNat) (by omega)
  exact kim_list N hm rfl rfl h0 hfit e1 (h a ac cv c tw tf e2 m1 m2 m3) hs hg
theorem cs_set {v : Value} {Q : Unit → Shared → Prop} (F : Fr h₀ L s.heap m) (N : News h₀ L s.heap news) (U : Upd C (listOf vs.toArray n) (listOf (vs.set k.toNat v).toArray n) news news') (h0 : 0 ≤ k) (h1 : k < vs.length) (hfit : k < 2 ^ 63)
    (h : ∀ h', Fr h₀ L h' m → News h₀ L h' news' → Q () { s with heap := h' }) : wpAny (model prog w) A (setItem (.ref C) (.int k u) v) Q E s := by
  obtain ⟨pre, post, rfl, rfl, a, b⟩ := U.split
  have z := N (C, listOf vs.toArray n) (List.mem_append.mpr (.inr (.head _)))
  refine ki_setAt z.1 h0 hfit (by rw [List.size_toArray]; omega) (h _ (F.change (Heap.SameBut.update ..) z.2.1 z.2.2) (ki_turn _ N a b ?_ ?_))
  · show vs.toArray.setIfInBounds k.toNat v = (vs.set k.toNat v).toArray
    apply Array.toList_inj.mp
    simp
  · simp
end
theorem Above.nil {T : Led} : Above [] T := fun _ h => nomatch h
theorem Above.cons {X T : Led} {a : Nat} {o : Obj} (h : AllLt a T) (k : Above X T) : Above ((a, o) :: X) T := by
  intro p hp q hq
  rcases List.mem_cons.mp hp with rfl | hp
  · exact allLt_mem h q hq
  · exact k p hp q hq
theorem allLt_all {T : Led} {q : Nat} (h : ∀ p ∈ T, p.1 < q) : AllLt q T := allLt_of h
theorem sub_app {X T : Led} : ∀ p ∈ T, p ∈ X ++ T := fun _ h => List.mem_append.mpr (.inr h)
theorem Above.app {X Y T : Led} (h : Above Y (X ++ T)) (k : Above X T) : Above (Y ++ X) T := by
  intro p hp q hq
  rcases List.mem_append.mp hp with hp | hp
  · exact h p hp q (List.mem_append.mpr (.inr hq))
  · exact k p hp q hq
theorem Above.sub {X T T' : Led} (h : Above X T) (k : ∀ p ∈ T', p ∈ T) : Above X T' := fun p hp q hq => h p hp q (k q hq)
theorem off_app {X T N : Led} {C : Nat} {o : Obj} (h : ∀ p ∈ T, p.1 ≠ C) (hX : Above X N) (hm : (C, o) ∈ N) : ∀ p ∈ X ++ T, p.1 ≠ C := by
  intro p hp
  rcases List.mem_append.mp hp with hp | hp
  · exact Nat.ne_of_gt (hX p hp _ hm)
  · exact h p hp
/-- T is the ledger's tail -/
inductive Tail (T : Led) : Led → (Led → Led) → Prop
  | here : Tail T T id
  | cons {p r g} : Tail T r g → Tail T (p :: r) (fun T' => p :: g T')
theorem Tail.sub {T N : Led} {g : Led → Led} (h : Tail T N g) (X : Led) : ∀ p ∈ g (X ++ T), p ∈ X ++ N := by
  induction h with
  | here => exact fun p h => h
  | cons _ ih =>
    intro p hp
    rcases List.mem_cons.mp hp with rfl | hp
    · exact List.mem_append.mpr (.inr (.head _))
    · rcases List.mem_append.mp (ih p hp) with h | h
      · exact List.mem_append.mpr (.inl h)
      · exact List.mem_append.mpr (.inr (.tail _ h))
section
variable {w : World} {mean : ExcName → Option Value} {mg mb : Str → Option Value} {f : Addr} {dd uu : Nat} {vs : List Value} {news T : Led} {Post : Value → Led → Prop} {g : Led → Led}
  {dp un : Nat} {gd : Option (List Code)} {cn : Str} {cs : Scope} {a : Addr} {ccd : Value} {cl : List (Str × Addr)} {outer : List Env} {A₀ : Around} {base h₀ : Heap} {L : Addr} {m : Str → Option Value} {s : Shared} {Q E : Value → Shared → Prop}
theorem Ctr.use (C : Ctr w mean mg mb f dd uu vs news Post) (B : Below A₀ base outer h₀) (F : Fr h₀ L s.heap m) (X : (Kx w.params).In h₀) (N : News h₀ L s.heap news) (Tp : Top qv (looseW qv lo) mean mg mb h₀) (hk : cs.kind = .function)
    (hd : dp + dd < recursionLimit) (hu : un + uu < cLine)
    (ret : ∀ (r : Value) (news' : Led) (h' : Heap) (tk' : Nat), Post r news' → Fr h₀ L h' m → News h₀ L h' news' → Q r { s with heap := h', toks := tk' }) :
    wpAny (model PySem.Challenge.rw_np0284_01.row.prog w) (ktrTop dp un gd cn cs L a ccd cl outer) (call (.ref f) vs) Q E s := C _ _ _ _ _ _ _ _ _ _ _ _ _ _ _ _ _ B F X N Tp hk hd hu ret
/-- a call that only makes: what it makes goes behind the ledger's tail -/
theorem Ctr.useT {P : Led → Value → Prop} (C : Ctr w mean mg mb f dd uu vs news (fun r news' => ∃ X, news' = X ++ news ∧ Above X news ∧ P X r)) (hT : Tail T news g) (B : Below A₀ base outer h₀) (F : Fr h₀ L s.heap m) (X : (Kx w.params).In h₀) (N : News h₀ L s.heap news) (Tp : Top qv (looseW qv lo) mean mg mb h₀) (hk : cs.kind = .function)
    (hd : dp + dd < recursionLimit) (hu : un + uu < cLine)
    (ret : ∀ (r : Value) (X : Led) (h' : Heap) (tk' : Nat), Above X news → P X r → Fr h₀ L h' m → News h₀ L h' (g (X ++ T)) → Q r { s with heap := h', toks := tk' }) :
    wpAny (model PySem.Challenge.rw_np0284_01.row.prog w) (ktrTop dp un gd cn cs L a ccd cl outer) (call (.ref f) vs) Q E s := by
  refine C _ _ _ _ _ _ _ _ _ _ _ _ _ _ _ _ _ B F X N Tp hk hd hu ?_
  rintro r news' h' tk' ⟨X, rfl, hA, hP⟩ F' N'
  exact ret r X h' tk' hA hP F' (fun p hp => N' p (hT.sub X p hp))
end
noncomputable def partA (cs : List Cell) (k : Int) : List Cell :=
  if 0 < k ∧ k < cs.length ∧ ((cs[k.toNat]?).getD blankC).width = 0 then (cs.set (k - 1).toNat blankC).set k.toNat blankC else cs
section
variable {prog : Program} {w : World} {A : Around} {E : Value → Shared → Prop} {s : Shared} {h₀ : Heap} {L C : Addr} {m : Str → Option Value} {news news' T : Led} {vs : List Value} {n : Nat}
theorem ls_len {z : Int} {Q : Value → Shared → Prop} (N : News h₀ L s.heap news) (hm : (C, listOf vs.toArray n) ∈ news) (hl : (vs.length : Int) = z) (hz : z < 2 ^ 63) (h : Q (.int z (s.toks + 1)) { s with toks := s.toks + 1 + 1 }) :
    wpAny (model prog w) A (call (.builtin "len") [.ref C]) Q E s :=
  call_len_list (PySem.IsL.isList (n := n) (N _ hm).1) (by rw [List.size_toArray, hl]; exact hz) (by rw [List.size_toArray, hl]; exact h)
end
/-- reading beside a place that was set -/
theorem allC_at {R R' : Value → Cell → Prop} {vs : List Value} {cs : List Cell} {v : Value} {j k : Nat} (h : AllC R vs cs) (hne : j ≠ k) (hk : k < vs.length) : ∃ v' c, (vs.set j v)[k]? = some v' ∧ cs[k]? = some c ∧ R v' c := by
  obtain ⟨v', c, a, b, d⟩ := h.get hk
  exact ⟨v', c, by rw [List.getElem?_set_ne hne]; exact a, b, d⟩
section
variable {prog : Program} {w : World} {A : Around} {E : Value → Shared → Prop} {s : Shared} {h₀ : Heap} {L C : Addr} {m : Str → Option Value} {news news' T : Led} {vs : List Value} {cs : List Cell} {n : Nat} {k j : Int} {u : Tok} {y : Value}
theorem cs_item_set {value slice : PySem.Expr} {Q : Value → Shared → Prop} (N : News h₀ L s.heap news) (hm : (C, listOf (vs.set j.toNat y).toArray n) ∈ news) (hC : AllC (CellS T) vs cs) (hj : 0 ≤ j) (hne : j ≠ k) (h0 : 0 ≤ k) (h1 : k < vs.length) (hfit : k < 2 ^ 63)
    (h : ∀ (a ac ap : Nat) (cv : List Value) (c : Cell) (tw tf t1 t2 t3 t4 : Tok), cs[k.toNat]? = some c → (a, tp [.ref ac, .int c.width tw, .ref ap, .bool c.g]) ∈ T → (ac, tp cv) ∈ T → IntsAre cv c.codes → (ap, tp [.int c.flags tf, .int (-1) t1, .int (-1) t2, .int (-1) t3, .int 0 t4]) ∈ T → Q (.ref a) s)
    (hs : subscripted slice false (.ref C) (.int k u) = operate [.ref C, .int k u] (getItem (.ref C) (.int k u)) := by with_unfolding_all rfl) (hg : ∀ r, letTemporaryGo value (.ref C) r = pure () := by intro _; with_unfolding_all rfl) :
    wpAny (model prog w) A (subscriptTail value slice (.ref C) (.int k u)) Q E s := by
  obtain ⟨v, c, e1, e2, a, ac, ap, cv, tw, tf, t1, t2, t3, t4, rfl, m1, m2, m3, m4⟩ := allC_at (R' := fun _ _ => True) (v := y) hC (j := j.toNat) (k := k.toNat) (by omega) (by omega)
  exact kim_list N hm rfl rfl h0 hfit e1 (h a ac ap cv c tw tf t1 t2 t3 t4 e2 m1 m2 m3 m4) hs hg
end
section
variable {S T X1 X2 : Led} {vs : List Value} {cs : List Cell} {C n : Nat} {k : Int} {r1 r2 : Value} {c : Cell} {o1 o2 : Obj}
/-- what a call leaves that puts into the list C: cells out of S or made now -/
inductive CsPost (C n : Nat) (vs : List Value) (cs' : List Cell) (S T : Led) (r : Value) (news' : Led) : Prop
  | mk (X : _) (vs' : _) (h1 : r = .none) (h2 : news' = (C, listOf vs'.toArray n) :: (X ++ T)) (h3 : Above X ((C, listOf vs.toArray n) :: T)) (h4 : AllC (CellS (X ++ S)) vs' cs') (h5 : vs'.length = vs.length) : CsPost C n vs cs' S T r news'
theorem Above.key {X T : Led} {a : Nat} {o o' : Obj} (h : Above X ((a, o) :: T)) : Above X ((a, o') :: T) := by
  intro p hp q hq
  rcases List.mem_cons.mp hq with rfl | hq
  · exact h p hp (a, o) (.head _)
  · exact h p hp q (.tail _ hq)
theorem Above.app2 {X Y T : Led} {a : Nat} {o o' : Obj} (h : Above Y ((a, o) :: (X ++ T))) (k : Above X ((a, o') :: T)) : Above (Y ++ X) ((a, o') :: T) := by
  intro p hp q hq
  rcases List.mem_append.mp hp with hp | hp
  · refine h.key (o' := o') p hp q ?_
    rcases List.mem_cons.mp hq with rfl | hq
    · exact .head _
    · exact .tail _ (List.mem_append.mpr (.inr hq))
  · exact k p hp q hq
theorem part_end (hC : AllC (CellS S) vs cs) (hl : (vs.length : Int) = 5) (h0 : 0 < k) (h1 : k < 5) (hw : c.width = 0) (hc : cs[k.toNat]? = some c)
    (hA1 : Above X1 ((C, listOf vs.toArray n) :: T)) (hP1 : CellS X1 r1 blankC) (hA2 : Above X2 ((C, o2) :: (X1 ++ T))) (hP2 : CellS X2 r2 blankC) :
    CsPost C n vs (partA cs k) S T .none ((C, listOf ((vs.set (k - 1).toNat r1).set k.toNat r2).toArray n) :: (X2 ++ (X1 ++ T))) := by
  have hlc := hC.length
  refine ⟨X2 ++ X1, _, rfl, by rw [List.append_assoc], Above.app2 hA2 hA1, ?_, by rw [List.length_set, List.length_set]⟩
  have e : partA cs k = (cs.set (k - 1).toNat blankC).set k.toNat blankC := by
    unfold partA
    rw [if_pos ⟨h0, by omega, by rw [hc]; exact hw⟩]
  rw [e]
  refine AllC.set (AllC.set (hC.mono fun _ _ h => h.mono fun p hp => List.mem_append.mpr (.inr hp)) ?_ _) ?_ _
  · exact hP1.mono fun p hp => List.mem_append.mpr (.inl (List.mem_append.mpr (.inr hp)))
  · exact hP2.mono fun p hp => List.mem_append.mpr (.inl (List.mem_append.mpr (.inl hp)))
theorem part_same (hC : AllC (CellS S) vs cs) (e : partA cs k = cs) : CsPost C n vs (partA cs k) S T .none ((C, listOf vs.toArray n) :: T) :=
  ⟨[], vs, rfl, rfl, Above.nil, by rw [e]; exact hC, rfl⟩
theorem partA_1 (h : ¬ 0 < k) : partA cs k = cs := by unfold partA; rw [if_neg (fun q => h q.1)]
theorem partA_2 (hC : AllC (CellS S) vs cs) (hl : (vs.length : Int) = 5) (h : ¬ k < 5) : partA cs k = cs := by
  have := hC.length
  unfold partA; rw [if_neg (fun q => h (by have := q.2.1; omega))]
theorem partA_3 (hc : cs[k.toNat]? = some c) (h : c.width ≠ 0) : partA cs k = cs := by unfold partA; rw [if_neg (fun q => h (by have := q.2.2; rw [hc] at this; exact this))]
theorem partA_len : (partA cs k).length = cs.length := by unfold partA; split <;> simp
end
/-- one entry of a ledger, and the rest -/
inductive Pick (p : Addr × Obj) : Led → Led → Prop
  | here {R} : Pick p (p :: R) R
  | cons {q N R} : Pick p N R → Pick p (q :: N) (q :: R)
theorem Pick.fwd {p : Addr × Obj} {N R : Led} (h : Pick p N R) : ∀ q ∈ p :: R, q ∈ N := by
  induction h with
  | here => exact fun _ h => h
  | cons _ ih =>
    intro q hq
    rcases List.mem_cons.mp hq with rfl | hq
    · exact .tail _ (ih _ (.head _))
    · rcases List.mem_cons.mp hq with rfl | hq
      · exact .head _
      · exact .tail _ (ih _ (.tail _ hq))
section
variable {w : World} {mean : ExcName → Option Value} {mg mb : Str → Option Value} {f : Addr} {dd uu : Nat} {vs vs' : List Value} {news R T S : Led} {g : Led → Led} {C n : Nat} {cs' : List Cell}
  {dp un : Nat} {gd : Option (List Code)} {cn : Str} {cs : Scope} {a : Addr} {ccd : Value} {cl : List (Str × Addr)} {outer : List Env} {A₀ : Around} {base h₀ : Heap} {L : Addr} {m : Str → Option Value} {s : Shared} {Q E : Value → Shared → Prop}
/-- a call that puts into the list C -/
theorem Ctr.useC (K : Ctr w mean mg mb f dd uu vs ((C, listOf vs'.toArray n) :: R) (CsPost C n vs' cs' S R)) (hP : Pick (C, listOf vs'.toArray n) news R) (hT : Tail T R g) (B : Below A₀ base outer h₀) (F : Fr h₀ L s.heap m) (X : (Kx w.params).In h₀) (N : News h₀ L s.heap news) (Tp : Top qv (looseW qv lo) mean mg mb h₀) (hk : cs.kind = .function)
    (hd : dp + dd < recursionLimit) (hu : un + uu < cLine)
    (ret : ∀ (X : Led) (vs'' : List Value) (h' : Heap) (tk' : Nat), Above X ((C, listOf vs'.toArray n) :: R) → AllC (CellS (X ++ S)) vs'' cs' → vs''.length = vs'.length → Fr h₀ L h' m → News h₀ L h' ((C, listOf vs''.toArray n) :: g (X ++ T)) → Q .none { s with heap := h', toks := tk' }) :
    wpAny (model PySem.Challenge.rw_np0284_01.row.prog w) (ktrTop dp un gd cn cs L a ccd cl outer) (call (.ref f) vs) Q E s := by
  refine K _ _ _ _ _ _ _ _ _ _ _ _ _ _ _ _ _ B F X (fun p hp => N p (hP.fwd p hp)) Tp hk hd hu ?_
  rintro r news' h' tk' ⟨X, vs'', rfl, rfl, hA, hC, hl⟩ F' N'
  refine ret X vs'' h' tk' hA hC hl F' (fun p hp => N' p ?_)
  rcases List.mem_cons.mp hp with rfl | hp
  · exact .head _
  · exact .tail _ (hT.sub X p hp)
end
noncomputable abbrev lineDict (w : World) (C : Nat) (t1 t2 t3 : Tok) : Obj :=
  dictOf [⟨PyData.keyHash w.params (Str.ofString "cells"), .str (Str.ofString "cells") t1, .ref C⟩, ⟨PyData.keyHash w.params (Str.ofString "is_wrapped"), .str (Str.ofString "is_wrapped") t2, .bool false⟩, ⟨PyData.keyHash w.params (Str.ofString "size"), .str (Str.ofString "size") t3, .str "single" 854⟩] 3
noncomputable def rightC (c : Cell) : Cell := ⟨[], 0, c.flags, c.g⟩
noncomputable def putA (cs : List Cell) (k : Int) (c : Cell) : List Cell :=
  let cs2 := (partA (partA cs k) (k + c.width)).set k.toNat c
  if c.width = 2 then cs2.set (k + 1).toNat (rightC c) else cs2
theorem sub_app2 {X S T : Led} (h : ∀ p ∈ S, p ∈ T) : ∀ p ∈ X ++ S, p ∈ X ++ T := fun p hp => by
  rcases List.mem_append.mp hp with hp | hp
  · exact List.mem_append.mpr (.inl hp)
  · exact List.mem_append.mpr (.inr (h p hp))
theorem sub_skip {X S T : Led} (h : ∀ p ∈ S, p ∈ T) : ∀ p ∈ S, p ∈ X ++ T := fun p hp => List.mem_append.mpr (.inr (h p hp))
theorem sub_tail {x : Addr × Obj} {S T : Led} (h : ∀ p ∈ S, p ∈ T) : ∀ p ∈ S, p ∈ x :: T := fun p hp => .tail _ (h p hp)
section
variable {S T X1 X2 X3 : Led} {vs vs1 vs2 : List Value} {cs : List Cell} {C n : Nat} {k : Int} {r : Value} {c : Cell} {o1 o2 o3 : Obj}
theorem put_end1 (hc : c.width = 1) (hA1 : Above X1 ((C, o1) :: T)) (hA2 : Above X2 ((C, o2) :: (X1 ++ T))) (hC : AllC (CellS (X2 ++ (X1 ++ S))) vs2 (partA (partA cs k) (k + 1))) (hl2 : vs2.length = vs1.length) (hl1 : vs1.length = vs.length) (hcell : CellS S r c) :
    CsPost C n vs (putA cs k c) S T .none ((C, listOf (vs2.set k.toNat r).toArray n) :: (X2 ++ (X1 ++ T))) := by
  refine ⟨X2 ++ X1, _, rfl, by rw [List.append_assoc], (Above.app2 hA2 hA1).key, ?_, by rw [List.length_set, hl2, hl1]⟩
  have e : putA cs k c = (partA (partA cs k) (k + 1)).set k.toNat c := by
    unfold putA
    rw [if_neg (by omega), hc]
  rw [e, List.append_assoc]
  exact AllC.set hC (hcell.mono fun p hp => List.mem_append.mpr (.inr (List.mem_append.mpr (.inr hp)))) _
theorem put_end2 (hc : c.width = 2) (hA1 : Above X1 ((C, o1) :: T)) (hA2 : Above X2 ((C, o2) :: (X1 ++ T))) (hA3 : Above X3 ((C, o3) :: (X2 ++ (X1 ++ T)))) (hC : AllC (CellS (X2 ++ (X1 ++ S))) vs2 (partA (partA cs k) (k + 2))) (hl2 : vs2.length = vs1.length) (hl1 : vs1.length = vs.length) {r1 : Value} (hcell : CellS S r c) (hr : CellS (X3 ++ S) r1 (rightC c)) :
    CsPost C n vs (putA cs k c) S T .none ((C, listOf ((vs2.set k.toNat r).set (k + 1).toNat r1).toArray n) :: (X3 ++ (X2 ++ (X1 ++ T)))) := by
  refine ⟨X3 ++ (X2 ++ X1), _, rfl, by rw [List.append_assoc, List.append_assoc], (Above.app2 (by rw [List.append_assoc]; exact hA3) (Above.app2 (o' := o1) hA2 hA1)).key, ?_, by rw [List.length_set, List.length_set, hl2, hl1]⟩
  have e : putA cs k c = ((partA (partA cs k) (k + 2)).set k.toNat c).set (k + 1).toNat (rightC c) := by
    unfold putA
    rw [if_pos hc, hc]
  rw [e]
  have hs : ∀ p ∈ S, p ∈ X3 ++ (X2 ++ X1) ++ S := fun p hp => List.mem_append.mpr (.inr hp)
  have h1 : ∀ p ∈ X2 ++ (X1 ++ S), p ∈ X3 ++ (X2 ++ X1) ++ S := fun p hp => by
    rw [List.append_assoc, List.append_assoc]
    exact List.mem_append.mpr (.inr hp)
  have h3 : ∀ p ∈ X3 ++ S, p ∈ X3 ++ (X2 ++ X1) ++ S := fun p hp => by
    rcases List.mem_append.mp hp with hp | hp
    · exact List.mem_append.mpr (.inl (List.mem_append.mpr (.inl hp)))
    · exact hs p hp
  exact AllC.set (AllC.set (hC.mono fun _ _ h => h.mono h1) (hcell.mono hs) _) (hr.mono h3) _
end
theorem news_rot {h₀ h : Heap} {L : Addr} {a b c : Addr × Obj} {T : Led} (N : News h₀ L h (a :: b :: c :: T)) : News h₀ L h (c :: ([a, b] ++ T)) := fun p hp => N p (by
  rcases List.mem_cons.mp hp with rfl | hp
  · exact .tail _ (.tail _ (.head _))
  · rcases List.mem_cons.mp hp with rfl | hp
    · exact .head _
    · rcases List.mem_cons.mp hp with rfl | hp
      · exact .tail _ (.head _)
      · exact .tail _ (.tail _ (.tail _ hp)))
/-- the law's deck: its dict at od, its list l -/
inductive DeckOk (w : World) (l : Nat) (od ol : Obj) : Prop
  | mk (vs : List Value) (ns : List Int) (mx : Int) (t : Tok) (n : Nat) (h1 : ol = listOf vs.toArray n) (h2 : IntsAre vs ns) (h3 : ns.length ≤ 40) (h4 : (∀ x ∈ ns, 0 ≤ x ∧ x < 1000003)) (h5 : od.IsDictOf (PySem.strKind PR w) [(Str.ofString "left", .ref l), (Str.ofString "mixed", .int mx t)]) (h6 : 0 ≤ mx) (h7 : mx < 1000003) : DeckOk w l od ol
inductive DrawPost (w : World) (d l : Nat) (many : Int) (T : Led) (r : Value) (news' : Led) : Prop
  | mk (x : Int) (t : Tok) (od' ol' : Obj) (h1 : r = .int x t) (h2 : 0 ≤ x) (h3 : x < many) (h4 : DeckOk w l od' ol') (h5 : news' = (d, od') :: (l, ol') :: T) : DrawPost w d l many T r news'
section
variable {prog : Program} {w : World} {A : Around} {E : Value → Shared → Prop} {s : Shared} {h₀ : Heap} {L D : Addr} {m : Str → Option Value} {news news' : Led} {y : Value} {q : List Value} {n : Nat} {u : Tok}
theorem pop0 {Q : Value → Shared → Prop} (F : Fr h₀ L s.heap m) (N : News h₀ L s.heap news) (U : Upd D (listOf (y :: q).toArray n) (listOf q.toArray (n + 1)) news news')
    (hz : q.length ≤ 1000) (h : ∀ h', Fr h₀ L h' m → News h₀ L h' news' → Q y { s with heap := h' }) : wpAny (model prog w) A (call (.builtin "list.pop") [.ref D, .int 0 u]) Q E s := by
  refine kl_popAt (k := 0) (p := []) (q := q) (y := y) F N rfl ?_ ?_ U ?_ h
  · unfold seqIndex?
    simp
    try omega
  · unfold kl_cut
    rfl
  · rw [sizeLine_eq]
    simp
    omega
end
theorem deck_pop {w : World} {l : Nat} {od : Obj} {q : List Value} {ns : List Int} {mx : Int} {t : Tok} {n : Nat} (hi : IntsAre q ns) (hlen : ns.length ≤ 40) (hns : ∀ x ∈ ns, 0 ≤ x ∧ x < 1000003)
    (hd : od.IsDictOf (PySem.strKind PR w) [(Str.ofString "left", .ref l), (Str.ofString "mixed", .int mx t)]) (h0 : 0 ≤ mx) (h1 : mx < 1000003) : DeckOk w l od (listOf q.toArray n) :=
  ⟨_, _, _, _, _, rfl, hi, hlen, hns, hd, h0, h1⟩
theorem fmod_in (x : Int) {m : Int} (h : 0 < m) : 0 ≤ x.fmod m ∧ x.fmod m < m := ⟨by rw [Int.fmod_eq_emod_of_nonneg x (Int.le_of_lt h)]; exact Int.emod_nonneg x (by omega), Int.fmod_lt_of_pos x h⟩
theorem news_drop {h₀ h : Heap} {L : Addr} {a : Addr × Obj} {T : Led} (N : News h₀ L h (a :: T)) : News h₀ L h T := fun p hp => N p (.tail _ hp)
section
variable {w : World} {mean : ExcName → Option Value} {mg mb : Str → Option Value} {f : Addr} {dd uu : Nat} {vs vs' : List Value} {news R R1 T S : Led} {g : Led → Led} {d l : Nat} {od ol : Obj} {many : Int}
  {dp un : Nat} {gd : Option (List Code)} {cn : Str} {cs : Scope} {a : Addr} {ccd : Value} {cl : List (Str × Addr)} {outer : List Env} {A₀ : Around} {base h₀ : Heap} {L : Addr} {m : Str → Option Value} {s : Shared} {Q E : Value → Shared → Prop}
/-- a draw -/
theorem Ctr.useD (K : Ctr w mean mg mb f dd uu vs ((d, od) :: (l, ol) :: R) (DrawPost w d l many R)) (hP1 : Pick (d, od) news R1) (hP2 : Pick (l, ol) R1 R) (B : Below A₀ base outer h₀) (F : Fr h₀ L s.heap m) (X : (Kx w.params).In h₀) (N : News h₀ L s.heap news) (Tp : Top qv (looseW qv lo) mean mg mb h₀) (hk : cs.kind = .function)
    (hd : dp + dd < recursionLimit) (hu : un + uu < cLine)
    (ret : ∀ (x : Int) (t : Tok) (od' ol' : Obj) (h' : Heap) (tk' : Nat), 0 ≤ x → x < many → DeckOk w l od' ol' → Fr h₀ L h' m → News h₀ L h' ((d, od') :: (l, ol') :: R) → Q (.int x t) { s with heap := h', toks := tk' }) :
    wpAny (model PySem.Challenge.rw_np0284_01.row.prog w) (ktrTop dp un gd cn cs L a ccd cl outer) (call (.ref f) vs) Q E s := by
  refine K _ _ _ _ _ _ _ _ _ _ _ _ _ _ _ _ _ B F X (fun p hp => N p (hP1.fwd p ?_)) Tp hk hd hu ?_
  · rcases List.mem_cons.mp hp with rfl | hp
    · exact .head _
    · exact .tail _ (hP2.fwd p hp)
  rintro r news' h' tk' ⟨x, t, od', ol', rfl, a, b, c, rfl⟩ F' N'
  exact ret x t od' ol' h' tk' a b c F' N'
end
theorem Pick.cons' {p q : Addr × Obj} {N R R' : Led} (h : Pick p N R) (e : R' = q :: R) : Pick p (q :: N) R' := by subst e; exact Pick.cons h
noncomputable abbrev kv (w : World) (k : String) (t : Tok) (v : Value) : DictEntry := ⟨PyData.keyHash w.params (Str.ofString k), .str (Str.ofString k) t, v⟩
inductive LineAt (w : World) (T : Led) (li C : Nat) : Prop
  | mk (ld : Nat) (u1 u2 u3 : Tok) (h1 : (li, instObj 670 ld) ∈ T) (h2 : (ld, lineDict w C u1 u2 u3) ∈ T) : LineAt w T li C
inductive GridAt (w : World) (T : Led) (gi ll : Nat) : Prop
  | mk (gd : Nat) (u1 u2 u3 v1 v2 : Tok) (h1 : (gi, instObj 817 gd) ∈ T) (h2 : (gd, dictOf [kv w "rows" u1 (.int 2 v1), kv w "columns" u2 (.int 5 v2), kv w "lines" u3 (.ref ll)] 3) ∈ T) : GridAt w T gi ll
inductive ScrAt (w : World) (T : Led) (sc gi : Nat) : Prop
  | mk (sd : Nat) (t1 t2 t3 t4 t5 t6 t7 t8 t9 t10 t11 t12 t13 : Tok) (v1 v2 v3 v4 v5 v7 v8 v9 v10 v11 v12 v13 : Value) (h1 : (sc, instObj 1101 sd) ∈ T) (h2 : (sd, dictOf [kv w "rows" t1 v1, kv w "columns" t2 v2, kv w "modes" t3 v3, kv w "widths" t4 v4, kv w "history" t5 v5, kv w "grid" t6 (.ref gi), kv w "cursor" t7 v7, kv w "margins" t8 v8, kv w "tabs" t9 v9, kv w "charsets" t10 v10, kv w "saved" t11 v11, kv w "last" t12 v12, kv w "has_right" t13 v13] 13) ∈ T) : ScrAt w T sc gi
section
variable {prog : Program} {w : World} {A : Around} {E : Value → Shared → Prop} {s : Shared} {env : Env} {h₀ : Heap} {target : Expr} {body : List Stmt} {Q : Flow → Shared → Prop}
theorem unrPostW_mono {L : Addr} {s₁ : Shared} {its : Led} {R R' : (Str → Option Value) → Led → Prop} (k : ∀ m n, R m n → R' m n) {f : Flow} {s₂ : Shared} (h : UnrPostW h₀ L s₁ its R Q f s₂) : UnrPostW h₀ L s₁ its R' Q f s₂ := by
  cases f with
  | ret v => exact h
  | brk => exact h
  | next => obtain ⟨h', tk, m', n', e, F, N, o, r⟩ := h; exact ⟨h', tk, m', n', e, F, N, o, k _ _ r⟩
  | cont => obtain ⟨h', tk, m', n', e, F, N, o, r⟩ := h; exact ⟨h', tk, m', n', e, F, N, o, k _ _ r⟩
/-- a loop by an invariant over environment and ledger -/
theorem items_inv {I : Addr} {c : String} {keep : Led} {xs : List Itm} {J : Nat → (Str → Option Value) → Led → Prop}
    (hk : ∀ i m n, J i m n → SubL keep n)
    (step : ∀ i a v m₁ news₁ h₁ tk₁ o, xs[i]? = some a → a.Is v h₁ → J i m₁ news₁ → Fr h₀ env.locals h₁ m₁ → o.cls = .type c → News h₀ env.locals h₁ ((I, o) :: news₁) →
      wpAny (model prog w) A (assign target env v) (fun _ s₂ => wpAny (model prog w) A (execs body env) (UnrPostW h₀ env.locals { s with heap := h₁, toks := tk₁ } [(I, o)] (J (i + 1)) Q) E s₂) E { s with heap := h₁, toks := tk₁ })
    (fin : ∀ m n h tk, J xs.length m n → Fr h₀ env.locals h m → News h₀ env.locals h n → Q .next { s with heap := h, toks := tk }) :
    ∀ (k i : Nat) m n, xs.length = i + k → J i m n → ItemsRest prog w A E h₀ env target body Q s [(I, c)] keep (xs.drop i) m n := by
  intro k
  induction k with
  | zero =>
    intro i m n hi hJ
    rw [List.drop_eq_nil_of_le (by omega)]
    intro h tk F N
    have hi' : i = xs.length := by omega
    exact fin m n h tk (hi' ▸ hJ) F N
  | succ k ih =>
    intro i m n hi hJ
    have hlt : i < xs.length := by omega
    rw [List.drop_eq_getElem_cons hlt]
    intro v h tk hv F
    intro o ho N
    refine wpAny_mono (step i xs[i] v m n h tk o (List.getElem?_eq_getElem hlt) hv hJ F ho N) (fun _ s₂ h₂ => wpAny_mono h₂ (fun f s₃ p => ?_) fun _ _ e => e) fun _ _ e => e
    exact unrPostW_mono (fun m' n' hJ' => ⟨hk _ _ _ hJ', ih (i + 1) m' n' (by omega) hJ'⟩) p
theorem for_tup {ax : Addr} {lo : Obj} {vs : List Value} {n : Nat} {m₀ : Str → Option Value} {news : Led} (J : Nat → (Str → Option Value) → Led → Prop)
    (hh : A.handled = none) (F : Fr h₀ env.locals s.heap m₀) (N : News h₀ env.locals s.heap news) (hm : (ax, lo) ∈ news) (hc : lo.cls = .type "tuple") (hd : lo.data = .seq vs.toArray n)
    (hk : ∀ i m n, J i m n → (ax, lo) ∈ n) (h0 : J 0 m₀ news)
    (step : ∀ I, (∀ p ∈ news, p.1 < I) → ∀ i v m₁ news₁ h₁ tk₁ o, vs[i]? = some v → J i m₁ news₁ → Fr h₀ env.locals h₁ m₁ → News h₀ env.locals h₁ ((I, o) :: news₁) → o.cls = .type "tuple_iterator" →
      wpAny (model prog w) A (assign target env v) (fun _ s₂ => wpAny (model prog w) A (execs body env) (UnrPostW h₀ env.locals { s with heap := h₁, toks := tk₁ } [(I, o)] (J (i + 1)) Q) E s₂) E { s with heap := h₁, toks := tk₁ })
    (fin : ∀ m n h tk, J vs.length m n → Fr h₀ env.locals h m → News h₀ env.locals h n → Q .next { s with heap := h, toks := tk }) :
    wpAny (model prog w) A (pyIter (.ref ax)) (fun it s₂ => TurnsAt prog w A h₀ env target body Q E it s₂) E s := by
  refine iter_tupTurns hh F N hm hc hd (fun I hI => ?_)
  have := items_inv (prog := prog) (w := w) (A := A) (E := E) (s := s) (env := env) (h₀ := h₀) (target := target) (body := body) (Q := Q) (I := I) (c := "tuple_iterator") (keep := [(ax, lo)]) (xs := vs.map .val) (J := J) (fun i m n h => ⟨hk i m n h, trivial⟩) ?_ ?_ (vs.map Itm.val).length 0 m₀ news (by omega) h0
  · rw [List.drop_zero] at this
    exact this
  · intro i a v m₁ news₁ h₁ tk₁ o hi ha hJ F₁ ho N₁
    rw [List.getElem?_map] at hi
    obtain ⟨u, hu, rfl⟩ := Option.map_eq_some_iff.mp hi
    have e : v = u := ha
    subst e
    exact step I hI i v m₁ news₁ h₁ tk₁ o hu hJ F₁ N₁ ho
  · intro m n h tk hJ
    rw [List.length_map] at hJ
    exact fin m n h tk hJ
theorem for_lst {ax : Addr} {lo : Obj} {vs : List Value} {n : Nat} {m₀ : Str → Option Value} {news : Led} (J : Nat → (Str → Option Value) → Led → Prop)
    (hh : A.handled = none) (F : Fr h₀ env.locals s.heap m₀) (N : News h₀ env.locals s.heap news) (hm : (ax, lo) ∈ news) (hc : lo.cls = .type "list") (hd : lo.data = .seq vs.toArray n)
    (hk : ∀ i m n, J i m n → (ax, lo) ∈ n) (h0 : J 0 m₀ news)
    (step : ∀ I, (∀ p ∈ news, p.1 < I) → ∀ i v m₁ news₁ h₁ tk₁ o, vs[i]? = some v → J i m₁ news₁ → Fr h₀ env.locals h₁ m₁ → News h₀ env.locals h₁ ((I, o) :: news₁) → o.cls = .type "list_iterator" →
      wpAny (model prog w) A (assign target env v) (fun _ s₂ => wpAny (model prog w) A (execs body env) (UnrPostW h₀ env.locals { s with heap := h₁, toks := tk₁ } [(I, o)] (J (i + 1)) Q) E s₂) E { s with heap := h₁, toks := tk₁ })
    (fin : ∀ m n h tk, J vs.length m n → Fr h₀ env.locals h m → News h₀ env.locals h n → Q .next { s with heap := h, toks := tk }) :
    wpAny (model prog w) A (pyIter (.ref ax)) (fun it s₂ => TurnsAt prog w A h₀ env target body Q E it s₂) E s := by
  refine iter_listTurns hh F N hm hc hd (fun I hI => ?_)
  have := items_inv (prog := prog) (w := w) (A := A) (E := E) (s := s) (env := env) (h₀ := h₀) (target := target) (body := body) (Q := Q) (I := I) (c := "list_iterator") (keep := [(ax, lo)]) (xs := vs.map .val) (J := J) (fun i m n h => ⟨hk i m n h, trivial⟩) ?_ ?_ (vs.map Itm.val).length 0 m₀ news (by omega) h0
  · rw [List.drop_zero] at this
    exact this
  · intro i a v m₁ news₁ h₁ tk₁ o hi ha hJ F₁ ho N₁
    rw [List.getElem?_map] at hi
    obtain ⟨u, hu, rfl⟩ := Option.map_eq_some_iff.mp hi
    have e : v = u := ha
    subst e
    exact step I hI i v m₁ news₁ h₁ tk₁ o hu hJ F₁ N₁ ho
  · intro m n h tk hJ
    rw [List.length_map] at hJ
    exact fin m n h tk hJ
end
section
variable {prog : Program} {w : World} {A : Around} {E : Value → Shared → Prop} {s : Shared} {env : Env} {h₀ : Heap} {target : Expr} {body : List Stmt} {Q : Flow → Shared → Prop}
theorem letGo_rngiter {target : Expr} {I : Addr} {x l c : Int} {v : Value} {Q' : Unit → Shared → Prop} {s' : Shared} (hit : IsRangeIter s'.heap I x l c) (h : Q' () s') :
    wpAny (model prog w) A (letOwnedTupleGo target (.ref I) v) Q' E s' := by
  unfold letOwnedTupleGo
  cases target <;> first
    | exact wpAny_pure h
    | (cases v <;> first
        | exact wpAny_pure h
        | (refine wpAny_bind (wpAny_load hit ?_)
           exact wpAny_pure h))
theorem for_rng {r : Addr} {a₀ b₀ : Int} {t₀ u₀ v₀ : Tok} {n : Nat} {m₀ : Str → Option Value} {news : Led} (J : Nat → (Str → Option Value) → Led → Prop)
    (hh : A.handled = none) (hr : IsRange s.heap r a₀ b₀ 1 t₀ u₀ v₀) (hsmall : Builtin.Range.small a₀ b₀ 1 = true) (hn : Builtin.Range.rangeSize a₀ b₀ 1 = (n : Int)) (F : Fr h₀ env.locals s.heap m₀) (N : News h₀ env.locals s.heap news) (h0 : J 0 m₀ news)
    (step : ∀ I, (∀ p ∈ news, p.1 < I) → ∀ i t m₁ news₁ h₁ tk₁ o, i < n → J i m₁ news₁ → Fr h₀ env.locals h₁ m₁ → News h₀ env.locals h₁ ((I, o) :: news₁) → o.cls = .type "range_iterator" →
      wpAny (model prog w) A (assign target env (.int (a₀ + (i : Int)) t)) (fun _ s₂ => wpAny (model prog w) A (execs body env) (UnrPostW h₀ env.locals { s with heap := h₁, toks := tk₁ } [(I, o)] (J (i + 1)) Q) E s₂) E { s with heap := h₁, toks := tk₁ })
    (fin : ∀ m n' h tk, J n m n' → Fr h₀ env.locals h m → News h₀ env.locals h n' → Q .next { s with heap := h, toks := tk }) :
    wpAny (model prog w) A (pyIter (.ref r)) (fun it s₂ => TurnsAt prog w A h₀ env target body Q E it s₂) E s := by
  refine wpAny_pyIter_range hr hsmall ?_
  have W : Walks prog w A s.heap.objs.size [s.heap.objs.size] [s.heap.objs.size] n (fun i v => i < n ∧ ∃ t, v = .int (a₀ + i * 1) t)
      (fun i h => IsRangeIter h s.heap.objs.size (a₀ + (i : Nat) * 1) ((n : Int) - (i : Nat)) 1) := (Walks.range hh _ a₀ 1 n).bound
  have hI : ∀ p ∈ news, p.1 < s.heap.objs.size := fun p hp => Heap.lt_size (N p hp).1
  have z := items_inv (prog := prog) (w := w) (A := A) (E := E) (s := s) (env := env) (h₀ := h₀) (target := target) (body := body) (Q := Q) (I := s.heap.objs.size) (c := "range_iterator") (keep := [])
    (xs := (List.range n).map (fun i : Nat => Itm.tok (fun t => .int (a₀ + (i : Int)) t))) (J := J) (fun i m n h => trivial) ?_ ?_ n 0 m₀ news (by simp) h0
  · rw [List.drop_zero] at z
    refine ktu_core (tk0 := s.toks) (keep := []) (KTurns.ofWalks W fun i v s Q E st q => letGo_rngiter st q) (by simp) (fun i v h hp => ?_) (fun i h st => ?_) (fun b hb => ?_) (fun b hb => by simpa using hb) (fun b hb => ?_) ?_ (fun p hp hq => ?_) ?_ (F.push _) (fun p hp => ⟨Heap.get?_push_of_some _ (N p hp).1, (N p hp).2⟩) trivial z
    · obtain ⟨hi, t, rfl⟩ := hp
      refine ⟨.tok (fun t => .int (a₀ + (i : Int)) t), by simp [hi], t, ?_⟩
      rw [Int.mul_one]
    · exact ⟨[(s.heap.objs.size, _)], ⟨⟨rfl, rfl⟩, trivial⟩, fun p hp => by rw [List.mem_singleton.mp hp]; exact st⟩
    · have hb' : b = s.heap.objs.size := by simpa using hb
      rw [hb']
      exact ⟨List.mem_cons_self .., next_is_new F⟩
    · exact .inl (by simpa using hb)
    · intro hm
      exact absurd F.ns.lt ((List.mem_singleton.mp hm) ▸ Nat.lt_irrefl _)
    · exact absurd (Heap.lt_size (N p hp).1) ((List.mem_singleton.mp hq) ▸ Nat.lt_irrefl _)
    · show IsRangeIter _ _ _ _ _
      rw [hn]
      simpa using Heap.get?_push_size _ rfl
  · intro i a v m₁ news₁ h₁ tk₁ o hi ha hJ F₁ ho N₁
    rw [List.getElem?_map] at hi
    obtain ⟨u, hu, rfl⟩ := Option.map_eq_some_iff.mp hi
    have hu' : i < n ∧ u = i := by
      rw [List.getElem?_eq_some_iff] at hu
      obtain ⟨h1, h2⟩ := hu
      simp at h1 h2
      exact ⟨h1, h2.symm⟩
    obtain ⟨hin, rfl⟩ := hu'
    obtain ⟨t, rfl⟩ := ha
    exact step _ hI _ t m₁ news₁ h₁ tk₁ o hin hJ F₁ N₁ ho
  · intro m n' h tk hJ
    rw [List.length_map, List.length_range] at hJ
    exact fin m n' h tk hJ
end
noncomputable abbrev mset (m : Str → Option Value) (x : Str) (v : Option Value) : Str → Option Value := fun y => if y = x then v else m y
theorem mset_self {m : Str → Option Value} {x : Str} : mset m x (m x) = m := by
  funext y
  by_cases h : y = x
  · rw [mset, if_pos h, h]
  · rw [mset, if_neg h]
theorem mset_back {m : Str → Option Value} {x : Str} {v u : Option Value} : mset (mset m x v) x u = mset m x u := by
  funext y
  by_cases h : y = x
  · simp only [mset, if_pos h]
  · simp only [mset, if_neg h]
theorem mset_swap {m : Str → Option Value} {x z : Str} {v u : Option Value} (hn : x ≠ z) : mset (mset m x v) z u = mset (mset m z u) x v := by
  funext y
  by_cases h : y = x
  · by_cases h' : y = z
    · exact absurd (h.symm.trans h') hn
    · simp only [mset, if_pos h, if_neg h']
  · by_cases h' : y = z
    · simp only [mset, if_pos h', if_neg h]
    · simp only [mset, if_neg h', if_neg h]
noncomputable def JFlags (w : World) (d l : Nat) (tup : Addr × Obj) (R : Led) (S : Nat → Int) (m₀ : Str → Option Value) (i : Nat) (m : Str → Option Value) (n : Led) : Prop :=
  ∃ (od ol : Obj) (fl : Int) (t : Tok) (b : Option Value), m = mset (mset m₀ (Str.ofString "flags") (some (.int fl t))) (Str.ofString "bit") b ∧ n = tup :: (d, od) :: (l, ol) :: R ∧ DeckOk w l od ol ∧ 0 ≤ fl ∧ fl ≤ S i
section
variable {prog : Program} {w : World} {A : Around} {E : Value → Shared → Prop} {s : Shared} {env : Env} {h₀ : Heap} {target : Expr} {body : List Stmt} {Q : Flow → Shared → Prop}
theorem flags_loop {d l : Nat} {ax : Addr} {lo : Obj} {vs : List Value} {n : Nat} {m₀ : Str → Option Value} {od ol : Obj} {R : Led} {t : Tok} {fl : Int} (S : Nat → Int)
    (hh : A.handled = none) (F : Fr h₀ env.locals s.heap m₀) (N : News h₀ env.locals s.heap ((ax, lo) :: (d, od) :: (l, ol) :: R)) (hc : lo.cls = .type "tuple") (hd : lo.data = .seq vs.toArray n)
    (hf : m₀ (Str.ofString "flags") = some (.int fl t)) (h0 : 0 ≤ fl) (h1 : fl ≤ S 0) (hD : DeckOk w l od ol)
    (hax : (∀ p ∈ R, p.1 ≠ d) ∧ (∀ p ∈ R, p.1 ≠ l) ∧ ax ≠ d ∧ ax ≠ l)
    (step : ∀ I, (ax ≠ I ∧ d ≠ I ∧ l ≠ I ∧ ∀ p ∈ R, p.1 ≠ I) → ∀ i v od' ol' fl' t' b h₁ tk₁ o, vs[i]? = some v → DeckOk w l od' ol' → 0 ≤ fl' → fl' ≤ S i → Fr h₀ env.locals h₁ (mset (mset m₀ (Str.ofString "flags") (some (.int fl' t'))) (Str.ofString "bit") b) → News h₀ env.locals h₁ ((I, o) :: (ax, lo) :: (d, od') :: (l, ol') :: R) →
      wpAny (model prog w) A (assign target env v) (fun _ s₂ => wpAny (model prog w) A (execs body env) (UnrPostW h₀ env.locals { s with heap := h₁, toks := tk₁ } [(I, o)] (JFlags w d l (ax, lo) R S m₀ (i + 1)) Q) E s₂) E { s with heap := h₁, toks := tk₁ })
    (fin : ∀ od' ol' fl' t' b h tk, DeckOk w l od' ol' → 0 ≤ fl' → fl' ≤ S vs.length → Fr h₀ env.locals h (mset (mset m₀ (Str.ofString "flags") (some (.int fl' t'))) (Str.ofString "bit") b) → News h₀ env.locals h ((ax, lo) :: (d, od') :: (l, ol') :: R) → Q .next { s with heap := h, toks := tk }) :
    wpAny (model prog w) A (pyIter (.ref ax)) (fun it s₂ => TurnsAt prog w A h₀ env target body Q E it s₂) E s := by
  refine for_tup (JFlags w d l (ax, lo) R S m₀) hh F N (.head _) hc hd ?_ ?_ ?_ ?_
  · rintro i m n ⟨od', ol', fl', t', b, rfl, rfl, _⟩
    exact .head _
  · refine ⟨od, ol, fl, t, m₀ (Str.ofString "bit"), ?_, rfl, hD, h0, h1⟩
    rw [← hf, mset_self, mset_self]
  · rintro I hI i v m₁ news₁ h₁ tk₁ o hv ⟨od', ol', fl', t', b, rfl, rfl, hD', a, c⟩ F₁ N₁ _
    exact step I ⟨Nat.ne_of_lt (hI _ (.head _)), Nat.ne_of_lt (hI _ (.tail _ (.head _))), Nat.ne_of_lt (hI _ (.tail _ (.tail _ (.head _)))), fun p hp => Nat.ne_of_lt (hI p (.tail _ (.tail _ (.tail _ hp))))⟩ i v od' ol' fl' t' b h₁ tk₁ o hv hD' a c F₁ N₁
  · rintro m n' h tk ⟨od', ol', fl', t', b, rfl, rfl, hD', a, c⟩ F₁ N₁
    exact fin od' ol' fl' t' b h tk hD' a c F₁ N₁
end
noncomputable def S7 (i : Nat) : Int := if i = 7 then 2797 else if i = 6 then 237 else if i = 5 then 109 else if i = 4 then 45 else if i = 3 then 13 else if i = 2 then 5 else if i = 1 then 1 else 0
theorem flag_item {t1 t2 t3 t4 t5 t6 t7 : Tok} {x : Int} (h : 0 ≤ x) (hx : x < 5) {i : Nat} {v : Value} (hv : [Value.int 1 t1, .int 4 t2, .int 8 t3, .int 32 t4, .int 64 t5, .int 128 t6, .int (512 * (1 + x)) t7][i]? = some v) :
    ∃ b tb, v = .int b tb ∧ 0 ≤ b ∧ S7 i + b ≤ S7 (i + 1) := by
  match i, hv with
  | 0, hv => exact ⟨_, _, (Option.some.inj hv).symm, by decide, by decide⟩
  | 1, hv => exact ⟨_, _, (Option.some.inj hv).symm, by decide, by decide⟩
  | 2, hv => exact ⟨_, _, (Option.some.inj hv).symm, by decide, by decide⟩
  | 3, hv => exact ⟨_, _, (Option.some.inj hv).symm, by decide, by decide⟩
  | 4, hv => exact ⟨_, _, (Option.some.inj hv).symm, by decide, by decide⟩
  | 5, hv => exact ⟨_, _, (Option.some.inj hv).symm, by decide, by decide⟩
  | 6, hv =>
    refine ⟨_, _, (Option.some.inj hv).symm, by omega, ?_⟩
    show (237 : Int) + 512 * (1 + x) ≤ 2797
    omega
  | k + 7, hv => exact absurd hv (by simp)
theorem mset_fb {m : Str → Option Value} {x b v y : Option Value} : mset (mset (mset (mset m (Str.ofString "flags") x) (Str.ofString "bit") b) (Str.ofString "bit") v) (Str.ofString "flags") y = mset (mset m (Str.ofString "flags") y) (Str.ofString "bit") v := by
  rw [mset_back, mset_swap (by decide), mset_back]
theorem flags_end {w : World} {h₀ h' : Heap} {L : Addr} {s₁ : Shared} {I d l : Nat} {o od ol : Obj} {tup : Addr × Obj} {R : Led} {S : Nat → Int} {m₀ : Str → Option Value} {k tk : Nat} {x b v : Option Value} {fl : Int} {t : Tok}
    (F : Fr h₀ L h' (mset (mset (mset (mset m₀ (Str.ofString "flags") x) (Str.ofString "bit") b) (Str.ofString "bit") v) (Str.ofString "flags") (some (.int fl t)))) (N : News h₀ L h' ((d, od) :: (l, ol) :: (I, o) :: tup :: R))
    (hd : d ≠ I) (hl : l ≠ I) (ht : tup.1 ≠ I) (hR : ∀ p ∈ R, p.1 ≠ I) (hD : DeckOk w l od ol) (h0 : 0 ≤ fl) (h1 : fl ≤ S k) :
    UnrEndW h₀ L s₁ [(I, o)] (JFlags w d l tup R S m₀ k) { s₁ with heap := h', toks := tk } := by
  refine ⟨h', tk, _, _, rfl, F, ?_, ?_, ⟨od, ol, fl, t, v, mset_fb, rfl, hD, h0, h1⟩⟩
  · intro p hp
    refine N p ?_
    rcases List.mem_cons.mp hp with rfl | hp
    · exact .tail _ (.tail _ (.head _))
    rcases List.mem_cons.mp hp with rfl | hp
    · exact .tail _ (.tail _ (.tail _ (.head _)))
    rcases List.mem_cons.mp hp with rfl | hp
    · exact .head _
    rcases List.mem_cons.mp hp with rfl | hp
    · exact .tail _ (.head _)
    · exact .tail _ (.tail _ (.tail _ (.tail _ hp)))
  · intro p hp q hq
    rw [List.mem_singleton.mp hq]
    rcases List.mem_cons.mp hp with rfl | hp
    · exact ht
    rcases List.mem_cons.mp hp with rfl | hp
    · exact hd
    rcases List.mem_cons.mp hp with rfl | hp
    · exact hl
    · exact hR p hp
noncomputable def CodesOk (codes : List Int) : Prop := codes.length ≤ 2 ∧ ∀ x ∈ codes, 0 ≤ x ∧ x < 20000
noncomputable def CodesAt (N : Led) (t : Nat) : Prop := ∃ cv codes, (t, tp cv) ∈ N ∧ IntsAre cv codes ∧ CodesOk codes
noncomputable def CellOk (c : Cell) : Prop := CodesOk c.codes ∧ (c.width = 0 ∨ c.width = 1 ∨ c.width = 2) ∧ 0 ≤ c.flags ∧ c.flags < 4096
section
variable {prog : Program} {w : World} {A : Around} {E : Value → Shared → Prop} {s : Shared} {h₀ : Heap} {L C : Addr} {m : Str → Option Value} {news news' T : Led} {vs : List Value} {cs : List Cell} {n : Nat} {k j : Int} {u : Tok} {y : Value}
theorem pick3 {value slice : PySem.Expr} {Q : Value → Shared → Prop} {a b c : Nat} (P : Nat → Prop) (N : News h₀ L s.heap news) (hm : (C, listOf #[.ref a, .ref b, .ref c] n) ∈ news) (h0 : 0 ≤ k) (h1 : k < 3) (ha : P a) (hb : P b) (hc : P c)
    (h : ∀ t, P t → Q (.ref t) s)
    (hs : subscripted slice false (.ref C) (.int k u) = operate [.ref C, .int k u] (getItem (.ref C) (.int k u)) := by with_unfolding_all rfl) :
    wpAny (model prog w) A (subscriptTail value slice (.ref C) (.int k u)) Q E s := by
  have hl : s.heap.IsList C [Value.ref a, .ref b, .ref c].toArray := ⟨_, (N _ hm).1, rfl, _, rfl⟩
  rcases (by omega : k = 0 ∨ k = 1 ∨ k = 2) with rfl | rfl | rfl
  · exact item_litK hl h0 (by decide) rfl (h a ha) hs
  · exact item_litK hl h0 (by decide) rfl (h b hb) hs
  · exact item_litK hl h0 (by decide) rfl (h c hc) hs
/-- an item of a list of references, said by a fact -/
theorem pick_at {value slice : PySem.Expr} {Q : Value → Shared → Prop} {xs : List Value} {x : Value} (N : News h₀ L s.heap news) (hm : (C, listOf xs.toArray n) ∈ news) (h0 : 0 ≤ k) (h1 : k < 1000) (hx : xs[k.toNat]? = some x) (h : Q x s)
    (hs : subscripted slice false (.ref C) (.int k u) = operate [.ref C, .int k u] (getItem (.ref C) (.int k u)) := by with_unfolding_all rfl) (hg : ∀ r, letTemporaryGo value (.ref C) r = pure () := by intro _; with_unfolding_all rfl) :
    wpAny (model prog w) A (subscriptTail value slice (.ref C) (.int k u)) Q E s :=
  kim_list N hm rfl rfl h0 (by omega) hx h hs hg
theorem AllC.at {R : Value → Cell → Prop} {vs : List Value} {cs : List Cell} (h : AllC R vs cs) {k : Nat} {c : Cell} (hc : cs[k]? = some c) : ∃ v, vs[k]? = some v ∧ R v c := by
  have hk : k < vs.length := by
    rw [h.length]
    exact (List.getElem?_eq_some_iff.mp hc).1
  obtain ⟨v, c', a, b, d⟩ := h.get hk
  rw [b] at hc
  cases hc
  exact ⟨v, a, d⟩
/-- a read at a place whose cell is known -/
theorem cl_known {value slice : PySem.Expr} {Q : Value → Shared → Prop} {c : Cell} (N : News h₀ L s.heap news) (hm : (C, listOf vs.toArray n) ∈ news) (hC : AllC (CellL T) vs cs) (h0 : 0 ≤ k) (hfit : k < 1000) (hc : cs[k.toNat]? = some c)
    (h : ∀ (a ac : Nat) (cv : List Value) (tw tf : Tok), (a, tp [.ref ac, .int c.width tw, .int c.flags tf, .bool c.g]) ∈ T → (ac, tp cv) ∈ T → IntsAre cv c.codes → Q (.ref a) s)
    (hs : subscripted slice false (.ref C) (.int k u) = operate [.ref C, .int k u] (getItem (.ref C) (.int k u)) := by with_unfolding_all rfl) (hg : ∀ r, letTemporaryGo value (.ref C) r = pure () := by intro _; with_unfolding_all rfl) :
    wpAny (model prog w) A (subscriptTail value slice (.ref C) (.int k u)) Q E s := by
  obtain ⟨v, e1, a, ac, cv, tw, tf, rfl, m1, m2, m3⟩ := hC.at hc
  exact kim_list N hm rfl rfl h0 (by omega) e1 (h a ac cv tw tf m1 m2 m3) hs hg
end
/-! ### the law's own way to put -/
noncomputable def spotA (cs : List Cell) (k : Nat) : List Cell :=
  let cs1 := if ((cs[k]?).getD blankC).width = 2 then cs.set (k + 1) blankC else cs
  if ((cs1[k]?).getD blankC).width = 0 then cs1.set (k - 1) blankC else cs1
noncomputable def spots (cs : List Cell) (k : Nat) : Nat → List Cell
  | 0 => cs
  | i + 1 => spotA (spots cs k i) (k + i)
noncomputable def lawPut (cs : List Cell) (k : Nat) (c : Cell) : List Cell :=
  let cs2 := (spots cs k c.width.toNat).set k c
  if c.width = 2 then cs2.set (k + 1) (rightC c) else cs2
/-- widths: a right half stands behind a wide one, and behind it alone -/
noncomputable def WF (cs : List Cell) : Prop := ∀ k : Nat, ((cs[k]?).getD blankC).width = 2 ↔ ((cs[k + 1]?).getD blankC).width = 0
noncomputable def RowOk (cs : List Cell) : Prop := cs.length = 5 ∧ (cs[0]?.getD blankC).width ≠ 0 ∧ WF cs ∧ ∀ c ∈ cs, CellOk c
theorem len5 {cs : List Cell} (h : cs.length = 5) : ∃ a b c d e, cs = [a, b, c, d, e] := by
  obtain ⟨a, cs, rfl⟩ := List.exists_cons_of_length_eq_add_one h
  obtain ⟨b, cs, rfl⟩ := List.exists_cons_of_length_eq_add_one (Nat.succ.inj h)
  obtain ⟨c, cs, rfl⟩ := List.exists_cons_of_length_eq_add_one (Nat.succ.inj (Nat.succ.inj h))
  obtain ⟨d, cs, rfl⟩ := List.exists_cons_of_length_eq_add_one (Nat.succ.inj (Nat.succ.inj (Nat.succ.inj h)))
  obtain ⟨e, cs, rfl⟩ := List.exists_cons_of_length_eq_add_one (Nat.succ.inj (Nat.succ.inj (Nat.succ.inj (Nat.succ.inj h))))
  have h0 : cs.length = 0 := Nat.succ.inj (Nat.succ.inj (Nat.succ.inj (Nat.succ.inj (Nat.succ.inj h))))
  cases cs with
  | nil => exact ⟨a, b, c, d, e, rfl⟩
  | cons x y => exact absurd h0 (Nat.succ_ne_zero _)
theorem wf5 {a b c d e : Cell} : WF [a, b, c, d, e] ↔ (a.width = 2 ↔ b.width = 0) ∧ (b.width = 2 ↔ c.width = 0) ∧ (c.width = 2 ↔ d.width = 0) ∧ (d.width = 2 ↔ e.width = 0) ∧ e.width ≠ 2 := by
  constructor
  · intro h
    refine ⟨h 0, h 1, h 2, h 3, fun q => ?_⟩
    have := (h 4).mp q
    exact absurd this (by simp [blankC])
  · rintro ⟨h0, h1, h2, h3, h4⟩ k
    match k with
    | 0 => exact h0
    | 1 => exact h1
    | 2 => exact h2
    | 3 => exact h3
    | 4 => exact ⟨fun q => absurd q h4, fun q => absurd q (by simp [blankC])⟩
    | k + 5 => exact ⟨fun q => absurd q (by simp [blankC]), fun q => absurd q (by simp [blankC])⟩
theorem cellOk_blank : CellOk blankC := ⟨⟨by decide, fun x h => nomatch h⟩, .inr (.inl rfl), by decide, by decide⟩
theorem cellOk_right {c : Cell} (h : CellOk c) : CellOk (rightC c) := ⟨⟨by simp [rightC], fun x h => nomatch h⟩, .inl rfl, h.2.2.1, h.2.2.2⟩
theorem row5 {a b c d e : Cell} : RowOk [a, b, c, d, e] ↔ a.width ≠ 0 ∧ ((a.width = 2 ↔ b.width = 0) ∧ (b.width = 2 ↔ c.width = 0) ∧ (c.width = 2 ↔ d.width = 0) ∧ (d.width = 2 ↔ e.width = 0) ∧ e.width ≠ 2) ∧ CellOk a ∧ CellOk b ∧ CellOk c ∧ CellOk d ∧ CellOk e := by
  unfold RowOk
  rw [wf5]
  constructor
  · rintro ⟨_, h1, h2, h3⟩
    exact ⟨h1, h2, h3 a (by simp), h3 b (by simp), h3 c (by simp), h3 d (by simp), h3 e (by simp)⟩
  · rintro ⟨h1, h2, ha, hb, hc, hd, he⟩
    refine ⟨rfl, h1, h2, fun x hx => ?_⟩
    simp only [List.mem_cons, List.not_mem_nil, or_false] at hx
    rcases hx with rfl | rfl | rfl | rfl | rfl <;> assumption
theorem w3 {x : Int} (h : x = 0 ∨ x = 1 ∨ x = 2) : x ∈ [(0 : Int), 1, 2] := by
  rcases h with rfl | rfl | rfl <;> decide
theorem pat_all : ∀ a ∈ [(0 : Int), 1, 2], ∀ b ∈ [(0 : Int), 1, 2], ∀ c ∈ [(0 : Int), 1, 2], ∀ d ∈ [(0 : Int), 1, 2], ∀ e ∈ [(0 : Int), 1, 2], a ≠ 0 → (a = 2 ↔ b = 0) → (b = 2 ↔ c = 0) → (c = 2 ↔ d = 0) → (d = 2 ↔ e = 0) → e ≠ 2 →
    (a, b, c, d, e) ∈ [((1:Int), (1:Int), (1:Int), (1:Int), (1:Int)), (2,0,1,1,1), (1,2,0,1,1), (1,1,2,0,1), (1,1,1,2,0), (2,0,2,0,1), (2,0,1,2,0), (1,2,0,2,0)] := by decide +kernel
/-- the eight patterns of widths -/
theorem row_cases {cs : List Cell} (h : RowOk cs) (P : List Cell → Prop)
    (H : ∀ (a b c d e : Cell), CellOk a → CellOk b → CellOk c → CellOk d → CellOk e → (a.width, b.width, c.width, d.width, e.width) ∈ [((1:Int), (1:Int), (1:Int), (1:Int), (1:Int)), (2,0,1,1,1), (1,2,0,1,1), (1,1,2,0,1), (1,1,1,2,0), (2,0,2,0,1), (2,0,1,2,0), (1,2,0,2,0)] → P [a, b, c, d, e]) : P cs := by
  obtain ⟨a, b, c, d, e, rfl⟩ := len5 h.1
  obtain ⟨h1, ⟨h2, h3, h4, h5, h6⟩, ha, hb, hc, hd, he⟩ := row5.mp h
  exact H a b c d e ha hb hc hd he (pat_all _ (w3 ha.2.1) _ (w3 hb.2.1) _ (w3 hc.2.1) _ (w3 hd.2.1) _ (w3 he.2.1) h1 h2 h3 h4 h5 h6)
noncomputable abbrev P5 := Int × Int × Int × Int × Int
noncomputable def pats : List P5 := [((1:Int), (1:Int), (1:Int), (1:Int), (1:Int)), (2,0,1,1,1), (1,2,0,1,1), (1,1,2,0,1), (1,1,1,2,0), (2,0,2,0,1), (2,0,1,2,0), (1,2,0,2,0)]
noncomputable def mk5 (a b c d e : Cell) (p : P5) : List Cell := [⟨a.codes, p.1, a.flags, a.g⟩, ⟨b.codes, p.2.1, b.flags, b.g⟩, ⟨c.codes, p.2.2.1, c.flags, c.g⟩, ⟨d.codes, p.2.2.2.1, d.flags, d.g⟩, ⟨e.codes, p.2.2.2.2, e.flags, e.g⟩]
noncomputable def wOk : List Int → Bool
  | [a, b, c, d, e] => decide (a ≠ 0 ∧ (a = 2 ↔ b = 0) ∧ (b = 2 ↔ c = 0) ∧ (c = 2 ↔ d = 0) ∧ (d = 2 ↔ e = 0) ∧ e ≠ 2)
  | _ => false
theorem rowOk_of : ∀ {cs : List Cell}, wOk (cs.map Cell.width) = true → (∀ c ∈ cs, CellOk c) → RowOk cs
  | [a, b, c, d, e], h, hc => by
    have q := of_decide_eq_true h
    exact row5.mpr ⟨q.1, q.2, hc a (.head _), hc b (.tail _ (.head _)), hc c (.tail _ (.tail _ (.head _))), hc d (.tail _ (.tail _ (.tail _ (.head _)))), hc e (.tail _ (.tail _ (.tail _ (.tail _ (.head _)))))⟩
  | [], h, _ => nomatch h
  | [_], h, _ => nomatch h
  | [_, _], h, _ => nomatch h
  | [_, _, _], h, _ => nomatch h
  | [_, _, _, _], h, _ => nomatch h
  | _ :: _ :: _ :: _ :: _ :: _ :: _, h, _ => nomatch h
theorem mem_partA {cs : List Cell} {k : Int} {c : Cell} (h : c ∈ partA cs k) : c ∈ cs ∨ c = blankC := by
  unfold partA at h
  split at h
  · rcases List.mem_or_eq_of_mem_set h with h | h
    · exact List.mem_or_eq_of_mem_set h
    · exact .inr h
  · exact .inl h
theorem mem_putA {cs : List Cell} {k : Int} {x c : Cell} (h : c ∈ putA cs k x) : c ∈ cs ∨ c = blankC ∨ c = x ∨ c = rightC x := by
  have base : c ∈ (partA (partA cs k) (k + x.width)).set k.toNat x → c ∈ cs ∨ c = blankC ∨ c = x ∨ c = rightC x := fun h => by
    rcases List.mem_or_eq_of_mem_set h with h | h
    · rcases mem_partA h with h | h
      · rcases mem_partA h with h | h
        · exact .inl h
        · exact .inr (.inl h)
      · exact .inr (.inl h)
    · exact .inr (.inr (.inl h))
  unfold putA at h
  dsimp only at h
  split at h
  · rcases List.mem_or_eq_of_mem_set h with h | h
    · exact base h
    · exact .inr (.inr (.inr h))
  · exact base h
theorem pl1 (a b c d e x : Cell) : (pats.map fun p => ([0, 1, 2, 3, 4] : List Nat).map fun k => lawPut (mk5 a b c d e p) k ⟨x.codes, 1, x.flags, x.g⟩) = pats.map fun p => ([0, 1, 2, 3, 4] : List Nat).map fun k => putA (mk5 a b c d e p) (k : Nat) ⟨x.codes, 1, x.flags, x.g⟩ := by kernel_rfl
theorem pl2 (a b c d e x : Cell) : (pats.map fun p => ([0, 1, 2, 3] : List Nat).map fun k => lawPut (mk5 a b c d e p) k ⟨x.codes, 2, x.flags, x.g⟩) = pats.map fun p => ([0, 1, 2, 3] : List Nat).map fun k => putA (mk5 a b c d e p) (k : Nat) ⟨x.codes, 2, x.flags, x.g⟩ := by kernel_rfl
theorem pw1 (a b c d e x : Cell) : (pats.all fun p => ([0, 1, 2, 3, 4] : List Nat).all fun k => wOk ((putA (mk5 a b c d e p) (k : Nat) ⟨x.codes, 1, x.flags, x.g⟩).map Cell.width)) = true := by kernel_rfl
theorem pw2 (a b c d e x : Cell) : (pats.all fun p => ([0, 1, 2, 3] : List Nat).all fun k => wOk ((putA (mk5 a b c d e p) (k : Nat) ⟨x.codes, 2, x.flags, x.g⟩).map Cell.width)) = true := by kernel_rfl
theorem putLaw {cs : List Cell} {x : Cell} {k : Nat} (h : RowOk cs) (hx : CellOk x) (hk : x.width = 1 ∧ k < 5 ∨ x.width = 2 ∧ k < 4) : lawPut cs k x = putA cs k x ∧ RowOk (putA cs k x) := by
  have hcs := h.2.2.2
  have hmem : ∀ c ∈ putA cs k x, CellOk c := fun c hc => by
    rcases mem_putA hc with q | q | q | q
    · exact hcs c q
    · subst q; exact cellOk_blank
    · subst q; exact hx
    · subst q; exact cellOk_right hx
  suffices H : lawPut cs k x = putA cs k x ∧ wOk ((putA cs k x).map Cell.width) = true from ⟨H.1, rowOk_of H.2 hmem⟩
  clear hmem hcs
  refine row_cases h (fun cs => lawPut cs k x = putA cs k x ∧ wOk ((putA cs k x).map Cell.width) = true) ?_
  intro a b c d e _ _ _ _ _ hw
  obtain ⟨cx, wx, fx, gx⟩ := x
  rcases hk with ⟨hxw, hk⟩ | ⟨hxw, hk⟩
  · replace hxw : wx = 1 := hxw
    subst hxw
    have hm : k ∈ ([0, 1, 2, 3, 4] : List Nat) := by rcases (by omega : k = 0 ∨ k = 1 ∨ k = 2 ∨ k = 3 ∨ k = 4) with rfl | rfl | rfl | rfl | rfl <;> decide
    exact ⟨List.map_inj_left.mp (List.map_inj_left.mp (pl1 a b c d e ⟨cx, 0, fx, gx⟩) _ hw) _ hm, List.all_eq_true.mp (List.all_eq_true.mp (pw1 a b c d e ⟨cx, 0, fx, gx⟩) _ hw) _ hm⟩
  · replace hxw : wx = 2 := hxw
    subst hxw
    have hm : k ∈ ([0, 1, 2, 3] : List Nat) := by rcases (by omega : k = 0 ∨ k = 1 ∨ k = 2 ∨ k = 3) with rfl | rfl | rfl | rfl <;> decide
    exact ⟨List.map_inj_left.mp (List.map_inj_left.mp (pl2 a b c d e ⟨cx, 0, fx, gx⟩) _ hw) _ hm, List.all_eq_true.mp (List.all_eq_true.mp (pw2 a b c d e ⟨cx, 0, fx, gx⟩) _ hw) _ hm⟩
theorem spotA_len (cs : List Cell) (k : Nat) : (spotA cs k).length = cs.length := by
  unfold spotA
  dsimp only
  split <;> split <;> simp
theorem spots_len (cs : List Cell) (k i : Nat) : (spots cs k i).length = cs.length := by
  induction i with
  | zero => rfl
  | succ i ih => rw [spots, spotA_len, ih]
theorem so (a b c d e : Cell) : (pats.all fun p => ([(0, 0), (1, 0), (2, 0), (3, 0), (4, 0), (0, 1), (1, 1), (2, 1), (3, 1)] : List (Nat × Nat)).all fun q =>
    decide (((((spots (mk5 a b c d e p) q.1 q.2)[q.1 + q.2]?).getD blankC).width = 2 → q.1 + q.2 + 1 < 5) ∧ ((((spots (mk5 a b c d e p) q.1 q.2)[q.1 + q.2]?).getD blankC).width = 0 → 1 ≤ q.1 + q.2))) = true := by kernel_rfl
theorem spots_ok {cs : List Cell} {wd k i : Nat} {c : Cell} (h : RowOk cs) (hk : wd = 1 ∧ k < 5 ∨ wd = 2 ∧ k < 4) (hi : i < wd) (hc : (spots cs k i)[k + i]? = some c) : (c.width = 2 → k + i + 1 < 5) ∧ (c.width = 0 → 1 ≤ k + i) := by
  have key : ((((spots cs k i)[k + i]?).getD blankC).width = 2 → k + i + 1 < 5) ∧ ((((spots cs k i)[k + i]?).getD blankC).width = 0 → 1 ≤ k + i) := by
    clear hc
    refine row_cases h (fun cs => ((((spots cs k i)[k + i]?).getD blankC).width = 2 → k + i + 1 < 5) ∧ ((((spots cs k i)[k + i]?).getD blankC).width = 0 → 1 ≤ k + i)) ?_
    intro a b c d e _ _ _ _ _ hw
    have hm : (k, i) ∈ ([(0, 0), (1, 0), (2, 0), (3, 0), (4, 0), (0, 1), (1, 1), (2, 1), (3, 1)] : List (Nat × Nat)) := by
      rcases (by omega : i = 0 ∧ (k = 0 ∨ k = 1 ∨ k = 2 ∨ k = 3 ∨ k = 4) ∨ i = 1 ∧ (k = 0 ∨ k = 1 ∨ k = 2 ∨ k = 3)) with ⟨rfl, rfl | rfl | rfl | rfl | rfl⟩ | ⟨rfl, rfl | rfl | rfl | rfl⟩ <;> decide
    exact of_decide_eq_true (List.all_eq_true.mp (List.all_eq_true.mp (so a b c d e) _ hw) _ hm)
  rw [hc] at key
  exact key
inductive Rows (S : Led) (u0 u1 v0 v1 : List Value) (c0 c1 : List Cell) : Prop
  | mk (h1 : AllC (CellL S) u0 c0) (h2 : AllC (CellL S) u1 c1) (h3 : AllC (CellS S) v0 c0) (h4 : AllC (CellS S) v1 c1) (h5 : RowOk c0) (h6 : RowOk c1) : Rows S u0 u1 v0 v1 c0 c1
inductive Off (T : Led) (d l a b c e : Nat) : Prop
  | mk (h1 : (∀ p ∈ T, p.1 ≠ d)) (h2 : (∀ p ∈ T, p.1 ≠ l)) (h3 : (∀ p ∈ T, p.1 ≠ a)) (h4 : (∀ p ∈ T, p.1 ≠ b)) (h5 : (∀ p ∈ T, p.1 ≠ c)) (h6 : (∀ p ∈ T, p.1 ≠ e)) : Off T d l a b c e
inductive Ne6 (d l a b c e : Nat) : Prop
  | mk (h1 : d ≠ l) (h2 : d ≠ a) (h3 : d ≠ b) (h4 : d ≠ c) (h5 : d ≠ e) (h6 : l ≠ a) (h7 : l ≠ b) (h8 : l ≠ c) (h9 : l ≠ e) (h10 : a ≠ b) (h11 : a ≠ c) (h12 : a ≠ e) (h13 : b ≠ c) (h14 : b ≠ e) (h15 : c ≠ e) : Ne6 d l a b c e
inductive Scene (w : World) (T : Led) (sc cl C0 C1 D0 D1 : Nat) : Prop
  | mk (gi : _) (ll : _) (L0 : _) (L1 : _) (n1 : _) (n2 : _) (h1 : ScrAt w T sc gi) (h2 : GridAt w T gi ll) (h3 : (ll, listOf #[.ref L0, .ref L1] n1) ∈ T) (h4 : (cl, listOf #[.ref D0, .ref D1] n2) ∈ T) (h5 : LineAt w T L0 C0) (h6 : LineAt w T L1 C1) : Scene w T sc cl C0 C1 D0 D1
inductive PutPost (w : World) (d l C0 C1 D0 D1 m1 m2 m3 m4 : Nat) (T : Led) (r : Value) (news' : Led) : Prop
  | mk (T' : Led) (od' ol' : Obj) (v0 v1 u0 u1 : List Value) (c0 c1 : List Cell) (h1 : r = .none) (h2 : news' = (d, od') :: (l, ol') :: (C0, listOf v0.toArray m1) :: (C1, listOf v1.toArray m2) :: (D0, listOf u0.toArray m3) :: (D1, listOf u1.toArray m4) :: T') (h3 : (∀ p ∈ T, p ∈ T')) (h4 : Off T' d l C0 C1 D0 D1) (h5 : DeckOk w l od' ol') (h6 : Rows T' u0 u1 v0 v1 c0 c1) : PutPost w d l C0 C1 D0 D1 m1 m2 m3 m4 T r news'
theorem pick_row {w : World} {d l C0 C1 D0 D1 L0 L1 m1 m2 m3 m4 : Nat} {T news : Led} {od ol : Obj} {u0 u1 v0 v1 : List Value} {c0 c1 : List Cell} {h₀ h : Heap} {L : Addr} {r : Int}
    (R : Rows T u0 u1 v0 v1 c0 c1) (hl0 : LineAt w T L0 C0) (hl1 : LineAt w T L1 C1) (h0 : 0 ≤ r) (h1 : r < 2) (ne : Ne6 d l C0 C1 D0 D1) (off : Off T d l C0 C1 D0 D1)
    (N : News h₀ L h news) (hs : ∀ p ∈ (d, od) :: (l, ol) :: (C0, listOf v0.toArray m1) :: (C1, listOf v1.toArray m2) :: (D0, listOf u0.toArray m3) :: (D1, listOf u1.toArray m4) :: T, p ∈ news) :
    ∃ (C Co D Do Lr mC mCo mD mDo : Nat) (v vo u uo : List Value) (cs : List Cell), [Value.ref L0, .ref L1][r.toNat]? = some (.ref Lr) ∧ [Value.ref D0, .ref D1][r.toNat]? = some (.ref D) ∧ LineAt w T Lr C ∧ AllC (CellL T) u cs ∧ AllC (CellS T) v cs ∧ RowOk cs ∧
      Ne6 d l C Co D Do ∧ Off T d l C Co D Do ∧
      News h₀ L h ((d, od) :: (l, ol) :: (C, listOf v.toArray mC) :: (Co, listOf vo.toArray mCo) :: (D, listOf u.toArray mD) :: (Do, listOf uo.toArray mDo) :: T) ∧
      (∀ (T' : Led) (od' ol' : Obj) (v' u' : List Value) (cs' : List Cell) (h₁ h' : Heap) (L₁ : Addr), (∀ p ∈ T, p ∈ T') → Off T' d l C Co D Do → DeckOk w l od' ol' → AllC (CellL T') u' cs' → AllC (CellS T') v' cs' → RowOk cs' →
        News h₁ L₁ h' ((d, od') :: (l, ol') :: (C, listOf v'.toArray mC) :: (Co, listOf vo.toArray mCo) :: (D, listOf u'.toArray mD) :: (Do, listOf uo.toArray mDo) :: T') →
        ∃ news', PutPost w d l C0 C1 D0 D1 m1 m2 m3 m4 T .none news' ∧ News h₁ L₁ h' news') := by
  obtain ⟨r1, r2, r3, r4, r5, r6⟩ := R
  obtain ⟨e1, e2, e3, e4, e5, e6, e7, e8, e9, e10, e11, e12, e13, e14, e15⟩ := ne
  obtain ⟨f1, f2, f3, f4, f5, f6⟩ := off
  rcases (by omega : r = 0 ∨ r = 1) with rfl | rfl
  · refine ⟨C0, C1, D0, D1, L0, m1, m2, m3, m4, v0, v1, u0, u1, c0, rfl, rfl, hl0, r1, r3, r5, ⟨e1, e2, e3, e4, e5, e6, e7, e8, e9, e10, e11, e12, e13, e14, e15⟩, ⟨f1, f2, f3, f4, f5, f6⟩, fun p hp => N p (hs p hp), ?_⟩
    intro T' od' ol' v' u' cs' h₁ h' L₁ hT off' hD hL hS hR N'
    exact ⟨_, ⟨T', od', ol', v', v1, u', u1, cs', c1, rfl, rfl, hT, off', hD, hL, r2.mono fun _ _ x => x.mono hT, hS, r4.mono fun _ _ x => x.mono hT, hR, r6⟩, N'⟩
  · refine ⟨C1, C0, D1, D0, L1, m2, m1, m4, m3, v1, v0, u1, u0, c1, rfl, rfl, hl1, r2, r4, r6, ⟨e1, e3, e2, e5, e4, e7, e6, e9, e8, e10.symm, e14, e13, e12, e11, e15.symm⟩, ⟨f1, f2, f4, f3, f6, f5⟩, fun p hp => N p (hs p ?_), ?_⟩
    · simp only [List.mem_cons] at hp ⊢
      rcases hp with h | h | h | h | h | h | h
      · exact .inl h
      · exact .inr (.inl h)
      · exact .inr (.inr (.inr (.inl h)))
      · exact .inr (.inr (.inl h))
      · exact .inr (.inr (.inr (.inr (.inr (.inl h)))))
      · exact .inr (.inr (.inr (.inr (.inl h))))
      · exact .inr (.inr (.inr (.inr (.inr (.inr h)))))
    · intro T' od' ol' v' u' cs' h₁ h' L₁ hT off' hD hL hS hR N'
      obtain ⟨g1, g2, g3, g4, g5, g6⟩ := off'
      refine ⟨_, ⟨T', od', ol', v0, v', u0, u', c0, cs', rfl, rfl, hT, ⟨g1, g2, g4, g3, g6, g5⟩, hD, r1.mono fun _ _ x => x.mono hT, hL, r3.mono fun _ _ x => x.mono hT, hS, r5, hR⟩, fun p hp => N' p ?_⟩
      simp only [List.mem_cons] at hp ⊢
      rcases hp with h | h | h | h | h | h | h
      · exact .inl h
      · exact .inr (.inl h)
      · exact .inr (.inr (.inr (.inl h)))
      · exact .inr (.inr (.inl h))
      · exact .inr (.inr (.inr (.inr (.inr (.inl h)))))
      · exact .inr (.inr (.inr (.inr (.inl h))))
      · exact .inr (.inr (.inr (.inr (.inr (.inr h)))))
/-! ### the law's loop over the places -/
noncomputable def JSpots (D mD : Nat) (R T : Led) (cs : List Cell) (k : Nat) (o₀ : Obj) (m₀ : Str → Option Value) (i : Nat) (m : Str → Option Value) (n : Led) : Prop :=
  ∃ (X : Led) (u : List Value) (b : Option Value), m = mset m₀ (Str.ofString "spot") b ∧ n = (D, listOf u.toArray mD) :: (X ++ R) ∧ AllC (CellL (X ++ T)) u (spots cs k i) ∧ Above X ((D, o₀) :: R) ∧ ∀ p ∈ X, p.2.cls = .type "tuple"
section
variable {prog : Program} {w : World} {A : Around} {E : Value → Shared → Prop} {s : Shared} {env : Env} {h₀ : Heap} {target : Expr} {body : List Stmt} {Q : Flow → Shared → Prop}
theorem rsz {a b : Int} {n : Nat} (h : b = a + (n : Int)) : Builtin.Range.rangeSize a b 1 = (n : Int) := by
  subst h
  unfold Builtin.Range.rangeSize
  rw [if_pos (by omega)]
  split
  · simp only [Int.ediv_one]
    omega
  · omega
theorem spots_loop {r : Addr} {a₀ b₀ : Int} {t₀ u₀ v₀ : Tok} {n : Nat} {m₀ : Str → Option Value} {D mD : Nat} {R T : Led} {cs : List Cell} {u : List Value}
    (hh : A.handled = none) (hr : IsRange s.heap r a₀ b₀ 1 t₀ u₀ v₀) (hn : b₀ = a₀ + (n : Int)) (h0 : 0 ≤ a₀) (h1 : n = 1 ∧ a₀ < 5 ∨ n = 2 ∧ a₀ < 4) (F : Fr h₀ env.locals s.heap m₀)
    (N : News h₀ env.locals s.heap ((D, listOf u.toArray mD) :: R)) (hC : AllC (CellL T) u cs) (hTR : ∀ p ∈ T, p ∈ R) (hcs : RowOk cs)
    (step : ∀ I (i : Nat) t X u' b h₁ tk₁ o, D ≠ I → (∀ p ∈ X ++ R, p.1 ≠ I) → (∀ p ∈ X, p.2.cls = .type "tuple") → 0 ≤ a₀ + (i : Int) → a₀ + (i : Int) < 5 → (u'.length : Int) = 5 → (∀ c, (spots cs a₀.toNat i)[(a₀ + (i : Int)).toNat]? = some c → (c.width = 2 → a₀ + (i : Int) + 1 < 5) ∧ (c.width = 0 → 1 ≤ a₀ + (i : Int))) →
      AllC (CellL (X ++ T)) u' (spots cs a₀.toNat i) → AllC (CellL (X ++ R)) u' (spots cs a₀.toNat i) → Above X ((D, listOf u.toArray mD) :: R) → Fr h₀ env.locals h₁ (mset m₀ (Str.ofString "spot") b) → News h₀ env.locals h₁ ((I, o) :: (D, listOf u'.toArray mD) :: (X ++ R)) →
      wpAny (model prog w) A (assign target env (.int (a₀ + (i : Int)) t)) (fun _ s₂ => wpAny (model prog w) A (execs body env) (UnrPostW h₀ env.locals { s with heap := h₁, toks := tk₁ } [(I, o)] (JSpots D mD R T cs a₀.toNat (listOf u.toArray mD) m₀ (i + 1)) Q) E s₂) E { s with heap := h₁, toks := tk₁ })
    (fin : ∀ X u' b h tk, (u'.length : Int) = 5 → AllC (CellL (X ++ T)) u' (spots cs a₀.toNat n) → Above X ((D, listOf u.toArray mD) :: R) → Fr h₀ env.locals h (mset m₀ (Str.ofString "spot") b) → News h₀ env.locals h ((D, listOf u'.toArray mD) :: (X ++ R)) → Q .next { s with heap := h, toks := tk }) :
    wpAny (model prog w) A (pyIter (.ref r)) (fun it s₂ => TurnsAt prog w A h₀ env target body Q E it s₂) E s := by
  have hl5 : ∀ {X : Led} {i : Nat} {u' : List Value}, AllC (CellL (X ++ T)) u' (spots cs a₀.toNat i) → (u'.length : Int) = 5 := fun h => by
    rw [h.length, spots_len, hcs.1]; rfl
  refine for_rng (JSpots D mD R T cs a₀.toNat (listOf u.toArray mD) m₀) hh hr (small_one (by omega) (by omega) (by omega) (by omega)) (rsz hn) F N ⟨[], u, m₀ (Str.ofString "spot"), mset_self.symm, rfl, hC, Above.nil, fun _ h => nomatch h⟩ ?_ ?_
  · rintro I hI i t m₁ news₁ h₁ tk₁ o hi ⟨X, u', b, rfl, rfl, hC', hA, hT⟩ F₁ N₁ ho
    have hk : (a₀ + (i : Int)).toNat = a₀.toNat + i := by omega
    have hXI : ∀ p ∈ X ++ R, p.1 ≠ I := by
      intro p hp e
      rcases List.mem_append.mp hp with hp | hp
      · have h1 := (N₁ p (.tail _ (.tail _ (List.mem_append.mpr (.inl hp))))).1
        have h2 := (N₁ _ (.head _)).1
        rw [e] at h1
        have h3 := hT p hp
        rw [Option.some.inj (h1.symm.trans h2), ho] at h3
        exact absurd (Value.type.inj h3) (by decide)
      · exact Nat.ne_of_lt (hI p (.tail _ hp)) e
    refine step I i t X u' b h₁ tk₁ o (Nat.ne_of_lt (hI _ (.head _))) hXI hT (by omega) (by omega) (hl5 hC') (fun c hc => ?_) hC' (hC'.mono fun _ _ x => x.mono fun p hp => ?_) hA F₁ N₁
    · rw [hk] at hc
      have := spots_ok (wd := n) hcs (by omega) hi hc
      exact ⟨fun q => by have := this.1 q; omega, fun q => by have := this.2 q; omega⟩
    · rcases List.mem_append.mp hp with hp | hp
      · exact List.mem_append.mpr (.inl hp)
      · exact List.mem_append.mpr (.inr (hTR p hp))
  · rintro m n' h tk ⟨X, u', b, rfl, rfl, hC', hA, _⟩ F₁ N₁
    exact fin X u' b h tk (hl5 hC') hC' hA F₁ N₁
end
theorem hn1 {a : Int} : a + 1 = a + ((1 : Nat) : Int) := rfl
theorem hn2 {a : Int} : a + 2 = a + ((2 : Nat) : Int) := rfl
theorem spots_e0 {cs : List Cell} {a₀ : Int} {i : Nat} {c : Cell} (h0 : 0 ≤ a₀) (hc : (spots cs a₀.toNat i)[(a₀ + (i : Int)).toNat]? = some c) (h2 : c.width ≠ 2) (hz : c.width ≠ 0) : spots cs a₀.toNat (i + 1) = spots cs a₀.toNat i := by
  have hk : (a₀ + (i : Int)).toNat = a₀.toNat + i := by omega
  rw [hk] at hc
  show spotA _ _ = _
  unfold spotA
  simp [hc, h2, hz]
theorem spots_e2 {cs : List Cell} {a₀ : Int} {i : Nat} {c : Cell} (h0 : 0 ≤ a₀) (hc : (spots cs a₀.toNat i)[(a₀ + (i : Int)).toNat]? = some c) (h2 : c.width = 2) : spots cs a₀.toNat (i + 1) = (spots cs a₀.toNat i).set (a₀ + (i : Int) + 1).toNat blankC := by
  have hk : (a₀ + (i : Int)).toNat = a₀.toNat + i := by omega
  have hk' : (a₀ + (i : Int) + 1).toNat = a₀.toNat + i + 1 := by omega
  rw [hk] at hc
  rw [hk']
  show spotA _ _ = _
  unfold spotA
  simp [hc, h2, List.getElem?_set_ne]
theorem spots_e1 {cs : List Cell} {a₀ : Int} {i : Nat} {c : Cell} (h0 : 0 ≤ a₀) (hc : (spots cs a₀.toNat i)[(a₀ + (i : Int)).toNat]? = some c) (h1 : 1 ≤ a₀ + (i : Int)) (hz : c.width = 0) : spots cs a₀.toNat (i + 1) = (spots cs a₀.toNat i).set (a₀ + (i : Int) - 1).toNat blankC := by
  have hk : (a₀ + (i : Int)).toNat = a₀.toNat + i := by omega
  have hk' : (a₀ + (i : Int) - 1).toNat = a₀.toNat + i - 1 := by omega
  rw [hk] at hc
  rw [hk']
  show spotA _ _ = _
  unfold spotA
  simp [hc, hz]
theorem spots_end {h₀ h' : Heap} {L : Addr} {s₁ : Shared} {I D mD k i tk : Nat} {o o₀ : Obj} {R T X : Led} {cs : List Cell} {u : List Value} {m₀ : Str → Option Value} {b v : Option Value} (Y : Led)
    (F : Fr h₀ L h' (mset (mset m₀ (Str.ofString "spot") b) (Str.ofString "spot") v)) (N : News h₀ L h' (Y ++ (I, o) :: (D, listOf u.toArray mD) :: (X ++ R)))
    (hD : D ≠ I) (hX : ∀ p ∈ X ++ R, p.1 ≠ I) (hY : ∀ p ∈ Y, p.1 ≠ I) (hC : AllC (CellL (Y ++ (X ++ T))) u (spots cs k (i + 1))) (hA : Above X ((D, o₀) :: R)) (hAY : Above Y ((D, o₀) :: R)) (hT : ∀ p ∈ X, p.2.cls = .type "tuple") (hTY : ∀ p ∈ Y, p.2.cls = .type "tuple") :
    UnrEndW h₀ L s₁ [(I, o)] (JSpots D mD R T cs k o₀ m₀ (i + 1)) { s₁ with heap := h', toks := tk } := by
  refine ⟨h', tk, _, (D, listOf u.toArray mD) :: ((Y ++ X) ++ R), rfl, F, ?_, ?_, ⟨Y ++ X, u, v, mset_back, rfl, ?_, ?_, fun p hp => (List.mem_append.mp hp).elim (hTY p) (hT p)⟩⟩
  · intro p hp
    refine N p ?_
    rcases List.mem_append.mp hp with hp | hp
    · rw [List.mem_singleton.mp hp]
      exact List.mem_append.mpr (.inr (.head _))
    · rcases List.mem_cons.mp hp with rfl | hp
      · exact List.mem_append.mpr (.inr (.tail _ (.head _)))
      · rw [List.append_assoc] at hp
        rcases List.mem_append.mp hp with hp | hp
        · exact List.mem_append.mpr (.inl hp)
        · exact List.mem_append.mpr (.inr (.tail _ (.tail _ hp)))
  · intro p hp q hq
    rw [List.mem_singleton.mp hq]
    rcases List.mem_cons.mp hp with rfl | hp
    · exact hD
    · rw [List.append_assoc] at hp
      rcases List.mem_append.mp hp with hp | hp
      · exact hY p hp
      · exact hX p hp
  · rw [List.append_assoc]
    exact hC
  · intro p hp q hq
    rcases List.mem_append.mp hp with hp | hp
    · exact hAY p hp q hq
    · exact hA p hp q hq
theorem codesOk1 {x : Int} (h : 0 ≤ x) (k : x < 20000) : CodesOk [x] := ⟨by simp, fun y hy => by rw [List.mem_singleton.mp hy]; exact ⟨h, k⟩⟩
theorem codesOk2 {x z : Int} (h : 0 ≤ x) (k : x < 20000) (h' : 0 ≤ z) (k' : z < 20000) : CodesOk [x, z] := ⟨by simp, fun y hy => by
  rcases List.mem_cons.mp hy with rfl | hy
  · exact ⟨h, k⟩
  · rw [List.mem_singleton.mp hy]; exact ⟨h', k'⟩⟩
section
variable {prog : Program} {w : World} {A : Around} {E : Value → Shared → Prop} {s : Shared} {h₀ : Heap} {L C : Addr} {m : Str → Option Value} {R : Led} {n : Nat} {k : Int} {u : Tok}
theorem pick_codes {value slice : PySem.Expr} {Q : Value → Shared → Prop} {a b c : Nat} {va vb vc : List Value} {ca cb cc : List Int} (N : News h₀ L s.heap ((C, listOf #[.ref a, .ref b, .ref c] n) :: (c, tp vc) :: (b, tp vb) :: (a, tp va) :: R)) (h0 : 0 ≤ k) (h1 : k < 3)
    (ia : IntsAre va ca) (oa : CodesOk ca) (la : AllLt a R) (ib : IntsAre vb cb) (ob : CodesOk cb) (lb : AllLt b R) (ic : IntsAre vc cc) (oc : CodesOk cc) (lc : AllLt c R)
    (h : ∀ t cv codes, CodesOk codes → IntsAre cv codes → AllLt t R → News h₀ L s.heap ((t, tp cv) :: R) → Q (.ref t) s)
    (hs : subscripted slice false (.ref C) (.int k u) = operate [.ref C, .int k u] (getItem (.ref C) (.int k u)) := by with_unfolding_all rfl) :
    wpAny (model prog w) A (subscriptTail value slice (.ref C) (.int k u)) Q E s := by
  refine pick3 (fun t => ∃ cv codes, CodesOk codes ∧ IntsAre cv codes ∧ AllLt t R ∧ News h₀ L s.heap ((t, tp cv) :: R)) N (.head _) h0 h1 ?_ ?_ ?_ ?_ hs
  · refine ⟨va, ca, oa, ia, la, fun p hp => N p ?_⟩
    rcases List.mem_cons.mp hp with rfl | hp
    · exact .tail _ (.tail _ (.tail _ (.head _)))
    · exact .tail _ (.tail _ (.tail _ (.tail _ hp)))
  · refine ⟨vb, cb, ob, ib, lb, fun p hp => N p ?_⟩
    rcases List.mem_cons.mp hp with rfl | hp
    · exact .tail _ (.tail _ (.head _))
    · exact .tail _ (.tail _ (.tail _ (.tail _ hp)))
  · refine ⟨vc, cc, oc, ic, lc, fun p hp => N p ?_⟩
    rcases List.mem_cons.mp hp with rfl | hp
    · exact .tail _ (.head _)
    · exact .tail _ (.tail _ (.tail _ (.tail _ hp)))
  · rintro t ⟨cv, codes, x1, x2, x3, x4⟩
    exact h t cv codes x1 x2 x3 x4
end
section
variable {prog : Program} {w : World} {A : Around} {E : Value → Shared → Prop} {s : Shared} {h₀ : Heap} {L C : Addr} {m : Str → Option Value} {news news' T : Led} {vs : List Value} {cs : List Cell} {n : Nat} {k j : Int} {u : Tok} {y : Value}
/-- a read at a place of which something is known -/
theorem cl_item_ok {value slice : PySem.Expr} {Q : Value → Shared → Prop} {P : Cell → Prop} (N : News h₀ L s.heap news) (hm : (C, listOf vs.toArray n) ∈ news) (hC : AllC (CellL T) vs cs) (hok : ∀ c, cs[k.toNat]? = some c → P c) (h0 : 0 ≤ k) (h1 : k < vs.length) (hfit : k < 1000)
    (h : ∀ (a ac : Nat) (cv : List Value) (c : Cell) (tw tf : Tok), cs[k.toNat]? = some c → P c → (a, tp [.ref ac, .int c.width tw, .int c.flags tf, .bool c.g]) ∈ T → (ac, tp cv) ∈ T → IntsAre cv c.codes → Q (.ref a) s)
    (hs : subscripted slice false (.ref C) (.int k u) = operate [.ref C, .int k u] (getItem (.ref C) (.int k u)) := by with_unfolding_all rfl) (hg : ∀ r, letTemporaryGo value (.ref C) r = pure () := by intro _; with_unfolding_all rfl) :
    wpAny (model prog w) A (subscriptTail value slice (.ref C) (.int k u)) Q E s :=
  cl_item N hm hC h0 h1 (by omega) (fun a ac cv c tw tf hc => h a ac cv c tw tf hc (hok c hc)) hs hg
theorem cl_known_set {value slice : PySem.Expr} {Q : Value → Shared → Prop} {c : Cell} (N : News h₀ L s.heap news) (hm : (C, listOf (vs.set j.toNat y).toArray n) ∈ news) (hC : AllC (CellL T) vs cs) (hc : cs[k.toNat]? = some c) (h0 : 0 ≤ k) (hj : 0 ≤ j) (hne : j ≠ k) (hfit : k < 1000)
    (h : ∀ (a ac : Nat) (cv : List Value) (tw tf : Tok), (a, tp [.ref ac, .int c.width tw, .int c.flags tf, .bool c.g]) ∈ T → (ac, tp cv) ∈ T → IntsAre cv c.codes → Q (.ref a) s)
    (hs : subscripted slice false (.ref C) (.int k u) = operate [.ref C, .int k u] (getItem (.ref C) (.int k u)) := by with_unfolding_all rfl) (hg : ∀ r, letTemporaryGo value (.ref C) r = pure () := by intro _; with_unfolding_all rfl) :
    wpAny (model prog w) A (subscriptTail value slice (.ref C) (.int k u)) Q E s := by
  obtain ⟨v, e1, a, ac, cv, tw, tf, rfl, m1, m2, m3⟩ := hC.at hc
  refine kim_list N hm rfl rfl h0 (by omega) ?_ (h a ac cv tw tf m1 m2 m3) hs hg
  rw [List.getElem?_set_ne (by omega)]
  exact e1
end
theorem news_pick {p : Addr × Obj} {N R : Led} {h₀ h : Heap} {L : Addr} (hp : Pick p N R) (k : News h₀ L h N) : News h₀ L h (p :: R) := fun q hq => k q (hp.fwd q hq)
theorem news_pick6 {p1 p2 p3 p4 p5 p6 : Addr × Obj} {N R1 R2 R3 R4 R5 R6 : Led} {h₀ h : Heap} {L : Addr} (k : News h₀ L h N) (a1 : Pick p1 N R1) (a2 : Pick p2 R1 R2) (a3 : Pick p3 R2 R3) (a4 : Pick p4 R3 R4) (a5 : Pick p5 R4 R5) (a6 : Pick p6 R5 R6) :
    News h₀ L h (p1 :: p2 :: p3 :: p4 :: p5 :: p6 :: R6) := fun q hq => k q (a1.fwd q (by
  rcases List.mem_cons.mp hq with rfl | hq
  · exact .head _
  refine .tail _ (a2.fwd q ?_)
  rcases List.mem_cons.mp hq with rfl | hq
  · exact .head _
  refine .tail _ (a3.fwd q ?_)
  rcases List.mem_cons.mp hq with rfl | hq
  · exact .head _
  refine .tail _ (a4.fwd q ?_)
  rcases List.mem_cons.mp hq with rfl | hq
  · exact .head _
  refine .tail _ (a5.fwd q ?_)
  rcases List.mem_cons.mp hq with rfl | hq
  · exact .head _
  exact .tail _ (a6.fwd q hq)))
theorem cellL_blank {T : Led} {a b : Nat} {t1 t2 : Tok} (h1 : (a, tp [.ref b, .int 1 t1, .int 0 t2, .bool false]) ∈ T) (h2 : (b, tp []) ∈ T) : CellL T (.ref a) blankC := ⟨a, b, [], t1, t2, rfl, h1, h2, .nil⟩
theorem allLt_right {q : Nat} {X R : Led} (h : AllLt q (X ++ R)) : AllLt q R := allLt_of fun p hp => allLt_mem h p (List.mem_append.mpr (.inr hp))
theorem spots_put {h₀ h' : Heap} {L : Addr} {s₁ : Shared} {I D mD k i tk j t1 t2 : Nat} {o o₀ : Obj} {R T X : Led} {cs : List Cell} {u : List Value} {m₀ : Str → Option Value} {b v : Option Value} {a1 a2 : Tok}
    (F : Fr h₀ L h' (mset (mset m₀ (Str.ofString "spot") b) (Str.ofString "spot") v)) (N : News h₀ L h' ((t2, tp [.ref t1, .int 1 a1, .int 0 a2, .bool false]) :: (t1, tp []) :: (I, o) :: (D, listOf (u.set j (.ref t2)).toArray mD) :: (X ++ R)))
    (hD : D ≠ I) (hX : ∀ p ∈ X ++ R, p.1 ≠ I) (hT : ∀ p ∈ X, p.2.cls = .type "tuple") (l1 : @LT.lt Nat _ I t1 ∧ @LT.lt Nat _ D t1 ∧ AllLt t1 (X ++ R)) (l2 : @LT.lt Nat _ t1 t2 ∧ @LT.lt Nat _ I t2 ∧ @LT.lt Nat _ D t2 ∧ AllLt t2 (X ++ R))
    (hA : Above X ((D, o₀) :: R)) (hC : AllC (CellL (X ++ T)) u (spots cs k i)) (e : spots cs k (i + 1) = (spots cs k i).set j blankC) :
    UnrEndW h₀ L s₁ [(I, o)] (JSpots D mD R T cs k o₀ m₀ (i + 1)) { s₁ with heap := h', toks := tk } := by
  refine spots_end [(t2, tp [.ref t1, .int 1 a1, .int 0 a2, .bool false]), (t1, tp [])] F N hD hX ?_ ?_ hA (Above.cons ⟨l2.2.2.1, allLt_right l2.2.2.2⟩ (Above.cons ⟨l1.2.1, allLt_right l1.2.2⟩ Above.nil)) hT ?_
  · intro p hp
    rcases List.mem_cons.mp hp with rfl | hp
    · exact Nat.ne_of_gt l2.2.1
    · rw [List.mem_singleton.mp hp]; exact Nat.ne_of_gt l1.1
  · rw [e]
    exact AllC.set (hC.mono fun _ _ x => x.mono fun p hp => .tail _ (.tail _ hp)) (cellL_blank (.head _) (.tail _ (.head _))) _
  · intro p hp
    rcases List.mem_cons.mp hp with rfl | hp
    · rfl
    · rw [List.mem_singleton.mp hp]
theorem spots_same {h₀ h' : Heap} {L : Addr} {s₁ : Shared} {I D mD k i tk : Nat} {o o₀ : Obj} {R T X : Led} {cs : List Cell} {u : List Value} {m₀ : Str → Option Value} {b v : Option Value}
    (F : Fr h₀ L h' (mset (mset m₀ (Str.ofString "spot") b) (Str.ofString "spot") v)) (N : News h₀ L h' ((I, o) :: (D, listOf u.toArray mD) :: (X ++ R)))
    (hD : D ≠ I) (hX : ∀ p ∈ X ++ R, p.1 ≠ I) (hT : ∀ p ∈ X, p.2.cls = .type "tuple") (hA : Above X ((D, o₀) :: R)) (hC : AllC (CellL (X ++ T)) u (spots cs k i)) (e : spots cs k (i + 1) = spots cs k i) :
    UnrEndW h₀ L s₁ [(I, o)] (JSpots D mD R T cs k o₀ m₀ (i + 1)) { s₁ with heap := h', toks := tk } :=
  spots_end [] F N hD hX (fun _ h => nomatch h) (by rw [e]; exact hC) hA Above.nil hT (fun _ h => nomatch h)
inductive FlowIs : Flow → Value → Prop
  | ret (v : Value) : FlowIs (.ret v) v
  | next : FlowIs .next .none
/-- a contract of a def's last statements -/
noncomputable def Blk (w : World) (mean : ExcName → Option Value) (mg mb : Str → Option Value) (nm : Str) (sc : Scope) (fa : Addr) (cd : Value) (body : List Stmt) (dd uu : Nat) (m₁ : Str → Option Value) (news : Led) (Post : Value → Led → Prop) : Prop :=
  ∀ (dp un : Nat) (gd : Option (List Code)) (cn : Str) (cs : Scope) (L a : Addr) (ccd : Value) (cl : List (Str × Addr)) (outer : List Env) (base g₀ : Heap) (L' : Addr) (s : Shared) (Q : Flow → Shared → Prop) (E : Value → Shared → Prop),
    Below (ktrTop dp un gd cn cs L a ccd cl outer) base (envX cn cs L a ccd cl :: outer) g₀ → Fr g₀ L' s.heap m₁ → (Kx w.params).In g₀ → News g₀ L' s.heap news → Top qv (looseW qv lo) mean mg mb g₀ → cs.kind = .function →
    dp + dd < recursionLimit → un + uu < cLine →
    (∀ (fl : Flow) (v : Value) (m' : Str → Option Value) (news' : Led) (h' : Heap) (tk' : Nat), FlowIs fl v → Post v news' → Fr g₀ L' h' m' → News g₀ L' h' news' → Q fl { s with heap := h', toks := tk' }) →
    wpAny (model PySem.Challenge.rw_np0284_01.row.prog w) ((ktrTop dp un gd cn cs L a ccd cl outer).deeper (envOf nm sc L' fa cd)) (execs body (envOf nm sc L' fa cd)) Q E s
noncomputable def ov : List (Str × Value) → (Str → Option Value) → Str → Option Value
  | [], m => m
  | p :: r, m => fun y => if y = p.1 then some p.2 else ov r m y
noncomputable def Has : List (Str × Value) → (Str → Option Value) → Prop
  | [], _ => True
  | p :: r, m => m p.1 = some p.2 ∧ Has r m
theorem ov_has {m : Str → Option Value} : ∀ {ls : List (Str × Value)}, Has ls m → ov ls m = m
  | [], _ => rfl
  | p :: r, h => by
    funext y
    show (if y = p.1 then some p.2 else ov r m y) = m y
    rw [ov_has h.2]
    by_cases e : y = p.1
    · rw [if_pos e, e, h.1]
    · rw [if_neg e]
theorem Fr.hasL {g : Heap} {L : Addr} {h : Heap} {m : Str → Option Value} {ls : List (Str × Value)} (e : Has ls m) (F : Fr g L h m) : Fr g L h (ov ls m) := by
  rw [ov_has e]; exact F
theorem Fr.has {g : Heap} {L : Addr} {h : Heap} {m : Str → Option Value} {x : Str} {v : Value} (e : m x = some v) (F : Fr g L h m) : Fr g L h (mset m x (some v)) := by
  have : mset m x (some v) = m := by rw [← e, mset_self]
  rw [this]; exact F
noncomputable def setA (cs : List Cell) (k : Int) (c : Cell) : List Cell :=
  if c.width = 2 then (cs.set k.toNat c).set (k + 1).toNat (rightC c) else cs.set k.toNat c
inductive DPost (D mD C mC : Nat) (cs2 cs : List Cell) (col : Int) (c : Cell) (o1 o2 : Obj) (T R : Led) (v : Value) (news' : Led) : Prop
  | mk (h1 : v = .none) (X : Led) (u' v' : List Value) (h2 : (∀ p ∈ (D, listOf u'.toArray mD) :: (C, listOf v'.toArray mC) :: (X ++ R), p ∈ news')) (h3 : Above X ((D, o1) :: (C, o2) :: R)) (h4 : AllC (CellL (X ++ T)) u' (setA cs2 col c)) (h5 : AllC (CellS (X ++ T)) v' (putA cs col c)) : DPost D mD C mC cs2 cs col c o1 o2 T R v news'
theorem above_any {X T T' : Led} (h : Above X T) (k : ∀ q ∈ T', ∃ o : Obj, (q.1, o) ∈ T) : Above X T' := fun p hp q hq => by
  obtain ⟨o, ho⟩ := k q hq
  exact h p hp (q.1, o) ho
theorem allC_up {S T : Led} {vs : List Value} {cs : List Cell} (h : AllC (CellL S) vs cs) (k : ∀ p ∈ S, p ∈ T) : AllC (CellL T) vs cs := h.mono fun _ _ x => x.mono k
theorem allS_up {S T : Led} {vs : List Value} {cs : List Cell} (h : AllC (CellS S) vs cs) (k : ∀ p ∈ S, p ∈ T) : AllC (CellS T) vs cs := h.mono fun _ _ x => x.mono k
section
variable {D mD C mC : Nat} {cs2 cs : List Cell} {col wd fl : Int} {g : Bool} {codes : List Int} {o1 o2 o3 o4 : Obj} {T R X : Led} {u v v' : List Value} {a4 aL aM aN t p : Nat} {cv : List Value} {k2 k3 kz t1 t2 t3 t4 : Tok}
theorem D_end1 (hA : Above X ((C, o2) :: (a4, tp [.ref t, .int wd k2, .ref p, .bool g]) :: (aL, tp [.ref t, .int wd k2, .int fl k3, .bool g]) :: (D, o3) :: R)) (lL : @LT.lt Nat _ D aL ∧ @LT.lt Nat _ C aL ∧ AllLt aL R) (l4 : @LT.lt Nat _ aL a4 ∧ @LT.lt Nat _ D a4 ∧ @LT.lt Nat _ C a4 ∧ AllLt a4 R)
    (hC : AllC (CellS (X ++ (a4, tp [.ref t, .int wd k2, .ref p, .bool g]) :: (t, tp cv) :: (p, tp [.int fl t1, .int (-1) t2, .int (-1) t3, .int (-1) t4, .int 0 kz]) :: T)) v' (putA cs col ⟨codes, wd, fl, g⟩)) (m1 : (t, tp cv) ∈ T) (m2 : (p, tp [.int fl t1, .int (-1) t2, .int (-1) t3, .int (-1) t4, .int 0 kz]) ∈ T) (hu : AllC (CellL T) u cs2) (hi : IntsAre cv codes) (hw : wd ≠ 2) :
    DPost D mD C mC cs2 cs col ⟨codes, wd, fl, g⟩ o1 o2 T R .none ((C, listOf v'.toArray mC) :: (a4, tp [.ref t, .int wd k2, .ref p, .bool g]) :: (aL, tp [.ref t, .int wd k2, .int fl k3, .bool g]) :: (D, listOf (u.set col.toNat (.ref aL)).toArray mD) :: (X ++ R)) := by
  refine ⟨rfl, X ++ [(a4, tp [.ref t, .int wd k2, .ref p, .bool g]), (aL, tp [.ref t, .int wd k2, .int fl k3, .bool g])], u.set col.toNat (.ref aL), v', ?_, ?_, ?_, ?_⟩
  rotate_left 2
  · have e : setA cs2 col ⟨codes, wd, fl, g⟩ = cs2.set col.toNat ⟨codes, wd, fl, g⟩ := by unfold setA; rw [if_neg hw]
    rw [e]
    refine AllC.set (allC_up hu fun q hq => List.mem_append.mpr (.inr hq)) ⟨aL, t, cv, k2, k3, rfl, ?_, ?_, hi⟩ _
    · exact List.mem_append.mpr (.inl (List.mem_append.mpr (.inr (.tail _ (.head _)))))
    · exact List.mem_append.mpr (.inr m1)
  · refine allS_up hC ?_
    intro q hq
    rcases List.mem_append.mp hq with hq | hq
    · exact List.mem_append.mpr (.inl (List.mem_append.mpr (.inl hq)))
    rcases List.mem_cons.mp hq with rfl | hq
    · exact List.mem_append.mpr (.inl (List.mem_append.mpr (.inr (.head _))))
    rcases List.mem_cons.mp hq with rfl | hq
    · exact List.mem_append.mpr (.inr m1)
    rcases List.mem_cons.mp hq with rfl | hq
    · exact List.mem_append.mpr (.inr m2)
    · exact List.mem_append.mpr (.inr hq)
  · intro q hq
    rcases List.mem_cons.mp hq with rfl | hq
    · exact .tail _ (.tail _ (.tail _ (.head _)))
    rcases List.mem_cons.mp hq with rfl | hq
    · exact .head _
    rcases List.mem_append.mp hq with hq | hq
    · rcases List.mem_append.mp hq with hq | hq
      · exact .tail _ (.tail _ (.tail _ (.tail _ (List.mem_append.mpr (.inl hq)))))
      · rcases List.mem_cons.mp hq with rfl | hq
        · exact .tail _ (.head _)
        · rw [List.mem_singleton.mp hq]; exact .tail _ (.tail _ (.head _))
    · exact .tail _ (.tail _ (.tail _ (.tail _ (List.mem_append.mpr (.inr hq)))))
  · intro q hq
    rcases List.mem_append.mp hq with hq | hq
    · refine above_any hA (fun r hr => ?_) q hq
      rcases List.mem_cons.mp hr with rfl | hr
      · exact ⟨_, .tail _ (.tail _ (.tail _ (.head _)))⟩
      rcases List.mem_cons.mp hr with rfl | hr
      · exact ⟨_, .head _⟩
      · exact ⟨_, .tail _ (.tail _ (.tail _ (.tail _ hr)))⟩
    · refine Above.cons (X := [_]) (T := (D, o1) :: (C, o2) :: R) ⟨l4.2.1, l4.2.2.1, l4.2.2.2⟩ (Above.cons ⟨lL.1, lL.2.1, lL.2.2⟩ Above.nil) q hq
theorem D_end2 (hA : Above X ((C, o2) :: (a4, tp [.ref t, .int wd k2, .ref p, .bool g]) :: (aN, tp [.ref aM, .int 0 kz, .int fl k3, .bool g]) :: (aM, tp []) :: (aL, tp [.ref t, .int wd k2, .int fl k3, .bool g]) :: (D, o3) :: R)) (lL : @LT.lt Nat _ D aL ∧ @LT.lt Nat _ C aL ∧ AllLt aL R)
    (lM : @LT.lt Nat _ aL aM ∧ @LT.lt Nat _ D aM ∧ @LT.lt Nat _ C aM ∧ AllLt aM R) (lN : @LT.lt Nat _ aM aN ∧ @LT.lt Nat _ aL aN ∧ @LT.lt Nat _ D aN ∧ @LT.lt Nat _ C aN ∧ AllLt aN R) (l4 : @LT.lt Nat _ aN a4 ∧ @LT.lt Nat _ aM a4 ∧ @LT.lt Nat _ aL a4 ∧ @LT.lt Nat _ D a4 ∧ @LT.lt Nat _ C a4 ∧ AllLt a4 R) {kp : Tok}
    (hC : AllC (CellS (X ++ (a4, tp [.ref t, .int wd k2, .ref p, .bool g]) :: (t, tp cv) :: (p, tp [.int fl t1, .int (-1) t2, .int (-1) t3, .int (-1) t4, .int 0 kp]) :: T)) v' (putA cs col ⟨codes, wd, fl, g⟩)) (m1 : (t, tp cv) ∈ T) (m2 : (p, tp [.int fl t1, .int (-1) t2, .int (-1) t3, .int (-1) t4, .int 0 kp]) ∈ T) (hu : AllC (CellL T) u cs2) (hi : IntsAre cv codes) (hw : wd = 2) :
    DPost D mD C mC cs2 cs col ⟨codes, wd, fl, g⟩ o1 o2 T R .none ((C, listOf v'.toArray mC) :: (a4, tp [.ref t, .int wd k2, .ref p, .bool g]) :: (aN, tp [.ref aM, .int 0 kz, .int fl k3, .bool g]) :: (aM, tp []) :: (aL, tp [.ref t, .int wd k2, .int fl k3, .bool g]) :: (D, listOf ((u.set col.toNat (.ref aL)).set (col + 1).toNat (.ref aN)).toArray mD) :: (X ++ R)) := by
  refine ⟨rfl, X ++ [(a4, tp [.ref t, .int wd k2, .ref p, .bool g]), (aN, tp [.ref aM, .int 0 kz, .int fl k3, .bool g]), (aM, tp []), (aL, tp [.ref t, .int wd k2, .int fl k3, .bool g])], (u.set col.toNat (.ref aL)).set (col + 1).toNat (.ref aN), v', ?_, ?_, ?_, ?_⟩
  rotate_left 2
  · have e : setA cs2 col ⟨codes, wd, fl, g⟩ = (cs2.set col.toNat ⟨codes, wd, fl, g⟩).set (col + 1).toNat (rightC ⟨codes, wd, fl, g⟩) := by unfold setA; rw [if_pos hw]
    rw [e]
    refine AllC.set (AllC.set (allC_up hu fun q hq => List.mem_append.mpr (.inr hq)) ⟨aL, t, cv, k2, k3, rfl, ?_, ?_, hi⟩ _) ⟨aN, aM, [], kz, k3, rfl, ?_, ?_, .nil⟩ _
    · exact List.mem_append.mpr (.inl (List.mem_append.mpr (.inr (.tail _ (.tail _ (.tail _ (.head _)))))))
    · exact List.mem_append.mpr (.inr m1)
    · exact List.mem_append.mpr (.inl (List.mem_append.mpr (.inr (.tail _ (.head _)))))
    · exact List.mem_append.mpr (.inl (List.mem_append.mpr (.inr (.tail _ (.tail _ (.head _))))))
  · refine allS_up hC ?_
    intro q hq
    rcases List.mem_append.mp hq with hq | hq
    · exact List.mem_append.mpr (.inl (List.mem_append.mpr (.inl hq)))
    rcases List.mem_cons.mp hq with rfl | hq
    · exact List.mem_append.mpr (.inl (List.mem_append.mpr (.inr (.head _))))
    rcases List.mem_cons.mp hq with rfl | hq
    · exact List.mem_append.mpr (.inr m1)
    rcases List.mem_cons.mp hq with rfl | hq
    · exact List.mem_append.mpr (.inr m2)
    · exact List.mem_append.mpr (.inr hq)
  · intro q hq
    rcases List.mem_cons.mp hq with rfl | hq
    · exact .tail _ (.tail _ (.tail _ (.tail _ (.tail _ (.head _)))))
    rcases List.mem_cons.mp hq with rfl | hq
    · exact .head _
    rcases List.mem_append.mp hq with hq | hq
    · rcases List.mem_append.mp hq with hq | hq
      · exact .tail _ (.tail _ (.tail _ (.tail _ (.tail _ (.tail _ (List.mem_append.mpr (.inl hq)))))))
      · rcases List.mem_cons.mp hq with rfl | hq
        · exact .tail _ (.head _)
        rcases List.mem_cons.mp hq with rfl | hq
        · exact .tail _ (.tail _ (.head _))
        rcases List.mem_cons.mp hq with rfl | hq
        · exact .tail _ (.tail _ (.tail _ (.head _)))
        · rw [List.mem_singleton.mp hq]; exact .tail _ (.tail _ (.tail _ (.tail _ (.head _))))
    · exact .tail _ (.tail _ (.tail _ (.tail _ (.tail _ (.tail _ (List.mem_append.mpr (.inr hq)))))))
  · intro q hq
    rcases List.mem_append.mp hq with hq | hq
    · refine above_any hA (fun r hr => ?_) q hq
      rcases List.mem_cons.mp hr with rfl | hr
      · exact ⟨_, .tail _ (.tail _ (.tail _ (.tail _ (.tail _ (.head _)))))⟩
      rcases List.mem_cons.mp hr with rfl | hr
      · exact ⟨_, .head _⟩
      · exact ⟨_, .tail _ (.tail _ (.tail _ (.tail _ (.tail _ (.tail _ hr)))))⟩
    · exact Above.cons (X := [_, _, _]) (T := (D, o1) :: (C, o2) :: R) ⟨l4.2.2.2.1, l4.2.2.2.2.1, l4.2.2.2.2.2⟩ (Above.cons ⟨lN.2.2.1, lN.2.2.2.1, lN.2.2.2.2⟩ (Above.cons ⟨lM.2.1, lM.2.2.1, lM.2.2.2⟩ (Above.cons ⟨lL.1, lL.2.1, lL.2.2⟩ Above.nil))) q hq
end
theorem setup_t_T12 : True := by (k_with "tmem" => first | with_reducible exact mh | with_reducible assumption | (with_reducible refine mt ?_; k_extra "tmem") | (with_reducible refine mr ?_; k_extra "tmem") | (with_reducible refine ml ?_; k_extra "tmem")); (k_with "tall" => first | with_reducible exact fn | (with_reducible refine fc ?_ ?_; (focus k_extra "tmem"); k_extra "tall") | (with_reducible refine fa ?_ ?_; (focus k_extra "tall"); k_extra "tall") | (intro p hp; k_extra "tmem")); trivial
/-- as Blk, where what is thrown passes out of the activation -/
noncomputable def BlkE (w : World) (mean : ExcName → Option Value) (mg mb : Str → Option Value) (nm : Str) (sc : Scope) (fa : Addr) (cd : Value) (body : List Stmt) (dd uu : Nat) (m₁ : Str → Option Value) (news : Led) (Post : Value → Led → Prop) : Prop :=
  ∀ (dp un : Nat) (gd : Option (List Code)) (cn : Str) (cs : Scope) (L a : Addr) (ccd : Value) (cl : List (Str × Addr)) (outer : List Env) (base g₀ : Heap) (L' : Addr) (s : Shared) (Q : Flow → Shared → Prop) (E : Value → Shared → Prop),
    PassesOwn (model PySem.Challenge.rw_np0284_01.row.prog w) ((ktrTop dp un gd cn cs L a ccd cl outer).deeper (envOf nm sc L' fa cd)) (envOf nm sc L' fa cd) E →
    Below (ktrTop dp un gd cn cs L a ccd cl outer) base (envX cn cs L a ccd cl :: outer) g₀ → Fr g₀ L' s.heap m₁ → (Kx w.params).In g₀ → News g₀ L' s.heap news → Top qv (looseW qv lo) mean mg mb g₀ → cs.kind = .function →
    dp + dd < recursionLimit → un + uu < cLine →
    (∀ (fl : Flow) (v : Value) (m' : Str → Option Value) (news' : Led) (h' : Heap) (tk' : Nat), FlowIs fl v → Post v news' → Fr g₀ L' h' m' → News g₀ L' h' news' → Q fl { s with heap := h', toks := tk' }) →
    wpAny (model PySem.Challenge.rw_np0284_01.row.prog w) ((ktrTop dp un gd cn cs L a ccd cl outer).deeper (envOf nm sc L' fa cd)) (execs body (envOf nm sc L' fa cd)) Q E s
theorem LineAt.mono {w : World} {T T' : Led} {li C : Nat} (h : LineAt w T li C) (k : ∀ p ∈ T, p ∈ T') : LineAt w T' li C := by
  obtain ⟨ld, u1, u2, u3, h1, h2⟩ := h
  exact ⟨ld, u1, u2, u3, k _ h1, k _ h2⟩
theorem GridAt.mono {w : World} {T T' : Led} {li C : Nat} (h : GridAt w T li C) (k : ∀ p ∈ T, p ∈ T') : GridAt w T' li C := by
  obtain ⟨ld, u1, u2, u3, u4, u5, h1, h2⟩ := h
  exact ⟨ld, u1, u2, u3, u4, u5, k _ h1, k _ h2⟩
theorem ScrAt.mono {w : World} {T T' : Led} {li C : Nat} (h : ScrAt w T li C) (k : ∀ p ∈ T, p ∈ T') : ScrAt w T' li C := by
  obtain ⟨sd, s1, s2, s3, s4, s5, s6, s7, s8, s9, s10, s11, s12, s13, y1, y2, y3, y4, y5, y7, y8, y9, y10, y11, y12, y13, hs1, hs2⟩ := h
  exact ⟨sd, s1, s2, s3, s4, s5, s6, s7, s8, s9, s10, s11, s12, s13, y1, y2, y3, y4, y5, y7, y8, y9, y10, y11, y12, y13, k _ hs1, k _ hs2⟩
theorem dpost_glue {D mD C mC : Nat} {cs2 cs : List Cell} {col : Int} {c : Cell} {o1 o1' o2 : Obj} {T R X : Led} {v : Value} {n' : Led}
    (h : DPost D mD C mC cs2 cs col c o1' o2 (X ++ T) (X ++ R) v n') (hA : Above X ((D, o1) :: (C, o2) :: R)) : DPost D mD C mC cs2 cs col c o1 o2 T R v n' := by
  obtain ⟨hv, Y, u', v', hN, hY, hu, hs⟩ := h
  refine ⟨hv, Y ++ X, u', v', fun p hp => hN p ?_, ?_, by rw [List.append_assoc]; exact hu, by rw [List.append_assoc]; exact hs⟩
  · rw [List.append_assoc] at hp; exact hp
  · intro p hp q hq
    rcases List.mem_append.mp hp with hp | hp
    · rcases List.mem_cons.mp hq with rfl | hq
      · exact hY p hp (D, o1') (.head _)
      rcases List.mem_cons.mp hq with rfl | hq
      · exact hY p hp _ (.tail _ (.head _))
      · exact hY p hp q (.tail _ (.tail _ (List.mem_append.mpr (.inr hq))))
    · exact hA p hp q hq
theorem news_swap {h₀ h : Heap} {L : Addr} {a b : Addr × Obj} {X R : Led} (N : News h₀ L h (a :: (X ++ b :: R))) : News h₀ L h (a :: b :: (X ++ R)) := fun p hp => N p (by
  rcases List.mem_cons.mp hp with rfl | hp
  · exact .head _
  rcases List.mem_cons.mp hp with rfl | hp
  · exact .tail _ (List.mem_append.mpr (.inr (.head _)))
  · rcases List.mem_append.mp hp with hp | hp
    · exact .tail _ (List.mem_append.mpr (.inl hp))
    · exact .tail _ (List.mem_append.mpr (.inr (.tail _ hp))))
theorem Has.set {ls : List (Str × Value)} {m : Str → Option Value} {x : Str} {b : Option Value} (h : Has ls m) (hx : (ls.all fun p => decide (p.1 ≠ x)) = true) : Has ls (mset m x b) := by
  induction ls with
  | nil => trivial
  | cons p r ih =>
    rw [List.all_cons, Bool.and_eq_true] at hx
    refine ⟨?_, ih h.2 hx.2⟩
    rw [← h.1]
    show mset m x b p.1 = m p.1
    unfold mset
    exact if_neg (of_decide_eq_true hx.1)
inductive BPost (w : World) (d l C Co D Do mC mD : Nat) (oCo oDo : Obj) (T : Led) (r : Value) (news' : Led) : Prop
  | mk (h1 : r = .none) (T' : Led) (od' ol' : Obj) (v' u' : List Value) (cs' : List Cell) (h2 : (∀ p ∈ T, p ∈ T')) (h3 : Off T' d l C Co D Do) (h4 : DeckOk w l od' ol') (h5 : AllC (CellL T') u' cs') (h6 : AllC (CellS T') v' cs') (h7 : RowOk cs') (h8 : ∀ p ∈ (d, od') :: (l, ol') :: (C, listOf v'.toArray mC) :: (Co, oCo) :: (D, listOf u'.toArray mD) :: (Do, oDo) :: T', p ∈ news') : BPost w d l C Co D Do mC mD oCo oDo T r news'
theorem put_law {cs : List Cell} {c : Cell} {col : Int} (h : RowOk cs) (hc : CellOk c) (c0 : 0 ≤ col) (c1 : col < 5) (hw : c.width = 1 ∨ c.width = 2 ∧ col < 4) :
    setA (spots cs col.toNat c.width.toNat) col c = putA cs col c ∧ RowOk (putA cs col c) := by
  have e : ((col.toNat : Nat) : Int) = col := Int.toNat_of_nonneg c0
  have z := putLaw (k := col.toNat) h hc (by
    rcases hw with hw | hw
    · exact .inl ⟨hw, by omega⟩
    · exact .inr ⟨hw.1, by omega⟩)
  rw [e] at z
  refine ⟨?_, z.2⟩
  rw [← z.1]
  have e1 : (col + 1).toNat = col.toNat + 1 := by omega
  unfold setA lawPut
  rw [e1]
theorem b_end {w : World} {d l C Co D Do mC mD D1 p t : Nat} {od ol oCo oDo o1 o2 oD1 op ot : Obj} {T : Led} {cs : List Cell} {col : Int} {c : Cell} {r : Value} {news' : Led}
    (hP : DPost D mD C mC (spots cs col.toNat c.width.toNat) cs col c o1 o2 ((p, op) :: (t, ot) :: T) ((D1, oD1) :: (p, op) :: (t, ot) :: (d, od) :: (l, ol) :: (Co, oCo) :: (Do, oDo) :: T) r news')
    (h : RowOk cs) (hc : CellOk c) (c0 : 0 ≤ col) (c1 : col < 5) (hw : c.width = 1 ∨ c.width = 2 ∧ col < 4) (hD : DeckOk w l od ol) (off : Off T d l C Co D Do)
    (lt : @LT.lt Nat _ d t ∧ @LT.lt Nat _ l t ∧ @LT.lt Nat _ C t ∧ @LT.lt Nat _ Co t ∧ @LT.lt Nat _ D t ∧ @LT.lt Nat _ Do t ∧ AllLt t T) (lp : @LT.lt Nat _ t p ∧ @LT.lt Nat _ d p ∧ @LT.lt Nat _ l p ∧ @LT.lt Nat _ C p ∧ @LT.lt Nat _ Co p ∧ @LT.lt Nat _ D p ∧ @LT.lt Nat _ Do p ∧ AllLt p T) :
    BPost w d l C Co D Do mC mD oCo oDo T r news' := by
  obtain ⟨hr, X, u', v', hN, hA, hu, hv⟩ := hP
  obtain ⟨e, hok⟩ := put_law h hc c0 c1 hw
  rw [e] at hu
  obtain ⟨f1, f2, f3, f4, f5, f6⟩ := off
  obtain ⟨a1, a2, a3, a4, a5, a6, a7⟩ := lt
  obtain ⟨b0, b1, b2, b3, b4, b5, b6, b7⟩ := lp
  have key : ∀ (x : Nat) (ox : Obj), (x, ox) ∈ (D, o1) :: (C, o2) :: (D1, oD1) :: (p, op) :: (t, ot) :: (d, od) :: (l, ol) :: (Co, oCo) :: (Do, oDo) :: T → (∀ q ∈ T, q.1 ≠ x) → @LT.lt Nat _ x p → @LT.lt Nat _ x t → ∀ q ∈ X ++ (p, op) :: (t, ot) :: T, q.1 ≠ x := by
    intro x ox hm hT hp ht q hq
    rcases List.mem_append.mp hq with hq | hq
    · exact Nat.ne_of_gt (hA q hq _ hm)
    rcases List.mem_cons.mp hq with rfl | hq
    · exact Nat.ne_of_gt hp
    rcases List.mem_cons.mp hq with rfl | hq
    · exact Nat.ne_of_gt ht
    · exact hT q hq
  refine ⟨hr, X ++ (p, op) :: (t, ot) :: T, od, ol, v', u', putA cs col c, fun q hq => List.mem_append.mpr (.inr (.tail _ (.tail _ hq))), ⟨?_, ?_, ?_, ?_, ?_, ?_⟩, hD, hu, hv, hok, ?_⟩
  · exact key d od (by k_extra "tmem") f1 b1 a1
  · exact key l ol (by k_extra "tmem") f2 b2 a2
  · exact key C o2 (by k_extra "tmem") f3 b3 a3
  · exact key Co oCo (by k_extra "tmem") f4 b4 a4
  · exact key D o1 (by k_extra "tmem") f5 b5 a5
  · exact key Do oDo (by k_extra "tmem") f6 b6 a6
  · intro q hq
    refine hN q ?_
    revert q; k_extra "tall"
theorem b_ret {w : World} {d l C Co D Do mC mD t : Nat} {od ol oCo oDo ot : Obj} {T : Led} {cs : List Cell} {u v : List Value} (hD : DeckOk w l od ol) (off : Off T d l C Co D Do) (hu : AllC (CellL T) u cs) (hv : AllC (CellS T) v cs) (h : RowOk cs) :
    BPost w d l C Co D Do mC mD oCo oDo T .none ((t, ot) :: (d, od) :: (l, ol) :: (C, listOf v.toArray mC) :: (Co, oCo) :: (D, listOf u.toArray mD) :: (Do, oDo) :: T) :=
  ⟨rfl, T, od, ol, v, u, cs, fun _ h => h, off, hD, hu, hv, h, fun _ h => .tail _ h⟩
theorem news_perm {h₀ h : Heap} {L : Addr} {a b c d e f g i j : Addr × Obj} {T : Led} (N : News h₀ L h (a :: b :: c :: d :: e :: f :: g :: i :: j :: T)) : News h₀ L h (i :: f :: a :: b :: c :: d :: e :: g :: j :: T) := fun q hq => N q (by
  revert q; k_extra "tall")
section
variable {w : World} {mean : ExcName → Option Value} {mg mb : Str → Option Value} {nm : Str} {sc : Scope} {fa : Addr} {cd : Value} {body : List Stmt} {dd uu : Nat} {m₁ : Str → Option Value} {news : Led} {Post : Value → Led → Prop}
  {dp un : Nat} {gd : Option (List Code)} {cn : Str} {cs : Scope} {L a : Addr} {ccd : Value} {cl : List (Str × Addr)} {outer : List Env} {base g₀ : Heap} {L' : Addr} {s : Shared} {Q : Flow → Shared → Prop} {E : Value → Shared → Prop}
theorem BlkE.use
    (hPE : PassesOwn (model PySem.Challenge.rw_np0284_01.row.prog w) ((ktrTop dp un gd cn cs L a ccd cl outer).deeper (envOf nm sc L' fa cd)) (envOf nm sc L' fa cd) E)
    (B : Below (ktrTop dp un gd cn cs L a ccd cl outer) base (envX cn cs L a ccd cl :: outer) g₀) (F : Fr g₀ L' s.heap m₁) (X : (Kx w.params).In g₀) (N : News g₀ L' s.heap news) (Tp : Top qv (looseW qv lo) mean mg mb g₀) (hk : cs.kind = .function) (K : BlkE w mean mg mb nm sc fa cd body dd uu m₁ news Post)
    (hd : dp + dd < recursionLimit) (huu : un + uu < cLine)
    (ret : ∀ (fl : Flow) (v : Value) (m' : Str → Option Value) (news' : Led) (h' : Heap) (tk' : Nat), FlowIs fl v → Post v news' → Fr g₀ L' h' m' → News g₀ L' h' news' → Q fl { s with heap := h', toks := tk' }) :
    wpAny (model PySem.Challenge.rw_np0284_01.row.prog w) ((ktrTop dp un gd cn cs L a ccd cl outer).deeper (envOf nm sc L' fa cd)) (execs body (envOf nm sc L' fa cd)) Q E s :=
  K _ _ _ _ _ _ _ _ _ _ _ _ _ _ _ _ hPE B F X N Tp hk hd huu ret
end
section
variable {prog : Program} {w : World} {A : Around} {E : Value → Shared → Prop} {s : Shared} {env : Env} {h₀ : Heap} {target : Expr} {body : List Stmt} {Q : Flow → Shared → Prop} {K : Frag}
/-- a loop over a tuple of the top -/
theorem for_tupK {ax : Addr} {lo : Obj} {vs : List Value} {n : Nat} {m₀ : Str → Option Value} {news : Led} (J : Nat → (Str → Option Value) → Led → Prop)
    (hh : A.handled = none) (F : Fr h₀ env.locals s.heap m₀) (N : News h₀ env.locals s.heap news) (X₀ : K.In h₀) (hk : K.lookup ax = some lo) (hc : lo.cls = .type "tuple") (hd : lo.data = .seq vs.toArray n) (hz : vs.length ≤ 24) (h0 : J 0 m₀ news)
    (step : ∀ I, (∀ p ∈ news, p.1 < I) → ∀ i v m₁ news₁ h₁ tk₁ o, vs[i]? = some v → J i m₁ news₁ → Fr h₀ env.locals h₁ m₁ → News h₀ env.locals h₁ ((I, o) :: news₁) → o.cls = .type "tuple_iterator" →
      wpAny (model prog w) A (assign target env v) (fun _ s₂ => wpAny (model prog w) A (execs body env) (UnrPostW h₀ env.locals { s with heap := h₁, toks := tk₁ } [(I, o)] (J (i + 1)) Q) E s₂) E { s with heap := h₁, toks := tk₁ })
    (fin : ∀ m n h tk, J vs.length m n → Fr h₀ env.locals h m → News h₀ env.locals h n → Q .next { s with heap := h, toks := tk }) :
    wpAny (model prog w) A (pyIter (.ref ax)) (fun it s₂ => TurnsAt prog w A h₀ env target body Q E it s₂) E s := by
  refine iter_tupK hh F N X₀ hk hc hd hz (fun I hI => ?_)
  have := items_inv (prog := prog) (w := w) (A := A) (E := E) (s := s) (env := env) (h₀ := h₀) (target := target) (body := body) (Q := Q) (I := I) (c := "tuple_iterator") (keep := []) (xs := vs.map .val) (J := J) (fun i m n h => trivial) ?_ ?_ (vs.map Itm.val).length 0 m₀ news (by omega) h0
  · rw [List.drop_zero] at this
    exact this
  · intro i a v m₁ news₁ h₁ tk₁ o hi ha hJ F₁ ho N₁
    rw [List.getElem?_map] at hi
    obtain ⟨u, hu, rfl⟩ := Option.map_eq_some_iff.mp hi
    have e : v = u := ha
    subst e
    exact step I hI i v m₁ news₁ h₁ tk₁ o hu hJ F₁ N₁ ho
  · intro m n h tk hJ
    rw [List.length_map] at hJ
    exact fin m n h tk hJ
end
noncomputable def bitW (fl b x : Int) : Int := if Builtin.bitAnd fl b = 0 then 0 else x
noncomputable def eb (fl : Int) : Nat → Int
  | 0 => 0
  | 1 => bitW fl 64 8
  | 2 => bitW fl 64 8 + bitW fl 32 32
  | 3 => bitW fl 64 8 + bitW fl 32 32 + bitW fl 8 64
  | _ => bitW fl 64 8 + bitW fl 32 32 + bitW fl 8 64 + bitW fl 1 128
theorem bitW_bound (fl b x : Int) (h : 0 ≤ x) : 0 ≤ bitW fl b x ∧ bitW fl b x ≤ x := by
  unfold bitW; split <;> omega
theorem eb_bound (fl : Int) (i : Nat) : 0 ≤ eb fl i ∧ eb fl i ≤ 232 := by
  have h1 := bitW_bound fl 64 8 (by omega)
  have h2 := bitW_bound fl 32 32 (by omega)
  have h3 := bitW_bound fl 8 64 (by omega)
  have h4 := bitW_bound fl 1 128 (by omega)
  match i with
  | 0 => show 0 ≤ (0 : Int) ∧ (0 : Int) ≤ 232; omega
  | 1 => show 0 ≤ bitW fl 64 8 ∧ bitW fl 64 8 ≤ 232; omega
  | 2 => show 0 ≤ bitW fl 64 8 + bitW fl 32 32 ∧ bitW fl 64 8 + bitW fl 32 32 ≤ 232; omega
  | 3 => show 0 ≤ bitW fl 64 8 + bitW fl 32 32 + bitW fl 8 64 ∧ bitW fl 64 8 + bitW fl 32 32 + bitW fl 8 64 ≤ 232; omega
  | _ + 4 => show 0 ≤ bitW fl 64 8 + bitW fl 32 32 + bitW fl 8 64 + bitW fl 1 128 ∧ bitW fl 64 8 + bitW fl 32 32 + bitW fl 8 64 + bitW fl 1 128 ≤ 232; omega
noncomputable def JEdit (f0 fl : Int) (ap : Nat) (g : Bool) (N : Led) (i : Nat) (m : Str → Option Value) (n : Led) : Prop :=
  n = N ∧ ∃ t, Has [(Str.ofString "found", .int (f0 + eb fl i) t), (Str.ofString "pen", .ref ap), (Str.ofString "is_guarded", .bool g)] m
theorem jedit_end {h₀ h' : Heap} {L : Addr} {s₁ : Shared} {I tk i ap : Nat} {o : Obj} {N : Led} {m' : Str → Option Value} {f0 fl x : Int} {t : Tok} {g : Bool}
    (F : Fr h₀ L h' m') (Nw : News h₀ L h' ((I, o) :: N)) (hI : ∀ p ∈ N, p.1 < I) (hm : Has [(Str.ofString "found", .int x t), (Str.ofString "pen", .ref ap), (Str.ofString "is_guarded", .bool g)] m') (hx : x = f0 + eb fl (i + 1)) :
    UnrEndW h₀ L s₁ [(I, o)] (JEdit f0 fl ap g N (i + 1)) { s₁ with heap := h', toks := tk } := by
  refine ⟨h', tk, _, N, rfl, F, ?_, ?_, ⟨rfl, t, hx ▸ hm⟩⟩
  · intro p hp
    rcases List.mem_append.mp hp with hp | hp
    · rw [List.mem_singleton.mp hp]; exact Nw _ (.head _)
    · exact Nw p (.tail _ hp)
  · intro p hp q hq
    rw [List.mem_singleton.mp hq]
    exact Nat.ne_of_lt (hI p hp)
theorem eb_yes1 {f0 fl : Int} (h : Builtin.bitAnd fl 64 ≠ 0) : f0 + eb fl 0 + 8 = f0 + eb fl (0 + 1) := by
  show f0 + 0 + 8 = f0 + bitW fl 64 8
  unfold bitW; rw [if_neg h]; omega
theorem eb_no1 {f0 fl : Int} (h : Builtin.bitAnd fl 64 = 0) : f0 + eb fl 0 = f0 + eb fl (0 + 1) := by
  show f0 + 0 = f0 + bitW fl 64 8
  unfold bitW; rw [if_pos h]
theorem eb_yes2 {f0 fl : Int} (h : Builtin.bitAnd fl 32 ≠ 0) : f0 + eb fl 1 + 32 = f0 + eb fl (1 + 1) := by
  show f0 + bitW fl 64 8 + 32 = f0 + (bitW fl 64 8 + bitW fl 32 32)
  have e : bitW fl 32 32 = 32 := by unfold bitW; rw [if_neg h]
  omega
theorem eb_no2 {f0 fl : Int} (h : Builtin.bitAnd fl 32 = 0) : f0 + eb fl 1 = f0 + eb fl (1 + 1) := by
  show f0 + bitW fl 64 8 = f0 + (bitW fl 64 8 + bitW fl 32 32)
  have e : bitW fl 32 32 = 0 := by unfold bitW; rw [if_pos h]
  omega
theorem eb_yes3 {f0 fl : Int} (h : Builtin.bitAnd fl 8 ≠ 0) : f0 + eb fl 2 + 64 = f0 + eb fl (2 + 1) := by
  show f0 + (bitW fl 64 8 + bitW fl 32 32) + 64 = f0 + (bitW fl 64 8 + bitW fl 32 32 + bitW fl 8 64)
  have e : bitW fl 8 64 = 64 := by unfold bitW; rw [if_neg h]
  omega
theorem eb_no3 {f0 fl : Int} (h : Builtin.bitAnd fl 8 = 0) : f0 + eb fl 2 = f0 + eb fl (2 + 1) := by
  show f0 + (bitW fl 64 8 + bitW fl 32 32) = f0 + (bitW fl 64 8 + bitW fl 32 32 + bitW fl 8 64)
  have e : bitW fl 8 64 = 0 := by unfold bitW; rw [if_pos h]
  omega
theorem eb_yes4 {f0 fl : Int} (h : Builtin.bitAnd fl 1 ≠ 0) : f0 + eb fl 3 + 128 = f0 + eb fl (3 + 1) := by
  show f0 + (bitW fl 64 8 + bitW fl 32 32 + bitW fl 8 64) + 128 = f0 + (bitW fl 64 8 + bitW fl 32 32 + bitW fl 8 64 + bitW fl 1 128)
  have e : bitW fl 1 128 = 128 := by unfold bitW; rw [if_neg h]
  omega
theorem eb_no4 {f0 fl : Int} (h : Builtin.bitAnd fl 1 = 0) : f0 + eb fl 3 = f0 + eb fl (3 + 1) := by
  show f0 + (bitW fl 64 8 + bitW fl 32 32 + bitW fl 8 64) = f0 + (bitW fl 64 8 + bitW fl 32 32 + bitW fl 8 64 + bitW fl 1 128)
  have e : bitW fl 1 128 = 0 := by unfold bitW; rw [if_pos h]
  omega
noncomputable def underW (fl : Int) : Int := if (Builtin.bitAnd fl 3584).fdiv (2 ^ Int.toNat 9) = 0 then 0 else 16
theorem underW_yes {fl : Int} (h : (Builtin.bitAnd fl 3584).fdiv (2 ^ Int.toNat 9) ≠ 0) : underW fl = 16 := if_neg h
theorem underW_no {fl : Int} (h : (Builtin.bitAnd fl 3584).fdiv (2 ^ Int.toNat 9) = 0) : underW fl = 0 := if_pos h
noncomputable def weightC (c : Cell) : Int :=
  if c.width = 0 then 0 else (if c.codes = [] then 32 else c.codes.sum) + eb c.flags 4 + underW c.flags + if c.g then 4 else 0
noncomputable def WPost (c : Cell) (N : Led) (r : Value) (n' : Led) : Prop := n' = N ∧ ∃ t, r = .int (weightC c) t
theorem weight0 {codes : List Int} {wd fl : Int} {g : Bool} (h : wd = 0) : 0 = weightC ⟨codes, wd, fl, g⟩ := by
  unfold weightC; rw [if_pos h]
theorem weightN {codes : List Int} {wd fl f0 : Int} {g : Bool} (h : wd ≠ 0) (z : f0 = if codes = [] then 32 else codes.sum) : f0 + eb fl 4 + underW fl + (if g then 4 else 0) = weightC ⟨codes, wd, fl, g⟩ := by
  unfold weightC; rw [if_neg h, z]
theorem ints_cases {cv : List Value} {codes : List Int} (hi : IntsAre cv codes) (hl : codes.length ≤ 2) : (codes = [] ∧ cv = []) ∨ (∃ x t, codes = [x] ∧ cv = [.int x t]) ∨ (∃ x y t u, codes = [x, y] ∧ cv = [.int x t, .int y u]) := by
  cases hi with
  | nil => exact .inl ⟨rfl, rfl⟩
  | cons x t h =>
    cases h with
    | nil => exact .inr (.inl ⟨x, t, rfl, rfl⟩)
    | cons y u h =>
      cases h with
      | nil => exact .inr (.inr ⟨x, y, t, u, rfl, rfl⟩)
      | cons z v h => exact absurd hl (by simp only [List.length_cons]; omega)
noncomputable abbrev twP : Program := PySem.Challenge.rw_np0284_01.row.prog
theorem wss_app {top sc : Scope} {cx : TablesWhole.Ctx} (l1 l2 : List Stmt) : TablesWhole.wSs TablesWhole.holds top cx sc (l1 ++ l2) = (TablesWhole.wSs TablesWhole.holds top cx sc l1 && TablesWhole.wSs TablesWhole.holds top cx sc l2) := by
  induction l1 with
  | nil => rfl
  | cons x l ih =>
    show (TablesWhole.wS TablesWhole.holds top cx sc x && TablesWhole.wSs TablesWhole.holds top cx sc (l ++ l2)) = ((TablesWhole.wS TablesWhole.holds top cx sc x && TablesWhole.wSs TablesWhole.holds top cx sc l) && _)
    rw [ih, Bool.and_assoc]
theorem wss_cut {top sc : Scope} {cx : TablesWhole.Ctx} (n : Nat) (l : List Stmt) (h1 : TablesWhole.wSs TablesWhole.holds top cx sc (l.take n) = true) (h2 : TablesWhole.wSs TablesWhole.holds top cx sc (l.drop n) = true) : TablesWhole.wSs TablesWhole.holds top cx sc l = true := by
  rw [← List.take_append_drop n l, wss_app, h1, h2]; rfl
theorem tw_told : TablesWhole.wSs TablesWhole.gather twP.main.scope ⟨twP.main.scope, [], [], [], none⟩ twP.main.scope twP.main.body = [] := by kernel_rfl
noncomputable abbrev twC : TablesWhole.Ctx := ⟨twP.main.scope, [], [], [], none⟩
theorem tw_a : TablesWhole.wSs TablesWhole.holds twP.main.scope twC twP.main.scope (twP.main.body.take 40) = true := by kernel_rfl
theorem tw_b : TablesWhole.wSs TablesWhole.holds twP.main.scope twC twP.main.scope ((twP.main.body.drop 40).take 13) = true := by kernel_rfl
theorem tw_c : TablesWhole.wSs TablesWhole.holds twP.main.scope twC twP.main.scope ((twP.main.body.drop 40).drop 13) = true := by kernel_rfl
theorem tw_n : TablesWhole.noTwice twP.main.scope = true := by kernel_rfl
theorem wmod (m : Module) (h0 : TablesWhole.wSs TablesWhole.gather m.scope ⟨m.scope, [], [], [], none⟩ m.scope m.body = []) (h1 : TablesWhole.noTwice m.scope = true) (h2 : TablesWhole.wSs TablesWhole.holds m.scope ⟨m.scope, [], [], [], none⟩ m.scope m.body = true) : TablesWhole.wModule TablesWhole.holds m = true := by
  unfold TablesWhole.wModule
  rw [h0]
  show (true && (TablesWhole.noTwice m.scope && (TablesWhole.wSs TablesWhole.holds m.scope ⟨m.scope, [], [], [], none⟩ m.scope m.body && true))) = true
  rw [h1, h2]
  rfl
theorem wprog (p : Program) (h1 : TablesWhole.wModule TablesWhole.holds p.main = true) (h2 : (TablesWhole.holds.all (p.modules.map fun (_, _, m) => TablesWhole.wModule TablesWhole.holds m) && (TablesWhole.holds.all (p.parses.map (TablesWhole.wParse TablesWhole.holds)) && (TablesWhole.holds.all (p.harvested.map (TablesWhole.wParse TablesWhole.holds)) && true))) = true) : p.tablesWhole = true := by
  show (TablesWhole.wModule TablesWhole.holds p.main && _) = true
  rw [h1]
  exact h2
theorem tw_bc : TablesWhole.wSs TablesWhole.holds twP.main.scope twC twP.main.scope (twP.main.body.drop 40) = true := by
  with_reducible exact wss_cut 13 (twP.main.body.drop 40) tw_b tw_c
theorem tw_s : TablesWhole.wSs TablesWhole.holds twP.main.scope twC twP.main.scope twP.main.body = true := by
  with_reducible exact wss_cut 40 twP.main.body tw_a tw_bc
theorem tw : twP.tablesWhole = true := by
  with_reducible exact wprog twP (wmod twP.main tw_told tw_n tw_s) (by kernel_rfl)
local macro_rules | `(tactic| k_mem) => `(tactic| k_extra "own mem")
local macro_rules | `(tactic| k_ne) => `(tactic| k_extra "own ne")
local macro_rules | `(tactic| k_all) => `(tactic| k_extra "own all")
local macro_rules | `(tactic| k_room) => `(tactic| ktr_room)
local macro_rules | `(tactic| k_units) => `(tactic| ktr_units)
local macro_rules | `(tactic| units_room) => `(tactic| ktr_units)
local macro_rules | `(tactic| ktn_lt) => `(tactic| k_extra "own lt")
local macro_rules | `(tactic| ktn_open) => `(tactic| k_extra "own open")
local macro_rules | `(tactic| walk_at "ite") => `(tactic| (k_here; (refine split_dec ?_ ?_ <;> intro hite <;> try (exfalso; omega))))
theorem setup_W1 : True := by
  (k_with "own mem" => first | exact List.Mem.head _ | ((with_reducible show _ ∈ List.cons _ _); refine List.mem_cons_of_mem _ ?_; k_extra "own mem") | ((with_reducible show _ ∈ HAppend.hAppend _ _); first | (refine List.mem_append.mpr (Or.inr ?_); k_extra "own mem") | (refine List.mem_append.mpr (Or.inl ?_); k_extra "own mem")) | ((fail_if_success (with_reducible show _ ∈ List.cons _ _)); first | with_reducible assumption | assumption))
  (k_with "own ne" => (refine neN ?_; (try dsimp only); first | with_reducible assumption | exact Ne.symm (by with_reducible assumption) | omega))
  (k_with "own all" => first | with_reducible assumption | ((with_reducible show ∀ p ∈ List.cons _ _, _); (refine List.forall_mem_cons.mpr ⟨?a, ?b⟩); (case a => k_ne); (case b => k_extra "own all")) | ((with_reducible show ∀ p ∈ HAppend.hAppend _ _, _); (refine off_app ?_ (by assumption) (by k_extra "own mem")); k_extra "own all") | exact List.forall_mem_nil _ | exact off_lt (by ktn_lt))
  (k_with "own lt" => first | assumption | exact (by assumption : _ ∧ AllLt _ _).2 | exact (by assumption : _ ∧ _ ∧ AllLt _ _).2.2 | exact (by assumption : _ ∧ _ ∧ _ ∧ AllLt _ _).2.2.2 | exact (by assumption : _ ∧ _ ∧ _ ∧ _ ∧ AllLt _ _).2.2.2.2 | exact (by assumption : _ ∧ _ ∧ _ ∧ _ ∧ _ ∧ AllLt _ _).2.2.2.2.2 | exact (by assumption : _ ∧ _ ∧ _ ∧ _ ∧ _ ∧ _ ∧ AllLt _ _).2.2.2.2.2.2 | exact (by assumption : _ ∧ _ ∧ _ ∧ _ ∧ _ ∧ _ ∧ _ ∧ AllLt _ _).2.2.2.2.2.2.2 | exact (by assumption : _ ∧ _ ∧ _ ∧ _ ∧ _ ∧ _ ∧ _ ∧ _ ∧ AllLt _ _).2.2.2.2.2.2.2.2 | exact (by assumption : _ ∧ _ ∧ _ ∧ _ ∧ _ ∧ _ ∧ _ ∧ _ ∧ _ ∧ AllLt _ _).2.2.2.2.2.2.2.2.2 | exact (by assumption : _ ∧ _ ∧ _ ∧ _ ∧ _ ∧ _ ∧ _ ∧ _ ∧ _ ∧ _ ∧ AllLt _ _).2.2.2.2.2.2.2.2.2.2 | exact (by assumption : _ ∧ _ ∧ _ ∧ _ ∧ _ ∧ _ ∧ _ ∧ _ ∧ _ ∧ _ ∧ _ ∧ AllLt _ _).2.2.2.2.2.2.2.2.2.2.2 | exact (by assumption : _ ∧ _ ∧ _ ∧ _ ∧ _ ∧ _ ∧ _ ∧ _ ∧ _ ∧ _ ∧ _ ∧ _ ∧ AllLt _ _).2.2.2.2.2.2.2.2.2.2.2.2 | exact (by assumption : _ ∧ _ ∧ _ ∧ _ ∧ _ ∧ _ ∧ _ ∧ _ ∧ _ ∧ _ ∧ _ ∧ _ ∧ _ ∧ AllLt _ _).2.2.2.2.2.2.2.2.2.2.2.2.2 | exact (by assumption : _ ∧ _ ∧ _ ∧ _ ∧ _ ∧ _ ∧ _ ∧ _ ∧ _ ∧ _ ∧ _ ∧ _ ∧ _ ∧ _ ∧ AllLt _ _).2.2.2.2.2.2.2.2.2.2.2.2.2.2 | exact (by assumption : _ ∧ _ ∧ _ ∧ _ ∧ _ ∧ _ ∧ _ ∧ _ ∧ _ ∧ _ ∧ _ ∧ _ ∧ _ ∧ _ ∧ _ ∧ AllLt _ _).2.2.2.2.2.2.2.2.2.2.2.2.2.2.2 | exact (by assumption : _ ∧ _ ∧ _ ∧ _ ∧ _ ∧ _ ∧ _ ∧ _ ∧ _ ∧ _ ∧ _ ∧ _ ∧ _ ∧ _ ∧ _ ∧ _ ∧ AllLt _ _).2.2.2.2.2.2.2.2.2.2.2.2.2.2.2.2 | exact (by assumption : _ ∧ _ ∧ _ ∧ _ ∧ _ ∧ _ ∧ _ ∧ _ ∧ _ ∧ _ ∧ _ ∧ _ ∧ _ ∧ _ ∧ _ ∧ _ ∧ _ ∧ AllLt _ _).2.2.2.2.2.2.2.2.2.2.2.2.2.2.2.2.2 | exact allLt_all (by assumption) | exact ⟨(by dsimp only; first | assumption | omega), (by ktn_lt)⟩ | exact trivial)
  (k_with "base" => (k_here; (with_reducible show wpAny _ _ (subscriptTail _ _ (Value.ref _) (Value.int _ _)) _ _ _); k_dflt (refine' kim_tup ?b4N ?b4m ?b4c ?b4d ?b4lo ?b4hi ?b4j ?b4x ?_; (case b4N => k_asm); (case b4m => k_extra "own mem"); (case b4c => rfl); (case b4d => rfl); (case b4lo => decide); (case b4hi => decide); (case b4j => rfl); (case b4x => rfl))))
  (k_with "base" => (k_here; (with_reducible show wpAny _ _ (call (Value.builtin "len") [Value.ref _]) _ _ _); k_dflt (refine' ls_len ?b5N ?b5m ?b5l ?b5z ?_; (case b5N => k_asm); (case b5m => k_extra "own mem"); (case b5l => with_reducible assumption); (case b5z => decide))))
  (k_with "base" => (k_here; (with_reducible show wpAny _ _ (subscriptTail _ _ (Value.ref _) (Value.int _ _)) _ _ _); k_dflt (refine' cs_item ?b6N ?b6m ?b6C ?b6h0 ?b6h1 ?b6hf ?_; (case b6N => k_asm); (case b6m => k_extra "own mem"); (case b6C => assumption); (case b6h0 => l_bnd); (case b6h1 => l_bnd); (case b6hf => l_bnd)); intro w9a' w9ac' w9ap' w9cv' w9c' w9tw' w9tf' w9t1' w9t2' w9t3' w9t4' w9hc' w9m1' w9m2' w9m3' w9m4'))
  (k_with "base" => (k_here; (with_reducible show wpAny _ _ (setItem (Value.ref _) (Value.int _ _) _) _ _ _); k_dflt (refine' cs_set ?b7F ?b7N ?b7U ?b7h0 ?b7h1 ?b7hf ?_; (case b7F => k_asm); (case b7N => k_asm); (case b7U => k_upd); (case b7h0 => l_bnd); (case b7h1 => ((try simp only [List.length_set]); l_bnd)); (case b7hf => l_bnd)); intro w9h' w9F' w9N'; (try k_sweep)))
  (k_with "own open" => first | exact Tail.cons (Tail.cons (Tail.cons (Tail.cons (Tail.cons (Tail.cons (Tail.cons (Tail.cons (Tail.cons Tail.here)))))))) | exact Tail.cons (Tail.cons (Tail.cons (Tail.cons (Tail.cons (Tail.cons (Tail.cons (Tail.cons Tail.here))))))) | exact Tail.cons (Tail.cons (Tail.cons (Tail.cons (Tail.cons (Tail.cons (Tail.cons Tail.here)))))) | exact Tail.cons (Tail.cons (Tail.cons (Tail.cons (Tail.cons (Tail.cons Tail.here))))) | exact Tail.cons (Tail.cons (Tail.cons (Tail.cons (Tail.cons Tail.here)))) | exact Tail.cons (Tail.cons (Tail.cons (Tail.cons Tail.here))) | exact Tail.cons (Tail.cons (Tail.cons Tail.here)) | exact Tail.cons (Tail.cons Tail.here) | exact Tail.cons Tail.here | exact Tail.here)
  (k_with "base" => (k_here; (with_reducible show wpAny _ _ (subscriptTail _ _ (Value.ref _) (Value.int _ _)) _ _ _); k_dflt (refine' cs_item_set ?b9N ?b9m ?b9C ?b9hj ?b9hne ?b9h0 ?b9h1 ?b9hf ?_; (case b9N => k_asm); (case b9m => k_extra "own mem"); (case b9C => assumption); (case b9hj => l_bnd); (case b9hne => omega); (case b9h0 => l_bnd); (case b9h1 => l_bnd); (case b9hf => l_bnd)); intro w9a' w9ac' w9ap' w9cv' w9c' w9tw' w9tf' w9t1' w9t2' w9t3' w9t4' w9hc' w9m1' w9m2' w9m3' w9m4'))
  (k_with "base" => (k_here; (with_reducible show wpAny _ _ (binaryOp Operator.Mult (Value.ref _) (Value.int _ _)) _ _ _); k_dflt (refine' KMa.mul ?b10F ?b10N ?b10l ?b10lo ?b10hi ?b10z ?b10e ?_; (case b10F => k_asm); (case b10N => k_asm); (case b10l => is_list); (case b10lo => first | omega | decide); (case b10hi => first | omega | decide); (case b10z => (simp only [List.length_cons, List.length_nil]; decide)); (case b10e => (simp only [gt_iff_lt, Int.reduceLT, if_true, if_false, ↓reduceIte, Int.reduceToNat, List.replicate_succ, List.replicate_zero, List.flatten_cons, List.flatten_nil, List.cons_append, List.nil_append, List.append_nil]; first | done | exact rfl)); k_whole); intro w9D' w9h' w9F' w9N' w9l1; (try k_lt w9l1); (try k_sweep)))
  (k_with "base" => (k_here; (with_reducible show wpAny _ _ (call (Value.ref 83) _) _ _ _); k_dflt ((refine' Ctr.useT (blank_c _ _ _ _ _ _ _ _ _ _ _ _ ?b11hp) ?b11hT ?b11B ?b11F ?b11X ?b11N ?b11T ?b11k ?b11d ?b11u ?_; (case b11N => k_asm); (case b11hT => ktn_open); (case b11B => k_asm); (case b11F => k_asm); (case b11X => k_asm); (case b11T => k_asm); (case b11k => first | exact rfl | assumption); (case b11hp => k_extra "own mem"); (case b11d => ktr_room); (case b11u => ktr_units)); intro w9r' w9X' w9h' w9tk' w9hA' w9hP' w9F' w9N'; (try dsimp only [id] at w9N'); (have w9hQ' := w9hP'); obtain ⟨_, _, _, _, _, _, _, _, _, _, w9hr', _, _, _, _⟩ := w9hQ'; subst w9hr'; (try k_sweep))))
  (k_with "own pick" => first | exact Pick.here | (refine' Pick.cons' ?hpk ?epk; (case epk => exact rfl); (case hpk => k_extra "own pick")))
  (k_with "own sub" => first | assumption | exact fun _ h => h | (refine sub_app2 ?_; k_extra "own sub") | (refine sub_tail ?_; k_extra "own sub") | (refine sub_skip ?_; k_extra "own sub"))
  (k_with "base" => (k_here; (with_reducible show wpAny _ _ (call (Value.ref 531) _) _ _ _); k_dflt ((refine' Ctr.useC (part_c _ _ _ _ _ _ _ _ _ _ _ _ ?b14hC ?b14hS ?b14hl ?b14ho ?b14h0 ?b14h1) ?b14hP ?b14hT ?b14B ?b14F ?b14X ?b14N ?b14T ?b14k ?b14d ?b14u ?_; (case b14N => k_asm); (case b14hP => k_extra "own pick"); (case b14hC => assumption); (case b14hS => k_extra "own sub"); (case b14hl => l_bnd); (case b14ho => k_extra "own all"); (case b14h0 => l_bnd); (case b14h1 => l_bnd); (case b14hT => ktn_open); (case b14B => k_asm); (case b14F => k_asm); (case b14X => k_asm); (case b14T => k_asm); (case b14k => first | exact rfl | assumption); (case b14d => ktr_room); (case b14u => ktr_units)); intro w9X' w9vs' w9h' w9tk' w9hA' w9hC' w9hl' w9F' w9N'; (try dsimp only [id] at w9N'); (try k_sweep))))
  (k_with "base" => (k_here; (with_reducible show wpAny _ _ (call (Value.ref 524) _) _ _ _); k_dflt ((refine' Ctr.useT (right_c _ _ _ _ _ _ _ ⟨_, _, _, _⟩ _ _ _ _ _ _ _ _ ?b15h1 ?b15h2) ?b15hT ?b15B ?b15F ?b15X ?b15N ?b15T ?b15k ?b15d ?b15u ?_; (case b15N => k_asm); (case b15h1 => k_extra "own mem"); (case b15h2 => assumption); (case b15hT => ktn_open); (case b15B => k_asm); (case b15F => k_asm); (case b15X => k_asm); (case b15T => k_asm); (case b15k => first | exact rfl | assumption); (case b15d => ktr_room); (case b15u => ktr_units)); intro w9r' w9X' w9h' w9tk' w9hA' w9hP' w9F' w9N'; (try dsimp only [id] at w9N'); (have w9hQ' := w9hP'); obtain ⟨_, _, _, _, _, _, _, _, _, _, w9hr', _, _, _, _⟩ := w9hQ'; subst w9hr'; (try k_sweep))))
  (k_with "base" => (k_here; (with_reducible show wpAny _ _ (call (Value.ref 1117) _) _ _ _); k_dflt ((refine' Ctr.useD (draw_c _ _ _ _ _ _ _ _ _ _ _ ?b16hD ?b16hm ?b16hm2 ?b16hdl ?b16hod ?b16hol) ?b16hP1 ?b16hP2 ?b16B ?b16F ?b16X ?b16N ?b16T ?b16k ?b16d ?b16u ?_; (case b16N => k_asm); (case b16hP1 => k_extra "own pick"); (case b16hD => assumption); (case b16hP2 => k_extra "own pick"); (case b16hm => first | decide | omega); (case b16hm2 => first | decide | omega); (case b16hdl => assumption); (case b16hod => k_extra "own all"); (case b16hol => k_extra "own all"); (case b16B => k_asm); (case b16F => k_asm); (case b16X => k_asm); (case b16T => k_asm); (case b16k => first | exact rfl | assumption); (case b16d => ktr_room); (case b16u => ktr_units)); intro w9x' w9t' w9od' w9ol' w9h' w9tk' w9hx0' w9hx1' w9hD' w9F' w9N'; (have w9hxx' := And.intro w9hx0' w9hx1'); (try k_sweep))))
  (k_with "base" => (k_here; (with_reducible show wpAny _ _ (exec (Stmt.For _ _ _ _ _) _) _ _ _); (rename Fr _ _ _ _ => w9lF'); (with_reducible refine' For_turns w9lF' ?_ ?b17hs ?b17hE); (case b17hs => (intro _; k_dflt rfl)); (case b17hE => first | with_reducible assumption | passes_own); k_whole))
  (k_with "base" => (k_here; (with_reducible show wpAny _ _ (subscriptTail _ _ (Value.ref _) (Value.int _ _)) _ _ _); k_dflt (refine' pick_at ?b18N ?b18m ?b18h0 ?b18h1 ?b18hx ?_; (case b18N => k_asm); (case b18hx => assumption); (case b18m => k_extra "own mem"); (case b18h0 => l_bnd); (case b18h1 => l_bnd))))
  (k_with "base" => (k_here; (with_reducible show wpAny _ _ (subscriptTail _ _ (Value.ref _) (Value.int _ _)) _ _ _); k_dflt (refine' pick_codes ?b19N ?b19h0 ?b19h1 ?b19ia ?b19oa ?b19la ?b19ib ?b19ob ?b19lb ?b19ic ?b19oc ?b19lc ?_; (case b19N => k_asm); (case b19h0 => l_bnd); (case b19h1 => l_bnd); (case b19ia => exact .cons _ _ .nil); (case b19ib => exact .cons _ _ (.cons _ _ .nil)); (case b19ic => exact .cons _ _ .nil); (case b19oa => exact codesOk1 (by omega) (by omega)); (case b19ob => exact codesOk2 (by omega) (by omega) (by omega) (by omega)); (case b19oc => exact codesOk1 (by omega) (by omega)); (case b19la => ktn_lt); (case b19lb => ktn_lt); (case b19lc => ktn_lt)); intro w9t' w9cv' w9codes' w9hco' w9hci' w9l1 w9N'; (try simp only [AllLt, and_true] at w9l1)))
  (k_with "base" => (k_here; (with_reducible show wpAny _ _ (subscriptTail _ _ (Value.ref _) (Value.int _ _)) _ _ _); k_dflt (refine' cl_item_ok ?b20N ?b20m ?b20C ?b20ok ?b20h0 ?b20h1 ?b20hf ?_; (case b20N => k_asm); (case b20m => k_extra "own mem"); (case b20C => assumption); (case b20ok => assumption); (case b20h0 => l_bnd); (case b20h1 => l_bnd); (case b20hf => l_bnd)); intro w9a' w9ac' w9cv' w9c' w9tw' w9tf' w9hc' w9hok' w9m1' w9m2' w9m3'))
  (k_with "base" => (k_here; (with_reducible show wpAny _ _ (subscriptTail _ _ (Value.ref _) (Value.int _ _)) _ _ _); k_dflt (refine' cl_known ?b21N ?b21m ?b21C ?b21h0 ?b21hf ?b21hc ?_; (case b21N => k_asm); (case b21m => k_extra "own mem"); (case b21C => assumption); (case b21hc => assumption); (case b21h0 => l_bnd); (case b21hf => l_bnd)); intro w9a' w9ac' w9cv' w9tw' w9tf' w9m1' w9m2' w9m3'))
  (k_with "base" => (k_here; (with_reducible show wpAny _ _ (subscriptTail _ _ (Value.ref _) (Value.int _ _)) _ _ _); k_dflt (refine' cl_known_set ?b22N ?b22m ?b22C ?b22hc ?b22h0 ?b22hj ?b22hne ?b22hf ?_; (case b22N => k_asm); (case b22m => k_extra "own mem"); (case b22C => assumption); (case b22hc => assumption); (case b22h0 => l_bnd); (case b22hj => l_bnd); (case b22hne => omega); (case b22hf => l_bnd)); intro w9a' w9ac' w9cv' w9tw' w9tf' w9m1' w9m2' w9m3'))
  (k_with "W1 step" => k_extra "base")
  (k_with "W1 steps" => repeat' (first | k_extra "W1 step" | (k_unfold; (try dsimp only)) | (k_end; wrow_close) | walk1 | (dsimp only; walk1) | (leave1; walk_say "STEP leave1"; try dsimp only) | fail "no step"))
  trivial
theorem blank_c (w : World) (mean : ExcName → Option Value) (mg mb : Str → Option Value) (p : Nat) (t1 t2 t3 t4 t5 : Tok) (fl : Int) (T : Led) (hp : (p, tp [.int fl t1, .int (-1) t2, .int (-1) t3, .int (-1) t4, .int 0 t5]) ∈ T) :
   Ctr w mean mg mb 83 4 100 [.ref p] T (fun r news' => ∃ X, news' = X ++ T ∧ Above X T ∧ CellS X r blankC) := by
  unfold Ctr
  k_fill
  intro dp un gd cn cs a ccd cl outer A₀ base h₀ L m s Q E B F X N Tp hk hd hu hret
  refine wpAny_call ?_
  k_dflt cell_enter
  k_extra "W1 steps"
  refine hret _ _ _ _ ?_ (by k_asm) (by k_asm)
  refine ⟨[_, _, _], rfl, Above.cons (by ktn_lt) (Above.cons (by ktn_lt) (Above.cons (by ktn_lt) Above.nil)), ?_⟩
  exact ⟨_, _, _, [], _, _, _, _, _, _, rfl, .head _, .tail _ (.tail _ (.head _)), .nil, .tail _ (.head _)⟩
theorem right_c (w : World) (mean : ExcName → Option Value) (mg mb : Str → Option Value) (a ap : Nat) (x : Value) (c : Cell) (tw tf t1 t2 t3 t4 : Tok) (S T : Led)
   (h1 : (a, tp [x, .int c.width tw, .ref ap, .bool c.g]) ∈ T) (h2 : (ap, tp [.int c.flags tf, .int (-1) t1, .int (-1) t2, .int (-1) t3, .int 0 t4]) ∈ S) :
   Ctr w mean mg mb 524 4 100 [.ref a] T (fun r news' => ∃ X, news' = X ++ T ∧ Above X T ∧ CellS (X ++ S) r ⟨[], 0, c.flags, c.g⟩) := by
  unfold Ctr
  k_fill
  intro dp un gd cn cs a ccd cl outer A₀ base h₀ L m s Q E B F X N Tp hk hd hu hret
  refine wpAny_call ?_
  k_dflt cell_enter
  k_extra "W1 steps"
  refine hret _ _ _ _ ?_ (by k_asm) (by k_asm)
  refine ⟨[_, _], rfl, Above.cons (by ktn_lt) (Above.cons (by ktn_lt) Above.nil), ?_⟩
  exact ⟨_, _, _, [], _, _, _, _, _, _, rfl, .head _, .tail _ (.head _), .nil, .tail _ (.tail _ h2)⟩
theorem setup_W2 : True := by
  (k_with "W2 step" => k_extra "base")
  (k_with "W2 steps" => repeat' (first | k_extra "W2 step" | (k_unfold; (try dsimp only)) | (k_end; wrow_close) | walk1 | (dsimp only; walk1) | (leave1; walk_say "STEP leave1"; try dsimp only) | fail "no step"))
  trivial
theorem part_c (w : World) (mean : ExcName → Option Value) (mg mb : Str → Option Value) (C : Nat) (vs : List Value) (cs : List Cell) (n : Nat) (k : Int) (tk : Tok) (S T : Led)
   (hC : AllC (CellS S) vs cs) (hS : ∀ p ∈ S, p ∈ T) (hl : (vs.length : Int) = 5) (ho : ∀ p ∈ T, p.1 ≠ C) (h0 : 0 ≤ k) (h1 : k ≤ 6) :
   Ctr w mean mg mb 531 6 200 [.ref C, .int k tk] ((C, listOf vs.toArray n) :: T) (CsPost C n vs (partA cs k) S T) := by
  have hCT : AllC (CellS T) vs cs := hC.mono fun _ _ h => h.mono hS
  unfold Ctr
  k_fill
  intro dp un gd cn cs' a ccd cl outer A₀ base h₀ L m s Q E B F X N Tp hk hd hu hret
  refine wpAny_call ?_
  k_dflt cell_enter
  k_extra "W2 steps"
  all_goals (refine hret _ _ _ _ ?_ (by k_asm) (by k_asm))
  · exact part_end hC hl (by assumption) (by assumption) (by assumption) (by assumption) (by assumption) (by assumption) (by assumption) (by assumption)
  · exact part_same hC (partA_3 (by assumption) (by assumption))
  · exact part_same hC (partA_2 hC hl (by assumption))
  · exact part_same hC (partA_1 (by assumption))
theorem setup_W3 : True := by
  (k_with "W3 step" => k_extra "base")
  (k_with "W3 steps" => repeat' (first | k_extra "W3 step" | (k_unfold; (try dsimp only)) | (k_end; wrow_close) | walk1 | (dsimp only; walk1) | (leave1; walk_say "STEP leave1"; try dsimp only) | fail "no step"))
  trivial
theorem put_c (w : World) (mean : ExcName → Option Value) (mg mb : Str → Option Value) (li ld C a ac ap : Nat) (cv : List Value) (codes : List Int) (wd fl : Int) (g : Bool) (tw tf t1 t2 t3 t4 tk u1 u2 u3 : Tok) (vs : List Value) (cs : List Cell) (n : Nat) (col : Int) (S T : Led)
   (hC : AllC (CellS S) vs cs) (hS : ∀ p ∈ S, p ∈ T) (hl : (vs.length : Int) = 5) (ho : ∀ p ∈ T, p.1 ≠ C) (h0 : 0 ≤ col) (h1 : col < 5) (hw : wd = 1 ∨ wd = 2 ∧ col < 4)
   (hli : (li, instObj 670 ld) ∈ T) (hld : (ld, lineDict w C u1 u2 u3) ∈ T)
   (m1 : (a, tp [.ref ac, .int wd tw, .ref ap, .bool g]) ∈ S) (m2 : (ac, tp cv) ∈ S) (hi : IntsAre cv codes) (m3 : (ap, tp [.int fl tf, .int (-1) t1, .int (-1) t2, .int (-1) t3, .int 0 t4]) ∈ S) :
   Ctr w mean mg mb 588 9 400 [.ref li, .int col tk, .ref a] ((C, listOf vs.toArray n) :: T) (CsPost C n vs (putA cs col ⟨codes, wd, fl, g⟩) S T) := by
  have hcell : CellS S (.ref a) ⟨codes, wd, fl, g⟩ := ⟨_, _, _, _, _, _, _, _, _, _, rfl, m1, m2, hi, m3⟩
  have M1 := hS _ m1
  have M3 := hS _ m3
  rcases hw with rfl | ⟨rfl, hc4⟩
  · unfold Ctr
    k_fill
    intro dp un gd cn cs' a ccd cl outer A₀ base h₀ L m s Q E B F X N Tp hk hd hu hret
    refine wpAny_call ?_
    k_dflt cell_enter
    k_extra "W3 steps"
    all_goals (refine hret _ _ _ _ ?_ (by k_asm) (by k_asm))
    exact put_end1 rfl (by assumption) (by assumption) (by assumption) (by assumption) (by assumption) hcell
  · unfold Ctr
    k_fill
    intro dp un gd cn cs' a ccd cl outer A₀ base h₀ L m s Q E B F X N Tp hk hd hu hret
    refine wpAny_call ?_
    k_dflt cell_enter
    k_extra "W3 steps"
    all_goals (try (exfalso; omega))
    all_goals (refine hret _ _ _ _ ?_ (by k_asm) (news_rot (by k_asm)))
    refine put_end2 (X3 := [_, _]) (o3 := listOf #[] 0) rfl (by assumption) (by assumption) (Above.cons ⟨(by dsimp only; omega), by ktn_lt⟩ (Above.cons ⟨(by dsimp only; omega), by ktn_lt⟩ Above.nil)) (by assumption) (by assumption) (by assumption) hcell ?_
    exact ⟨_, _, _, [], _, _, _, _, _, _, rfl, .head _, .tail _ (.head _), .nil, .tail _ (.tail _ m3)⟩
theorem setup_W4 : True := by
  (k_with "e1" => (k_here; (with_reducible show wpAny _ _ (call (Value.builtin _) [Value.ref _, Value.int 0 _]) _ _ _); k_dflt (refine' pop0 ?e1F ?e1N ?e1U ?e1z ?_; (case e1F => k_asm); (case e1N => k_asm); (case e1U => k_upd); (case e1z => (simp only [List.length_cons] at *; omega))); kl_rest))
  (k_with "e2" => ((with_reducible show @ite Prop _ _ _ _); (k_here; (refine split_bool ?_ ?_ <;> intro hite <;> try (exfalso; revert hite; simp; done)))))
  (k_with "W4 step" => first | k_extra "e2" | k_extra "e1" | k_extra "base")
  (k_with "W4 steps" => repeat' (first | k_extra "W4 step" | (k_unfold; (try dsimp only)) | (k_end; wrow_close) | walk1 | (dsimp only; walk1) | (leave1; walk_say "STEP leave1"; try dsimp only) | fail "no step"))
  trivial
theorem draw_c (w : World) (mean : ExcName → Option Value) (mg mb : Str → Option Value) (d l : Nat) (od ol : Obj) (tk : Tok) (many : Int) (T : Led)
   (hD : DeckOk w l od ol) (hm : 0 < many) (hm2 : many < 1000) (hdl : d ≠ l) (hod : ∀ p ∈ T, p.1 ≠ d) (hol : ∀ p ∈ T, p.1 ≠ l) :
   Ctr w mean mg mb 1117 5 200 [.ref d, .int many tk] ((d, od) :: (l, ol) :: T) (DrawPost w d l many T) := by
  obtain ⟨vs, ns, mx, t, n, rfl, hi, hlen, hns, hdd, h0, h1⟩ := hD
  have hld : l ≠ d := fun e => hdl e.symm
  unfold Ctr
  k_fill
  intro dp un gd cn cs' a ccd cl outer A₀ base h₀ L m s Q E B F X N Tp hk hd hu hret
  cases hi with
  | nil =>
    refine wpAny_call ?_
    k_dflt cell_enter
    k_extra "W4 steps"
    refine hret _ _ _ _ ?_ (by k_asm) (news_drop (by k_asm))
    exact ⟨_, _, _, _, rfl, (fmod_in _ hm).1, (fmod_in _ hm).2, deck_pop .nil hlen hns (by assumption) (fmod_in _ (by decide)).1 (fmod_in _ (by decide)).2, rfl⟩
  | cons i tt hi =>
    have hi0 := hns i (List.Mem.head _)
    have hil := hi.length
    refine wpAny_call ?_
    k_dflt cell_enter
    k_extra "W4 steps"
    refine hret _ _ _ _ ?_ (by k_asm) (news_drop (by k_asm))
    exact ⟨_, _, _, _, rfl, (fmod_in _ hm).1, (fmod_in _ hm).2, deck_pop hi (by simp at hlen; omega) (fun x hx => hns x (.tail _ hx)) hdd h0 h1, rfl⟩
theorem setup_BP : True := by
  (k_with "e3" => (k_here; (with_reducible show wpAny _ _ (call (Value.type "list") [Value.bytes _ _]) _ _ _); k_dflt (refine' list_bytes ?e3F ?e3N ?e3hh ?e3hn ?_; (case e3F => k_asm); (case e3N => k_asm); (case e3hh => exact rfl); (case e3hn => assumption)); intro w9l' w9h' w9tk' w9vs' w9n' w9l1 w9hz' w9hi' w9F' w9N'; (try simp only [AllLt, and_true] at w9l1); (try k_sweep)))
  (k_with "e4" => (k_here; (with_reducible show wpAny _ _ (call (Value.type "zip") [Value.ref _, Value.ref _]) _ _ _); k_dflt (refine' zip_K ?e4F ?e4N ?e4m1 ?e4m2 ?_; (case e4F => k_asm); (case e4N => k_asm); (case e4m1 => k_extra "own mem"); (case e4m2 => k_extra "own mem")); intro w9h' w9z' w9TI' w9TO' w9i1' w9i2' w9oz' w9oTO' w9o1' w9o2' w9za' w9zb' w9zc' w9l1 w9l2 l3 l4 w9F' w9N'))
  (k_with "e5" => (k_here; (with_reducible show wpAny _ _ (call (Value.type "dict") [Value.ref _]) _ _ _); k_dflt (refine' dict_zip_K ?e5F ?e5N ?e5hh ?e5D ?e5z0 ?e5I ?e5hx ?e5hy ?e5hz ?e5a1 ?e5a2 ?e5a3 ?e5a4 ?e5big ?_; (case e5F => k_asm); (case e5N => k_asm); (case e5D => assumption); (case e5hh => exact rfl); (case e5z0 => assumption); (case e5I => assumption); (case e5hx => exact ints_all (by assumption)); (case e5hy => exact ints_all (by assumption)); (case e5hz => assumption); (case e5a1 => assumption); (case e5a2 => assumption); (case e5a3 => assumption); (case e5a4 => assumption); (case e5big => exact Top.nolimit (by k_asm))); intro w9d' w9od' w9h' w9tk' w9l1 w9lo' w9F' w9N' w9hd'; (try simp only [AllLt, and_true] at w9l1); (try k_sweep)))
  (k_with "BP step" => first | k_extra "e5" | k_extra "e4" | k_extra "e3" | k_extra "base")
  (k_with "BP steps" => repeat' (first | k_extra "BP step" | (k_unfold; (try dsimp only)) | (k_end; wrow_close) | walk1 | (dsimp only; walk1) | (leave1; walk_say "STEP leave1"; try dsimp only) | fail "no step"))
  trivial
noncomputable def PairsP (w : World) (X : Led) (r : Value) : Prop := ∃ d od, r = .ref d ∧ (d, od) ∈ X ∧ IntObj PR w od 100 ∧ (d == sysModules) = false
theorem pairs_c (w : World) (mean : ExcName → Option Value) (mg mb : Str → Option Value) (b : Array UInt8) (t : Tok) (l n : Nat) (vs : List Value) (ns : List Int) (T : Led) (hi : IntsAre vs ns) (hn : b.size ≤ 100) (hl : (l, listOf vs.toArray n) ∈ T) :
   Ctr w mean mg mb 114 4 200 [.bytes b t, .ref l] T (fun r news' => ∃ X, news' = X ++ T ∧ Above X T ∧ PairsP w X r) := by
  unfold Ctr
  k_fill
  intro dp un gd cn cs a ccd cl outer A₀ base h₀ L m s Q E B F X N Tp hk hd hu hret
  refine wpAny_call ?_
  k_dflt cell_enter
  k_extra "BP steps"
  rename IntObj _ _ _ _ => hobj
  obtain ⟨kvs, D, h1, h2, h3⟩ := hobj
  refine hret _ _ _ _ ⟨[_, _], rfl, Above.cons (by first | assumption | exact And.right (by assumption)) (Above.cons (by assumption) Above.nil), _, _, rfl, .head _, ⟨kvs, D, h1, h2, by omega⟩, by assumption⟩ (by k_asm) (by k_asm)
section
variable {w : World} {mean : ExcName → Option Value} {mg mb : Str → Option Value} {dp un : Nat} {gd : Option (List Code)} {cn : Str} {cs : Scope} {a : Addr} {ccd : Value} {cl : List (Str × Addr)} {outer : List Env} {A₀ : Around} {base h₀ : Heap} {L : Addr} {m : Str → Option Value} {s : Shared} {Q E : Value → Shared → Prop}
theorem ints_nil : ∃ ns, IntsAre [] ns := ⟨_, .nil⟩
theorem ints_cons {n : Int} {t : Tok} {vs : List Value} (h : ∃ ns, IntsAre vs ns) : ∃ ns, IntsAre (.int n t :: vs) ns := h.elim fun ns q => ⟨n :: ns, .cons _ _ q⟩
theorem pairs_use {b : Array UInt8} {t : Tok} {l n : Nat} {vs : List Value} {R : Led} (B : Below A₀ base outer h₀) (F : Fr h₀ L s.heap m) (X : (Kx w.params).In h₀) (N : News h₀ L s.heap ((l, listOf vs.toArray n) :: R)) (Tp : Top qv (looseW qv lo) mean mg mb h₀) (hk : cs.kind = .function)
    (hi : ∃ ns, IntsAre vs ns) (hn : b.size ≤ 100) (hd : dp + 4 < recursionLimit) (hu : un + 200 < cLine)
    (ret : ∀ (d : Addr) (od : Obj) (h' : Heap) (tk' : Nat), AllLt d R → (d == sysModules) = false → IntObj PR w od 100 → Fr h₀ L h' m → News h₀ L h' ((d, od) :: R) → Q (.ref d) { s with heap := h', toks := tk' }) :
    wpAny (model PySem.Challenge.rw_np0284_01.row.prog w) (ktrTop dp un gd cn cs L a ccd cl outer) (call (.ref 114) [.bytes b t, .ref l]) Q E s := by
  obtain ⟨ns, hi⟩ := hi
  refine pairs_c w mean mg mb b t l n vs ns _ hi hn (.head _) _ _ _ _ _ _ _ _ _ _ _ _ _ _ _ _ _ B F X N Tp hk hd hu ?_
  rintro r news' h' tk' ⟨Y, rfl, hY, d, od, rfl, hm, ho, lo'⟩ F' N'
  refine ret d od h' tk' (allLt_of fun p hp => hY _ hm p (.tail _ hp)) lo' ho F' fun p hp => N' p ?_
  rcases List.mem_cons.mp hp with rfl | hp
  · exact List.mem_append.mpr (.inl hm)
  · exact List.mem_append.mpr (.inr (.tail _ hp))
theorem pairs_drop {b : Array UInt8} {t : Tok} {l n : Nat} {vs : List Value} {R : Led} (B : Below A₀ base outer h₀) (F : Fr h₀ L s.heap m) (X : (Kx w.params).In h₀) (N : News h₀ L s.heap ((l, listOf vs.toArray n) :: R)) (Tp : Top qv (looseW qv lo) mean mg mb h₀) (hk : cs.kind = .function)
    (hi : ∃ ns, IntsAre vs ns) (hn : b.size ≤ 100) (hd : dp + 4 < recursionLimit) (hu : un + 200 < cLine)
    (ret : ∀ (d : Addr) (h' : Heap) (tk' : Nat), Fr h₀ L h' m → News h₀ L h' R → Q (.ref d) { s with heap := h', toks := tk' }) :
    wpAny (model PySem.Challenge.rw_np0284_01.row.prog w) (ktrTop dp un gd cn cs L a ccd cl outer) (call (.ref 114) [.bytes b t, .ref l]) Q E s :=
  pairs_use B F X N Tp hk hi hn hd hu fun d od h' tk' _ _ _ F' N' => ret d h' tk' F' (news_drop N')
end
noncomputable def BObj (w : World) (o : Obj) (n : Nat) : Prop := ∃ kvs, o.IsDictOf (bytesKind PR w) kvs ∧ kvs.length ≤ n
theorem merged_len {K : Type} [DecidableEq K] : ∀ (more kvs : List (K × Value)), (merged kvs more).length ≤ kvs.length + more.length
  | [], kvs => by show kvs.length ≤ _; omega
  | p :: more, kvs => by
    have h := merged_len more (stored kvs p.1 p.2)
    have h2 := stored_length_le kvs p.1 p.2
    show (merged (stored kvs p.1 p.2) more).length ≤ _
    rw [List.length_cons]
    omega
theorem stored_self {K : Type} [DecidableEq K] (kvs : List (K × Value)) (k : K) (v : Value) : valueAt (stored kvs k v) k = some v := by
  unfold stored
  by_cases h : (kvs.any fun kv => decide (kv.1 = k)) = true
  · rw [if_pos h]
    unfold valueAt
    induction kvs with
    | nil => simp at h
    | cons p r ih =>
      by_cases e : p.1 = k
      · simp [e]
      · have : (r.any fun kv => decide (kv.1 = k)) = true := by simpa [e] using h
        have q := ih this
        simpa [e] using q
  · rw [if_neg h]
    unfold valueAt
    have hn : kvs.find? (fun kv => decide (kv.1 = k)) = none := by
      rw [List.find?_eq_none]
      intro x hx hk
      exact h (List.any_eq_true.mpr ⟨x, hx, hk⟩)
    rw [List.find?_append, hn]
    simp
section
variable {w : World} {A : Around} {E : Value → Shared → Prop} {s : Shared} {h₀ : Heap} {L d : Addr} {m : Str → Option Value} {news : List (Addr × Obj)} {g : Obj → List (Addr × Obj)} {o : Obj} {n : Nat}
theorem kdn_made_bytes {vs : List (Value × Value)} {Q : Value → Shared → Prop} (F : Fr h₀ L s.heap m) (N : News h₀ L s.heap news) (U : UpdF d o news g) (hd : o.IsDictOf (bytesKind PR w) []) (hc : ∃ kvs, Carries (bytesKind PR w) vs kvs) (hn : vs.length ≤ 20)
    (h : ∀ h' o', Fr h₀ L h' m → News h₀ L h' (g o') → BObj w o' 20 → Q (.ref d) { s with heap := h', toks := s.toks + vs.length }) : KdnMade PR w (bytesKind PR w) d Q vs s := by
  obtain ⟨pre, post, rfl, hg, a, b⟩ := U.split
  obtain ⟨kvs, hk⟩ := hc
  have hm := N (d, o) (List.mem_append_right _ (.head _))
  refine ⟨kvs, hk, Heap.dictOf_iff.mpr ⟨o, hm.1, hd⟩, fun h' hmm hs => ?_⟩
  obtain ⟨o', ho', hd'⟩ := Heap.dictOf_iff.mp hmm
  have e1 := hk.length
  have e2 := merged_len kvs []
  exact h h' o' (F.change hs hm.2.1 hm.2.2) (hg o' ▸ N.setIn a b hs ho') ⟨_, hd', by simp at e2; omega⟩
theorem car_nil : ∃ kvs, Carries (bytesKind PR w) [] kvs := ⟨[], trivial⟩
theorem car_cons {b : List UInt8} {t : Tok} {v : Value} {vs : List (Value × Value)} (h : ∃ kvs, Carries (bytesKind PR w) vs kvs) : ∃ kvs, Carries (bytesKind PR w) ((.bytes b.toArray t, v) :: vs) kvs :=
  h.elim fun kvs q => ⟨(b, v) :: kvs, bytesKind_is _ _ _ _, rfl, q⟩
theorem b_set {b : List UInt8} {t : Tok} {v : Value} {Q : Unit → Shared → Prop} (F : Fr h₀ L s.heap m) (N : News h₀ L s.heap news) (U : UpdF d o news g) (hd : BObj w o n) (hn : n ≤ 1000)
    (h : ∀ h' o', Fr h₀ L h' m → News h₀ L h' (g o') → BObj w o' (n + 1) → (∃ kvs, o'.IsDictOf (bytesKind PR w) kvs ∧ kvs.length ≤ n + 1 ∧ valueAt kvs b = some v) → Q () { s with heap := h', toks := s.toks + 1 }) :
    wpAny (model PR w) A (setItem (.ref d) (.bytes b.toArray t) v) Q E s := by
  obtain ⟨kvs, hk, hl⟩ := hd
  refine kda_set F N U hk (bytesKind_is _ _ _ _) (by rw [sizeLine_eq]; omega) fun h' o' F' N' hd' => ?_
  have e := stored_length_le kvs b v
  exact h h' o' F' N' ⟨_, hd', by omega⟩ ⟨_, hd', by omega, stored_self _ _ _⟩
theorem b_item {b : List UInt8} {t : Tok} {v : Value} {value slice : PySem.Expr} {Q : Value → Shared → Prop} (N : News h₀ L s.heap news) (hp : (d, o) ∈ news) (hd : ∃ kvs, o.IsDictOf (bytesKind PR w) kvs ∧ kvs.length ≤ n ∧ valueAt kvs b = some v)
    (h : Q v { s with toks := s.toks + 1 })
    (hs : subscripted slice false (.ref d) (.bytes b.toArray t) = operate [.ref d, .bytes b.toArray t] (getItem (.ref d) (.bytes b.toArray t)) := by with_unfolding_all rfl) (hg : ∀ r, letTemporaryGo value (.ref d) r = pure () := by intro _; with_unfolding_all rfl) :
    wpAny (model PR w) A (subscriptTail value slice (.ref d) (.bytes b.toArray t)) Q E s := by
  obtain ⟨kvs, hk, _, hv⟩ := hd
  exact kda_item N hp hk (bytesKind_is _ _ _ _) hv h hs hg
end
noncomputable def JN (w : World) (d : Nat) (R : Led) (b : Nat → Nat) (ls : List (Str × Value)) (i : Nat) (m : Str → Option Value) (n : Led) : Prop :=
  ∃ o' k, BObj w o' k ∧ k ≤ b i ∧ n = (d, o') :: R ∧ Has ls m
theorem jn_end {w : World} {h₀ h' : Heap} {L : Addr} {s₁ : Shared} {I tk i d k : Nat} {oI o' : Obj} {R : Led} {b : Nat → Nat} {ls : List (Str × Value)} {m' : Str → Option Value}
    (F : Fr h₀ L h' m') (N : News h₀ L h' ((I, oI) :: (d, o') :: R)) (hI : ∀ p ∈ (d, o') :: R, p.1 ≠ I) (hm : Has ls m') (ho : BObj w o' k) (hn : k ≤ b (i + 1)) :
    UnrEndW h₀ L s₁ [(I, oI)] (JN w d R b ls (i + 1)) { s₁ with heap := h', toks := tk } := by
  refine ⟨h', tk, _, (d, o') :: R, rfl, F, ?_, ?_, ⟨o', k, ho, hn, rfl, hm⟩⟩
  · intro p hp
    rcases List.mem_append.mp hp with hp | hp
    · rw [List.mem_singleton.mp hp]; exact N _ (.head _)
    · exact N p (.tail _ hp)
  · intro p hp q hq
    rw [List.mem_singleton.mp hq]
    exact hI p hp
noncomputable def BytesV (vs : List Value) : Prop := vs.length ≤ 4 ∧ ∀ v ∈ vs, ∃ (l : List UInt8) (t : Tok), v = .bytes l.toArray t
noncomputable def ItemsV (R : Led) (vs : List Value) : Prop := ∀ v ∈ vs, ∃ t nm one bs, v = .ref t ∧ (t, tp [.ref nm, .ref one]) ∈ R ∧ (nm, tp bs) ∈ R ∧ BytesV bs
theorem bv2 {a b : List UInt8} {t u : Tok} : BytesV [.bytes a.toArray t, .bytes b.toArray u] := ⟨by simp, fun v hv => by
  rcases List.mem_cons.mp hv with rfl | hv
  · exact ⟨_, _, rfl⟩
  · rw [List.mem_singleton.mp hv]; exact ⟨_, _, rfl⟩⟩
theorem bv3 {a b c : List UInt8} {t u v : Tok} : BytesV [.bytes a.toArray t, .bytes b.toArray u, .bytes c.toArray v] := ⟨by simp, fun v hv => by
  rcases List.mem_cons.mp hv with rfl | hv
  · exact ⟨_, _, rfl⟩
  rcases List.mem_cons.mp hv with rfl | hv
  · exact ⟨_, _, rfl⟩
  · rw [List.mem_singleton.mp hv]; exact ⟨_, _, rfl⟩⟩
theorem iv_nil {R : Led} : ItemsV R [] := fun _ h => nomatch h
theorem iv_cons {R : Led} {t nm one : Nat} {bs vs : List Value} (h1 : (t, tp [.ref nm, .ref one]) ∈ R) (h2 : (nm, tp bs) ∈ R) (hb : BytesV bs) (h : ItemsV R vs) : ItemsV R (.ref t :: vs) := fun v hv => by
  rcases List.mem_cons.mp hv with rfl | hv
  · exact ⟨_, _, _, _, rfl, h1, h2, hb⟩
  · exact h v hv
theorem news_front {h₀ h : Heap} {L : Addr} {x : Addr × Obj} {X T : Led} (N : News h₀ L h (X ++ x :: T)) : News h₀ L h (x :: (X ++ T)) := fun p hp => N p (by
  rcases List.mem_cons.mp hp with rfl | hp
  · exact List.mem_append.mpr (.inr (.head _))
  · rcases List.mem_append.mp hp with hp | hp
    · exact List.mem_append.mpr (.inl hp)
    · exact List.mem_append.mpr (.inr (.tail _ hp)))
theorem news_flip {h₀ h : Heap} {L : Addr} {a b : Addr × Obj} {T : Led} (N : News h₀ L h (a :: b :: T)) : News h₀ L h (b :: a :: T) := fun p hp => N p (by
  rcases List.mem_cons.mp hp with rfl | hp
  · exact .tail _ (.head _)
  · rcases List.mem_cons.mp hp with rfl | hp
    · exact .head _
    · exact .tail _ (.tail _ hp))
theorem nat_prep {h₀ h : Heap} {L : Addr} {d D D1 D2 D3 D4 D5 D6 D7 D8 D9 D10 x1 x2 x3 x4 x5 : Nat} {o : Obj} {T : Led} {b1 b2 b3 b4 b5 : List Value}
    (N : News h₀ L h ((D, tp [.ref D9, .ref D7, .ref D5, .ref D3, .ref D1]) :: (D1, tp [.ref D2, .ref x5]) :: (D2, tp b5) :: (D3, tp [.ref D4, .ref x4]) :: (D4, tp b4) :: (D5, tp [.ref D6, .ref x3]) :: (D6, tp b3) :: (D7, tp [.ref D8, .ref x2]) :: (D8, tp b2) :: (D9, tp [.ref D10, .ref x1]) :: (D10, tp b1) :: (d, o) :: T))
    (hne : @LT.lt Nat _ d D ∧ @LT.lt Nat _ d D1 ∧ @LT.lt Nat _ d D2 ∧ @LT.lt Nat _ d D3 ∧ @LT.lt Nat _ d D4 ∧ @LT.lt Nat _ d D5 ∧ @LT.lt Nat _ d D6 ∧ @LT.lt Nat _ d D7 ∧ @LT.lt Nat _ d D8 ∧ @LT.lt Nat _ d D9 ∧ @LT.lt Nat _ d D10) (hT : ∀ p ∈ T, p.1 ≠ d)
    (v1 : BytesV b1) (v2 : BytesV b2) (v3 : BytesV b3) (v4 : BytesV b4) (v5 : BytesV b5) :
    ∃ R vs, News h₀ L h ((d, o) :: R) ∧ (∀ p ∈ T, p ∈ R) ∧ (∀ p ∈ R, p.1 ≠ d) ∧ (D, tp vs) ∈ R ∧ ItemsV R vs ∧ vs.length = 5 := by
  obtain ⟨n0, n1, n2, n3, n4, n5, n6, n7, n8, n9, n10⟩ := hne
  refine ⟨_, _, news_front (X := [_, _, _, _, _, _, _, _, _, _, _]) N, fun p hp => List.mem_append.mpr (.inr hp), ?_, .head _, ?_, rfl⟩
  · exact fc (Nat.ne_of_gt n0) (fc (Nat.ne_of_gt n1) (fc (Nat.ne_of_gt n2) (fc (Nat.ne_of_gt n3) (fc (Nat.ne_of_gt n4) (fc (Nat.ne_of_gt n5) (fc (Nat.ne_of_gt n6) (fc (Nat.ne_of_gt n7) (fc (Nat.ne_of_gt n8) (fc (Nat.ne_of_gt n9) (fc (Nat.ne_of_gt n10) hT))))))))))
  · refine iv_cons (nm := D10) (one := x1) (bs := b1) (by k_extra "tmem") (by k_extra "tmem") v1 ?_
    refine iv_cons (nm := D8) (one := x2) (bs := b2) (by k_extra "tmem") (by k_extra "tmem") v2 ?_
    refine iv_cons (nm := D6) (one := x3) (bs := b3) (by k_extra "tmem") (by k_extra "tmem") v3 ?_
    refine iv_cons (nm := D4) (one := x4) (bs := b4) (by k_extra "tmem") (by k_extra "tmem") v4 ?_
    refine iv_cons (nm := D2) (one := x5) (bs := b5) (by k_extra "tmem") (by k_extra "tmem") v5 ?_
    exact iv_nil
theorem news_sub {h₀ h : Heap} {L : Addr} {N M : Led} (k : News h₀ L h N) (hm : ∀ p ∈ M, p ∈ N) : News h₀ L h M := fun p hp => k p (hm p hp)
inductive LinePost (w : World) (T : Led) (r : Value) (news' : Led) : Prop
  | mk (li C n : Nat) (v : List Value) (Y : Led) (h1 : r = .ref li) (h2 : (∀ p ∈ (C, listOf v.toArray n) :: (Y ++ T), p ∈ news')) (h3 : AllLt C T) (h4 : Above Y T) (h5 : (∀ p ∈ Y, p.1 ≠ C)) (h6 : LineAt w Y li C) (h7 : AllC (CellS Y) v [blankC, blankC, blankC, blankC, blankC]) : LinePost w T r news'
theorem allLt_up {a b : Nat} {T : Led} (h : AllLt a T) (k : @LT.lt Nat _ a b) : AllLt b T := allLt_of fun p hp => Nat.lt_trans (lt_mem h hp) k
theorem line_end {w : World} {D l D1 D2 D3 x d n : Nat} {ol : Obj} {T : Led} {t1 t2 t3 t4 t5 t6 u1 u2 u3 : Tok} (hT : AllLt d T)
    (hd : @LT.lt Nat _ d x ∧ @LT.lt Nat _ d D3 ∧ @LT.lt Nat _ d D2 ∧ @LT.lt Nat _ d D1 ∧ @LT.lt Nat _ d l ∧ @LT.lt Nat _ d D)
    (hD : @LT.lt Nat _ l D ∧ @LT.lt Nat _ D1 D ∧ @LT.lt Nat _ D2 D ∧ @LT.lt Nat _ D3 D ∧ @LT.lt Nat _ x D) :
    LinePost w T (.ref x) ((D, listOf #[.ref D1, .ref D1, .ref D1, .ref D1, .ref D1] n) :: (l, ol) :: (D1, tp [.ref D3, .int 1 t1, .ref D2, .bool false]) :: (D2, tp [.int 0 t2, .int (-1) t3, .int (-1) t4, .int (-1) t5, .int 0 t6]) :: (D3, tp []) :: (x, instObj 670 d) :: (d, lineDict w D u1 u2 u3) :: T) := by
  obtain ⟨a1, a2, a3, a4, a5, a6⟩ := hd
  obtain ⟨b1, b2, b3, b4, b5⟩ := hD
  have hc : CellS [(l, ol), (D1, tp [.ref D3, .int 1 t1, .ref D2, .bool false]), (D2, tp [.int 0 t2, .int (-1) t3, .int (-1) t4, .int (-1) t5, .int 0 t6]), (D3, tp []), (x, instObj 670 d), (d, lineDict w D u1 u2 u3)] (.ref D1) blankC :=
    ⟨D1, D3, D2, [], t1, t2, t3, t4, t5, t6, rfl, .tail _ (.head _), .tail _ (.tail _ (.tail _ (.head _))), .nil, .tail _ (.tail _ (.head _))⟩
  refine ⟨x, D, n, [.ref D1, .ref D1, .ref D1, .ref D1, .ref D1], [(l, ol), (D1, tp [.ref D3, .int 1 t1, .ref D2, .bool false]), (D2, tp [.int 0 t2, .int (-1) t3, .int (-1) t4, .int (-1) t5, .int 0 t6]), (D3, tp []), (x, instObj 670 d), (d, lineDict w D u1 u2 u3)], rfl, fun p hp => hp, allLt_up hT a6, ?_, ?_, ?_, ?_⟩
  · exact Above.cons (allLt_up hT a5) (Above.cons (allLt_up hT a4) (Above.cons (allLt_up hT a3) (Above.cons (allLt_up hT a2) (Above.cons (allLt_up hT a1) (Above.cons hT Above.nil)))))
  · intro p hp
    simp only [List.mem_cons, List.not_mem_nil, or_false] at hp
    rcases hp with rfl | rfl | rfl | rfl | rfl | rfl
    all_goals exact Nat.ne_of_lt (by assumption)
  · exact ⟨d, u1, u2, u3, .tail _ (.tail _ (.tail _ (.tail _ (.head _)))), .tail _ (.tail _ (.tail _ (.tail _ (.tail _ (.head _)))))⟩
  · exact .cons hc (.cons hc (.cons hc (.cons hc (.cons hc .nil))))
section
variable {prog : Program} {w : World} {A : Around} {s : Shared} {h₀ : Heap} {L : Addr} {m : Str → Option Value} {env : Env}
/-- a comprehension by an invariant over what it has made -/
theorem comp_inv {elt : Expr} {x : Str} {scope : Scope} {cl : List (Str × Addr)} {S : Led → Prop} {P : Nat → Value → Prop} {Fin : List Value → Led → Prop} {n : Nat} (J : Nat → List Value → Led → Prop)
    (step : ∀ i ys news, i < n → J i ys news → ∀ v I oI C oC D m₂ h tk (E' : Value → Shared → Prop), P i v → LCg.NsObj oC m₂ → m₂ x = some v → Fr h₀ L h m → News h₀ L h ((I, oI) :: (C, oC) :: (D, LCg.lst ys) :: news) →
      (∀ p ∈ news, p.1 ≠ I ∧ p.1 ≠ C ∧ p.1 ≠ D) → ((@Ne Nat I C) ∧ (@Ne Nat I D) ∧ (@Ne Nat C D)) →
      wpAny (model prog w) A (eval elt (compEnvC scope cl C env)) (LCg.CompEnd h₀ L m { s with heap := h, toks := tk } I oI C oC D (LCg.lst ys) S (fun y news' => J (i + 1) (ys ++ [y]) news')) E' { s with heap := h, toks := tk })
    (fin : ∀ ys news, J n ys news → Fin ys news) :
    ∀ k i ys news, i + k = n → J i ys news → LCg.CompRest prog w A h₀ L m env elt x scope cl s S P Fin k i ys news := by
  intro k
  induction k with
  | zero =>
    intro i ys news hi hJ
    have e : i = n := by omega
    subst e
    exact LCg.CompRest.zero (fin _ _ hJ)
  | succ k ih =>
    intro i ys news hi hJ
    refine LCg.CompRest.succ fun v I oI C oC D m₂ h tk E' hP hC hx F N off ne => ?_
    refine wpAny_mono (step i ys news (by omega) hJ v I oI C oC D m₂ h tk E' hP hC hx F N off.mem ne) (fun y s₂ hE => ?_) fun _ _ e => e
    obtain ⟨h', tk', news', e, F', N', off', hS, r⟩ := hE
    exact ⟨h', tk', news', e, F', N', off', hS, ih (i + 1) _ _ (by omega) r⟩
theorem comp_end {I C D : Nat} {s₁ : Shared} {oI oC oD : Obj} {S : Led → Prop} {rest : Value → Led → Prop} {y : Value} {h' : Heap} {tk : Nat} {all : Led}
    (F : Fr h₀ L h' m) (N : News h₀ L h' all) (news' : Led) (sub : ∀ p ∈ (I, oI) :: (C, oC) :: (D, oD) :: news', p ∈ all) (off : ∀ p ∈ news', p.1 ≠ I ∧ p.1 ≠ C ∧ p.1 ≠ D) (hS : S news') (r : rest y news') :
    LCg.CompEnd h₀ L m s₁ I oI C oC D oD S rest y { s₁ with heap := h', toks := tk } := LCg.CompEnd.intro F N news' sub (LCg.Off3.of off) hS r
end
/-! ### the grid's lines -/
noncomputable abbrev blank5 : List Cell := [blankC, blankC, blankC, blankC, blankC]
/-- a line made above T -/
noncomputable def LineOk (w : World) (T : Led) (li C : Nat) (v : List Value) (Y : Led) : Prop :=
  AllLt C T ∧ Above Y T ∧ (∀ p ∈ Y, p.1 ≠ C) ∧ LineAt w Y li C ∧ AllC (CellS Y) v blank5
theorem LineOk.mk {w : World} {T : Led} {li C : Nat} {v : List Value} {Y : Led} (h1 : AllLt C T) (h2 : Above Y T) (h3 : ∀ p ∈ Y, p.1 ≠ C) (h4 : LineAt w Y li C) (h5 : AllC (CellS Y) v blank5) : LineOk w T li C v Y := ⟨h1, h2, h3, h4, h5⟩
theorem LineOk.sub {w : World} {T T' : Led} {li C : Nat} {v : List Value} {Y : Led} (h : LineOk w T li C v Y) (k : ∀ p ∈ T', ∃ o : Obj, (p.1, o) ∈ T) : LineOk w T' li C v Y := by
  obtain ⟨h1, h2, h3, h4, h5⟩ := h
  exact ⟨allLt_of fun p hp => by (obtain ⟨o, ho⟩ := k p hp; have z := lt_mem h1 ho; exact z), above_any h2 k, h3, h4, h5⟩
inductive JG (w : World) (R : Led) : Nat → List Value → Led → Prop
  | zero : JG w R 0 [] R
  | one {L0 C0 n0 v0 Y0} : LineOk w R L0 C0 v0 Y0 → JG w R 1 [.ref L0] ((C0, listOf v0.toArray n0) :: (Y0 ++ R))
  | two {L0 C0 n0 v0 Y0 L1 C1 n1 v1 Y1} : LineOk w R L0 C0 v0 Y0 → LineOk w ((C0, listOf v0.toArray n0) :: (Y0 ++ R)) L1 C1 v1 Y1 → JG w R 2 [.ref L0, .ref L1] ((C1, listOf v1.toArray n1) :: (Y1 ++ (C0, listOf v0.toArray n0) :: (Y0 ++ R)))
theorem jg_step {w : World} {R news : Led} {i : Nat} {ys : List Value} {li C n : Nat} {v : List Value} {Y : Led} (hi : i < 2) (h : JG w R i ys news) (k : LineOk w news li C v Y) : JG w R (i + 1) (ys ++ [.ref li]) ((C, listOf v.toArray n) :: (Y ++ news)) := by
  cases h with
  | zero => exact .one k
  | one h0 => exact .two h0 k
  | two => omega
noncomputable def Apart (Y T : Led) : Prop := ∀ p ∈ Y, ∀ q ∈ T, p.1 ≠ q.1
inductive GridPost (w : World) (T : Led) (r : Value) (news' : Led) : Prop
  | mk (gi ll L0 L1 C0 C1 n0 n1 n2 : Nat) (v0 v1 : List Value) (Y : Led) (h1 : r = .ref gi) (h2 : (∀ p ∈ (C0, listOf v0.toArray n0) :: (C1, listOf v1.toArray n1) :: (Y ++ T), p ∈ news')) (h3 : AllLt C0 T) (h4 : AllLt C1 T) (h5 : @LT.lt Nat _ C0 C1) (h6 : Apart Y T) (h7 : (∀ p ∈ Y, p.1 ≠ C0)) (h8 : (∀ p ∈ Y, p.1 ≠ C1)) (h9 : GridAt w Y gi ll) (h10 : (ll, listOf #[.ref L0, .ref L1] n2) ∈ Y) (h11 : LineAt w Y L0 C0) (h12 : LineAt w Y L1 C1) (h13 : AllC (CellS Y) v0 blank5) (h14 : AllC (CellS Y) v1 blank5) : GridPost w T r news'
theorem grid_end {w : World} {T : Led} {x d ce D n0 n1 n2 : Nat} {oce : Obj} {L0 C0 L1 C1 : Nat} {v0 v1 : List Value} {Y0 Y1 : Led} {t1 t2 t3 t4 t5 : Tok} {g0 : Obj}
    (hT : AllLt d T) (h1 : @LT.lt Nat _ d x ∧ @LT.lt Nat _ x ce) (k0 : LineOk w ((ce, oce) :: (x, instObj 817 d) :: (d, g0) :: T) L0 C0 v0 Y0) (k1 : LineOk w ((C0, listOf v0.toArray n0) :: (Y0 ++ ((ce, oce) :: (x, instObj 817 d) :: (d, g0) :: T))) L1 C1 v1 Y1)
    (hD : ∀ p ∈ (C1, listOf v1.toArray n1) :: (Y1 ++ (C0, listOf v0.toArray n0) :: (Y0 ++ ((ce, oce) :: (x, instObj 817 d) :: (d, g0) :: T))), p.1 ≠ D) :
    GridPost w T (.ref x) ((D, listOf #[.ref L0, .ref L1] n2) :: (C1, listOf v1.toArray n1) :: (Y1 ++ (C0, listOf v0.toArray n0) :: (Y0 ++ ((ce, oce) :: (x, instObj 817 d) :: (d, dictOf [kv w "rows" t1 (.int 2 t2), kv w "columns" t3 (.int 5 t4), kv w "lines" t5 (.ref D)] 3) :: T)))) := by
  obtain ⟨a1, a2, a3, a4, a5⟩ := k0
  obtain ⟨b1, b2, b3, b4, b5⟩ := k1
  obtain ⟨c1, c2⟩ := h1
  have l0 : @LT.lt Nat _ ce C0 ∧ @LT.lt Nat _ x C0 ∧ @LT.lt Nat _ d C0 ∧ AllLt C0 T := a1
  have hC0D : C0 ≠ D := hD (C0, listOf v0.toArray n0) (List.mem_cons_of_mem _ (List.mem_append.mpr (.inr (.head _))))
  have hC1D : C1 ≠ D := hD (C1, listOf v1.toArray n1) (.head _)
  have hC01 : @LT.lt Nat _ C0 C1 := lt_mem b1 (.head _)
  have hdC1 : @LT.lt Nat _ d C1 := Nat.lt_trans l0.2.2.1 hC01
  refine ⟨x, D, L0, L1, C0, C1, n0, n1, n2, v0, v1, (D, listOf #[.ref L0, .ref L1] n2) :: (Y1 ++ (Y0 ++ [(x, instObj 817 d), (d, dictOf [kv w "rows" t1 (.int 2 t2), kv w "columns" t3 (.int 5 t4), kv w "lines" t5 (.ref D)] 3)])), rfl, ?_, l0.2.2.2, allLt_up l0.2.2.2 hC01, hC01, ?_, ?_, ?_, ?_, .head _, ?_, ?_, ?_, ?_⟩
  · intro p hp
    revert p; k_extra "tall"
  · refine fun p hp q hq => (?_ : ∀ p ∈ _, p.1 ≠ q.1) p hp
    exact fc (fun e => hD q (mt (mr (mt (mr (.tail _ (.tail _ (.tail _ hq))))))) e.symm) (fa (fun p hp => Nat.ne_of_gt (b2 p hp q (mt (mr (.tail _ (.tail _ (.tail _ hq))))))) (fa (fun p hp => Nat.ne_of_gt (a2 p hp q (.tail _ (.tail _ (.tail _ hq))))) (fc (Nat.ne_of_gt (Nat.lt_trans (lt_mem hT hq) c1)) (fc (Nat.ne_of_gt (lt_mem hT hq)) fn))))
  · exact fc (fun e => hC0D e.symm) (fa (fun p hp => Nat.ne_of_gt (b2 p hp (C0, listOf v0.toArray n0) (.head _))) (fa a3 (fc (Nat.ne_of_lt l0.2.1) (fc (Nat.ne_of_lt l0.2.2.1) fn))))
  · exact fc (fun e => hC1D e.symm) (fa b3 (fa (fun p hp => Nat.ne_of_lt (lt_mem b1 (mt (ml hp)))) (fc (Nat.ne_of_lt (Nat.lt_trans l0.2.1 hC01)) (fc (Nat.ne_of_lt hdC1) fn))))
  · refine ⟨d, t1, t3, t5, t2, t4, ?_, ?_⟩ <;> k_extra "tmem"
  · exact a4.mono fun p hp => by k_extra "tmem"
  · exact b4.mono fun p hp => by k_extra "tmem"
  · exact a5.mono fun _ _ h => h.mono fun p hp => by k_extra "tmem"
  · exact b5.mono fun _ _ h => h.mono fun p hp => by k_extra "tmem"
theorem elt_end {w : World} {R news : Led} {i : Nat} {ys : List Value} {li C' nn I C D : Nat} {v' : List Value} {Y' : Led} {oI oC oD : Obj} {h₀ h' : Heap} {L : Addr} {m : Str → Option Value} {s₁ : Shared} {tk : Nat}
    (F : Fr h₀ L h' m) (N : News h₀ L h' ((C', listOf v'.toArray nn) :: (Y' ++ (I, oI) :: (C, oC) :: (D, oD) :: news))) (hL : LineOk w ((I, oI) :: (C, oC) :: (D, oD) :: news) li C' v' Y') (off : ∀ p ∈ news, p.1 ≠ I ∧ p.1 ≠ C ∧ p.1 ≠ D) (hJ : JG w R i ys news) (hi : i < 2) :
    LCg.CompEnd h₀ L m s₁ I oI C oC D oD (fun _ => True) (fun y news' => JG w R (i + 1) (ys ++ [y]) news') (.ref li) { s₁ with heap := h', toks := tk } := by
  have hl := hL.1
  have ha := hL.2.1
  refine comp_end F N ((C', listOf v'.toArray nn) :: (Y' ++ news)) ?_ ?_ trivial (jg_step hi hJ (hL.sub fun p hp => ⟨p.2, .tail _ (.tail _ (.tail _ hp))⟩))
  · intro p hp
    revert p; k_extra "tall"
  · intro p hp
    rcases List.mem_cons.mp hp with rfl | hp
    · exact ⟨Nat.ne_of_gt (lt_mem hl (.head _)), Nat.ne_of_gt (lt_mem hl (.tail _ (.head _))), Nat.ne_of_gt (lt_mem hl (.tail _ (.tail _ (.head _))))⟩
    rcases List.mem_append.mp hp with hp | hp
    · exact ⟨Nat.ne_of_gt (ha p hp _ (.head _)), Nat.ne_of_gt (ha p hp _ (.tail _ (.head _))), Nat.ne_of_gt (ha p hp _ (.tail _ (.tail _ (.head _))))⟩
    · exact off p hp
theorem off1_mem {D : Addr} : ∀ {l : Led}, LCg.Off1 D l → ∀ p ∈ l, p.1 ≠ D
  | [], _, _, h => nomatch h
  | _ :: _, x, p, h => by
    rcases List.mem_cons.mp h with rfl | h
    · exact x.1
    · exact off1_mem x.2 p h
theorem gridpost_mono {w : World} {T : Led} {r : Value} {M M' : Led} (h : GridPost w T r M) (k : ∀ p ∈ M, p ∈ M') : GridPost w T r M' := by
  obtain ⟨gi, ll, L0, L1, C0, C1, n0, n1, n2, v0, v1, Y, h1, h2, h3, h4, h5, h6, h7, h8, h9, h10, h11, h12, h13, h14⟩ := h
  exact ⟨gi, ll, L0, L1, C0, C1, n0, n1, n2, v0, v1, Y, h1, fun p hp => k p (h2 p hp), h3, h4, h5, h6, h7, h8, h9, h10, h11, h12, h13, h14⟩
theorem grid_perm {h₀ h : Heap} {L : Addr} {a b c e f g : Addr × Obj} {Y0 Y1 T : Led} (N : News h₀ L h (a :: b :: (Y1 ++ c :: (Y0 ++ (e :: f :: g :: T))))) : News h₀ L h (f :: g :: a :: b :: (Y1 ++ c :: (Y0 ++ (e :: T)))) := fun p hp => N p (by
  revert p; k_extra "tall")
theorem grid_end2 {w : World} {T : Led} {x d ce D n0 n1 n2 : Nat} {oce : Obj} {L0 C0 L1 C1 : Nat} {v0 v1 : List Value} {Y0 Y1 : Led} {t1 t2 t3 t4 t5 : Tok} {g0 : Obj}
    (hT : AllLt d T) (h1 : @LT.lt Nat _ d x ∧ @LT.lt Nat _ x ce) (k0 : LineOk w ((ce, oce) :: (x, instObj 817 d) :: (d, g0) :: T) L0 C0 v0 Y0) (k1 : LineOk w ((C0, listOf v0.toArray n0) :: (Y0 ++ ((ce, oce) :: (x, instObj 817 d) :: (d, g0) :: T))) L1 C1 v1 Y1)
    (hD : ∀ p ∈ (C1, listOf v1.toArray n1) :: (Y1 ++ (C0, listOf v0.toArray n0) :: (Y0 ++ ((ce, oce) :: (x, instObj 817 d) :: (d, g0) :: T))), p.1 ≠ D) :
    GridPost w T (.ref x) ((x, instObj 817 d) :: (d, dictOf [kv w "rows" t1 (.int 2 t2), kv w "columns" t3 (.int 5 t4), kv w "lines" t5 (.ref D)] 3) :: (D, listOf #[.ref L0, .ref L1] n2) :: (C1, listOf v1.toArray n1) :: (Y1 ++ (C0, listOf v0.toArray n0) :: (Y0 ++ (ce, oce) :: T))) :=
  gridpost_mono (grid_end (n2 := n2) (t1 := t1) (t2 := t2) (t3 := t3) (t4 := t4) (t5 := t5) hT h1 k0 k1 hD) fun p hp => by
    revert p; k_extra "tall"
/-- a call that keeps the ledger and gives an object -/
noncomputable def KP (T : Led) (r : Value) (news' : Led) : Prop := (∃ x : Nat, r = .ref x) ∧ ∀ p ∈ T, p ∈ news'
section
variable {prog : Program} {w : World} {A : Around} {E : Value → Shared → Prop} {s : Shared} {env : Env} {h₀ : Heap} {target : Expr} {body : List Stmt} {Q : Flow → Shared → Prop}
/-- a loop over an empty range -/
theorem for_rng0 {r : Addr} {a₀ b₀ c₀ : Int} {t₀ u₀ v₀ : Tok} {m₀ : Str → Option Value} {news : Led}
    (hh : A.handled = none) (hr : IsRange s.heap r a₀ b₀ c₀ t₀ u₀ v₀) (hsmall : Builtin.Range.small a₀ b₀ c₀ = true) (hn : Builtin.Range.rangeSize a₀ b₀ c₀ = ((0 : Nat) : Int)) (F : Fr h₀ env.locals s.heap m₀) (N : News h₀ env.locals s.heap news)
    (fin : ∀ h tk, Fr h₀ env.locals h m₀ → News h₀ env.locals h news → Q .next { s with heap := h, toks := tk }) :
    wpAny (model prog w) A (pyIter (.ref r)) (fun it s₂ => TurnsAt prog w A h₀ env target body Q E it s₂) E s := by
  refine wpAny_pyIter_range hr hsmall ?_
  have W : Walks prog w A s.heap.objs.size [s.heap.objs.size] [s.heap.objs.size] 0 (fun i v => i < 0 ∧ ∃ t, v = .int (a₀ + i * c₀) t)
      (fun i h => IsRangeIter h s.heap.objs.size (a₀ + (i : Nat) * c₀) (((0 : Nat) : Int) - (i : Nat)) c₀) := (Walks.range hh _ a₀ c₀ 0).bound
  have z := items_inv (prog := prog) (w := w) (A := A) (E := E) (s := s) (env := env) (h₀ := h₀) (target := target) (body := body) (Q := Q) (I := s.heap.objs.size) (c := "range_iterator") (keep := [])
    (xs := []) (J := fun _ m n => m = m₀ ∧ n = news) (fun i m n h => trivial) (fun i a v m₁ news₁ h₁ tk₁ o hi => by simp at hi) (fun m n' h tk hJ F' N' => by obtain ⟨rfl, rfl⟩ := hJ; exact fin h tk F' N') 0 0 m₀ news rfl ⟨rfl, rfl⟩
  rw [List.drop_zero] at z
  refine ktu_core (tk0 := s.toks) (keep := []) (KTurns.ofWalks W fun i v s Q E st q => letGo_rngiter st q) (by simp) (fun i v h hp => ?_) (fun i h st => ?_) (fun b hb => ?_) (fun b hb => by simpa using hb) (fun b hb => ?_) ?_ (fun p hp hq => ?_) ?_ (F.push _) (fun p hp => ⟨Heap.get?_push_of_some _ (N p hp).1, (N p hp).2⟩) trivial z
  · exact absurd hp.1 (Nat.not_lt_zero _)
  · exact ⟨[(s.heap.objs.size, _)], ⟨⟨rfl, rfl⟩, trivial⟩, fun p hp => by rw [List.mem_singleton.mp hp]; exact st⟩
  · have hb' : b = s.heap.objs.size := by simpa using hb
    rw [hb']
    exact ⟨List.mem_cons_self .., next_is_new F⟩
  · exact .inl (by simpa using hb)
  · intro hm
    exact absurd F.ns.lt ((List.mem_singleton.mp hm) ▸ Nat.lt_irrefl _)
  · exact absurd (Heap.lt_size (N p hp).1) ((List.mem_singleton.mp hq) ▸ Nat.lt_irrefl _)
  · show IsRangeIter _ _ _ _ _
    rw [hn]
    simpa using Heap.get?_push_size _ rfl
end
theorem rs858 : Builtin.Range.rangeSize 8 5 8 = ((0 : Nat) : Int) := by decide
theorem sm858 : Builtin.Range.small 8 5 8 = true := by decide
/-- what a new screen brings -/
inductive ScreenPost (w : World) (T : Led) (r : Value) (news' : Led) : Prop
  | mk (sc gi ll L0 L1 C0 C1 n0 n1 n2 : Nat) (v0 v1 : List Value) (Y : Led) (h1 : r = .ref sc) (h2 : (∀ p ∈ (C0, listOf v0.toArray n0) :: (C1, listOf v1.toArray n1) :: (Y ++ T), p ∈ news')) (h3 : AllLt C0 T) (h4 : AllLt C1 T) (h5 : @LT.lt Nat _ C0 C1) (h6 : Apart Y T) (h7 : (∀ p ∈ Y, p.1 ≠ C0)) (h8 : (∀ p ∈ Y, p.1 ≠ C1)) (h9 : ScrAt w Y sc gi) (h10 : GridAt w Y gi ll) (h11 : (ll, listOf #[.ref L0, .ref L1] n2) ∈ Y) (h12 : LineAt w Y L0 C0) (h13 : LineAt w Y L1 C1) (h14 : AllC (CellS Y) v0 blank5) (h15 : AllC (CellS Y) v1 blank5) : ScreenPost w T r news'
theorem scr_prep {h₀ h : Heap} {L : Addr} {x d C0 C1 : Nat} {ox od oC0 oC1 : Obj} {Y T news : Led} (N : News h₀ L h news) (hm : ∀ p ∈ (C0, oC0) :: (C1, oC1) :: (Y ++ (x, ox) :: (d, od) :: T), p ∈ news)
    (l0 : AllLt C0 ((x, ox) :: (d, od) :: T)) (l1 : AllLt C1 ((x, ox) :: (d, od) :: T)) (ap : Apart Y ((x, ox) :: (d, od) :: T)) (hT : ∀ p ∈ T, p.1 ≠ d) (hTx : ∀ p ∈ T, p.1 ≠ x) :
    ∃ R, News h₀ L h ((x, ox) :: (d, od) :: R) ∧ (∀ p ∈ (C0, oC0) :: (C1, oC1) :: (Y ++ T), p ∈ R) ∧ (∀ p ∈ R, p.1 ≠ d) ∧ (∀ p ∈ R, p.1 ≠ x) := by
  refine ⟨(C0, oC0) :: (C1, oC1) :: (Y ++ T), fun p hp => N p (hm p ?_), fun p hp => hp, ?_, ?_⟩
  · revert p; k_extra "tall"
  · intro p hp
    rcases List.mem_cons.mp hp with rfl | hp
    · exact Nat.ne_of_gt (lt_mem l0 (.tail _ (.head _)))
    rcases List.mem_cons.mp hp with rfl | hp
    · exact Nat.ne_of_gt (lt_mem l1 (.tail _ (.head _)))
    rcases List.mem_append.mp hp with hp | hp
    · exact ap p hp _ (.tail _ (.head _))
    · exact hT p hp
  · intro p hp
    rcases List.mem_cons.mp hp with rfl | hp
    · exact Nat.ne_of_gt (lt_mem l0 (.head _))
    rcases List.mem_cons.mp hp with rfl | hp
    · exact Nat.ne_of_gt (lt_mem l1 (.head _))
    rcases List.mem_append.mp hp with hp | hp
    · exact ap p hp _ (.head _)
    · exact hTx p hp
theorem scr_end {w : World} {T R news' : Led} {x d gi ll L0 L1 C0 C1 n0 n1 n2 : Nat} {v0 v1 : List Value} {Y : Led} {ox od : Obj} {t1 t2 t3 t4 t5 t6 t7 t8 t9 t10 t11 t12 t13 : Tok} {a1 a2 a3 a4 a5 a7 a8 a9 a10 a11 a12 a13 : Value}
    (hN : ∀ p ∈ (x, instObj 1101 d) :: (d, dictOf [kv w "rows" t1 a1, kv w "columns" t2 a2, kv w "modes" t3 a3, kv w "widths" t4 a4, kv w "history" t5 a5, kv w "grid" t6 (.ref gi), kv w "cursor" t7 a7, kv w "margins" t8 a8, kv w "tabs" t9 a9, kv w "charsets" t10 a10, kv w "saved" t11 a11, kv w "last" t12 a12, kv w "has_right" t13 a13] 13) :: R, p ∈ news')
    (hR : ∀ p ∈ (C0, listOf v0.toArray n0) :: (C1, listOf v1.toArray n1) :: (Y ++ T), p ∈ R) (hT : AllLt d T) (hdx : @LT.lt Nat _ d x)
    (l0 : AllLt C0 ((x, ox) :: (d, od) :: T)) (l1 : AllLt C1 ((x, ox) :: (d, od) :: T)) (hC : @LT.lt Nat _ C0 C1) (ap : Apart Y ((x, ox) :: (d, od) :: T)) (y0 : ∀ p ∈ Y, p.1 ≠ C0) (y1 : ∀ p ∈ Y, p.1 ≠ C1)
    (hG : GridAt w Y gi ll) (hll : (ll, listOf #[.ref L0, .ref L1] n2) ∈ Y) (hL0 : LineAt w Y L0 C0) (hL1 : LineAt w Y L1 C1) (hv0 : AllC (CellS Y) v0 blank5) (hv1 : AllC (CellS Y) v1 blank5) :
    ScreenPost w T (.ref x) news' := by
  have up : ∀ p ∈ Y, p ∈ (x, instObj 1101 d) :: (d, dictOf [kv w "rows" t1 a1, kv w "columns" t2 a2, kv w "modes" t3 a3, kv w "widths" t4 a4, kv w "history" t5 a5, kv w "grid" t6 (.ref gi), kv w "cursor" t7 a7, kv w "margins" t8 a8, kv w "tabs" t9 a9, kv w "charsets" t10 a10, kv w "saved" t11 a11, kv w "last" t12 a12, kv w "has_right" t13 a13] 13) :: Y := fun p hp => .tail _ (.tail _ hp)
  refine ⟨x, gi, ll, L0, L1, C0, C1, n0, n1, n2, v0, v1, _, rfl, ?_, l0.2.2, l1.2.2, hC, ?_, ?_, ?_, ⟨d, t1, t2, t3, t4, t5, t6, t7, t8, t9, t10, t11, t12, t13, a1, a2, a3, a4, a5, a7, a8, a9, a10, a11, a12, a13, .head _, .tail _ (.head _)⟩, hG.mono up, up _ hll, hL0.mono up, hL1.mono up, allS_up hv0 up, allS_up hv1 up⟩
  · intro p hp
    rcases List.mem_cons.mp hp with rfl | hp
    · exact hN _ (.tail _ (.tail _ (hR _ (.head _))))
    rcases List.mem_cons.mp hp with rfl | hp
    · exact hN _ (.tail _ (.tail _ (hR _ (.tail _ (.head _)))))
    rcases List.mem_cons.mp hp with rfl | hp
    · exact hN _ (.head _)
    rcases List.mem_cons.mp hp with rfl | hp
    · exact hN _ (.tail _ (.head _))
    · exact hN _ (.tail _ (.tail _ (hR _ (.tail _ (.tail _ hp)))))
  · intro p hp q hq
    rcases List.mem_cons.mp hp with rfl | hp
    · exact Nat.ne_of_gt (Nat.lt_trans (lt_mem hT hq) hdx)
    rcases List.mem_cons.mp hp with rfl | hp
    · exact Nat.ne_of_gt (lt_mem hT hq)
    · exact ap p hp q (.tail _ (.tail _ hq))
  · intro p hp
    rcases List.mem_cons.mp hp with rfl | hp
    · exact Nat.ne_of_lt l0.1
    rcases List.mem_cons.mp hp with rfl | hp
    · exact Nat.ne_of_lt l0.2.1
    · exact y0 p hp
  · intro p hp
    rcases List.mem_cons.mp hp with rfl | hp
    · exact Nat.ne_of_lt l1.1
    rcases List.mem_cons.mp hp with rfl | hp
    · exact Nat.ne_of_lt l1.2.1
    · exact y1 p hp
theorem setup_XL : True := by
  (k_with "XL step" => k_extra "base")
  (k_with "XL steps" => repeat' (first | k_extra "XL step" | (k_unfold; (try dsimp only)) | (k_end; wrow_close) | walk1 | (dsimp only; walk1) | (leave1; walk_say "STEP leave1"; try dsimp only) | fail "no step"))
  trivial
theorem line_c (w : World) (mean : ExcName → Option Value) (mg mb : Str → Option Value) (t : Tok) (T : Led) :
   Ctr w mean mg mb 670 9 300 [.int 5 t, .ref 22] T (LinePost w T) := by
  unfold Ctr
  k_fill
  intro dp un gd cn cs a ccd cl outer A₀ base h₀ L m s Q E B F X N Tp hk hd hu hret
  refine' call_cls ?k1 ?k2 ?k3 ?k4 ?k5 ?k6 ?_
  case k1 => k_asm
  case k2 => k_asm
  case k3 => k_asm
  case k4 => k_is
  case k5 => k_is
  case k6 => k_is
  intro x' d' h' F' N' l1 l2
  (try k_lt l1); (try k_lt2 l2)
  k_dflt cell_enter
  k_extra "XL steps"
  refine hret _ _ _ _ (line_end (allLt_all (by assumption)) ?_ ?_) (by assumption) (by assumption)
  · refine ⟨?_, ?_, ?_, ?_, ?_, ?_⟩ <;> omega
  · refine ⟨?_, ?_, ?_, ?_, ?_⟩ <;> omega
local macro_rules | `(tactic| ktr_units) => `(tactic| k_extra "own units")
theorem setup_XG : True := by
  (k_with "e6" => (k_here; (with_reducible show wpAny _ _ (call (Value.ref 670) _) _ _ _); k_dflt (refine' Ctr.use (line_c _ _ _ _ _ _) ?e6B ?e6F ?e6X ?e6N ?e6T ?e6k ?e6d ?e6u ?_; (case e6N => k_asm); (case e6B => k_asm); (case e6F => k_asm); (case e6X => k_asm); (case e6T => k_asm); (case e6k => first | exact rfl | assumption); (case e6d => ktr_room); (case e6u => ktr_units)); intro w9r' w9n' w9h' w9tk' w9hP' w9F' w9N'; obtain ⟨w9li', w9C', w9nn', w9v', w9Y', w9hr', w9hm', w9lC', w9aY', w9nY', w9hL', w9hA'⟩ := w9hP'; subst w9hr'; (have w9N2' := news_sub w9N' w9hm'); clear w9N' w9hm'; (have w9hLO' := LineOk.mk w9lC' w9aY' w9nY' w9hL' w9hA'); clear w9lC' w9aY' w9nY' w9hL' w9hA'))
  (k_with "own enterC" => k_dflt (refine' code_defC ?k1 ?k2 ?k3 ?k4 ?k5 ?kA ?kF ?kK ?k6 ?k7 ?k8 ?k9 ?kB ?kD ?_ ?c2 ?c3 ?c4; (case kA => exact rfl); (case kF => exact rfl); (case kK => assumption); (case k1 => k_asm); (case k2 => k_asm); (case k3 => k_asm); (case k4 => k_asm); (case k5 => k_asm); (case k6 => k_is); (case k7 => k_is); (case k8 => ktr_room); (case k9 => exact BindsTo.of_eq rfl); (case kB => exact rfl); (case kD => decide +kernel); (case c2 => exact rfl); (case c3 => exact rfl); (case c4 => exact rfl); k_whole; intro w9g' w9L' w9h' w9tk' w9cells' w9FG' w9F' w9N' w9Y' w9B' w9X' w9T' w9l1; (try k_lt w9l1); k_cells w9Y'; (try simp only [List.cons_append, List.nil_append] at w9N'); (try dsimp only); (try k_lift w9B'); (try k_fold)))
  (k_with "own units" => (have hcL9 := cLine_is; (try simp only [units_under_make, units_in1, units_deeper, Around.mark_units, units_caller]); (try dsimp only [ktrTop]); omega))
  (k_with "e7" => (k_here; (with_reducible show wpAny _ _ (eval (PySem.Expr.ListComp _ _ _ _) _) _ _ _); k_dflt (refine LCg.ListComp_U (F₀ := by k_asm) (by with_unfolding_all rfl) (by decide) (by rfl) (by decide) (by rfl) ?_)))
  (k_with "XG step" => first | k_extra "e7" | k_extra "e6" | k_extra "base")
  (k_with "XG steps" => repeat' (first | k_extra "XG step" | (k_unfold; (try dsimp only)) | (k_end; wrow_close) | walk1 | (dsimp only; walk1) | (leave1; walk_say "STEP leave1"; try dsimp only) | fail "no step"))
  (k_with "XG comp" => repeat' ((fail_if_success (with_reducible show LCg.CompSrc _ _ _ _ _ _ _ _ _ _ _ _ _ _)); first | k_extra "XG step" | (k_unfold; (try dsimp only)) | (k_end; wrow_close) | walk1 | (dsimp only; walk1) | (leave1; walk_say "STEP leave1"; try dsimp only) | fail "no step"))
  (k_with "XG elt" => repeat' ((fail_if_success (with_reducible show LCg.CompEnd _ _ _ _ _ _ _ _ _ _ _ _ _ _)); first | k_extra "XG step" | (k_unfold; (try dsimp only)) | (k_end; wrow_close) | walk1 | (dsimp only; walk1) | (leave1; walk_say "STEP leave1"; try dsimp only) | fail "no step"))
  trivial
theorem grid_c (w : World) (mean : ExcName → Option Value) (mg mb : Str → Option Value) (t u : Tok) (T : Led) :
   Ctr w mean mg mb 817 30 2500 [.int 2 t, .int 5 u] T (GridPost w T) := by
  unfold Ctr
  k_fill
  intro dp un gd cn cs a ccd cl outer A₀ base h₀ L m s Q E B F X N Tp hk hd hu hret
  refine' call_cls ?k1 ?k2 ?k3 ?k4 ?k5 ?k6 ?_
  case k1 => k_asm
  case k2 => k_asm
  case k3 => k_asm
  case k4 => k_is
  case k5 => k_is
  case k6 => k_is
  intro x' d' h' F' N' l1 l2
  (try k_lt l1); (try k_lt2 l2)
  k_extra "own enterC"
  k_extra "XG comp"
  rename News _ _ _ _ => N9
  rename Fr _ _ _ _ => F9
  refine LCg.CompSrc.range (a := 0) (b := 2) (n := 2) (by rfl) F9 N9 (by assumption) (small_one (by omega) (by omega) (by omega) (by omega)) (rsz (by omega)) (by rw [sizeLine_eq]; omega) ?_
  intro g9
  refine comp_inv (JG w _) ?step ?fin 2 0 [] _ rfl .zero
  case step =>
    rintro i ys news hi hJ v I oI C oC D m₂ h tk E' ⟨tv, rfl⟩ hC hx F₁ N₁ off ne
    have hJ0 := hJ
    cases hJ with
    | zero =>
      k_extra "XG elt"
      show LCg.CompEnd _ _ _ _ _ _ _ _ _ _ _ _ _ _
      rename LineOk _ _ _ _ _ _ => hLO
      exact elt_end (by k_asm) (by assumption) hLO off hJ0 hi
    | one k0 =>
      k_extra "XG elt"
      show LCg.CompEnd _ _ _ _ _ _ _ _ _ _ _ _ _ _
      rename LineOk _ _ _ _ _ _ => hLO
      exact elt_end (by k_asm) (by assumption) hLO off hJ0 hi
    | two => omega
  case fin =>
    rintro ys news hJ
    cases hJ with
    | two k0 k1 =>
      unfold LCg.FinE
      intro D h tk F₁ N₁ o1
      have hD := off1_mem o1
      have N2 := grid_perm N₁
      have b0 := k0.2.1
      have b1 := k1.2.1
      have c0 : @LT.lt Nat _ d' _ := lt_mem k0.1 (.tail _ (.tail _ (.head _)))
      have c1 : @LT.lt Nat _ d' _ := lt_mem k1.1 (List.mem_cons_of_mem _ (List.mem_append.mpr (.inr (.tail _ (.tail _ (.head _))))))
      have cx0 : @LT.lt Nat _ x' _ := lt_mem k0.1 (.tail _ (.head _))
      have cx1 : @LT.lt Nat _ x' _ := lt_mem k1.1 (List.mem_cons_of_mem _ (List.mem_append.mpr (.inr (.tail _ (.head _)))))
      have hDd : @Ne Nat D d' := fun e => hD (d', _) (List.mem_cons_of_mem _ (List.mem_append.mpr (.inr (List.mem_cons_of_mem _ (List.mem_append.mpr (.inr (.tail _ (.tail _ (.head _))))))))) e.symm
      have hDx : @Ne Nat D x' := fun e => hD (x', _) (List.mem_cons_of_mem _ (List.mem_append.mpr (.inr (List.mem_cons_of_mem _ (List.mem_append.mpr (.inr (.tail _ (.head _)))))))) e.symm
      have hTd : ∀ p ∈ T, p.1 ≠ d' := fun p hp => Nat.ne_of_lt (l1 p hp)
      clear N₁ N9 F9
      k_extra "XG steps"
      exact hret _ _ _ _ (grid_end2 (allLt_all l1) ⟨l2, by omega⟩ k0 k1 hD) (by assumption) (by assumption)
theorem setup_XC1 : True := by
  (k_with "own enterD" => k_dflt (refine' code_def ?k1 ?k2 ?k3 ?k4 ?k5 ?kA ?kF ?kK ?k6 ?k7 ?k8 ?k9 ?kB ?_ ?c2 ?c3 ?c4 ?c5; (case kA => exact rfl); (case kF => exact rfl); (case kK => assumption); (case k1 => k_asm); (case k2 => k_asm); (case k3 => k_asm); (case k4 => k_asm); (case k5 => k_asm); (case k6 => k_is); (case k7 => k_is); (case k8 => ktr_room); (case k9 => exact binds_K (by k_in) rfl (by k_is) rfl rfl rfl); (case c5 => decide); (case kB => exact locs rfl); (case c2 => exact rfl); (case c3 => exact rfl); (case c4 => exact rfl); k_whole; intro w9g' w9L' w9h' w9FG' w9F' w9N' w9B' w9X' w9T'; (try dsimp only); (try k_lift w9B'); (try k_fold)))
  (k_with "XC1 step" => k_extra "base")
  (k_with "XC1 steps" => repeat' (first | k_extra "XC1 step" | (k_unfold; (try dsimp only)) | (k_end; wrow_close) | walk1 | (dsimp only; walk1) | (leave1; walk_say "STEP leave1"; try dsimp only) | fail "no step"))
  trivial
theorem cursor_c (w : World) (mean : ExcName → Option Value) (mg mb : Str → Option Value) (T : Led) :
   Ctr w mean mg mb 273 12 600 [] T (KP T) := by
  unfold Ctr
  k_fill
  intro dp un gd cn cs a ccd cl outer A₀ base h₀ L m s Q E B F X N Tp hk hd hu hret
  refine' call_cls ?k1 ?k2 ?k3 ?k4 ?k5 ?k6 ?_
  case k1 => k_asm
  case k2 => k_asm
  case k3 => k_asm
  case k4 => k_is
  case k5 => k_is
  case k6 => k_is
  intro x' d' h' F' N' l1 l2
  (try k_lt l1); (try k_lt2 l2)
  k_dflt cell_enter
  k_extra "XC1 steps"
  refine hret _ _ _ _ ⟨⟨_, rfl⟩, ?hsub⟩ (by assumption) (by assumption)
  exact fun p hp => by first | exact .tail _ (.tail _ hp) | exact .tail _ (.tail _ (.tail _ hp)) | exact .tail _ (.tail _ (.tail _ (.tail _ hp))) | simp [hp]
theorem margins_c (w : World) (mean : ExcName → Option Value) (mg mb : Str → Option Value) (t u : Tok) (T : Led) :
   Ctr w mean mg mb 406 12 600 [.int 2 t, .int 5 u] T (KP T) := by
  unfold Ctr
  k_fill
  intro dp un gd cn cs a ccd cl outer A₀ base h₀ L m s Q E B F X N Tp hk hd hu hret
  refine' call_cls ?k1 ?k2 ?k3 ?k4 ?k5 ?k6 ?_
  case k1 => k_asm
  case k2 => k_asm
  case k3 => k_asm
  case k4 => k_is
  case k5 => k_is
  case k6 => k_is
  intro x' d' h' F' N' l1 l2
  (try k_lt l1); (try k_lt2 l2)
  k_dflt cell_enter
  k_extra "XC1 steps"
  refine hret _ _ _ _ ⟨⟨_, rfl⟩, ?hsub⟩ (by assumption) (by assumption)
  exact fun p hp => by first | exact .tail _ (.tail _ hp) | exact .tail _ (.tail _ (.tail _ hp)) | exact .tail _ (.tail _ (.tail _ (.tail _ hp))) | simp [hp]
theorem setup_XC2 : True := by
  (k_with "e8" => (k_here; (with_reducible show wpAny _ _ (pyIter (Value.ref _)) _ _ _); k_dflt (refine' for_rng0 (a₀ := 8) (b₀ := 5) (c₀ := 8) ?e8hh ?e8hr ?e8hs ?e8hn ?e8F ?e8N ?_; (case e8hh => exact rfl); (case e8hr => assumption); (case e8hs => exact sm858); (case e8hn => exact rs858); (case e8F => k_asm); (case e8N => k_asm)); intro w9h' w9tk' w9F' w9N'; (try dsimp only)))
  (k_with "XC2 step" => first | k_extra "e8" | k_extra "base")
  (k_with "XC2 steps" => repeat' (first | k_extra "XC2 step" | (k_unfold; (try dsimp only)) | (k_end; wrow_close) | walk1 | (dsimp only; walk1) | (leave1; walk_say "STEP leave1"; try dsimp only) | fail "no step"))
  trivial
theorem tabs_c (w : World) (mean : ExcName → Option Value) (mg mb : Str → Option Value) (u : Tok) (T : Led) :
   Ctr w mean mg mb 505 16 1000 [.int 5 u] T (KP T) := by
  unfold Ctr
  k_fill
  intro dp un gd cn cs a ccd cl outer A₀ base h₀ L m s Q E B F X N Tp hk hd hu hret
  refine' call_cls ?k1 ?k2 ?k3 ?k4 ?k5 ?k6 ?_
  case k1 => k_asm
  case k2 => k_asm
  case k3 => k_asm
  case k4 => k_is
  case k5 => k_is
  case k6 => k_is
  intro x' d' h' F' N' l1 l2
  (try k_lt l1); (try k_lt2 l2)
  k_dflt cell_enter
  k_extra "XC2 steps"
  refine hret _ _ _ _ ⟨⟨_, rfl⟩, ?hsub⟩ (by assumption) (by assumption)
  exact fun p hp => by first | exact .tail _ (.tail _ hp) | exact .tail _ (.tail _ (.tail _ hp)) | exact .tail _ (.tail _ (.tail _ (.tail _ hp))) | simp [hp]
theorem setup_BM : True := by
  (k_with "e9" => (k_here; (with_reducible show wpAny _ _ (eval (PySem.Expr.Dict _ _ _) _) _ _ _); k_dflt (refine' kdn_eval (knd := bytesKind PR _) ?e9F ?e9N ?e9b ?e9a ?e9l ?e9e ?e9n ?_; (case e9F => k_asm); (case e9N => first | k_asm | exact News.nil); (case e9b => exact Top.nolimit (by k_asm)); (case e9a => rfl); (case e9l => rfl); (case e9e => exact List.cons_ne_nil _ _); (case e9n => exact Nat.le_of_ble_eq_true rfl)); intro w9d' w9h' w9o' w9F' w9N' w9l1 w9lo' w9hd'; (try k_lt w9l1)))
  (k_with "e10" => ((with_reducible show KdnMade _ _ _ _ _ _ _); k_dflt (refine' kdn_made_bytes ?e10F ?e10N ?e10U ?e10d ?e10c ?e10n ?_; (case e10F => k_asm); (case e10N => k_asm); (case e10U => k_updF); (case e10d => k_asm); (case e10c => repeat (first | exact car_nil | refine car_cons ?_)); (case e10n => exact Nat.le_of_ble_eq_true rfl)); intro w9h' w9o' w9F' w9N' w9hd'; (try dsimp only at w9N')))
  (k_with "e11" => (k_here; (with_reducible show wpAny _ _ (setItem (Value.ref _) (Value.bytes _ _) _) _ _ _); k_dflt (refine' b_set ?e11F ?e11N ?e11U ?e11d ?e11n ?_; (case e11F => k_asm); (case e11N => k_asm); (case e11U => k_updF); (case e11d => k_asm); (case e11n => first | assumption | exact Nat.le_of_ble_eq_true rfl)); intro w9h' w9o' w9F' w9N' w9hd' w9hv'; (try dsimp only at w9N')))
  (k_with "BM step" => first | k_extra "e11" | k_extra "e10" | k_extra "e9" | k_extra "base")
  (k_with "BM steps" => repeat' (first | k_extra "BM step" | (k_unfold; (try dsimp only)) | (k_end; wrow_close) | walk1 | (dsimp only; walk1) | (leave1; walk_say "STEP leave1"; try dsimp only) | fail "no step"))
  (k_with "BM iter" => repeat' ((fail_if_success (with_reducible show wpAny _ _ (pyIter (Value.ref _)) _ _ _)); first | k_extra "BM step" | (k_unfold; (try dsimp only)) | (k_end; wrow_close) | walk1 | (dsimp only; walk1) | (leave1; walk_say "STEP leave1"; try dsimp only) | fail "no step"))
  trivial
noncomputable abbrev b37b : List Stmt := pick (a := b37.drop 11) (b := _) (by conv => lhs; whnf)
theorem nat_B (w : World) (mean : ExcName → Option Value) (mg mb : Str → Option Value) (m : Str → Option Value) (d : Nat) (o : Obj) (a1 a2 a3 a4 a5 : Nat) (T : Led) (hT : ∀ p ∈ T, p.1 ≠ d) (ho : BObj w o 20)
   (hm : Has [(Str.ofString "found", .ref d), (Str.ofString "finnish", .ref a1), (Str.ofString "swedish", .ref a2), (Str.ofString "danish", .ref a3), (Str.ofString "french", .ref a4), (Str.ofString "canadian", .ref a5)] m) :
   BlkE w mean mg mb (Str.ofString "charset_nationals") s37 135 (.ref 134) b37b 6 300 m ((d, o) :: T)
     (fun r n' => r = .ref d ∧ ∃ o', BObj w o' 100 ∧ ∀ p ∈ (d, o') :: T, p ∈ n') := by
  unfold BlkE
  k_fill
  intro dp un gd cn cs' L a ccd cll outer base g₀ L' s Q E hPE B F Xk N Tp hk hd huu hret
  replace F := Fr.hasL hm F
  dsimp only [ov] at F
  k_extra "BM iter"
  rename News _ _ _ _ => N9
  rename Fr _ _ _ _ => F9
  obtain ⟨R, vs, hN, hTR, hRd, hD, hI, hl⟩ := nat_prep N9 (by refine ⟨?_, ?_, ?_, ?_, ?_, ?_, ?_, ?_, ?_, ?_, ?_⟩ <;> omega) hT bv2 bv2 bv3 bv2 bv2
  refine' for_tup (news := (d, o) :: R) (n := 0) (vs := vs) (lo := tp vs) (JN w d R (fun i => 20 + 5 * i) [(Str.ofString "found", .ref d)]) ?hh ?F ?N ?hm ?hc ?hd ?hk ?h0 ?step ?fin
  case hh => exact rfl
  case F => exact F9
  case N => exact hN
  case hm => exact .tail _ hD
  case hc => exact rfl
  case hd => exact rfl
  case hk => rintro i m n ⟨o', k, h1, h2, rfl, h3⟩; exact .tail _ hD
  case h0 => exact ⟨o, 20, ho, Nat.le_refl _, rfl, ⟨rfl, trivial⟩⟩
  case step =>
    rintro I hI' i v m₁ news₁ h₁ tk₁ oi hv ⟨o', k, hb, hkb, rfl, hm'⟩ F₁ N₁ hoi
    obtain ⟨t, nm, one, bs, rfl, hm1, hm2, hbs⟩ := hI v (List.mem_of_getElem? hv)
    have hi5 : i < 5 := by have := (List.getElem?_eq_some_iff.mp hv).1; omega
    replace F₁ := Fr.hasL hm' F₁
    dsimp only [ov] at F₁
    clear hm'
    clear N9 F9 hm
    have hId : @LT.lt Nat _ d I := hI' _ (.head _)
    have hIR : ∀ p ∈ R, p.1 ≠ I := fun p hp => Nat.ne_of_lt (hI' p (.tail _ hp))
    k_extra "BM iter"
    rename Fr _ _ _ _ => F8
    rename News _ _ _ _ => N8
    refine' for_tup (news := (d, o') :: (I, oi) :: R) (n := 0) (vs := bs) (lo := tp bs) (JN w d ((I, oi) :: R) (fun j => 20 + 5 * i + j) [(Str.ofString "found", .ref d), (Str.ofString "one", .ref one)]) ?hh_ ?F_ ?N_ ?hm_ ?hc_ ?hd_ ?hk_ ?h0_ ?step_ ?fin_
    case hh_ => exact rfl
    case F_ => exact F8
    case N_ => exact news_flip N8
    case hm_ => exact .tail _ (.tail _ hm2)
    case hc_ => exact rfl
    case hd_ => exact rfl
    case hk_ => rintro i m n ⟨o', k, h1, h2, rfl, h3⟩; exact .tail _ (.tail _ hm2)
    case h0_ => exact ⟨o', k, hb, hkb, rfl, ⟨rfl, rfl, trivial⟩⟩
    case step_ =>
      rintro I2 hI2 j v2 m₂ news₂ h₂ tk₂ oi2 hv2 ⟨o2, k2, hb2, hkb2, rfl, hm'⟩ F₂ N₂ hoi2
      obtain ⟨bl, bt, rfl⟩ := hbs.2 v2 (List.mem_of_getElem? hv2)
      have hj : j < bs.length := (List.getElem?_eq_some_iff.mp hv2).1
      have hbl := hbs.1
      replace F₂ := Fr.hasL hm' F₂
      dsimp only [ov] at F₂
      clear hm' F8 N8
      have hkk : k2 ≤ 20 + 5 * i + j := hkb2
      have hId2 : @LT.lt Nat _ d I2 := hI2 _ (.head _)
      have hII2 : @LT.lt Nat _ I I2 := hI2 _ (.tail _ (.head _))
      have hIR2 : ∀ p ∈ R, p.1 ≠ I2 := fun p hp => Nat.ne_of_lt (hI2 p (.tail _ (.tail _ hp)))
      have hk1000 : k2 ≤ 1000 := by omega
      k_extra "BM steps"
      refine jn_end (by k_asm) (by k_asm) ?_ ⟨rfl, rfl, trivial⟩ (by assumption) ?_
      · k_extra "own all"
      · show k2 + 1 ≤ 20 + 5 * i + (j + 1)
        omega
    case fin_ =>
      rintro m₂ n2 h₂ tk₂ ⟨o2, k2, hb2, hkb2, rfl, hm'⟩ F₂ N₂
      clear F8 N8
      replace F₂ := Fr.hasL hm' F₂
      dsimp only [ov] at F₂
      clear hm'
      k_extra "BM steps"
      have hbl := hbs.1
      have hkk : k2 ≤ 20 + 5 * i + bs.length := hkb2
      refine jn_end (by k_asm) (news_flip (by k_asm)) ?_ ⟨rfl, trivial⟩ hb2 ?_
      · k_extra "own all"
      · show k2 ≤ 20 + 5 * (i + 1)
        omega
  case fin =>
    rintro m₁ n' h₁ tk₁ ⟨o', k, hb, hkb, rfl, hm'⟩ F₁ N₁
    replace F₁ := Fr.hasL hm' F₁
    dsimp only [ov] at F₁
    clear hm'
    k_extra "BM steps"
    have hkk : k ≤ 20 + 5 * vs.length := hkb
    obtain ⟨kvs, hk1, hk2⟩ := hb
    refine hret _ _ _ _ _ _ (.ret _) ⟨rfl, o', ⟨kvs, hk1, by omega⟩, ?_⟩ (by assumption) (by assumption)
    intro p hp
    rcases List.mem_cons.mp hp with rfl | hp
    · exact .head _
    · exact .tail _ (hTR p hp)
theorem setup_BN : True := by
  (k_with "e12" => (k_here; (with_reducible show wpAny _ _ (call (Value.ref 114) _) _ _ _); k_dflt (refine' pairs_drop ?e12B ?e12F ?e12X ?e12N ?e12T ?e12k ?e12hi ?e12hn ?e12d ?e12u ?_; (case e12N => k_asm); (case e12B => k_asm); (case e12F => k_asm); (case e12X => k_asm); (case e12T => k_asm); (case e12k => first | exact rfl | assumption); (case e12hi => repeat (first | exact ints_nil | refine ints_cons ?_)); (case e12hn => exact Nat.le_of_ble_eq_true rfl); (case e12d => ktr_room); (case e12u => ktr_units)); intro w9d' w9h' w9tk' w9F' w9N'; (try k_sweep)))
  (k_with "BN step" => first | k_extra "e11" | k_extra "e10" | k_extra "e9" | k_extra "e12" | k_extra "base")
  (k_with "BN steps" => repeat' (first | k_extra "BN step" | (k_unfold; (try dsimp only)) | (k_end; wrow_close) | walk1 | (dsimp only; walk1) | (leave1; walk_say "STEP leave1"; try dsimp only) | fail "no step"))
  (k_with "BN for" => repeat' ((fail_if_success (with_reducible show wpAny _ _ (execs (Stmt.For _ _ _ _ _ :: _) _) _ _ _)); first | k_extra "BN step" | (k_unfold; (try dsimp only)) | (k_end; wrow_close) | walk1 | (dsimp only; walk1) | (leave1; walk_say "STEP leave1"; try dsimp only) | fail "no step"))
  trivial
noncomputable def NatP (w : World) (X : Led) (r : Value) : Prop := ∃ d od, r = .ref d ∧ (d, od) ∈ X ∧ BObj w od 100 ∧ (d == sysModules) = false
theorem nationals_c (w : World) (mean : ExcName → Option Value) (mg mb : Str → Option Value) (T : Led) :
   Ctr w mean mg mb 135 8 400 [] T (fun r news' => ∃ d od, r = .ref d ∧ AllLt d T ∧ (∀ p ∈ (d, od) :: T, p ∈ news') ∧ BObj w od 100 ∧ (d == sysModules) = false) := by
  unfold Ctr
  k_fill
  intro dp un gd cn cs a ccd cl outer A₀ base h₀ L m s Q E B F X N Tp hk hd hu hret
  refine wpAny_call ?_
  k_dflt cell_enter
  k_extra "BN for"
  rename News _ _ _ _ => N9
  rename Fr _ _ _ _ => F9
  rename BObj _ _ _ => hb9
  rename ∀ p ∈ _, _ < _ => hl9'
  have hl9 := allLt_all hl9'
  rename (_ == sysModules) = false => hs9
  refine BlkE.use (by passes_own) (by k_asm) F9 (by k_asm) N9 (by k_asm) (by first | exact rfl | assumption) (nat_B w mean mg mb _ _ _ _ _ _ _ _ T (fun p hp => Nat.ne_of_lt (hl9' p hp)) hb9 ⟨rfl, rfl, rfl, rfl, rfl, rfl, trivial⟩) ?d ?u ?ret
  case d => omega
  case u => omega
  case ret =>
    intro fl' v' m' news' h' tk' hfl hP F₂ N₂
    obtain ⟨rfl, o', hbo, hN⟩ := hP
    cases hfl <;> dsimp only
    k_extra "BN steps"
    exact hret _ _ _ _ ⟨_, o', rfl, hl9, hN, hbo, hs9⟩ (by assumption) (by assumption)
open PyProof.V in
/-- a dict of ints that has the keys P -/
noncomputable def IKey (w : World) (o : Obj) (b : Nat) (P : Int → Prop) : Prop :=
  ∃ kvs D, o.IsDictOf (PySem.intKind PR w) kvs ∧ FlatPairs PyData.int kvs D ∧ D.length ≤ b ∧ ∀ k, P k → (valueAt kvs k).isSome = true
theorem ikey_of {w : World} {o : Obj} {b : Nat} (h : IntObj PR w o b) : IKey w o b (fun _ => False) := by
  obtain ⟨kvs, D, h1, h2, h3⟩ := h
  exact ⟨kvs, D, h1, h2, h3, fun _ q => q.elim⟩
theorem ikey_sub {w : World} {o : Obj} {b b' : Nat} {P P' : Int → Prop} (h : IKey w o b P) (hb : b ≤ b') (hP : ∀ k, P' k → P k) : IKey w o b' P' := by
  obtain ⟨kvs, D, h1, h2, h3, h4⟩ := h
  exact ⟨kvs, D, h1, h2, Nat.le_trans h3 hb, fun k q => h4 k (hP k q)⟩
theorem stored_some {K : Type} [DecidableEq K] {kvs : List (K × Value)} {k x : K} {v : Value} (h : (valueAt kvs x).isSome = true) : (valueAt (stored kvs k v) x).isSome = true := by
  by_cases e : x = k
  · subst e; rw [stored_self]; rfl
  · unfold stored
    split
    · unfold valueAt at h ⊢
      rw [Option.isSome_map, List.find?_isSome] at h ⊢
      obtain ⟨p, hp, hx⟩ := h
      refine ⟨p, List.mem_map.mpr ⟨p, hp, ?_⟩, hx⟩
      have : p.1 = x := of_decide_eq_true hx
      rw [if_neg (by rw [this]; exact e)]
    · unfold valueAt at h ⊢
      rw [Option.isSome_map, List.find?_isSome] at h ⊢
      obtain ⟨p, hp, hx⟩ := h
      exact ⟨p, List.mem_append.mpr (.inl hp), hx⟩
theorem merged_some {K : Type} [DecidableEq K] : ∀ (more kvs : List (K × Value)) {x : K}, (valueAt kvs x).isSome = true → (valueAt (merged kvs more) x).isSome = true
  | [], _, _, h => h
  | p :: more, kvs, _, h => merged_some more (stored kvs p.1 p.2) (stored_some h)
theorem without_some {K : Type} [DecidableEq K] {kvs : List (K × Value)} {k x : K} (h : (valueAt kvs x).isSome = true) (hne : x ≠ k) : (valueAt (without kvs k) x).isSome = true := by
  unfold valueAt without at *
  rw [Option.isSome_map, List.find?_isSome] at h ⊢
  obtain ⟨p, hp, hx⟩ := h
  have e : p.1 = x := of_decide_eq_true hx
  exact ⟨p, List.mem_filter.mpr ⟨hp, decide_eq_true (by rw [e]; exact hne)⟩, hx⟩
section
open PyProof.V
variable {w : World} {A : Around} {E : Value → Shared → Prop} {s : Shared} {h₀ : Heap} {L d : Addr} {m : Str → Option Value} {news : List (Addr × Obj)} {g : Obj → List (Addr × Obj)} {o : Obj} {b : Nat} {P : Int → Prop}
theorem io_new {env : Env} {pos : Pos} {Q : Value → Shared → Prop} (F : Fr h₀ L s.heap m) (N : News h₀ L s.heap news) (hbig : h₀.NoLimit)
    (k : ∀ d h' o, Fr h₀ L h' m → News h₀ L h' ((d, o) :: news) → AllLt d news → (d == sysModules) = false → IKey w o 0 (fun _ => False) → Q (.ref d) { s with heap := h' }) : wpAny (model PR w) A (eval (.Dict [] [] pos) env) Q E s :=
  newDict_K F N hbig fun d h' o F' N' l lo' _ _ h1 h2 => k d h' o F' N' (allLt_of fun p hp => l p hp) lo' ⟨[], [], h1, h2, Nat.le_refl _, fun _ q => q.elim⟩
theorem iod_nil : ∃ kvs D, Carries (PySem.intKind PR w) [] kvs ∧ FlatPairs PyData.int kvs D := ⟨[], [], trivial, .nil⟩
theorem iod_cons {k x : Int} {t t' : Tok} {vs : List (Value × Value)} (h : ∃ kvs D, Carries (PySem.intKind PR w) vs kvs ∧ FlatPairs PyData.int kvs D) : ∃ kvs D, Carries (PySem.intKind PR w) ((.int k t, .int x t') :: vs) kvs ∧ FlatPairs PyData.int kvs D := by
  obtain ⟨kvs, D, h1, h2⟩ := h
  exact ⟨(k, .int x t') :: kvs, _, ⟨intKind_is _ _ _ _, rfl, h1⟩, .cons (.int x t') h2⟩
theorem io_made {vs : List (Value × Value)} {Q : Value → Shared → Prop} (F : Fr h₀ L s.heap m) (N : News h₀ L s.heap news) (U : UpdF d o news g) (hd : o.IsDictOf (PySem.intKind PR w) []) (hc : ∃ kvs D, Carries (PySem.intKind PR w) vs kvs ∧ FlatPairs PyData.int kvs D) (hz : vs.length ≤ 20)
    (h : ∀ h' o', Fr h₀ L h' m → News h₀ L h' (g o') → IKey w o' 20 (fun _ => False) → Q (.ref d) { s with heap := h', toks := s.toks + vs.length }) : KdnMade PR w (PySem.intKind PR w) d Q vs s := by
  obtain ⟨pre, post, rfl, hg, a, b⟩ := U.split
  obtain ⟨kvs, D, hk, hf⟩ := hc
  have hm := N (d, o) (List.mem_append_right _ (.head _))
  refine ⟨kvs, hk, Heap.dictOf_iff.mpr ⟨o, hm.1, hd⟩, fun h' hmm hs => ?_⟩
  obtain ⟨o', ho', hd'⟩ := Heap.dictOf_iff.mp hmm
  have e1 := hk.length
  have e2 := merged_len kvs []
  have hf' := kt_merged PyProof.V.same_int hf (kvs := []) (D := []) .nil
  have e3 := hf'.length
  exact h h' o' (F.change hs hm.2.1 hm.2.2) (hg o' ▸ N.setIn a b hs ho') ⟨_, _, hd', hf', by simp at e2; omega, fun _ q => q.elim⟩
theorem io_method {name : Str} {id : String} {pl : Sem Bool} {Q : Value × List Value → Shared → Prop} (slot : Slot "dict" name id) (ty : typeOf (.builtin id) = pure (.type "method_descriptor")) (N : News h₀ L s.heap news) (hp : (d, o) ∈ news) (hd : IKey w o b P) (h : Q (.builtin id, [.ref d]) s) :
    wpAny (model PR w) A (getMethod (.ref d) name pl) Q E s := by
  obtain ⟨kvs, D, h1, _⟩ := hd
  exact kob_method slot ty N hp h1 h
theorem io_update {o₂ : Addr} {oo : Obj} {b₂ : Nat} {P₂ : Int → Prop} {Q : Value → Shared → Prop} (F : Fr h₀ L s.heap m) (N : News h₀ L s.heap news) (U : UpdF d o news g) (hd : IKey w o b P) (m2 : (o₂, oo) ∈ news) (hd2 : IKey w oo b₂ P₂) (lo2 : (o₂ == sysModules) = false) (hne : d ≠ o₂) (hb : b + b₂ ≤ 10000)
    (h : ∀ h' o', Fr h₀ L h' m → News h₀ L h' (g o') → IKey w o' (b + b₂) P → Q .none { s with heap := h' }) : wpAny (model PR w) A (call (.builtin "dict.update") [.ref d, .ref o₂]) Q E s := by
  obtain ⟨kvs, D, h1, h2, h3, h4⟩ := hd
  obtain ⟨kvs₂, D₂, k1, k2, k3, _⟩ := hd2
  refine kt_update_K PyProof.V.same_int F N U h1 h2 (TabAt.ofNews N m2 lo2 k1 k2) hne (fun h' o' kvs' F' N' hd' hf' => ?_) (by rw [sizeLine_eq]; omega)
  refine h h' o' F' N' ⟨kvs', _, hd', hf', ?_, fun k hk => ?_⟩
  · have e1 := (kt_merged PyProof.V.same_int k2 h2).length
    have e2 := merged_len kvs₂ kvs
    have e3 := h2.length
    have e4 := k2.length
    omega
  · rw [hf'.isSome PyProof.V.same_int, ← (kt_merged PyProof.V.same_int k2 h2).isSome PyProof.V.same_int]
    exact merged_some _ _ (h4 k hk)
theorem io_set {k x : Int} {t t' : Tok} {Q : Unit → Shared → Prop} (F : Fr h₀ L s.heap m) (N : News h₀ L s.heap news) (U : UpdF d o news g) (hd : IKey w o b P) (hb : b ≤ 10000)
    (h : ∀ h' o', Fr h₀ L h' m → News h₀ L h' (g o') → IKey w o' (b + 1) (fun y => y = k ∨ P y) → Q () { s with heap := h', toks := s.toks + 1 }) : wpAny (model PR w) A (setItem (.ref d) (.int k t) (.int x t')) Q E s := by
  obtain ⟨kvs, D, h1, h2, h3, h4⟩ := hd
  refine setItem_K PyProof.V.same_int (intKind_is _ _ _ _) (.int x t') F N U h1 h2 (fun h' o' F' N' hd' hf' => ?_) (by rw [sizeLine_eq]; omega)
  refine h h' o' F' N' ⟨_, _, hd', hf', Nat.le_trans (putD_length_le _ _ _) (by omega), fun y hy => ?_⟩
  rcases hy with rfl | hy
  · rw [stored_self]; rfl
  · exact stored_some (h4 y hy)
theorem io_pop {k : Int} {t : Tok} {Q : Value → Shared → Prop} (F : Fr h₀ L s.heap m) (N : News h₀ L s.heap news) (U : UpdF d o news g) (hd : IKey w o b P) (hP : P k) (hb : b ≤ 10000)
    (h : ∀ h' o' v, Fr h₀ L h' m → News h₀ L h' (g o') → IKey w o' b (fun y => y ≠ k ∧ P y) → Q v { s with heap := h', toks := s.toks + 1 }) : wpAny (model PR w) A (call (.builtin "dict.pop") [.ref d, .int k t]) Q E s := by
  obtain ⟨kvs, D, h1, h2, h3, h4⟩ := hd
  obtain ⟨v, hv⟩ := Option.isSome_iff_exists.mp (h4 k hP)
  have hl := h2.length
  refine kob_pop (k := k) F N U h1 (intKind_is _ _ _ _) (.inl rfl) rfl (PySem.F.args_dict_pop_2 _ _) hv (by rw [sizeLine_eq]; omega) fun h' o' F' N' hd' => ?_
  have hf' := h2.without PyProof.V.same_int k
  refine h h' o' v F' N' ⟨_, _, hd', hf', ?_, fun y hy => without_some (h4 y hy.2) hy.1⟩
  have e1 := hf'.length
  have e2 : (without kvs k).length ≤ kvs.length := List.length_filter_le _ _
  omega
end
theorem setup_BD : True := by
  (k_with "e13" => (k_here; (with_reducible show wpAny _ _ (eval (PySem.Expr.Dict _ _ _) _) _ _ _); k_dflt (refine' kdn_eval (knd := PySem.intKind PR _) ?e13F ?e13N ?e13b ?e13a ?e13l ?e13e ?e13n ?_; (case e13F => k_asm); (case e13N => first | k_asm | exact News.nil); (case e13b => exact Top.nolimit (by k_asm)); (case e13a => rfl); (case e13l => rfl); (case e13e => exact List.cons_ne_nil _ _); (case e13n => exact Nat.le_of_ble_eq_true rfl)); intro w9d' w9h' w9o' w9F' w9N' w9l1 w9lo' w9hd'; (try k_lt w9l1)))
  (k_with "e14" => ((with_reducible show KdnMade _ _ _ _ _ _ _); k_dflt (refine' io_made ?e14F ?e14N ?e14U ?e14d ?e14c ?e14z ?_; (case e14F => k_asm); (case e14N => k_asm); (case e14U => k_updF); (case e14d => k_asm); (case e14c => repeat (first | exact iod_nil | refine iod_cons ?_)); (case e14z => exact Nat.le_of_ble_eq_true rfl)); intro w9h' w9o' w9F' w9N' w9hd'; (try dsimp only at w9N')))
  (k_with "e15" => (k_here; (with_reducible show wpAny _ _ (eval (PySem.Expr.Dict [] [] _) _) _ _ _); k_dflt (refine' io_new ?e15F ?e15N ?e15b ?_; (case e15F => k_asm); (case e15N => first | k_asm | exact News.nil); (case e15b => exact Top.nolimit (by k_asm))); intro w9d' w9h' w9o' w9F' w9N' w9l1 w9lo' w9hd'; (try simp only [AllLt, and_true] at w9l1)))
  (k_with "e16" => (k_here; (with_reducible show wpAny _ _ (getMethod (Value.ref _) (Str.ofString "update") _) _ _ _); k_dflt (refine' io_method PySem.F.slot_dict_update PySem.F.type_dict_update ?e16N ?e16p ?e16d ?_; (case e16N => k_asm); (case e16d => k_asm); (case e16p => k_extra "own mem"))))
  (k_with "e17" => (k_here; (with_reducible show wpAny _ _ (getMethod (Value.ref _) (Str.ofString "pop") _) _ _ _); k_dflt (refine' io_method PySem.F.slot_dict_pop PySem.F.type_dict_pop ?e17N ?e17p ?e17d ?_; (case e17N => k_asm); (case e17d => k_asm); (case e17p => k_extra "own mem"))))
  (k_with "e18" => (k_here; (with_reducible show wpAny _ _ (call (Value.builtin "dict.update") [Value.ref _, Value.ref _]) _ _ _); k_dflt (refine' io_update ?e18F ?e18N ?e18U ?e18d ?e18m2 ?e18d2 ?e18lo2 ?e18ne ?e18b ?_; (case e18F => k_asm); (case e18N => k_asm); (case e18m2 => exact .head _); (case e18d2 => assumption); (case e18U => k_updF); (case e18d => k_asm); (case e18lo2 => assumption); (case e18ne => (refine neN ?_; omega)); (case e18b => first | omega | exact Nat.le_of_ble_eq_true rfl)); intro w9h' w9o' w9F' w9N' w9hd'; (try dsimp only at w9N'); replace w9N' := news_drop w9N'))
  (k_with "e19" => (k_here; (with_reducible show wpAny _ _ (setItem (Value.ref _) (Value.int _ _) (Value.int _ _)) _ _ _); k_dflt (refine' io_set ?e19F ?e19N ?e19U ?e19d ?e19b ?_; (case e19F => k_asm); (case e19N => k_asm); (case e19U => k_updF); (case e19d => k_asm); (case e19b => first | assumption | omega | exact Nat.le_of_ble_eq_true rfl)); intro w9h' w9o' w9F' w9N' w9hd'; (try dsimp only at w9N')))
  (k_with "e20" => (k_here; (with_reducible show wpAny _ _ (call (Value.builtin "dict.pop") [Value.ref _, Value.int _ _]) _ _ _); k_dflt (refine' io_pop ?e20F ?e20N ?e20U ?e20d ?e20P ?e20b ?_; (case e20F => k_asm); (case e20N => k_asm); (case e20U => k_updF); (case e20d => k_asm); (case e20P => ((try dsimp only); omega)); (case e20b => first | assumption | omega | exact Nat.le_of_ble_eq_true rfl)); intro w9h' w9o' w9v' w9F' w9N' w9hd'; (try dsimp only at w9N')))
  (k_with "e21" => (k_here; (with_reducible show wpAny _ _ (call (Value.ref 114) _) _ _ _); k_dflt (refine' pairs_use ?e21B ?e21F ?e21X ?e21N ?e21T ?e21k ?e21hi ?e21hn ?e21d ?e21u ?_; (case e21N => k_asm); (case e21B => k_asm); (case e21F => k_asm); (case e21X => k_asm); (case e21T => k_asm); (case e21k => first | exact rfl | assumption); (case e21hi => repeat (first | exact ints_nil | refine ints_cons ?_)); (case e21hn => exact Nat.le_of_ble_eq_true rfl); (case e21d => ktr_room); (case e21u => ktr_units)); intro w9d' w9od' w9h' w9tk' w9l1 w9lo' w9ho' w9F' w9N'; (try simp only [AllLt, and_true] at w9l1); (have w9hk' := ikey_of w9ho'); clear w9ho'; (try k_sweep)))
  (k_with "e22" => (k_here; (with_reducible show wpAny _ _ (callWith _ (Value.builtin "dict.update") _ _ _) _ _ _); refine callWith_method1 ?_))
  (k_with "e23" => (k_here; (with_reducible show wpAny _ _ (callWith _ (Value.builtin "dict.pop") _ _ _) _ _ _); refine callWith_method1 ?_))
  (k_with "BD step" => first | k_extra "e23" | k_extra "e22" | k_extra "e21" | k_extra "e20" | k_extra "e19" | k_extra "e18" | k_extra "e17" | k_extra "e16" | k_extra "e15" | k_extra "e14" | k_extra "e13" | k_extra "base")
  (k_with "BD steps" => repeat' (first | k_extra "BD step" | (k_unfold; (try dsimp only)) | (k_end; wrow_close) | walk1 | (dsimp only; walk1) | (leave1; walk_say "STEP leave1"; try dsimp only) | fail "no step"))
  trivial
theorem drawing_c (w : World) (mean : ExcName → Option Value) (mg mb : Str → Option Value) (T : Led) :
   Ctr w mean mg mb 121 8 400 [] T (fun r news' => ∃ d od, r = .ref d ∧ ∀ p ∈ (d, od) :: T, p ∈ news') := by
  unfold Ctr
  k_fill
  intro dp un gd cn cs a ccd cl outer A₀ base h₀ L m s Q E B F X N Tp hk hd hu hret
  refine wpAny_call ?_
  k_dflt cell_enter
  k_extra "BD steps"
  exact hret _ _ _ _ ⟨_, _, rfl, fun _ h => h⟩ (by assumption) (by assumption)
theorem setup_BS : True := by
  (k_with "BS step" => first | k_extra "e23" | k_extra "e22" | k_extra "e21" | k_extra "e20" | k_extra "e19" | k_extra "e18" | k_extra "e17" | k_extra "e16" | k_extra "e15" | k_extra "e14" | k_extra "e13" | k_extra "base")
  (k_with "BS steps" => repeat' (first | k_extra "BS step" | (k_unfold; (try dsimp only)) | (k_end; wrow_close) | walk1 | (dsimp only; walk1) | (leave1; walk_say "STEP leave1"; try dsimp only) | fail "no step"))
  (k_with "BS iter" => repeat' ((fail_if_success (with_reducible show wpAny _ _ (pyIter (Value.ref _)) _ _ _)); first | k_extra "BS step" | (k_unfold; (try dsimp only)) | (k_end; wrow_close) | walk1 | (dsimp only; walk1) | (leave1; walk_say "STEP leave1"; try dsimp only) | fail "no step"))
  (k_with "BS for" => repeat' ((fail_if_success (with_reducible show wpAny _ _ (execs (Stmt.For _ _ _ _ _ :: _) _) _ _ _)); first | k_extra "BS step" | (k_unfold; (try dsimp only)) | (k_end; wrow_close) | walk1 | (dsimp only; walk1) | (leave1; walk_say "STEP leave1"; try dsimp only) | fail "no step"))
  trivial
noncomputable def JS (w : World) (d : Nat) (T : Led) (ls : List (Str × Value)) (i : Nat) (m : Str → Option Value) (n : Led) : Prop :=
  ∃ o', IKey w o' i (fun y => 32 ≤ y ∧ y < 32 + (i : Int)) ∧ n = (d, o') :: T ∧ Has ls m
theorem js_end {w : World} {h₀ h' : Heap} {L : Addr} {s₁ : Shared} {I tk i d : Nat} {oI o' : Obj} {T : Led} {ls : List (Str × Value)} {m' : Str → Option Value}
    (F : Fr h₀ L h' m') (N : News h₀ L h' ((I, oI) :: (d, o') :: T)) (hI : ∀ p ∈ (d, o') :: T, p.1 ≠ I) (hm : Has ls m') (ho : IKey w o' (i + 1) (fun y => y = 32 + (i : Int) ∨ (32 ≤ y ∧ y < 32 + (i : Int)))) :
    UnrEndW h₀ L s₁ [(I, oI)] (JS w d T ls (i + 1)) { s₁ with heap := h', toks := tk } := by
  refine ⟨h', tk, _, (d, o') :: T, rfl, F, ?_, ?_, ⟨o', ikey_sub ho (Nat.le_refl _) (fun k hk => ?_), rfl, hm⟩⟩
  · intro p hp
    rcases List.mem_append.mp hp with hp | hp
    · rw [List.mem_singleton.mp hp]; exact N _ (.head _)
    · exact N p (.tail _ hp)
  · intro p hp q hq
    rw [List.mem_singleton.mp hq]
    exact hI p hp
  · have e : ((i + 1 : Nat) : Int) = (i : Int) + 1 := rfl
    rw [e] at hk
    omega
noncomputable abbrev b36b : List Stmt := pick (a := b36.drop 1) (b := _) (by conv => lhs; whnf)
theorem supp_B (w : World) (mean : ExcName → Option Value) (mg mb : Str → Option Value) (m : Str → Option Value) (d : Nat) (o : Obj) (b : Bool) (T : Led) (hT : ∀ p ∈ T, p.1 ≠ d) (ho : IKey w o 0 (fun _ => False))
   (hm : Has [(Str.ofString "found", .ref d), (Str.ofString "is_dec", .bool b)] m) :
   BlkE w mean mg mb (Str.ofString "charset_supplement") s36 128 (.ref 127) b36b 6 300 m ((d, o) :: T)
     (fun r n' => r = .ref d ∧ ∃ o', ∀ p ∈ (d, o') :: T, p ∈ n') := by
  unfold BlkE
  k_fill
  intro dp un gd cn cs' L a ccd cll outer base g₀ L' s Q E hPE B F Xk N Tp hk hd huu hret
  replace F := Fr.hasL hm F
  dsimp only [ov] at F
  k_extra "BS iter"
  rename News _ _ _ _ => N9
  rename Fr _ _ _ _ => F9
  refine' for_rng (a₀ := 32) (b₀ := 127 + 1) (n := 96) (news := (d, o) :: T) (JS w d T [(Str.ofString "found", .ref d), (Str.ofString "is_dec", .bool b)]) ?hh ?hr ?hs ?hn ?F ?N ?h0 ?step ?fin
  case hr => assumption
  case N => exact N9
  case F => exact F9
  case hh => exact rfl
  case hs => exact small_one (by omega) (by omega) (by omega) (by omega)
  case hn => exact rsz (by omega)
  case h0 => exact ⟨o, ikey_sub ho (Nat.le_refl _) (fun k hk => by omega), rfl, rfl, rfl, trivial⟩
  case step =>
    rintro I hI i t m₁ news₁ h₁ tk₁ oi hi ⟨o', hb, rfl, hm'⟩ F₁ N₁ hoi
    replace F₁ := Fr.hasL hm' F₁
    dsimp only [ov] at F₁
    clear hm' N9 F9
    have hId : @LT.lt Nat _ d I := hI _ (.head _)
    have hIR : ∀ p ∈ T, p.1 ≠ I := fun p hp => Nat.ne_of_lt (hI p (.tail _ hp))
    have hi0 : 0 ≤ (i : Int) := Int.natCast_nonneg i
    have hi1 : (i : Int) < 96 := by exact_mod_cast hi
    k_extra "BS steps"
    refine js_end (by k_asm) (by k_asm) ?_ ⟨rfl, rfl, trivial⟩ (by assumption)
    k_extra "own all"
  case fin =>
    rintro m₁ n' h₁ tk₁ ⟨o', hb, rfl, hm'⟩ F₁ N₁
    replace F₁ := Fr.hasL hm' F₁
    dsimp only [ov] at F₁
    clear hm' N9 F9
    cases b
    · k_extra "BS steps"
      exact hret _ _ _ _ _ _ (.ret _) ⟨rfl, _, fun _ h => h⟩ (by assumption) (by assumption)
    · k_extra "BS steps"
      exact hret _ _ _ _ _ _ (.ret _) ⟨rfl, _, fun _ h => h⟩ (by assumption) (by assumption)
theorem supplement_c (w : World) (mean : ExcName → Option Value) (mg mb : Str → Option Value) (b : Bool) (T : Led) :
   Ctr w mean mg mb 128 8 400 [.bool b] T (fun r news' => ∃ d od, r = .ref d ∧ ∀ p ∈ (d, od) :: T, p ∈ news') := by
  unfold Ctr
  k_fill
  intro dp un gd cn cs a ccd cl outer A₀ base h₀ L m s Q E B F X N Tp hk hd hu hret
  refine wpAny_call ?_
  k_dflt cell_enter
  k_extra "BS for"
  rename News _ _ _ _ => N9
  rename Fr _ _ _ _ => F9
  rename IKey _ _ _ _ => hk9
  rename AllLt _ _ => hl9
  refine BlkE.use (by passes_own) (by k_asm) F9 (by k_asm) N9 (by k_asm) (by first | exact rfl | assumption) (supp_B w mean mg mb _ _ _ b T (fun p hp => Nat.ne_of_lt (lt_mem hl9 hp)) hk9 ⟨rfl, rfl, trivial⟩) ?d ?u ?ret
  case d => omega
  case u => omega
  case ret =>
    intro fl' v' m' news' h' tk' hfl hP F₂ N₂
    obtain ⟨rfl, o', hN⟩ := hP
    cases hfl <;> dsimp only
    k_extra "BS steps"
    exact hret _ _ _ _ ⟨_, o', rfl, hN⟩ (by assumption) (by assumption)
theorem setup_BT : True := by
  (k_with "e24" => (k_here; (with_reducible show wpAny _ _ (eval (PySem.Expr.Dict [] [] _) _) _ _ _); k_dflt (refine' io_new ?e24F ?e24N ?e24b ?_; (case e24F => k_asm); (case e24N => first | k_asm | exact News.nil); (case e24b => exact Top.nolimit (by k_asm))); intro w9d' w9h' w9o' w9F' w9N' w9l1 w9lo' w9hd'; replace w9N' := news_drop w9N'))
  (k_with "e25" => (k_here; (with_reducible show wpAny _ _ (subscriptTail _ _ (Value.ref _) (Value.bytes _ _)) _ _ _); k_dflt (refine' b_item ?e25N ?e25p ?e25hv ?_; (case e25N => k_asm); (case e25p => k_extra "own mem"); (case e25hv => assumption))))
  (k_with "e26" => (k_here; (with_reducible show wpAny _ _ (call (Value.ref 135) _) _ _ _); k_dflt (refine' Ctr.use (nationals_c _ _ _ _ _) ?e26B ?e26F ?e26X ?e26N ?e26T ?e26k ?e26d ?e26u ?_; (case e26N => k_asm); (case e26B => k_asm); (case e26F => k_asm); (case e26X => k_asm); (case e26T => k_asm); (case e26k => first | exact rfl | assumption); (case e26d => ktr_room); (case e26u => ktr_units)); intro w9r' w9n' w9h' w9tk' w9hP' w9F' w9N'; obtain ⟨w9d', w9od', w9hr', w9l1, w9hm', w9hb', w9lo'⟩ := w9hP'; subst w9hr'; (have w9N2' := news_sub w9N' w9hm'); clear w9N' w9hm'))
  (k_with "e27" => (k_here; (with_reducible show wpAny _ _ (call (Value.ref 121) _) _ _ _); k_dflt (refine' Ctr.use (drawing_c _ _ _ _ _) ?e27B ?e27F ?e27X ?e27N ?e27T ?e27k ?e27d ?e27u ?_; (case e27N => k_asm); (case e27B => k_asm); (case e27F => k_asm); (case e27X => k_asm); (case e27T => k_asm); (case e27k => first | exact rfl | assumption); (case e27d => ktr_room); (case e27u => ktr_units)); intro w9r' w9n' w9h' w9tk' w9hP' w9F' w9N'; obtain ⟨w9d', w9od', w9hr', w9hm'⟩ := w9hP'; subst w9hr'; (have w9N2' := news_drop (news_sub w9N' w9hm')); clear w9N' w9hm'))
  (k_with "e28" => (k_here; (with_reducible show wpAny _ _ (call (Value.ref 128) _) _ _ _); k_dflt (refine' Ctr.use (supplement_c _ _ _ _ _ _) ?e28B ?e28F ?e28X ?e28N ?e28T ?e28k ?e28d ?e28u ?_; (case e28N => k_asm); (case e28B => k_asm); (case e28F => k_asm); (case e28X => k_asm); (case e28T => k_asm); (case e28k => first | exact rfl | assumption); (case e28d => ktr_room); (case e28u => ktr_units)); intro w9r' w9n' w9h' w9tk' w9hP' w9F' w9N'; obtain ⟨w9d', w9od', w9hr', w9hm'⟩ := w9hP'; subst w9hr'; (have w9N2' := news_drop (news_sub w9N' w9hm')); clear w9N' w9hm'))
  (k_with "BT step" => first | k_extra "e28" | k_extra "e27" | k_extra "e26" | k_extra "e25" | k_extra "e24" | k_extra "e11" | k_extra "e10" | k_extra "e9" | k_extra "e12" | k_extra "base")
  (k_with "BT steps" => repeat' (first | k_extra "BT step" | (k_unfold; (try dsimp only)) | (k_end; wrow_close) | walk1 | (dsimp only; walk1) | (leave1; walk_say "STEP leave1"; try dsimp only) | fail "no step"))
  trivial
theorem tables_c (w : World) (mean : ExcName → Option Value) (mg mb : Str → Option Value) (T : Led) :
   Ctr w mean mg mb 142 10 500 [] T (fun r news' => ∃ d od, r = .ref d ∧ ∀ p ∈ (d, od) :: T, p ∈ news') := by
  unfold Ctr
  k_fill
  intro dp un gd cn cs a ccd cl outer A₀ base h₀ L m s Q E B F X N Tp hk hd hu hret
  refine wpAny_call ?_
  k_dflt cell_enter
  k_extra "BT steps"
  exact hret _ _ _ _ ⟨_, _, rfl, fun _ h => h⟩ (by assumption) (by assumption)
theorem setup_XC3 : True := by
  (k_with "e29" => (k_here; (with_reducible show wpAny _ _ (call (Value.ref 142) _) _ _ _); k_dflt (refine' Ctr.use (tables_c _ _ _ _ _) ?e29B ?e29F ?e29X ?e29N ?e29T ?e29k ?e29d ?e29u ?_; (case e29N => k_asm); (case e29B => k_asm); (case e29F => k_asm); (case e29X => k_asm); (case e29T => k_asm); (case e29k => first | exact rfl | assumption); (case e29d => ktr_room); (case e29u => ktr_units)); intro w9r' w9n' w9h' w9tk' w9hP' w9F' w9N'; obtain ⟨w9d', w9od', w9hr', w9hm'⟩ := w9hP'; subst w9hr'; (have w9N2' := news_drop (news_sub w9N' w9hm')); clear w9N' w9hm'))
  (k_with "XC3 step" => first | k_extra "e29" | k_extra "base")
  (k_with "XC3 steps" => repeat' (first | k_extra "XC3 step" | (k_unfold; (try dsimp only)) | (k_end; wrow_close) | walk1 | (dsimp only; walk1) | (leave1; walk_say "STEP leave1"; try dsimp only) | fail "no step"))
  trivial
theorem charsets_c (w : World) (mean : ExcName → Option Value) (mg mb : Str → Option Value) (T : Led) :
   Ctr w mean mg mb 224 24 1600 [] T (KP T) := by
  unfold Ctr
  k_fill
  intro dp un gd cn cs a ccd cl outer A₀ base h₀ L m s Q E B F X N Tp hk hd hu hret
  refine' call_cls ?k1 ?k2 ?k3 ?k4 ?k5 ?k6 ?_
  case k1 => k_asm
  case k2 => k_asm
  case k3 => k_asm
  case k4 => k_is
  case k5 => k_is
  case k6 => k_is
  intro x' d' h' F' N' l1 l2
  (try k_lt l1); (try k_lt2 l2)
  k_extra "own enterD"
  k_extra "XC3 steps"
  refine hret _ _ _ _ ⟨⟨_, rfl⟩, ?hsub⟩ (by assumption) (by assumption)
  exact fun p hp => by first | exact .tail _ (.tail _ hp) | exact .tail _ (.tail _ (.tail _ hp)) | exact .tail _ (.tail _ (.tail _ (.tail _ hp))) | simp [hp]
theorem setup_XS : True := by
  (k_with "e30" => (k_here; (with_reducible show wpAny _ _ (call (Value.ref 273) _) _ _ _); k_dflt (refine' Ctr.use (cursor_c _ _ _ _ _) ?e30B ?e30F ?e30X ?e30N ?e30T ?e30k ?e30d ?e30u ?_; (case e30N => k_asm); (case e30B => k_asm); (case e30F => k_asm); (case e30X => k_asm); (case e30T => k_asm); (case e30k => first | exact rfl | assumption); (case e30d => ktr_room); (case e30u => ktr_units)); intro w9r' w9n' w9h' w9tk' w9hP' w9F' w9N'; obtain ⟨⟨w9x9', w9hr'⟩, w9hm'⟩ := w9hP'; subst w9hr'; (have w9N2' := news_sub w9N' w9hm'); clear w9N' w9hm'))
  (k_with "e31" => (k_here; (with_reducible show wpAny _ _ (call (Value.ref 406) _) _ _ _); k_dflt (refine' Ctr.use (margins_c _ _ _ _ _ _ _) ?e31B ?e31F ?e31X ?e31N ?e31T ?e31k ?e31d ?e31u ?_; (case e31N => k_asm); (case e31B => k_asm); (case e31F => k_asm); (case e31X => k_asm); (case e31T => k_asm); (case e31k => first | exact rfl | assumption); (case e31d => ktr_room); (case e31u => ktr_units)); intro w9r' w9n' w9h' w9tk' w9hP' w9F' w9N'; obtain ⟨⟨w9x9', w9hr'⟩, w9hm'⟩ := w9hP'; subst w9hr'; (have w9N2' := news_sub w9N' w9hm'); clear w9N' w9hm'))
  (k_with "e32" => (k_here; (with_reducible show wpAny _ _ (call (Value.ref 505) _) _ _ _); k_dflt (refine' Ctr.use (tabs_c _ _ _ _ _ _) ?e32B ?e32F ?e32X ?e32N ?e32T ?e32k ?e32d ?e32u ?_; (case e32N => k_asm); (case e32B => k_asm); (case e32F => k_asm); (case e32X => k_asm); (case e32T => k_asm); (case e32k => first | exact rfl | assumption); (case e32d => ktr_room); (case e32u => ktr_units)); intro w9r' w9n' w9h' w9tk' w9hP' w9F' w9N'; obtain ⟨⟨w9x9', w9hr'⟩, w9hm'⟩ := w9hP'; subst w9hr'; (have w9N2' := news_sub w9N' w9hm'); clear w9N' w9hm'))
  (k_with "e33" => (k_here; (with_reducible show wpAny _ _ (call (Value.ref 224) _) _ _ _); k_dflt (refine' Ctr.use (charsets_c _ _ _ _ _) ?e33B ?e33F ?e33X ?e33N ?e33T ?e33k ?e33d ?e33u ?_; (case e33N => k_asm); (case e33B => k_asm); (case e33F => k_asm); (case e33X => k_asm); (case e33T => k_asm); (case e33k => first | exact rfl | assumption); (case e33d => ktr_room); (case e33u => ktr_units)); intro w9r' w9n' w9h' w9tk' w9hP' w9F' w9N'; obtain ⟨⟨w9x9', w9hr'⟩, w9hm'⟩ := w9hP'; subst w9hr'; (have w9N2' := news_sub w9N' w9hm'); clear w9N' w9hm'))
  (k_with "XS step" => first | k_extra "e33" | k_extra "e32" | k_extra "e31" | k_extra "e30" | k_extra "base")
  (k_with "XS steps" => repeat' (first | k_extra "XS step" | (k_unfold; (try dsimp only)) | (k_end; wrow_close) | walk1 | (dsimp only; walk1) | (leave1; walk_say "STEP leave1"; try dsimp only) | fail "no step"))
  (k_with "XS grid" => repeat' ((fail_if_success (with_reducible show wpAny _ _ (call (Value.ref 817) _) _ _ _)); first | k_extra "XS step" | (k_unfold; (try dsimp only)) | (k_end; wrow_close) | walk1 | (dsimp only; walk1) | (leave1; walk_say "STEP leave1"; try dsimp only) | fail "no step"))
  trivial
theorem screen_c (w : World) (mean : ExcName → Option Value) (mg mb : Str → Option Value) (t u : Tok) (T : Led) :
   Ctr w mean mg mb 1101 40 3500 [.int 2 t, .int 5 u, .none, .none] T (ScreenPost w T) := by
  unfold Ctr
  k_fill
  intro dp un gd cn cs a ccd cl outer A₀ base h₀ L m s Q E B F X N Tp hk hd hu hret
  refine' call_cls ?k1 ?k2 ?k3 ?k4 ?k5 ?k6 ?_
  case k1 => k_asm
  case k2 => k_asm
  case k3 => k_asm
  case k4 => k_is
  case k5 => k_is
  case k6 => k_is
  intro x' d' h' F' N' l1 l2
  (try k_lt l1); (try k_lt2 l2)
  have hTd : ∀ p ∈ T, p.1 ≠ d' := fun p hp => Nat.ne_of_lt (l1 p hp)
  have hTx : ∀ p ∈ T, p.1 ≠ x' := fun p hp => Nat.ne_of_lt (Nat.lt_trans (l1 p hp) l2)
  k_extra "own enterD"
  k_extra "XS grid"
  refine' Ctr.use (grid_c _ _ _ _ _ _ _) ?B ?F ?X ?N ?T ?k ?d ?u ?_
  case N => k_asm
  case B => k_asm
  case F => k_asm
  case X => k_asm
  case T => k_asm
  case k => first | exact rfl | assumption
  case d => ktr_room
  case u => ktr_units
  intro r' n' h2 tk2 hP F2 N2
  obtain ⟨gi, ll, L0, L1, C0, C1, n0, n1, n2, v0, v1, Y, rfl, hm, lC0, lC1, hC, apY, yC0, yC1, hG, hll, hL0, hL1, hv0, hv1⟩ := hP
  obtain ⟨R, hN, hRs, hRd, hRx⟩ := scr_prep N2 hm lC0 lC1 apY hTd hTx
  clear N2 N'
  k_extra "XS steps"
  exact hret _ _ _ _ (scr_end (fun p hp => List.mem_cons_of_mem _ hp) hRs (allLt_all l1) l2 lC0 lC1 hC apY yC0 yC1 hG hll hL0 hL1 hv0 hv1) (by assumption) (by assumption)
theorem off_up {T : Led} {q c : Nat} (h : AllLt q T) (k : q ≤ c) : ∀ p ∈ T, p.1 ≠ c := fun p hp => Nat.ne_of_lt (Nat.lt_of_lt_of_le (lt_mem h hp) k)
theorem off_up' {T : Led} {q c : Nat} (h : ∀ p ∈ T, p.1 < q) (k : q ≤ c) : ∀ p ∈ T, p.1 ≠ c := fun p hp => Nat.ne_of_lt (Nat.lt_of_lt_of_le (h p hp) k)
section
variable {prog : Program} {w : World} {A : Around} {E : Value → Shared → Prop} {s : Shared} {h₀ : Heap} {L : Addr} {m : Str → Option Value} {news : Led}
theorem pick_all {R : Value → Cell → Prop} {vs : List Value} {cs : List Cell} (h : AllC R vs cs) {x y : Int} (h0 : 0 ≤ x) (h1 : x ≤ y) (h2 : y ≤ vs.length) :
    AllC R (slicePick vs.toArray (some x) (some y) none).toList ((cs.drop x.toNat).take (y - x).toNat) := by
  have ex : x = (x.toNat : Int) := by omega
  have ey : y = (y.toNat : Int) := by omega
  have e : (y - x).toNat = y.toNat - x.toNat := by omega
  rw [ex, ey, slicePick_run vs.toArray x.toNat y.toNat (by simp; omega) (by omega)]
  simpa [← ex, ← ey, e] using (h.drop x.toNat).take (y.toNat - x.toNat)
theorem cells_slice {value slice : Expr} {C n : Nat} {vs : List Value} {cs : List Cell} {R : Value → Cell → Prop} {y z : Int} {ty tz : Tok} {Q : Value → Shared → Prop}
    (F : Fr h₀ L s.heap m) (N : News h₀ L s.heap news) (hm : (C, listOf vs.toArray n) ∈ news) (hC : AllC R vs cs) (h5 : vs.length = 5) (h0 : 0 ≤ y) (h1 : y ≤ z) (h2 : z ≤ 5)
    (h : ∀ a h' vs', AllLt a news → AllC R vs' ((cs.drop y.toNat).take (z - y).toNat) → Fr h₀ L h' m → News h₀ L h' ((a, listOf vs'.toArray 0) :: news) → Q (.ref a) { s with heap := h' })
    (hs : subscripted slice false (.ref C) (.ref s.heap.objs.size) = operate [.ref s.heap.objs.size, .ref C] (getItem (.ref C) (.ref s.heap.objs.size)) := by with_unfolding_all rfl)
    (ht : ∀ r, letTemporaryGo value (.ref C) r = pure () := by intro _; with_unfolding_all rfl) :
    wpAny (model prog w) A (subscriptTail value slice (.ref C) (.ref s.heap.objs.size)) Q E { s with heap := s.heap.push { cls := .type "slice", data := .fields #[.int y ty, .int z tz, .none] } } := by
  have hl : s.heap.IsList C vs.toArray := ⟨_, (N _ hm).1, rfl, n, rfl⟩
  refine slice_list F N hl (.int y ty) (.int z tz) (fun h' F' N' => ?_) hs ht (by rw [List.size_toArray, h5, sizeLine_eq]; omega)
  refine h _ h' (slicePick vs.toArray (some y) (some z) none).toList (allLt_of fun p hp => Nat.lt_succ_of_lt (Heap.lt_size (N p hp).1)) (pick_all hC h0 h1 (by omega)) F' ?_
  intro p hp
  exact N' p (by simpa [W.listOf] using hp)
end
/-- a list of cells at r -/
noncomputable def SlR (M S : Led) (r : Value) (cs : List Cell) : Prop := ∃ (a n : Nat) (vs : List Value), r = .ref a ∧ (a, listOf vs.toArray n) ∈ M ∧ AllC (CellS S) vs cs
inductive AllSl (M S : Led) : List Value → List (List Cell) → Prop
  | nil : AllSl M S [] []
  | snoc {rs r ls l} : AllSl M S rs ls → SlR M S r l → AllSl M S (rs ++ [r]) (ls ++ [l])
theorem AllSl.mono {M M' S : Led} {rs : List Value} {ls : List (List Cell)} (h : AllSl M S rs ls) (k : ∀ p ∈ M, p ∈ M') : AllSl M' S rs ls := by
  induction h with
  | nil => exact .nil
  | snoc _ r ih => obtain ⟨a, n, vs, e, hm, hc⟩ := r; exact .snoc ih ⟨a, n, vs, e, k _ hm, hc⟩
theorem AllSl.len {M S : Led} {rs : List Value} {ls : List (List Cell)} (h : AllSl M S rs ls) : rs.length = ls.length := by
  induction h with
  | nil => rfl
  | snoc _ _ ih => simp [ih]
theorem AllSl.get {M S : Led} {rs : List Value} {ls : List (List Cell)} (h : AllSl M S rs ls) : ∀ {i : Nat} {v : Value}, rs[i]? = some v → ∃ l, ls[i]? = some l ∧ SlR M S v l := by
  induction h with
  | nil => intro i v hv; simp at hv
  | @snoc rs r ls l h0 hr ih =>
    intro i v hv
    have hlen := h0.len
    by_cases hi : i < rs.length
    · rw [List.getElem?_append_left hi] at hv
      obtain ⟨l', e, q⟩ := ih hv
      exact ⟨l', by rw [List.getElem?_append_left (by omega)]; exact e, q⟩
    · rw [List.getElem?_append_right (by omega)] at hv
      have h0' : i - rs.length = 0 := by
        by_cases e : i - rs.length = 0
        · exact e
        · rw [List.getElem?_eq_none (by simp; omega)] at hv; cases hv
      rw [h0'] at hv
      have e : r = v := Option.some.inj hv
      subst e
      exact ⟨l, by rw [List.getElem?_append_right (by omega), show i - ls.length = 0 by omega]; rfl, hr⟩
noncomputable def rowAt (c0 c1 : List Cell) (r : Int) : List Cell := if r = 0 then c0 else c1
noncomputable def sliceC (c : List Cell) (y q : Int) : List Cell := (c.drop y.toNat).take (q + 1 - y).toNat
noncomputable def slices (c0 c1 : List Cell) (x y q : Int) (n : Nat) : List (List Cell) := (List.range n).map fun j : Nat => sliceC (rowAt c0 c1 (x + (j : Int))) y q
theorem slices_succ (c0 c1 : List Cell) (x y q : Int) (n : Nat) : slices c0 c1 x y q (n + 1) = slices c0 c1 x y q n ++ [sliceC (rowAt c0 c1 (x + (n : Int))) y q] := by
  unfold slices; rw [List.range_succ, List.map_append]; rfl
noncomputable def JC (R S : Led) (c0 c1 : List Cell) (x y q : Int) (i : Nat) (ys : List Value) (news : Led) : Prop :=
  ∃ X, news = X ++ R ∧ Apart X R ∧ AllSl X S ys (slices c0 c1 x y q i)
theorem jc_end {R S X : Led} {c0 c1 cr : List Cell} {x y q : Int} {i : Nat} {ys vs' : List Value} {a I C D : Nat} {oI oC oD : Obj} {h₀ h' : Heap} {L : Addr} {m : Str → Option Value} {s₁ : Shared} {tk : Nat}
    (F : Fr h₀ L h' m) (N : News h₀ L h' ((a, listOf vs'.toArray 0) :: (I, oI) :: (C, oC) :: (D, oD) :: (X ++ R))) (hl : AllLt a ((I, oI) :: (C, oC) :: (D, oD) :: (X ++ R))) (off : ∀ p ∈ X ++ R, p.1 ≠ I ∧ p.1 ≠ C ∧ p.1 ≠ D) (hX : Apart X R) (hS : AllSl X S ys (slices c0 c1 x y q i))
    (hcr : rowAt c0 c1 (x + (i : Int)) = cr) (hA : AllC (CellS S) vs' ((cr.drop y.toNat).take (q + 1 - y).toNat)) :
    LCg.CompEnd h₀ L m s₁ I oI C oC D oD (fun _ => True) (fun yv news' => JC R S c0 c1 x y q (i + 1) (ys ++ [yv]) news') (.ref a) { s₁ with heap := h', toks := tk } := by
  refine comp_end F N ((a, listOf vs'.toArray 0) :: (X ++ R)) ?_ ?_ trivial ⟨(a, listOf vs'.toArray 0) :: X, rfl, ?_, ?_⟩
  · intro p hp
    revert p; k_extra "tall"
  · intro p hp
    rcases List.mem_cons.mp hp with rfl | hp
    · exact ⟨Nat.ne_of_gt (lt_mem hl (.head _)), Nat.ne_of_gt (lt_mem hl (.tail _ (.head _))), Nat.ne_of_gt (lt_mem hl (.tail _ (.tail _ (.head _))))⟩
    · exact off p hp
  · intro p hp r hr
    rcases List.mem_cons.mp hp with rfl | hp
    · exact Nat.ne_of_gt (lt_mem hl (.tail _ (.tail _ (.tail _ (List.mem_append.mpr (.inr hr))))))
    · exact hX p hp r hr
  · rw [slices_succ]
    exact .snoc (hS.mono fun p hp => .tail _ hp) ⟨a, 0, vs', rfl, .head _, by unfold sliceC; rw [hcr]; exact hA⟩
noncomputable def CellsPost (S T : Led) (c0 c1 : List Cell) (x y q : Int) (n : Nat) (r : Value) (news' : Led) : Prop :=
  ∃ (D k : Nat) (ys : List Value) (X : Led), r = .ref D ∧ (∀ p ∈ (D, listOf ys.toArray k) :: (X ++ T), p ∈ news') ∧ AllSl X S ys (slices c0 c1 x y q n)
noncomputable def sumC (l : List Cell) : Int := (l.map weightC).sum
noncomputable def sumS (ls : List (List Cell)) : Int := (ls.map sumC).sum
noncomputable def JT (ls : List (List Cell)) (N : Led) (i : Nat) (m : Str → Option Value) (n : Led) : Prop := n = N ∧ ∃ t, Has [(Str.ofString "total", .int (sumS (ls.take i)) t)] m
theorem sumS_succ {ls : List (List Cell)} {i : Nat} {l : List Cell} (h : ls[i]? = some l) : sumS (ls.take (i + 1)) = sumS (ls.take i) + sumC l := by
  unfold sumS
  rw [List.take_add_one, h]
  simp
noncomputable def JW (R : Led) (cs : List Cell) (i : Nat) (ys : List Value) (news : Led) : Prop := news = R ∧ IntsAre ys ((cs.take i).map weightC)
theorem ints_snoc {ys : List Value} {ns : List Int} {k : Int} {t : Tok} (h : IntsAre ys ns) : IntsAre (ys ++ [.int k t]) (ns ++ [k]) := by
  induction h with
  | nil => exact .cons _ _ .nil
  | cons n t' _ ih => exact .cons n t' ih
theorem jw_step {R : Led} {cs : List Cell} {i : Nat} {ys : List Value} {c : Cell} {t : Tok} (h : cs[i]? = some c) (hy : IntsAre ys ((cs.take i).map weightC)) : JW R cs (i + 1) (ys ++ [.int (weightC c) t]) R := by
  refine ⟨rfl, ?_⟩
  rw [List.take_add_one, h, List.map_append]
  exact ints_snoc hy
theorem jw_end {R : Led} {cs : List Cell} {c : Cell} {i I C D : Nat} {ys : List Value} {oI oC oD : Obj} {h₀ h' : Heap} {L : Addr} {m : Str → Option Value} {s₁ : Shared} {tk : Nat} {t : Tok} {Sr : Led → Prop}
    (F : Fr h₀ L h' m) (N : News h₀ L h' ((I, oI) :: (C, oC) :: (D, oD) :: R)) (off : ∀ p ∈ R, p.1 ≠ I ∧ p.1 ≠ C ∧ p.1 ≠ D) (hS : Sr R) (h : cs[i]? = some c) (hy : IntsAre ys ((cs.take i).map weightC)) :
    LCg.CompEnd h₀ L m s₁ I oI C oC D oD Sr (fun yv news' => JW R cs (i + 1) (ys ++ [yv]) news') (.int (weightC c) t) { s₁ with heap := h', toks := tk } :=
  comp_end F N R (fun p hp => hp) off hS (jw_step h hy)
theorem sl_ok {S M : Led} {c0 c1 : List Cell} {x y q : Int} {n i : Nat} {l : List Cell} (h0 : RowOk c0) (h1 : RowOk c1) (h : (slices c0 c1 x y q n)[i]? = some l) : l.length ≤ 5 ∧ ∀ c ∈ l, c ∈ c0 ∨ c ∈ c1 := by
  unfold slices at h
  rw [List.getElem?_map] at h
  obtain ⟨j, hj, rfl⟩ := Option.map_eq_some_iff.mp h
  have key : ∀ c : List Cell, (sliceC c y q).length ≤ c.length ∧ ∀ z ∈ sliceC c y q, z ∈ c := fun c => ⟨by unfold sliceC; simp; omega, fun z hz => List.mem_of_mem_drop (List.mem_of_mem_take hz)⟩
  unfold rowAt
  split
  · exact ⟨by have := (key c0).1; have := h0.1; omega, fun c hc => .inl ((key c0).2 c hc)⟩
  · exact ⟨by have := (key c1).1; have := h1.1; omega, fun c hc => .inr ((key c1).2 c hc)⟩
theorem jt_end {ls : List (List Cell)} {N all : Led} {h₀ h' : Heap} {L : Addr} {s₁ : Shared} {I tk i : Nat} {o : Obj} {m' : Str → Option Value} {z : Int} {t : Tok}
    (F : Fr h₀ L h' m') (Nw : News h₀ L h' all) (hsub : ∀ p ∈ (I, o) :: N, p ∈ all) (hI : ∀ p ∈ N, p.1 < I) (hm : Has [(Str.ofString "total", .int z t)] m') (hz : z = sumS (ls.take (i + 1))) :
    UnrEndW h₀ L s₁ [(I, o)] (JT ls N (i + 1)) { s₁ with heap := h', toks := tk } := by
  refine ⟨h', tk, _, N, rfl, F, ?_, ?_, ⟨rfl, t, hz ▸ hm⟩⟩
  · intro p hp
    rcases List.mem_append.mp hp with hp | hp
    · rw [List.mem_singleton.mp hp]; exact Nw _ (hsub _ (.head _))
    · exact Nw p (hsub _ (.tail _ hp))
  · intro p hp q hq
    rw [List.mem_singleton.mp hq]
    exact Nat.ne_of_lt (hI p hp)
/-- an int, and the ledger kept -/
noncomputable def IntPost (T : Led) (z : Int) (r : Value) (news' : Led) : Prop := (∃ t, r = .int z t) ∧ ∀ p ∈ T, p ∈ news'
noncomputable def sumArea (c0 c1 : List Cell) (x y p q : Int) : Int := (-sumS (slices c0 c1 x y q (p + 1 - x).toNat)).fmod 65536
/-- the law's own weights of flags -/
noncomputable def lawF (fl : Int) : Int := 128 * ((fl.fdiv 1).fmod 2) + 64 * ((fl.fdiv 8).fmod 2) + 32 * ((fl.fdiv 32).fmod 2) + 8 * ((fl.fdiv 64).fmod 2)
noncomputable def lawU (fl : Int) : Int := if 0 < fl.fdiv 512 then 16 else 0
noncomputable def flagsAgree (n : Nat) : Bool := decide (eb (n : Int) 4 + underW (n : Int) = lawF (n : Int) + lawU (n : Int))
noncomputable def blockOk (k : Nat) : Bool := (List.range 256).all fun n => flagsAgree (256 * k + n)
theorem flags_b0 : blockOk 0 = true := by decide +kernel
theorem flags_b1 : blockOk 1 = true := by decide +kernel
theorem flags_b2 : blockOk 2 = true := by decide +kernel
theorem flags_b3 : blockOk 3 = true := by decide +kernel
theorem flags_b4 : blockOk 4 = true := by decide +kernel
theorem flags_b5 : blockOk 5 = true := by decide +kernel
theorem flags_b6 : blockOk 6 = true := by decide +kernel
theorem flags_b7 : blockOk 7 = true := by decide +kernel
theorem flags_b8 : blockOk 8 = true := by decide +kernel
theorem flags_b9 : blockOk 9 = true := by decide +kernel
theorem flags_b10 : blockOk 10 = true := by decide +kernel
theorem flags_b11 : blockOk 11 = true := by decide +kernel
theorem flags_b12 : blockOk 12 = true := by decide +kernel
theorem flags_b13 : blockOk 13 = true := by decide +kernel
theorem flags_b14 : blockOk 14 = true := by decide +kernel
theorem flags_b15 : blockOk 15 = true := by decide +kernel
theorem block_all {k : Nat} (h : k < 16) : blockOk k = true := by
  refine (Nat.lt_succ_iff_lt_or_eq.mp h).elim (fun h => ?_) (fun e => e ▸ flags_b15)
  refine (Nat.lt_succ_iff_lt_or_eq.mp h).elim (fun h => ?_) (fun e => e ▸ flags_b14)
  refine (Nat.lt_succ_iff_lt_or_eq.mp h).elim (fun h => ?_) (fun e => e ▸ flags_b13)
  refine (Nat.lt_succ_iff_lt_or_eq.mp h).elim (fun h => ?_) (fun e => e ▸ flags_b12)
  refine (Nat.lt_succ_iff_lt_or_eq.mp h).elim (fun h => ?_) (fun e => e ▸ flags_b11)
  refine (Nat.lt_succ_iff_lt_or_eq.mp h).elim (fun h => ?_) (fun e => e ▸ flags_b10)
  refine (Nat.lt_succ_iff_lt_or_eq.mp h).elim (fun h => ?_) (fun e => e ▸ flags_b9)
  refine (Nat.lt_succ_iff_lt_or_eq.mp h).elim (fun h => ?_) (fun e => e ▸ flags_b8)
  refine (Nat.lt_succ_iff_lt_or_eq.mp h).elim (fun h => ?_) (fun e => e ▸ flags_b7)
  refine (Nat.lt_succ_iff_lt_or_eq.mp h).elim (fun h => ?_) (fun e => e ▸ flags_b6)
  refine (Nat.lt_succ_iff_lt_or_eq.mp h).elim (fun h => ?_) (fun e => e ▸ flags_b5)
  refine (Nat.lt_succ_iff_lt_or_eq.mp h).elim (fun h => ?_) (fun e => e ▸ flags_b4)
  refine (Nat.lt_succ_iff_lt_or_eq.mp h).elim (fun h => ?_) (fun e => e ▸ flags_b3)
  refine (Nat.lt_succ_iff_lt_or_eq.mp h).elim (fun h => ?_) (fun e => e ▸ flags_b2)
  refine (Nat.lt_succ_iff_lt_or_eq.mp h).elim (fun h => ?_) (fun e => e ▸ flags_b1)
  refine (Nat.lt_succ_iff_lt_or_eq.mp h).elim (fun h => ?_) (fun e => e ▸ flags_b0)
  exact absurd h (Nat.not_lt_zero _)
theorem flags_all {n : Nat} (h : n < 4096) : flagsAgree n = true := by
  have hb := block_all (k := n / 256) (by omega)
  unfold blockOk at hb
  have hm := List.all_eq_true.mp hb (n % 256) (List.mem_range.mpr (Nat.mod_lt _ (by decide)))
  rw [Nat.div_add_mod] at hm
  exact hm
theorem flags_agree {fl : Int} (h0 : 0 ≤ fl) (h1 : fl < 4096) : eb fl 4 + underW fl = lawF fl + lawU fl := by
  have h := flags_all (n := fl.toNat) (by omega)
  have e : ((fl.toNat : Nat) : Int) = fl := Int.toNat_of_nonneg h0
  unfold flagsAgree at h
  rw [e] at h
  exact of_decide_eq_true h
noncomputable def lawW (c : Cell) : Int := if 0 < c.width then (if c.codes = [] then 32 else c.codes.sum) + 4 * (if c.g then 1 else 0) + lawU c.flags + lawF c.flags else 0
theorem law_weight {c : Cell} (h : CellOk c) : lawW c = weightC c := by
  obtain ⟨_, hw, h0, h1⟩ := h
  have k := flags_agree h0 h1
  unfold lawW weightC
  rcases hw with e | e | e
  · rw [if_neg (show ¬ (0 < c.width) by omega), if_pos e]
  · rw [if_pos (show 0 < c.width by omega), if_neg (show ¬ (c.width = 0) by omega)]
    generalize (if c.codes = [] then (32 : Int) else c.codes.sum) = z
    generalize eb c.flags 4 = e1 at k ⊢
    generalize underW c.flags = e2 at k ⊢
    cases c.g <;> simp only [Bool.false_eq_true, if_true, if_false] <;> omega
  · rw [if_pos (show 0 < c.width by omega), if_neg (show ¬ (c.width = 0) by omega)]
    generalize (if c.codes = [] then (32 : Int) else c.codes.sum) = z
    generalize eb c.flags 4 = e1 at k ⊢
    generalize underW c.flags = e2 at k ⊢
    cases c.g <;> simp only [Bool.false_eq_true, if_true, if_false] <;> omega
/-- a contract of statements within a loop: what the frame's map and the ledger are behind them -/
structure BlkM (w : World) (mean : ExcName → Option Value) (mg mb : Str → Option Value) (nm : Str) (sc : Scope) (fa : Addr) (cd : Value) (body : List Stmt) (dd uu : Nat) (m₁ : Str → Option Value) (news : Led) (Post : (Str → Option Value) → Led → Prop) : Prop where
  run : ∀ (dp un : Nat) (gd : Option (List Code)) (cn : Str) (cs : Scope) (L a : Addr) (ccd : Value) (cl : List (Str × Addr)) (outer : List Env) (base g₀ : Heap) (L' : Addr) (s : Shared) (Q : Flow → Shared → Prop) (E : Value → Shared → Prop),
    PassesOwn (model PySem.Challenge.rw_np0284_01.row.prog w) ((ktrTop dp un gd cn cs L a ccd cl outer).deeper (envOf nm sc L' fa cd)) (envOf nm sc L' fa cd) E →
    Below (ktrTop dp un gd cn cs L a ccd cl outer) base (envX cn cs L a ccd cl :: outer) g₀ → Fr g₀ L' s.heap m₁ → (Kx w.params).In g₀ → News g₀ L' s.heap news → Top qv (looseW qv lo) mean mg mb g₀ → cs.kind = .function →
    dp + dd < recursionLimit → un + uu < cLine →
    (∀ (m' : Str → Option Value) (news' : Led) (h' : Heap) (tk' : Nat), Post m' news' → Fr g₀ L' h' m' → News g₀ L' h' news' → Q .next { s with heap := h', toks := tk' }) →
    wpAny (model PySem.Challenge.rw_np0284_01.row.prog w) ((ktrTop dp un gd cn cs L a ccd cl outer).deeper (envOf nm sc L' fa cd)) (execs body (envOf nm sc L' fa cd)) Q E s
section
variable {w : World} {mean : ExcName → Option Value} {mg mb : Str → Option Value} {nm : Str} {sc : Scope} {fa : Addr} {cd : Value} {body : List Stmt} {dd uu : Nat} {m₁ : Str → Option Value} {news : Led} {Post : (Str → Option Value) → Led → Prop}
  {dp un : Nat} {gd : Option (List Code)} {cn : Str} {cs : Scope} {L a : Addr} {ccd : Value} {cl : List (Str × Addr)} {outer : List Env} {base g₀ : Heap} {L' : Addr} {s : Shared} {Q : Flow → Shared → Prop} {E : Value → Shared → Prop}
theorem BlkM.use
    (hPE : PassesOwn (model PySem.Challenge.rw_np0284_01.row.prog w) ((ktrTop dp un gd cn cs L a ccd cl outer).deeper (envOf nm sc L' fa cd)) (envOf nm sc L' fa cd) E)
    (B : Below (ktrTop dp un gd cn cs L a ccd cl outer) base (envX cn cs L a ccd cl :: outer) g₀) (F : Fr g₀ L' s.heap m₁) (X : (Kx w.params).In g₀) (N : News g₀ L' s.heap news) (Tp : Top qv (looseW qv lo) mean mg mb g₀) (hk : cs.kind = .function) (K : BlkM w mean mg mb nm sc fa cd body dd uu m₁ news Post)
    (hd : dp + dd < recursionLimit) (huu : un + uu < cLine)
    (ret : ∀ (m' : Str → Option Value) (news' : Led) (h' : Heap) (tk' : Nat), Post m' news' → Fr g₀ L' h' m' → News g₀ L' h' news' → Q .next { s with heap := h', toks := tk' }) :
    wpAny (model PySem.Challenge.rw_np0284_01.row.prog w) ((ktrTop dp un gd cn cs L a ccd cl outer).deeper (envOf nm sc L' fa cd)) (execs body (envOf nm sc L' fa cd)) Q E s :=
  K.run _ _ _ _ _ _ _ _ _ _ _ _ _ _ _ _ hPE B F X N Tp hk hd huu ret
end
noncomputable def forB : Stmt → List Stmt
  | .For _ _ b _ _ => b
  | _ => []
noncomputable def at0 (l : List Stmt) (i : Nat) : Stmt := (l[i]?).getD (.Pass ⟨0, 0, 0, 0⟩)
noncomputable abbrev b64i : List Stmt := pick (a := forB (at0 (forB (at0 b64 1)) 0)) (b := _) (by conv => lhs; whnf)
noncomputable def SumIn (z : Int) (cl a : Nat) (N0 : Led) (m' : Str → Option Value) (n' : Led) : Prop :=
  (∀ p ∈ N0, p ∈ n') ∧ ∃ t, Has [(Str.ofString "total", .int z t), (Str.ofString "cells", .ref cl), (Str.ofString "area", .ref a)] m'
noncomputable def ifB : Stmt → List Stmt
  | .If _ b _ _ => b
  | _ => []
noncomputable abbrev b64j : List Stmt := pick (a := (ifB (at0 b64i 0)).drop 1) (b := _) (by conv => lhs; whnf)
noncomputable def lawB (fl : Int) : Nat → Int
  | 0 => 0
  | 1 => 128 * ((fl.fdiv 1).fmod 2)
  | 2 => 128 * ((fl.fdiv 1).fmod 2) + 64 * ((fl.fdiv 8).fmod 2)
  | 3 => 128 * ((fl.fdiv 1).fmod 2) + 64 * ((fl.fdiv 8).fmod 2) + 32 * ((fl.fdiv 32).fmod 2)
  | _ => lawF fl
theorem lawB1 (y fl : Int) : y + lawB fl 0 + 128 * ((fl.fdiv 1).fmod 2) = y + lawB fl (0 + 1) := by
  show y + 0 + 128 * ((fl.fdiv 1).fmod 2) = y + 128 * ((fl.fdiv 1).fmod 2)
  omega
theorem lawB2 (y fl : Int) : y + lawB fl 1 + 64 * ((fl.fdiv 8).fmod 2) = y + lawB fl (1 + 1) := by
  exact Int.add_assoc ..
theorem lawB3 (y fl : Int) : y + lawB fl 2 + 32 * ((fl.fdiv 32).fmod 2) = y + lawB fl (2 + 1) := by
  exact Int.add_assoc ..
theorem lawB4 (y fl : Int) : y + lawB fl 3 + 8 * ((fl.fdiv 64).fmod 2) = y + lawB fl (3 + 1) := by
  exact Int.add_assoc ..
noncomputable def JB (y fl : Int) (cl a : Nat) (tf : Tok) (i : Nat) (m : Str → Option Value) : Prop :=
  ∃ t, Has [(Str.ofString "total", .int (y + lawB fl i) t), (Str.ofString "flags", .int fl tf), (Str.ofString "cells", .ref cl), (Str.ofString "area", .ref a)] m
theorem jb_of {y fl x : Int} {cl a i : Nat} {tf t : Tok} {m : Str → Option Value} (hx : x = y + lawB fl (i + 1)) (h : Has [(Str.ofString "total", .int x t), (Str.ofString "flags", .int fl tf), (Str.ofString "cells", .ref cl), (Str.ofString "area", .ref a)] m) : JB y fl cl a tf (i + 1) m := ⟨t, hx ▸ h⟩
noncomputable def Kept (N : Led) (J : (Str → Option Value) → Prop) (m : Str → Option Value) (n : Led) : Prop := n = N ∧ J m
theorem kept_end {N all : Led} {h₀ h' : Heap} {L : Addr} {s₁ : Shared} {I tk : Nat} {o : Obj} {m' : Str → Option Value} {J : (Str → Option Value) → Prop}
    (F : Fr h₀ L h' m') (Nw : News h₀ L h' all) (hsub : ∀ p ∈ (I, o) :: N, p ∈ all) (hI : ∀ p ∈ N, p.1 < I) (hJ : J m') :
    UnrEndW h₀ L s₁ [(I, o)] (Kept N J) { s₁ with heap := h', toks := tk } := by
  refine ⟨h', tk, _, N, rfl, F, ?_, ?_, ⟨rfl, hJ⟩⟩
  · intro p hp
    rcases List.mem_append.mp hp with hp | hp
    · rw [List.mem_singleton.mp hp]; exact Nw _ (hsub _ (.head _))
    · exact Nw p (hsub _ (.tail _ hp))
  · intro p hp q hq
    rw [List.mem_singleton.mp hq]
    exact Nat.ne_of_lt (hI p hp)
section
variable {prog : Program} {w : World} {A : Around} {E : Value → Shared → Prop} {s : Shared} {env : Env} {h₀ : Heap} {target : Expr} {body : List Stmt} {Q : Flow → Shared → Prop}
theorem for_tupS {ax : Addr} {lo : Obj} {vs : List Value} {n : Nat} {m₀ : Str → Option Value} {news : Led} (J : Nat → (Str → Option Value) → Prop)
    (hh : A.handled = none) (F : Fr h₀ env.locals s.heap m₀) (N : News h₀ env.locals s.heap news) (hm : (ax, lo) ∈ news) (hc : lo.cls = .type "tuple") (hd : lo.data = .seq vs.toArray n)
    (h0 : J 0 m₀)
    (step : ∀ I, (∀ p ∈ news, p.1 < I) → ∀ i v m₁ h₁ tk₁ o, vs[i]? = some v → J i m₁ → Fr h₀ env.locals h₁ m₁ → News h₀ env.locals h₁ ((I, o) :: news) →
      wpAny (model prog w) A (assign target env v) (fun _ s₂ => wpAny (model prog w) A (execs body env) (UnrPostW h₀ env.locals { s with heap := h₁, toks := tk₁ } [(I, o)] (Kept news (J (i + 1))) Q) E s₂) E { s with heap := h₁, toks := tk₁ })
    (fin : ∀ m h tk, J vs.length m → Fr h₀ env.locals h m → News h₀ env.locals h news → Q .next { s with heap := h, toks := tk }) :
    wpAny (model prog w) A (pyIter (.ref ax)) (fun it s₂ => TurnsAt prog w A h₀ env target body Q E it s₂) E s := by
  refine for_tup (fun i => Kept news (J i)) hh F N hm hc hd ?_ ⟨rfl, h0⟩ ?_ ?_
  · rintro i m n ⟨rfl, _⟩; exact hm
  · rintro I hI i v m₁ news₁ h₁ tk₁ o hv ⟨rfl, hJ⟩ F₁ N₁ _
    exact step I hI i v m₁ h₁ tk₁ o hv hJ F₁ N₁
  · rintro m n h tk ⟨rfl, hJ⟩ F₁ N₁
    exact fin m h tk hJ F₁ N₁
theorem for_lstS {ax : Addr} {lo : Obj} {vs : List Value} {n : Nat} {m₀ : Str → Option Value} {news : Led} (J : Nat → (Str → Option Value) → Prop)
    (hh : A.handled = none) (F : Fr h₀ env.locals s.heap m₀) (N : News h₀ env.locals s.heap news) (hm : (ax, lo) ∈ news) (hc : lo.cls = .type "list") (hd : lo.data = .seq vs.toArray n)
    (h0 : J 0 m₀)
    (step : ∀ I, (∀ p ∈ news, p.1 < I) → ∀ i v m₁ h₁ tk₁ o, vs[i]? = some v → J i m₁ → Fr h₀ env.locals h₁ m₁ → News h₀ env.locals h₁ ((I, o) :: news) →
      wpAny (model prog w) A (assign target env v) (fun _ s₂ => wpAny (model prog w) A (execs body env) (UnrPostW h₀ env.locals { s with heap := h₁, toks := tk₁ } [(I, o)] (Kept news (J (i + 1))) Q) E s₂) E { s with heap := h₁, toks := tk₁ })
    (fin : ∀ m h tk, J vs.length m → Fr h₀ env.locals h m → News h₀ env.locals h news → Q .next { s with heap := h, toks := tk }) :
    wpAny (model prog w) A (pyIter (.ref ax)) (fun it s₂ => TurnsAt prog w A h₀ env target body Q E it s₂) E s := by
  refine for_lst (fun i => Kept news (J i)) hh F N hm hc hd ?_ ⟨rfl, h0⟩ ?_ ?_
  · rintro i m n ⟨rfl, _⟩; exact hm
  · rintro I hI i v m₁ news₁ h₁ tk₁ o hv ⟨rfl, hJ⟩ F₁ N₁ _
    exact step I hI i v m₁ h₁ tk₁ o hv hJ F₁ N₁
  · rintro m n h tk ⟨rfl, hJ⟩ F₁ N₁
    exact fin m h tk hJ F₁ N₁
theorem for_rngS {r : Addr} {a₀ b₀ : Int} {t₀ u₀ v₀ : Tok} {n : Nat} {m₀ : Str → Option Value} {news : Led} (J : Nat → (Str → Option Value) → Prop)
    (hh : A.handled = none) (hr : IsRange s.heap r a₀ b₀ 1 t₀ u₀ v₀) (hsmall : Builtin.Range.small a₀ b₀ 1 = true) (hn : Builtin.Range.rangeSize a₀ b₀ 1 = (n : Int)) (F : Fr h₀ env.locals s.heap m₀) (N : News h₀ env.locals s.heap news) (h0 : J 0 m₀)
    (step : ∀ I, (∀ p ∈ news, p.1 < I) → ∀ i t m₁ h₁ tk₁ o, i < n → J i m₁ → Fr h₀ env.locals h₁ m₁ → News h₀ env.locals h₁ ((I, o) :: news) →
      wpAny (model prog w) A (assign target env (.int (a₀ + (i : Int)) t)) (fun _ s₂ => wpAny (model prog w) A (execs body env) (UnrPostW h₀ env.locals { s with heap := h₁, toks := tk₁ } [(I, o)] (Kept news (J (i + 1))) Q) E s₂) E { s with heap := h₁, toks := tk₁ })
    (fin : ∀ m h tk, J n m → Fr h₀ env.locals h m → News h₀ env.locals h news → Q .next { s with heap := h, toks := tk }) :
    wpAny (model prog w) A (pyIter (.ref r)) (fun it s₂ => TurnsAt prog w A h₀ env target body Q E it s₂) E s := by
  refine for_rng (fun i => Kept news (J i)) hh hr hsmall hn F N ⟨rfl, h0⟩ ?_ ?_
  · rintro I hI i t m₁ news₁ h₁ tk₁ o hi ⟨rfl, hJ⟩ F₁ N₁ _
    exact step I hI i t m₁ h₁ tk₁ o hi hJ F₁ N₁
  · rintro m n h tk ⟨rfl, hJ⟩ F₁ N₁
    exact fin m h tk hJ F₁ N₁
end
theorem sum_in {z z' : Int} {cl a : Nat} {N0 n' : Led} {m' : Str → Option Value} {t : Tok} (h : ∀ p ∈ N0, p ∈ n') (hm : Has [(Str.ofString "total", .int z' t), (Str.ofString "cells", .ref cl), (Str.ofString "area", .ref a)] m') (hz : z' = z) : SumIn z cl a N0 m' n' := ⟨h, t, hz ▸ hm⟩
theorem weight_y {codes : List Int} {wd fl k z : Int} {g : Bool} (hc : CellOk ⟨codes, wd, fl, g⟩) (h : 0 < wd) (hk : k = if codes = [] then 32 else codes.sum) :
    z + k + 4 * (if g = true then 1 else 0) + 16 * (if decide (0 < fl.fdiv 512) = true then 1 else 0) + lawF fl = z + weightC ⟨codes, wd, fl, g⟩ := by
  rw [← law_weight hc]
  unfold lawW lawU
  dsimp only
  rw [if_pos h, ← hk]
  by_cases hu : 0 < fl.fdiv 512
  · simp only [hu, decide_true, if_true]; omega
  · simp only [hu, decide_false, if_false, Bool.false_eq_true]; omega
theorem weight_n {codes : List Int} {wd fl z : Int} {g : Bool} (hc : CellOk ⟨codes, wd, fl, g⟩) (h : ¬ 0 < wd) : z = z + weightC ⟨codes, wd, fl, g⟩ := by
  rw [← law_weight hc]
  unfold lawW
  dsimp only
  rw [if_neg h]; omega
theorem Has.of {g : Heap} {L : Addr} {h : Heap} {m : Str → Option Value} {ls : List (Str × Value)} (F : Fr g L h m) (k : Has ls m) : Has ls m := k
theorem Mem.of {g : Heap} {L : Addr} {h : Heap} {n : Led} {p : Addr × Obj} (N : News g L h n) (k : p ∈ n) : p ∈ n := k
noncomputable def JL (z : Int) (cl a : Nat) (m : Str → Option Value) : Prop :=
  ∃ t, Has [(Str.ofString "total", .int z t), (Str.ofString "cells", .ref cl), (Str.ofString "area", .ref a)] m
theorem sumC_succ {l : List Cell} {i : Nat} {c : Cell} (h : l[i]? = some c) : sumC (l.take (i + 1)) = sumC (l.take i) + weightC c := by
  unfold sumC
  rw [List.take_add_one, h]
  simp
theorem jl_eq {z z' : Int} {cl a : Nat} {m : Str → Option Value} (h : JL z cl a m) (e : z = z') : JL z' cl a m := e ▸ h
theorem slices_get {c0 c1 : List Cell} {x y q : Int} {n i : Nat} (h : i < n) : (slices c0 c1 x y q n)[i]? = some (sliceC (rowAt c0 c1 (x + (i : Int))) y q) := by
  unfold slices
  rw [List.getElem?_map, List.getElem?_range h]
  rfl
theorem slices_len {c0 c1 : List Cell} {x y q : Int} {n : Nat} : (slices c0 c1 x y q n).length = n := by
  unfold slices
  simp
/-- a contract of a def whose argument is a list of the base heap -/
structure CtrS (w : World) (mean : ExcName → Option Value) (mg mb : Str → Option Value) (f : Addr) (dd uu : Nat) (sa : Nat) (items : List Value) (news : Led) (Post : Value → Led → Prop) : Prop where
  run : ∀ (dp un : Nat) (gd : Option (List Code)) (cn : Str) (cs : Scope) (a : Addr) (ccd : Value) (cl : List (Str × Addr)) (outer : List Env) (A₀ : Around) (base h₀ : Heap) (L : Addr) (m : Str → Option Value) (s : Shared) (Q E : Value → Shared → Prop),
    Below A₀ base outer h₀ → Fr h₀ L s.heap m → (Kx w.params).In h₀ → News h₀ L s.heap news → Top qv (looseW qv lo) mean mg mb h₀ → cs.kind = .function →
    dp + dd < recursionLimit → un + uu < cLine → h₀.IsList sa items.toArray →
    (∀ (r : Value) (news' : Led) (h' : Heap) (tk' : Nat), Post r news' → Fr h₀ L h' m → News h₀ L h' news' → Q r { s with heap := h', toks := tk' }) →
    wpAny (model PySem.Challenge.rw_np0284_01.row.prog w) (ktrTop dp un gd cn cs L a ccd cl outer) (call (.ref f) [.ref sa]) Q E s
noncomputable def JI (R : Led) (i : Nat) (ys : List Value) (news : Led) : Prop := news = R ∧ ∃ ms, IntsAre ys ms ∧ ms.length = i ∧ ∀ x ∈ ms, 0 ≤ x ∧ x < 1000003
theorem ji_end {R : Led} {i I C D : Nat} {ys : List Value} {ms : List Int} {oI oC oD : Obj} {h₀ h' : Heap} {L : Addr} {m : Str → Option Value} {s₁ : Shared} {tk : Nat} {t : Tok} {x : Int} {Sr : Led → Prop}
    (F : Fr h₀ L h' m) (N : News h₀ L h' ((I, oI) :: (C, oC) :: (D, oD) :: R)) (off : ∀ p ∈ R, p.1 ≠ I ∧ p.1 ≠ C ∧ p.1 ≠ D) (hS : Sr R) (hy : IntsAre ys ms) (hl : ms.length = i) (hb : ∀ x ∈ ms, 0 ≤ x ∧ x < 1000003) (hx : 0 ≤ x ∧ x < 1000003) :
    LCg.CompEnd h₀ L m s₁ I oI C oC D oD Sr (fun yv news' => JI R (i + 1) (ys ++ [yv]) news') (.int x t) { s₁ with heap := h', toks := tk } :=
  comp_end F N R (fun p hp => hp) off hS ⟨rfl, ms ++ [x], ints_snoc hy, by simp [hl], fun z hz => by
    rcases List.mem_append.mp hz with hz | hz
    · exact hb z hz
    · rw [List.mem_singleton.mp hz]; exact hx⟩
theorem slice40 {items : Array Value} : (slicePick items none (some 40) none).size ≤ 40 := by
  unfold slicePick
  rw [List.size_toArray]
  refine Nat.le_trans (List.length_filterMap_le _ _) (sliceRange_length_le _ _ _ _ (fun hc => ?_) fun hc => ?_)
  · simp only [sliceBounds, Option.getD_none]
    omega
  · simp only [sliceBounds, Option.getD_none] at hc
    omega
section
variable {prog : Program} {w : World} {A : Around} {E : Value → Shared → Prop} {s : Shared} {h₀ : Heap} {L : Addr} {m : Str → Option Value} {news : Led}
theorem script_slice {value slice : Expr} {sa : Nat} {vs : List Value} {ns : List Int} {ty : Tok} {Q : Value → Shared → Prop}
    (F : Fr h₀ L s.heap m) (N : News h₀ L s.heap news) (hl0 : h₀.IsList sa vs.toArray) (hi : IntsAre vs ns) (h63 : ns.length ≤ 63)
    (h : ∀ a h' vs' ks, AllLt a news → IntsAre vs' ks → ks.length ≤ 40 → Fr h₀ L h' m → News h₀ L h' ((a, listOf vs'.toArray 0) :: news) → Q (.ref a) { s with heap := h' })
    (hs : subscripted slice false (.ref sa) (.ref s.heap.objs.size) = operate [.ref s.heap.objs.size, .ref sa] (getItem (.ref sa) (.ref s.heap.objs.size)) := by with_unfolding_all rfl)
    (ht : ∀ r, letTemporaryGo value (.ref sa) r = pure () := by intro _; with_unfolding_all rfl) :
    wpAny (model prog w) A (subscriptTail value slice (.ref sa) (.ref s.heap.objs.size)) Q E { s with heap := s.heap.push { cls := .type "slice", data := .fields #[.none, .int 40 ty, .none] } } := by
  have hl : s.heap.IsList sa vs.toArray := by
    obtain ⟨o, e, c, d⟩ := hl0
    exact ⟨o, F.keep _ _ e, c, d⟩
  refine slice_list F N hl .none (.int 40 ty) (fun h' F' N' => ?_) hs ht (by rw [List.size_toArray, hi.length, sizeLine_eq]; omega)
  have hp := hi.pick none (some 40) none
  refine h _ h' (slicePick vs.toArray none (some 40) none).toList _ (allLt_of fun p hp => Nat.lt_succ_of_lt (Heap.lt_size (N p hp).1)) hp ?_ F' ?_
  · rw [← hp.length, Array.length_toList]; exact slice40
  · intro p hp
    exact N' p (by simpa [W.listOf] using hp)
end
noncomputable def JM (l : Nat) (m : Str → Option Value) : Prop := ∃ x t, Has [(Str.ofString "left", .ref l), (Str.ofString "mixed", .int x t)] m ∧ 0 ≤ x ∧ x < 1000003
noncomputable def DeckPost (w : World) (T : Led) (r : Value) (news' : Led) : Prop :=
  ∃ (d l : Nat) (od ol : Obj), r = .ref d ∧ (∀ p ∈ (d, od) :: (l, ol) :: T, p ∈ news') ∧ d ≠ l ∧ (∀ p ∈ T, p.1 ≠ d) ∧ (∀ p ∈ T, p.1 ≠ l) ∧ DeckOk w l od ol
theorem deck_end {w : World} {T news' : Led} {d l : Nat} {od : Obj} {ys : List Value} {ms : List Int} {x : Int} {t : Tok} (hy : IntsAre ys ms) (hl : ms.length ≤ 40) (hb : ∀ x ∈ ms, 0 ≤ x ∧ x < 1000003)
    (hd : od.IsDictOf (PySem.strKind PR w) [(Str.ofString "left", .ref l), (Str.ofString "mixed", .int x t)]) (h0 : 0 ≤ x) (h1 : x < 1000003) (hdl : l < d) (hT : ∀ p ∈ T, p.1 < d) (hTl : ∀ p ∈ T, p.1 ≠ l) (hs : ∀ p ∈ (d, od) :: (l, LCg.lst ys) :: T, p ∈ news') : DeckPost w T (.ref d) news' :=
  ⟨d, l, od, LCg.lst ys, rfl, hs, Ne.symm (Nat.ne_of_lt hdl), fun p hp => Nat.ne_of_lt (hT p hp), hTl, ys, ms, x, t, ys.length, rfl, hy, hl, hb, hd, h0, h1⟩
theorem isList_up {h₀ h : Heap} {L : Addr} {m : Str → Option Value} {sa : Addr} {its : Array Value} (F : Fr h₀ L h m) (k : h₀.IsList sa its) : h.IsList sa its := by
  obtain ⟨o, e, c, d⟩ := k
  exact ⟨o, F.keep _ _ e, c, d⟩
theorem setup_YD : True := by
  (k_with "e34" => (k_here; (with_reducible show wpAny _ _ (call (Value.ref 795) _) _ _ _); k_dflt (refine' Ctr.use (cells_in_c _ _ _ _ _ _ _ _ _ _ _ _ _ _ _ _ _ _ _ _ _ _ _ _ _ _ _ _ ?e34ha ?e34hx ?e34hxp ?e34hp ?e34hy ?e34hyq ?e34hq ?e34hG ?e34hll ?e34hL0 ?e34hL1 ?e34hC0 ?e34hC1 ?e34hv0 ?e34hv1 ?e34h50 ?e34h51) ?e34B ?e34F ?e34X ?e34N ?e34T ?e34k ?e34d ?e34u ?_; (case e34N => k_asm); (case e34ha => k_extra "own mem"); (case e34hG => assumption); (case e34hll => assumption); (case e34hL0 => assumption); (case e34hL1 => assumption); (case e34hC0 => assumption); (case e34hC1 => assumption); (case e34hv0 => assumption); (case e34hv1 => assumption); (case e34h50 => assumption); (case e34h51 => assumption); (case e34hx => omega); (case e34hxp => omega); (case e34hp => omega); (case e34hy => omega); (case e34hyq => omega); (case e34hq => omega); (case e34B => k_asm); (case e34F => k_asm); (case e34X => k_asm); (case e34T => k_asm); (case e34k => first | exact rfl | assumption); (case e34d => ktr_room); (case e34u => ktr_units)); intro w9r' w9n' w9h' w9tk' w9hP' w9F' w9N'; obtain ⟨w9D', w9kk', w9ys', w9X', w9hr', w9hm', w9hS'⟩ := w9hP'; subst w9hr'; (have w9N2' := news_sub w9N' w9hm'); clear w9N' w9hm'))
  (k_with "own all" => first | with_reducible assumption | ((with_reducible show ∀ p ∈ List.cons _ _, _); (refine List.forall_mem_cons.mpr ⟨?a, ?b⟩); (case a => k_ne); (case b => k_extra "own all")) | ((with_reducible show ∀ p ∈ HAppend.hAppend _ _, _); first | (refine List.forall_mem_append.mpr ⟨by with_reducible assumption, ?_⟩; k_extra "own all") | ((refine off_app ?_ (by assumption) (by k_extra "own mem")); k_extra "own all")) | exact List.forall_mem_nil _ | exact off_up' (by assumption) (by omega) | exact off_up (by ktn_lt) (by omega))
  (k_with "e35" => (k_here; (with_reducible show wpAny _ _ (exec (Stmt.For _ _ _ _ _) _) _ _ _); (rename Fr _ _ _ _ => w9lF'); (with_reducible refine' For_turns w9lF' ?_ ?e35hs ?e35hE); (case e35hs => (intro _; k_dflt rfl)); (case e35hE => first | with_reducible assumption | passes_own); k_whole))
  (k_with "e36" => (k_here; (with_reducible show wpAny _ _ (subscriptTail _ (PySem.Expr.Slice _ _ _ _) (Value.ref _) (Value.ref _)) _ _ _); k_dflt (refine' script_slice ?e36F ?e36N ?e36l ?e36i ?e36z ?_; (case e36F => k_asm); (case e36N => k_asm); (case e36l => assumption); (case e36i => assumption); (case e36z => assumption)); intro w9a' w9h' w9vs' w9ks' w9l1 w9hi' w9hl' w9F' w9N'))
  (k_with "YD step" => first | k_extra "e36" | k_extra "e7" | k_extra "e35" | k_extra "e34" | k_extra "base")
  (k_with "YD steps" => repeat' (first | k_extra "YD step" | (k_unfold; (try dsimp only)) | (k_end; wrow_close) | walk1 | (dsimp only; walk1) | (leave1; walk_say "STEP leave1"; try dsimp only) | fail "no step"))
  (k_with "YD iter" => repeat' ((fail_if_success (with_reducible show wpAny _ _ (pyIter (Value.ref _)) _ _ _)); first | k_extra "YD step" | (k_unfold; (try dsimp only)) | (k_end; wrow_close) | walk1 | (dsimp only; walk1) | (leave1; walk_say "STEP leave1"; try dsimp only) | fail "no step"))
  (k_with "YD comp" => repeat' ((fail_if_success (with_reducible show LCg.CompSrc _ _ _ _ _ _ _ _ _ _ _ _ _ _)); first | k_extra "YD step" | (k_unfold; (try dsimp only)) | (k_end; wrow_close) | walk1 | (dsimp only; walk1) | (leave1; walk_say "STEP leave1"; try dsimp only) | fail "no step"))
  (k_with "YD elt" => repeat' ((fail_if_success (with_reducible show LCg.CompEnd _ _ _ _ _ _ _ _ _ _ _ _ _ _)); first | k_extra "YD step" | (k_unfold; (try dsimp only)) | (k_end; wrow_close) | walk1 | (dsimp only; walk1) | (leave1; walk_say "STEP leave1"; try dsimp only) | fail "no step"))
  trivial
theorem deck_c (w : World) (mean : ExcName → Option Value) (mg mb : Str → Option Value) (sa : Nat) (items : List Value) (ns : List Int) (T : Led) (hI : IntsAre items ns) (hlen : ns.length ≤ 63) :
   CtrS w mean mg mb 1110 20 1000 sa items T (DeckPost w T) := by
  refine ⟨?_⟩
  k_fill
  intro dp un gd cn cs a' ccd cl' outer A₀ base h₀ L m s Q E B F X N Tp hk hd hu hsl hret
  refine wpAny_call ?_
  k_dflt cell_enter
  rename Fr h₀ L _ m => FG
  have hsl' := isList_up FG hsl
  k_extra "YD comp"
  rename News _ _ _ _ => N9
  rename Fr _ _ _ _ => F9
  have hi9 := w9hi'
  have hl9 := w9hl'
  have hvl := hi9.length -- := hi9.length
  refine LCg.CompSrc.ledger (by rfl) F9 N9 (.head _) (by rw [List.size_toArray, sizeLine_eq]; omega) ?_
  intro g8
  refine comp_inv (JI _) ?step ?fin _ 0 [] _ (Nat.zero_add _) ⟨rfl, [], .nil, rfl, fun _ h => nomatch h⟩
  case step =>
    rintro j ys news hj ⟨rfl, ms, hyi, hml, hmb⟩ v I2 oI2 C2 oC2 D2 m₂ h2 tk2 E' hv2 hC2 hxx F₂ N₂ off ne
    rw [List.size_toArray] at hj
    obtain ⟨t5, hv5⟩ := hi9.get j w9ks'[j] (List.getElem?_eq_getElem (by omega))
    have ev : v = .int w9ks'[j] t5 := by
      have hv3 : w9vs'[j]? = some v := by simpa using hv2
      rw [hv5] at hv3; exact (Option.some.inj hv3).symm
    subst ev
    clear F9 N9
    k_extra "YD elt"
    exact ji_end (by k_asm) (by k_asm) off (.inr ⟨_, .head _, rfl, _, rfl⟩) hyi hml hmb (fmod_in _ (by decide))
  case fin =>
    rintro ys news ⟨rfl, ms, hyi, hml, hmb⟩
    unfold LCg.FinE
    intro D2 h2 tk2 F₂ N₂ o1
    clear N9 F9
    k_extra "YD iter"
    rename News _ _ _ _ => N8
    rename Fr _ _ _ _ => F8
    with_reducible refine' for_lstS (n := ys.length) (vs := ys) (fun _ => JM D2) ?hh2 ?F2 ?N2 ?hm2 ?hc2 ?hd2 ?h02 ?step2 ?fin2
    case F2 => exact F8
    case N2 => exact N8
    case hh2 => exact rfl
    case hm2 => exact .tail _ (.head _)
    case hc2 => exact rfl
    case hd2 => exact rfl
    case h02 => exact ⟨_, _, ⟨rfl, rfl, trivial⟩, by decide, by decide⟩
    case step2 =>
      rintro I hI i v m₁ h₁ tk₁ o hv ⟨x, t, hm', hx0, hx1⟩ F₁ N₁
      have hi1 : i < ys.length := (List.getElem?_eq_some_iff.mp hv).1
      have hi2 : i < ms.length := by rw [← hyi.length]; exact hi1
      obtain ⟨t5, hv5⟩ := hyi.get i ms[i] (List.getElem?_eq_getElem hi2)
      have ev : v = .int ms[i] t5 := by
        rw [hv5] at hv; exact (Option.some.inj hv).symm
      have hb := hmb ms[i] (List.getElem_mem hi2)
      subst ev
      generalize ms[i] = y at hb hv5
      replace F₁ := Fr.hasL hm' F₁
      dsimp only [ov] at F₁
      clear hm' F8 N8
      k_extra "YD steps"
      exact kept_end (by k_asm) (by k_asm) (fun p hp => hp) hI ⟨_, _, ⟨rfl, rfl, trivial⟩, (fmod_in _ (by decide)).1, (fmod_in _ (by decide)).2⟩
    case fin2 =>
      rintro m₁ h₁ tk₁ ⟨x, t, hm', hx0, hx1⟩ F₁ N₁
      replace F₁ := Fr.hasL hm' F₁
      dsimp only [ov] at F₁
      clear hm' F8 N8
      have hlt : ∀ p ∈ (D2, LCg.lst ys) :: (w9a', W.listOf w9vs'.toArray 0) :: T, p.1 < h₁.objs.size := fun p hp => Heap.lt_size (N₁ p (List.mem_cons_of_mem _ hp)).1
      k_extra "YD steps"
      refine hret _ _ _ _ (deck_end hyi (by rw [hml, List.size_toArray]; omega) hmb (by assumption) hx0 hx1 (hlt _ (.head _)) (fun p hp => hlt p (.tail _ (.tail _ hp))) (fun p hp => off1_mem o1 p (.tail _ hp)) ?sub) (by assumption) (by assumption)
      case sub =>
        intro p hp
        rcases List.mem_cons.mp hp with rfl | hp
        · exact .head _
        rcases List.mem_cons.mp hp with rfl | hp
        · exact .tail _ (.tail _ (.head _))
        · exact .tail _ (.tail _ (.tail _ (.tail _ hp)))
theorem setup_XE : True := by
  (k_with "e37" => (k_here; (with_reducible show wpAny _ _ (subscriptTail _ (PySem.Expr.Slice _ _ _ _) (Value.ref _) (Value.ref _)) _ _ _); k_dflt (refine' cells_slice ?e37F ?e37N ?e37m ?e37C ?e37l ?e37h0 ?e37h1 ?e37h2 ?_; (case e37F => k_asm); (case e37N => k_asm); (case e37m => k_extra "own mem"); (case e37C => assumption); (case e37l => assumption); (case e37h0 => omega); (case e37h1 => omega); (case e37h2 => omega)); intro w9a' w9h' w9vs' w9l1 w9hA' w9F' w9N'))
  (k_with "XE step" => first | k_extra "e37" | k_extra "e7" | k_extra "base")
  (k_with "XE steps" => repeat' (first | k_extra "XE step" | (k_unfold; (try dsimp only)) | (k_end; wrow_close) | walk1 | (dsimp only; walk1) | (leave1; walk_say "STEP leave1"; try dsimp only) | fail "no step"))
  (k_with "XE comp" => repeat' ((fail_if_success (with_reducible show LCg.CompSrc _ _ _ _ _ _ _ _ _ _ _ _ _ _)); first | k_extra "XE step" | (k_unfold; (try dsimp only)) | (k_end; wrow_close) | walk1 | (dsimp only; walk1) | (leave1; walk_say "STEP leave1"; try dsimp only) | fail "no step"))
  (k_with "XE elt" => repeat' ((fail_if_success (with_reducible show LCg.CompEnd _ _ _ _ _ _ _ _ _ _ _ _ _ _)); first | k_extra "XE step" | (k_unfold; (try dsimp only)) | (k_end; wrow_close) | walk1 | (dsimp only; walk1) | (leave1; walk_say "STEP leave1"; try dsimp only) | fail "no step"))
  trivial
theorem cells_sub {D : Addr × Obj} {X T : Led} {a b c : Addr × Obj} : ∀ p ∈ D :: (X ++ T), p ∈ D :: (X ++ (a :: b :: c :: T)) := fun p hp => by
  revert p; k_extra "tall"
theorem cells_in_c (w : World) (mean : ExcName → Option Value) (mg mb : Str → Option Value) (gi ll a L0 L1 C0 C1 n0 n1 n2 : Nat) (v0 v1 : List Value) (c0 c1 : List Cell) (x y p q : Int) (k1 k2 k3 k4 : Tok) (S T : Led) (ha : (a, tp [.int x k1, .int y k2, .int p k3, .int q k4]) ∈ T) (hx : 0 ≤ x) (hxp : x ≤ p) (hp : p < 2) (hy : 0 ≤ y) (hyq : y ≤ q) (hq : q < 5)
   (hG : GridAt w T gi ll) (hll : (ll, listOf #[.ref L0, .ref L1] n2) ∈ T) (hL0 : LineAt w T L0 C0) (hL1 : LineAt w T L1 C1) (hC0 : (C0, listOf v0.toArray n0) ∈ T) (hC1 : (C1, listOf v1.toArray n1) ∈ T) (hv0 : AllC (CellS S) v0 c0) (hv1 : AllC (CellS S) v1 c1) (h50 : v0.length = 5) (h51 : v1.length = 5) :
   Ctr w mean mg mb 795 12 700 [.ref gi, .ref a] T (CellsPost S T c0 c1 x y q (p + 1 - x).toNat) := by
  obtain ⟨gd', g1, g2, g3, g4, g5, hg1, hg2⟩ := hG
  unfold Ctr
  k_fill
  intro dp un gd cn cs a' ccd cl outer A₀ base h₀ L m s Q E B F X N Tp hk hd hu hret
  refine wpAny_call ?_
  k_extra "own enterC"
  k_extra "XE comp"
  rename News _ _ _ _ => N9
  rename Fr _ _ _ _ => F9
  refine LCg.CompSrc.range (a := x) (b := p + 1) (n := (p + 1 - x).toNat) (by rfl) F9 N9 (by assumption) (small_one (by omega) (by omega) (by omega) (by omega)) (rsz (by omega)) (by rw [sizeLine_eq]; omega) ?_
  intro g9
  refine comp_inv (JC _ S c0 c1 x y q) ?step ?fin _ 0 [] _ (Nat.zero_add _) ⟨[], rfl, (fun _ h => nomatch h), .nil⟩
  case step =>
    rintro i ys news hi ⟨X9, rfl, hX9, hS9⟩ v I oI C oC D m₂ h tk E' ⟨tv, rfl⟩ hC hxx F₁ N₁ off ne
    obtain ⟨Lr, Cr, nr, vr, cr, hLr, hlr, hCr, hvr, h5r, hcr⟩ : ∃ (Lr Cr nr : Nat) (vr : List Value) (cr : List Cell), [Value.ref L0, .ref L1][(x + (i : Int)).toNat]? = some (.ref Lr) ∧ LineAt w T Lr Cr ∧ (Cr, listOf vr.toArray nr) ∈ T ∧ AllC (CellS S) vr cr ∧ vr.length = 5 ∧ rowAt c0 c1 (x + (i : Int)) = cr := by
      rcases (by omega : x + (i : Int) = 0 ∨ x + (i : Int) = 1) with e | e <;> rw [e]
      · exact ⟨L0, C0, n0, v0, c0, rfl, hL0, hC0, hv0, h50, rfl⟩
      · exact ⟨L1, C1, n1, v1, c1, rfl, hL1, hC1, hv1, h51, rfl⟩
    obtain ⟨lr1, lr2, lr3, lr4, hlr1, hlr2⟩ := hlr
    have hr0 : 0 ≤ x + (i : Int) := by omega
    have hr1 : x + (i : Int) < 2 := by omega
    k_extra "XE elt"
    show LCg.CompEnd _ _ _ _ _ _ _ _ _ _ _ _ _ _
    rename News _ _ _ _ => N8
    rename AllLt _ _ => hl8
    rename AllC (CellS S) _ _ => hA8
    exact jc_end (by k_asm) N8 hl8 off hX9 hS9 hcr hA8
  case fin =>
    rintro ys news ⟨X9, rfl, hX9, hS9⟩
    unfold LCg.FinE
    intro D h tk F₁ N₁ o1
    clear N9 F9
    k_extra "XE steps"
    exact hret _ _ _ _ ⟨D, _, ys, X9, rfl, cells_sub, hS9⟩ (by assumption) (by assumption)
set_option maxRecDepth 90000
section
variable {w : World} {mean : ExcName → Option Value} {mg mb : Str → Option Value} {f : Addr} {dd uu : Nat} {vs items : List Value} {news : Led} {Post : Value → Led → Prop}
  {nm : Str} {sc : Scope} {fa : Addr} {cdv : Value} {base h₀ : Heap} {L sa : Addr} {m : Str → Option Value} {s : Shared} {Q E : Value → Shared → Prop}
/-- a contract used in the law's own frame -/
theorem Ctr.useLaw (C : Ctr w mean mg mb f dd uu vs news Post) (B : Below callerA base [] h₀) (F : Fr h₀ L s.heap m) (X : (Kx w.params).In h₀) (N : News h₀ L s.heap news) (Tp : Top qv (looseW qv lo) mean mg mb h₀) (hk : sc.kind = .function)
    (hd : dd ≤ 100) (hu : uu ≤ 9000)
    (ret : ∀ (r : Value) (news' : Led) (h' : Heap) (tk' : Nat), Post r news' → Fr h₀ L h' m → News h₀ L h' news' → Q r { s with heap := h', toks := tk' }) :
    wpAny (model PySem.Challenge.rw_np0284_01.row.prog w) (callerA.deeper (envOfC nm sc L fa cdv)) (call (.ref f) vs) Q E s :=
  C (callerA.depth + 1) (callerA.units + 3) callerA.guards nm sc fa cdv (cellsFrom (L + 1) sc.names []) [] callerA base h₀ L m s Q E B F X N Tp hk
    (by have : callerA.depth + 1 + 100 < recursionLimit := by decide
        omega)
    (by have : callerA.units + 3 + 9000 < cLine := by rw [cLine_is]; decide
        omega) ret
theorem CtrS.useLaw (C : CtrS w mean mg mb f dd uu sa items news Post) (B : Below callerA base [] h₀) (F : Fr h₀ L s.heap m) (X : (Kx w.params).In h₀) (N : News h₀ L s.heap news) (Tp : Top qv (looseW qv lo) mean mg mb h₀) (hk : sc.kind = .function)
    (hd : dd ≤ 100) (hu : uu ≤ 9000) (hl : h₀.IsList sa items.toArray)
    (ret : ∀ (r : Value) (news' : Led) (h' : Heap) (tk' : Nat), Post r news' → Fr h₀ L h' m → News h₀ L h' news' → Q r { s with heap := h', toks := tk' }) :
    wpAny (model PySem.Challenge.rw_np0284_01.row.prog w) (callerA.deeper (envOfC nm sc L fa cdv)) (call (.ref f) [.ref sa]) Q E s :=
  C.run (callerA.depth + 1) (callerA.units + 3) callerA.guards nm sc fa cdv (cellsFrom (L + 1) sc.names []) [] callerA base h₀ L m s Q E B F X N Tp hk
    (by have : callerA.depth + 1 + 100 < recursionLimit := by decide
        omega)
    (by have : callerA.units + 3 + 9000 < cLine := by rw [cLine_is]; decide
        omega) hl ret
end
/-- what a new screen brings, its ledger written out -/
theorem screen_led {w : World} {h₀ h : Heap} {L d l x : Nat} {od ol c : Obj} {r : Value} {n : Led} (h1 : ScreenPost w [(d, od), (l, ol), (x, c)] r n) (N : News h₀ L h n) :
    ∃ (sc gi ll L0 L1 C0 C1 n0 n1 n2 : Nat) (v0 v1 : List Value) (Y : Led), r = .ref sc ∧ News h₀ L h ((x, c) :: (d, od) :: (l, ol) :: (C0, listOf v0.toArray n0) :: (C1, listOf v1.toArray n1) :: Y) ∧
      (d < C0 ∧ l < C0 ∧ x < C0) ∧ (d < C1 ∧ l < C1 ∧ x < C1) ∧ C0 < C1 ∧ (∀ p ∈ Y, p.1 ≠ d) ∧ (∀ p ∈ Y, p.1 ≠ l) ∧ (∀ p ∈ Y, p.1 ≠ x) ∧ (∀ p ∈ Y, p.1 ≠ C0) ∧ (∀ p ∈ Y, p.1 ≠ C1) ∧
      ScrAt w Y sc gi ∧ GridAt w Y gi ll ∧ (ll, listOf #[.ref L0, .ref L1] n2) ∈ Y ∧ LineAt w Y L0 C0 ∧ LineAt w Y L1 C1 ∧ AllC (CellS Y) v0 blank5 ∧ AllC (CellS Y) v1 blank5 := by
  obtain ⟨sc, gi, ll, L0, L1, C0, C1, n0, n1, n2, v0, v1, Y, hr, hs, a0, a1, h01, ap, y0, y1, z1, z2, z3, z4, z5, z6, z7⟩ := h1
  refine ⟨sc, gi, ll, L0, L1, C0, C1, n0, n1, n2, v0, v1, Y, hr, fun p hp => N p (hs p ?_), ⟨a0.1, a0.2.1, a0.2.2.1⟩, ⟨a1.1, a1.2.1, a1.2.2.1⟩, h01, fun p hp => ap p hp _ (.head _), fun p hp => ap p hp _ (.tail _ (.head _)), fun p hp => ap p hp _ (.tail _ (.tail _ (.head _))), y0, y1, z1, z2, z3, z4, z5, z6, z7⟩
  revert p; k_extra "tall"
/-- a row of the law's own made above R -/
noncomputable def RowMade (R : Led) (D : Nat) (u : List Value) (X : Led) : Prop := AllLt D R ∧ Above X R ∧ (∀ p ∈ X, p.1 ≠ D) ∧ AllC (CellL X) u blank5
theorem RowMade.sub {R R' : Led} {D : Nat} {u : List Value} {X : Led} (h : RowMade R D u X) (k : ∀ p ∈ R', p ∈ R) : RowMade R' D u X :=
  ⟨allLt_of fun p hp => lt_mem h.1 (k p hp), h.2.1.sub k, h.2.2⟩
inductive JR (R : Led) : Nat → List Value → Led → Prop
  | zero : JR R 0 [] R
  | one {D0 n0 u0 X0} : RowMade R D0 u0 X0 → JR R 1 [.ref D0] ((D0, listOf u0.toArray n0) :: (X0 ++ R))
  | two {D0 n0 u0 X0 D1 n1 u1 X1} : RowMade R D0 u0 X0 → RowMade ((D0, listOf u0.toArray n0) :: (X0 ++ R)) D1 u1 X1 → JR R 2 [.ref D0, .ref D1] ((D1, listOf u1.toArray n1) :: (X1 ++ (D0, listOf u0.toArray n0) :: (X0 ++ R)))
theorem jr_step {R news : Led} {i : Nat} {ys : List Value} {D n : Nat} {u : List Value} {X : Led} (hi : i < 2) (h : JR R i ys news) (k : RowMade news D u X) : JR R (i + 1) (ys ++ [.ref D]) ((D, listOf u.toArray n) :: (X ++ news)) := by
  cases h with
  | zero => exact .one k
  | one h0 => exact .two h0 k
  | two => omega
theorem row_end {R news : Led} {i : Nat} {ys : List Value} {D nn I C Dc a1 a2 : Nat} {oI oC oD : Obj} {t1 t2 : Tok} {h₀ h' : Heap} {L : Addr} {m : Str → Option Value} {s₁ : Shared} {tk : Nat} {all : Led}
    (F : Fr h₀ L h' m) (N : News h₀ L h' all) (hs : ∀ p ∈ (D, listOf #[.ref a2, .ref a2, .ref a2, .ref a2, .ref a2] nn) :: (a2, tp [.ref a1, .int 1 t1, .int 0 t2, .bool false]) :: (a1, tp []) :: (I, oI) :: (C, oC) :: (Dc, oD) :: news, p ∈ all)
    (l1 : AllLt a1 ((I, oI) :: (C, oC) :: (Dc, oD) :: news)) (l2 : @LT.lt Nat _ a1 a2) (lD : @LT.lt Nat _ a2 D)
    (off : ∀ p ∈ news, p.1 ≠ I ∧ p.1 ≠ C ∧ p.1 ≠ Dc) (hJ : JR R i ys news) (hi : i < 2) :
    LCg.CompEnd h₀ L m s₁ I oI C oC Dc oD (fun _ => True) (fun y news' => JR R (i + 1) (ys ++ [y]) news') (.ref D) { s₁ with heap := h', toks := tk } := by
  have b2 := allLt_up l1 l2
  have bD := allLt_up b2 lD
  have hD : AllLt D news := allLt_of fun p hp => lt_mem bD (.tail _ (.tail _ (.tail _ hp)))
  have h2 : AllLt a2 news := allLt_of fun p hp => lt_mem b2 (.tail _ (.tail _ (.tail _ hp)))
  have h1 : AllLt a1 news := allLt_of fun p hp => lt_mem l1 (.tail _ (.tail _ (.tail _ hp)))
  have hR : RowMade news D [.ref a2, .ref a2, .ref a2, .ref a2, .ref a2] [(a2, tp [.ref a1, .int 1 t1, .int 0 t2, .bool false]), (a1, tp [])] := by
    refine ⟨hD, Above.cons h2 (Above.cons h1 Above.nil), ?_, ?_⟩
    · intro p hp
      simp only [List.mem_cons, List.not_mem_nil, or_false] at hp
      rcases hp with rfl | rfl
      · exact Nat.ne_of_lt lD
      · exact Nat.ne_of_lt (Nat.lt_trans l2 lD)
    · have hc : CellL [(a2, tp [.ref a1, .int 1 t1, .int 0 t2, .bool false]), (a1, tp [])] (.ref a2) blankC := ⟨a2, a1, [], t1, t2, rfl, .head _, .tail _ (.head _), .nil⟩
      exact .cons hc (.cons hc (.cons hc (.cons hc (.cons hc .nil))))
  refine comp_end F N ((D, listOf [Value.ref a2, .ref a2, .ref a2, .ref a2, .ref a2].toArray nn) :: ([(a2, tp [.ref a1, .int 1 t1, .int 0 t2, .bool false]), (a1, tp [])] ++ news)) ?_ ?_ trivial (jr_step hi hJ hR)
  · intro p hp
    refine hs p ?_
    revert p; k_extra "tall"
  · intro p hp
    have key : ∀ (a : Nat), AllLt a ((I, oI) :: (C, oC) :: (Dc, oD) :: news) → a ≠ I ∧ a ≠ C ∧ a ≠ Dc := fun a ha => ⟨Nat.ne_of_gt (lt_mem ha (.head _)), Nat.ne_of_gt (lt_mem ha (.tail _ (.head _))), Nat.ne_of_gt (lt_mem ha (.tail _ (.tail _ (.head _))))⟩
    rcases List.mem_cons.mp hp with rfl | hp
    · exact key _ bD
    rcases List.mem_append.mp hp with hp | hp
    · simp only [List.mem_cons, List.not_mem_nil, or_false] at hp
      rcases hp with rfl | rfl
      · exact key _ b2
      · exact key _ l1
    · exact off p hp
noncomputable abbrev b66g : List Stmt := pick (a := b66.drop 2) (b := _) (by conv => lhs; whnf)
noncomputable abbrev b66w : List Stmt := pick (a := b66.drop 3) (b := _) (by conv => lhs; whnf)
/-- the law's statements from a state that the puts keep -/
structure LawRest (w : World) (mean : ExcName → Option Value) (mg mb : Str → Option Value) (body : List Stmt) : Prop where
  run : ∀ (base h₀ : Heap) (L fa : Nat) (cdv : Value) (m : Str → Option Value) (s : Shared) (Q : Flow → Shared → Prop) (E : Value → Shared → Prop)
    (d l sc cl C0 C1 D0 D1 m1 m2 m3 m4 : Nat) (od ol co : Obj) (v0 v1 u0 u1 : List Value) (c0 c1 : List Cell) (T : Led),
    PassesOwn (model PySem.Challenge.rw_np0284_01.row.prog w) (callerA.deeper (envOfC (Str.ofString "law") s66 L fa cdv)) (envOfC (Str.ofString "law") s66 L fa cdv) E →
    Below callerA base [] h₀ → Has [(Str.ofString "deck", .ref d), (Str.ofString "cells", .ref cl)] m → Fr h₀ L s.heap m → (Kx w.params).In h₀ →
    News h₀ L s.heap ((d, od) :: (l, ol) :: (C0, listOf v0.toArray m1) :: (C1, listOf v1.toArray m2) :: (D0, listOf u0.toArray m3) :: (D1, listOf u1.toArray m4) :: T) →
    Top qv (looseW qv lo) mean mg mb h₀ → DeckOk w l od ol → Scene w T sc cl C0 C1 D0 D1 → Ne6 d l C0 C1 D0 D1 → Off T d l C0 C1 D0 D1 → Rows T u0 u1 v0 v1 c0 c1 → (L + 1, co) ∈ T → co.data = .cell (some (.ref sc)) →
    (∀ (m' : Str → Option Value) (news' : Led) (h' : Heap) (tk' : Nat), Fr h₀ L h' m' → News h₀ L h' news' → Q (.ret (.bool true)) { s with heap := h', toks := tk' }) →
    wpAny (model PySem.Challenge.rw_np0284_01.row.prog w) (callerA.deeper (envOfC (Str.ofString "law") s66 L fa cdv)) (execs body (envOfC (Str.ofString "law") s66 L fa cdv)) Q E s
theorem rowOk_blank : RowOk blank5 := by
  refine row5.mpr ⟨by decide, by decide, ?_, ?_, ?_, ?_, ?_⟩ <;> exact cellOk_blank
theorem start_led {w : World} {h₀ h : Heap} {L x d l sc gi ll L0 L1 C0 C1 D0 D1 Dc n0 n1 n2 k0 k1 : Nat} {od ol co : Obj} {v0 v1 u0 u1 : List Value} {X0 X1 Y : Led}
    (N : News h₀ L h ((Dc, LCg.lst [.ref D0, .ref D1]) :: (D1, listOf u1.toArray k1) :: (X1 ++ (D0, listOf u0.toArray k0) :: (X0 ++ (x, co) :: (d, od) :: (l, ol) :: (C0, listOf v0.toArray n0) :: (C1, listOf v1.toArray n1) :: Y))))
    (o1 : ∀ p ∈ (D1, listOf u1.toArray k1) :: (X1 ++ (D0, listOf u0.toArray k0) :: (X0 ++ (x, co) :: (d, od) :: (l, ol) :: (C0, listOf v0.toArray n0) :: (C1, listOf v1.toArray n1) :: Y)), p.1 ≠ Dc)
    (h0 : RowMade ((x, co) :: (d, od) :: (l, ol) :: (C0, listOf v0.toArray n0) :: (C1, listOf v1.toArray n1) :: Y) D0 u0 X0)
    (h1 : RowMade ((D0, listOf u0.toArray k0) :: (X0 ++ (x, co) :: (d, od) :: (l, ol) :: (C0, listOf v0.toArray n0) :: (C1, listOf v1.toArray n1) :: Y)) D1 u1 X1)
    (hdl : d ≠ l) (gd : x ≠ d) (gl : x ≠ l) (e1 : d < C0) (e2 : l < C0) (e3 : x < C0) (e4 : d < C1) (e5 : l < C1) (e6 : x < C1) (e7 : C0 < C1)
    (f1 : ∀ p ∈ Y, p.1 ≠ d) (f2 : ∀ p ∈ Y, p.1 ≠ l) (f4 : ∀ p ∈ Y, p.1 ≠ C0) (f5 : ∀ p ∈ Y, p.1 ≠ C1)
    (hS : ScrAt w Y sc gi) (hG : GridAt w Y gi ll) (hll : (ll, listOf #[.ref L0, .ref L1] n2) ∈ Y) (hL0 : LineAt w Y L0 C0) (hL1 : LineAt w Y L1 C1) (hv0 : AllC (CellS Y) v0 blank5) (hv1 : AllC (CellS Y) v1 blank5) :
    ∃ T, News h₀ L h ((d, od) :: (l, ol) :: (C0, listOf v0.toArray n0) :: (C1, listOf v1.toArray n1) :: (D0, listOf u0.toArray k0) :: (D1, listOf u1.toArray k1) :: T) ∧ Scene w T sc Dc C0 C1 D0 D1 ∧ Ne6 d l C0 C1 D0 D1 ∧ Off T d l C0 C1 D0 D1 ∧ Rows T u0 u1 v0 v1 blank5 blank5 ∧ (x, co) ∈ T := by
  obtain ⟨a1, a2, a3, a4⟩ := h0
  obtain ⟨b1, b2, b3, b4⟩ := h1
  have a1' : @LT.lt Nat _ x D0 ∧ @LT.lt Nat _ d D0 ∧ @LT.lt Nat _ l D0 ∧ @LT.lt Nat _ C0 D0 ∧ @LT.lt Nat _ C1 D0 ∧ AllLt D0 Y := a1
  obtain ⟨p1, p2, p3, p4, p5, p6⟩ := a1'
  have inR : ∀ q ∈ (x, co) :: (d, od) :: (l, ol) :: (C0, listOf v0.toArray n0) :: (C1, listOf v1.toArray n1) :: Y, q ∈ (D0, listOf u0.toArray k0) :: (X0 ++ (x, co) :: (d, od) :: (l, ol) :: (C0, listOf v0.toArray n0) :: (C1, listOf v1.toArray n1) :: Y) := fun q hq => .tail _ (List.mem_append.mpr (.inr hq))
  have q1 : @LT.lt Nat _ x D1 := lt_mem b1 (inR (x, co) (.head _))
  have q2 : @LT.lt Nat _ d D1 := lt_mem b1 (inR (d, od) (.tail _ (.head _)))
  have q3 : @LT.lt Nat _ l D1 := lt_mem b1 (inR (l, ol) (.tail _ (.tail _ (.head _))))
  have q4 : @LT.lt Nat _ C0 D1 := lt_mem b1 (inR (C0, listOf v0.toArray n0) (.tail _ (.tail _ (.tail _ (.head _)))))
  have q5 : @LT.lt Nat _ C1 D1 := lt_mem b1 (inR (C1, listOf v1.toArray n1) (.tail _ (.tail _ (.tail _ (.tail _ (.head _))))))
  have q6 : @LT.lt Nat _ D0 D1 := lt_mem b1 (.head _)
  have all : ∀ p ∈ (Dc, LCg.lst [.ref D0, .ref D1]) :: (x, co) :: (X1 ++ (X0 ++ Y)), p ∈ (Dc, LCg.lst [.ref D0, .ref D1]) :: (D1, listOf u1.toArray k1) :: (X1 ++ (D0, listOf u0.toArray k0) :: (X0 ++ (x, co) :: (d, od) :: (l, ol) :: (C0, listOf v0.toArray n0) :: (C1, listOf v1.toArray n1) :: Y)) := by
    intro p hp
    revert p; k_extra "tall"
  have up : ∀ p ∈ Y, p ∈ (Dc, LCg.lst [.ref D0, .ref D1]) :: (x, co) :: (X1 ++ (X0 ++ Y)) := fun p hp => .tail _ (.tail _ (List.mem_append.mpr (.inr (List.mem_append.mpr (.inr hp)))))
  have key : ∀ (a : Nat) (oa : Obj), (a, oa) ∈ (D1, listOf u1.toArray k1) :: (X1 ++ (D0, listOf u0.toArray k0) :: (X0 ++ (x, co) :: (d, od) :: (l, ol) :: (C0, listOf v0.toArray n0) :: (C1, listOf v1.toArray n1) :: Y)) → x ≠ a → (∀ p ∈ X1, p.1 ≠ a) → (∀ p ∈ X0, p.1 ≠ a) → (∀ p ∈ Y, p.1 ≠ a) → ∀ p ∈ (Dc, LCg.lst [.ref D0, .ref D1]) :: (x, co) :: (X1 ++ (X0 ++ Y)), p.1 ≠ a := by
    intro a oa ha hx h1 h0 hY p hp
    rcases List.mem_cons.mp hp with rfl | hp
    · exact fun e => o1 _ ha e.symm
    rcases List.mem_cons.mp hp with rfl | hp
    · exact hx
    rcases List.mem_append.mp hp with hp | hp
    · exact h1 p hp
    rcases List.mem_append.mp hp with hp | hp
    · exact h0 p hp
    · exact hY p hp
  have r1 : ∀ (a : Nat) (oa : Obj), (a, oa) ∈ (x, co) :: (d, od) :: (l, ol) :: (C0, listOf v0.toArray n0) :: (C1, listOf v1.toArray n1) :: Y → (∀ p ∈ X1, p.1 ≠ a) ∧ (∀ p ∈ X0, p.1 ≠ a) := fun a oa ha => ⟨fun p hp => Nat.ne_of_gt (b2 p hp _ (inR _ ha)), fun p hp => Nat.ne_of_gt (a2 p hp _ ha)⟩
  refine ⟨(Dc, LCg.lst [.ref D0, .ref D1]) :: (x, co) :: (X1 ++ (X0 ++ Y)), fun p hp => N p ?_, ⟨gi, ll, L0, L1, n2, 2, hS.mono up, hG.mono up, up _ hll, .head _, hL0.mono up, hL1.mono up⟩, ⟨hdl, Nat.ne_of_lt e1, Nat.ne_of_lt e4, Nat.ne_of_lt p2, Nat.ne_of_lt q2, Nat.ne_of_lt e2, Nat.ne_of_lt e5, Nat.ne_of_lt p3, Nat.ne_of_lt q3, Nat.ne_of_lt e7, Nat.ne_of_lt p4, Nat.ne_of_lt q4, Nat.ne_of_lt p5, Nat.ne_of_lt q5, Nat.ne_of_lt q6⟩, ⟨?_, ?_, ?_, ?_, ?_, ?_⟩, ⟨?_, ?_, allS_up hv0 up, allS_up hv1 up, rowOk_blank, rowOk_blank⟩, .tail _ (.head _)⟩
  · revert p; k_extra "tall"
  · exact key d od (by k_extra "tmem") gd (r1 d od (by k_extra "tmem")).1 (r1 d od (by k_extra "tmem")).2 f1
  · exact key l ol (by k_extra "tmem") gl (r1 l ol (by k_extra "tmem")).1 (r1 l ol (by k_extra "tmem")).2 f2
  · exact key C0 (listOf v0.toArray n0) (by k_extra "tmem") (Nat.ne_of_lt e3) (r1 C0 (listOf v0.toArray n0) (by k_extra "tmem")).1 (r1 C0 (listOf v0.toArray n0) (by k_extra "tmem")).2 f4
  · exact key C1 (listOf v1.toArray n1) (by k_extra "tmem") (Nat.ne_of_lt e6) (r1 C1 (listOf v1.toArray n1) (by k_extra "tmem")).1 (r1 C1 (listOf v1.toArray n1) (by k_extra "tmem")).2 f5
  · exact key D0 (listOf u0.toArray k0) (by k_extra "tmem") (Nat.ne_of_lt p1) (fun p hp => Nat.ne_of_gt (b2 p hp _ (.head _))) a3 (fun p hp => Nat.ne_of_lt (lt_mem p6 hp))
  · exact key D1 (listOf u1.toArray k1) (.head _) (Nat.ne_of_lt q1) b3 (fun p hp => Nat.ne_of_lt (lt_mem b1 (List.mem_cons_of_mem _ (List.mem_append.mpr (.inl hp))))) (fun p hp => Nat.ne_of_lt (lt_mem b1 (inR p (.tail _ (.tail _ (.tail _ (.tail _ (.tail _ hp))))))))
  · exact allC_up a4 fun p hp => .tail _ (.tail _ (List.mem_append.mpr (.inr (List.mem_append.mpr (.inl hp)))))
  · exact allC_up b4 fun p hp => .tail _ (.tail _ (List.mem_append.mpr (.inl hp)))
theorem setup_YE : True := by
  (k_with "e38" => (k_here; (with_reducible show wpAny _ _ (call (Value.ref 1110) _) _ _ _); (with_reducible refine' CtrS.useLaw (deck_c _ _ _ _ _ _ _ _ ?e38hI ?e38hz) ?e38B ?e38F ?e38X ?e38N ?e38T ?e38k ?e38d ?e38u ?e38hl ?_); (case e38N => k_asm); (case e38hI => assumption); (case e38hz => assumption); (case e38B => k_asm); (case e38F => k_asm); (case e38X => k_asm); (case e38T => k_asm); (case e38k => exact rfl); (case e38d => decide); (case e38u => decide); (case e38hl => assumption); rintro w9r' w9n' w9h' w9tk' ⟨w9d', w9l', w9od', w9ol', w9hr', w9hs', w9hdl', w9hTd', w9hTl', w9hD'⟩ w9F' w9N'; subst w9hr'; replace w9N' := news_sub w9N' w9hs'))
  (k_with "e39" => (k_here; (with_reducible show wpAny _ _ (call (Value.ref 1101) _) _ _ _); (with_reducible refine' Ctr.useLaw (screen_c _ _ _ _ _ _ _) ?e39B ?e39F ?e39X ?e39N ?e39T ?e39k ?e39d ?e39u ?_); (case e39N => k_asm); (case e39B => k_asm); (case e39F => k_asm); (case e39X => k_asm); (case e39T => k_asm); (case e39k => exact rfl); (case e39d => decide); (case e39u => decide); rintro w9r' w9n' w9h' w9tk' w9hP' w9F' w9N'))
  (k_with "e40" => (k_here; (with_reducible show wpAny _ _ (exec (PySem.Stmt.Assign [PySem.Expr.Name _ _] (PySem.Expr.ListComp _ _ _ _) _) _) _ _ _); k_dflt (refine LCg.Assign_ListComp_U (F₀ := by k_asm) (by rfl) (by with_unfolding_all rfl) (by with_unfolding_all rfl) (by decide) (by rfl) (by decide) (by rfl) (by rfl) (by rfl) ?_)))
  (k_with "YE step" => first | k_extra "e40" | k_extra "e39" | k_extra "e38" | k_extra "e7" | k_extra "e34" | k_extra "e35" | k_extra "base")
  (k_with "YE comp" => repeat' ((fail_if_success (with_reducible show LCg.CompSrc _ _ _ _ _ _ _ _ _ _ _ _ _ _)); first | k_extra "YE step" | (k_unfold; (try dsimp only)) | (k_end; wrow_close) | walk1 | (dsimp only; walk1) | (leave1; walk_say "STEP leave1"; try dsimp only) | fail "no step"))
  (k_with "YE elt" => repeat' ((fail_if_success (with_reducible show LCg.CompEnd _ _ _ _ _ _ _ _ _ _ _ _ _ _)); first | k_extra "YE step" | (k_unfold; (try dsimp only)) | (k_end; wrow_close) | walk1 | (dsimp only; walk1) | (leave1; walk_say "STEP leave1"; try dsimp only) | fail "no step"))
  (k_with "YE new" => repeat' ((fail_if_success (with_reducible show wpAny _ _ (newTuple _) _ _ _)); first | k_extra "YE step" | (k_unfold; (try dsimp only)) | (k_end; wrow_close) | walk1 | (dsimp only; walk1) | (leave1; walk_say "STEP leave1"; try dsimp only) | fail "no step"))
  trivial
theorem law_A (w : World) (mean : ExcName → Option Value) (mg mb : Str → Option Value) (base h₀ : Heap) (L fa : Nat) (cdv : Value) (m : Str → Option Value) (s : Shared) (Q : Flow → Shared → Prop) (E : Value → Shared → Prop)
   (sa : Nat) (items : List Value) (ns : List Int) (hI : IntsAre items ns) (hlen : ns.length ≤ 63) (hsl : h₀.IsList sa items.toArray) (c : Obj) (hc : c.data = .cell none)
   (hPE : PassesOwn (model PySem.Challenge.rw_np0284_01.row.prog w) (callerA.deeper (envOfC (Str.ofString "law") s66 L fa cdv)) (envOfC (Str.ofString "law") s66 L fa cdv) E)
   (B : Below callerA base [] h₀) (hm : m (Str.ofString "script") = some (.ref sa)) (F : Fr h₀ L s.heap m) (Xk : (Kx w.params).In h₀) (N : News h₀ L s.heap [(L + 1, c)]) (Tp : Top qv (looseW qv lo) mean mg mb h₀)
   (hB : LawRest w mean mg mb b66g)
   (hret : ∀ (m' : Str → Option Value) (news' : Led) (h' : Heap) (tk' : Nat), Fr h₀ L h' m' → News h₀ L h' news' → Q (.ret (.bool true)) { s with heap := h', toks := tk' }) :
   wpAny (model PySem.Challenge.rw_np0284_01.row.prog w) (callerA.deeper (envOfC (Str.ofString "law") s66 L fa cdv)) (execs b66 (envOfC (Str.ofString "law") s66 L fa cdv)) Q E s := by
  revert Xk
  k_fill
  intro Xk
  replace F := Fr.has hm F
  unfold mset at F
  k_extra "YE new"
  rename ScreenPost _ _ _ _ => hP
  rename News _ _ _ _ => N1
  obtain ⟨sc, gi, ll, L0, L1, C0, C1, n0, n1, n2, v0, v1, Y, rfl, N2, ⟨e1, e2, e3⟩, ⟨e4, e5, e6⟩, e7, f1, f2, f3, f4, f5, hScr, hGr, hll, hL0, hL1, hv0, hv1⟩ := screen_led hP N1
  clear hP N1
  have hdl := w9hdl'
  have hTd := w9hTd'
  have hTl := w9hTl'
  have hD := w9hD'
  have gd : L + 1 ≠ _ := hTd _ (.head _)
  have gl : L + 1 ≠ _ := hTl _ (.head _)
  k_extra "YE comp"
  rename News _ _ _ _ => N8
  rename Fr _ _ _ _ => F9
  have N9 := news_drop N8
  refine LCg.CompSrc.range (a := 0) (b := 2) (n := 2) (by rfl) F9 N9 (by assumption) (small_one (by omega) (by omega) (by omega) (by omega)) (rsz (by omega)) (by rw [sizeLine_eq]; omega) ?_
  intro g9
  refine comp_inv (JR _) ?step ?fin 2 0 [] _ rfl .zero
  case step =>
    rintro i ys news hi hJ v I oI C oC D m₂ h tk E' ⟨tv, rfl⟩ hC hx F₁ N₁ off ne
    clear N8 N9 F9
    k_extra "YE elt"
    rename News _ _ _ _ => N8
    exact row_end (by k_asm) N8 (fun p hp => by rcases List.mem_cons.mp hp with rfl | hp; exact .head _; exact .tail _ (.tail _ hp)) (by assumption) (by omega) (by omega) off hJ hi
  case fin =>
    rintro ys news hJ
    cases hJ with
    | two k0 k1 =>
      unfold LCg.FinA
      intro D2 h2 tk2 F₂ N₂ o2
      obtain ⟨T, N3, hSc, hNe, hOff, hRows, hco⟩ := start_led N₂ (off1_mem o2) k0 k1 hdl gd gl e1 e2 e3 e4 e5 e6 e7 f1 f2 f4 f5 hScr hGr hll hL0 hL1 hv0 hv1
      dsimp only
      exact hB.run _ _ _ _ _ _ _ _ _ _ _ _ _ _ _ _ _ _ _ _ _ _ _ _ _ _ _ _ _ _ _ hPE B ⟨rfl, rfl, trivial⟩ F₂ Xk N3 Tp hD hSc hNe hOff hRows hco (by assumption) hret
theorem setup_WG : True := by
  (k_with "WG step" => k_extra "base")
  (k_with "WG steps" => repeat' (first | k_extra "WG step" | (k_unfold; (try dsimp only)) | (k_end; wrow_close) | walk1 | (dsimp only; walk1) | (leave1; walk_say "STEP leave1"; try dsimp only) | fail "no step"))
  (k_with "WG stopsub" => repeat' ((fail_if_success (with_reducible show wpAny _ _ (subscriptTail _ _ (Value.ref _) (Value.int _ _)) _ _ _)); first | k_extra "WG step" | (k_unfold; (try dsimp only)) | (k_end; wrow_close) | walk1 | (dsimp only; walk1) | (leave1; walk_say "STEP leave1"; try dsimp only) | fail "no step"))
  trivial
theorem gridline_c {w : World} {mean : ExcName → Option Value} {mg mb : Str → Option Value} {gi ll Lr n1 : Nat} {rows : List Value} {row : Int} {tk : Tok} {T : Led}
   (hgi : GridAt w T gi ll) (hll : (ll, listOf rows.toArray n1) ∈ T) (hLr : rows[row.toNat]? = some (.ref Lr)) (r0 : 0 ≤ row) (r1 : row < 2) :
   Ctr w mean mg mb 693 4 100 [.ref gi, .int row tk] T (fun r news' => r = .ref Lr ∧ news' = T) := by
  obtain ⟨gd', g1, g2, g3, g4, g5, hg1, hg2⟩ := hgi
  unfold Ctr
  k_fill
  intro dp un gd cn cs' a ccd cl' outer A₀ base h₀ L m s Q E B F X N Tp hk hd hu hret
  refine wpAny_call ?_
  k_dflt cell_enter
  k_extra "WG stopsub"
  k_dflt (refine kba_turn (value' := PySem.Expr.Name (PySem.Str.ofString "_") ⟨0, 0, 0, 0⟩) (fun _ => rfl) ?_)
  refine' pick_at ?N ?m ?h0 ?h1 ?hx ?_
  case N => k_asm
  case hx => assumption
  case m => k_extra "own mem"
  case h0 => l_bnd
  case h1 => l_bnd
  k_extra "WG steps"
  refine hret _ _ _ _ ?_ (by k_asm) (by k_asm)
  exact ⟨rfl, rfl⟩
theorem put_c2 {w : World} {mean : ExcName → Option Value} {mg mb : Str → Option Value} {li C a ac ap : Nat} {cv : List Value} {codes : List Int} {wd fl : Int} {g : Bool} {tw tf t1 t2 t3 t4 tk : Tok} {vs : List Value} {cs : List Cell} {n : Nat} {col : Int} {S T T₀ : Led}
   (hC : AllC (CellS S) vs cs) (hS : ∀ p ∈ S, p ∈ T) (hl : (vs.length : Int) = 5) (ho : ∀ p ∈ T, p.1 ≠ C) (h0 : 0 ≤ col) (h1 : col < 5) (hw : wd = 1 ∨ wd = 2 ∧ col < 4)
   (hL : LineAt w T₀ li C) (hT₀ : ∀ p ∈ T₀, p ∈ T)
   (m1 : (a, tp [.ref ac, .int wd tw, .ref ap, .bool g]) ∈ T) (m2 : (ac, tp cv) ∈ T) (hi : IntsAre cv codes) (m3 : (ap, tp [.int fl tf, .int (-1) t1, .int (-1) t2, .int (-1) t3, .int 0 t4]) ∈ T) :
   Ctr w mean mg mb 588 9 400 [.ref li, .int col tk, .ref a] ((C, listOf vs.toArray n) :: T) (CsPost C n vs (putA cs col ⟨codes, wd, fl, g⟩) ((a, tp [.ref ac, .int wd tw, .ref ap, .bool g]) :: (ac, tp cv) :: (ap, tp [.int fl tf, .int (-1) t1, .int (-1) t2, .int (-1) t3, .int 0 t4]) :: S) T) := by
  obtain ⟨ld, u1, u2, u3, hli, hld⟩ := hL
  replace hli := hT₀ _ hli
  replace hld := hT₀ _ hld
  refine put_c w mean mg mb li ld C a ac ap cv codes wd fl g tw tf t1 t2 t3 t4 tk u1 u2 u3 vs cs n col _ T (hC.mono fun _ _ x => x.mono fun p hp => .tail _ (.tail _ (.tail _ hp))) ?_ hl ho h0 h1 hw hli hld (.head _) (.tail _ (.head _)) hi (.tail _ (.tail _ (.head _)))
  intro p hp
  rcases List.mem_cons.mp hp with rfl | hp
  · exact m1
  rcases List.mem_cons.mp hp with rfl | hp
  · exact m2
  rcases List.mem_cons.mp hp with rfl | hp
  · exact m3
  exact hS p hp
theorem setup_WD : True := by
  (k_with "e41" => (k_here; (with_reducible show wpAny _ _ (call (Value.ref 693) _) _ _ _); k_dflt ((refine' Ctr.use (gridline_c ?e41hgi ?e41hll ?e41hLr ?e41r0 ?e41r1) ?e41B ?e41F ?e41X ?e41N ?e41T ?e41k ?e41d ?e41u ?_; (case e41N => k_asm); (case e41hLr => with_reducible assumption); (case e41hgi => exact ⟨_, _, _, _, _, _, (by k_extra "own mem"), (by k_extra "own mem")⟩); (case e41hll => k_extra "own mem"); (case e41r0 => assumption); (case e41r1 => assumption); (case e41B => k_asm); (case e41F => k_asm); (case e41X => k_asm); (case e41T => k_asm); (case e41k => first | exact rfl | assumption); (case e41d => ktr_room); (case e41u => ktr_units)); intro w9r' w9news' w9h' w9tk' w9hrn' w9F' w9N'; (have w9hr' := w9hrn'.1); (have w9hn' := w9hrn'.2); clear w9hrn'; subst w9hr'; subst w9hn'; (try k_sweep))))
  (k_with "e42" => (k_here; (with_reducible show wpAny _ _ (call (Value.ref 588) _) _ _ _); k_dflt ((refine' Ctr.useC (put_c2 ?e42hC ?e42hS ?e42hl ?e42ho ?e42h0 ?e42h1 ?e42hw ?e42hL ?e42hT₀ ?e42m1 ?e42m2 ?e42hi ?e42m3) ?e42hP ?e42hT ?e42B ?e42F ?e42X ?e42N ?e42T ?e42k ?e42d ?e42u ?_; (case e42N => k_asm); (case e42hL => with_reducible assumption); (case e42hP => k_extra "own pick"); (case e42hC => assumption); (case e42hS => k_extra "own sub"); (case e42hl => assumption); (case e42ho => k_all); (case e42h0 => l_bnd); (case e42h1 => l_bnd); (case e42hw => first | with_reducible assumption | exact Or.inl rfl | exact Or.inr ⟨rfl, by omega⟩); (case e42m1 => k_mem); (case e42m2 => k_mem); (case e42m3 => k_mem); (case e42hi => assumption); (case e42hT₀ => k_extra "own sub"); (case e42hT => ktn_open); (case e42B => k_asm); (case e42F => k_asm); (case e42X => k_asm); (case e42T => k_asm); (case e42k => first | exact rfl | assumption); (case e42d => ktr_room); (case e42u => ktr_units)); intro w9X' w9vs' w9h' w9tk' w9hA' w9hC' w9hl' w9F' w9N'; (try dsimp only [id] at w9N'); (try k_sweep))))
  (k_with "e0" => (k_here; (with_reducible show wpAny _ _ (subscriptTail _ _ (Value.ref _) _) _ _ _); (fail_if_success (with_reducible show wpAny _ _ (subscriptTail (PySem.Expr.Name _ _) _ _ _) _ _ _)); k_dflt (refine kba_turn (w9value' := PySem.Expr.Name (PySem.Str.ofString "_") ⟨0, 0, 0, 0⟩) (fun _ => rfl) ?_)))
  (k_with "WD step" => first | k_extra "e0" | k_extra "e42" | k_extra "e41" | k_extra "base")
  (k_with "WD steps" => repeat' (first | k_extra "WD step" | (k_unfold; (try dsimp only)) | (k_end; wrow_close) | walk1 | (dsimp only; walk1) | (leave1; walk_say "STEP leave1"; try dsimp only) | fail "no step"))
  trivial
noncomputable abbrev b63d : List Stmt := pick (a := b63.drop 7) (b := _) (by conv => lhs; whnf)
theorem put_D (w : World) (mean : ExcName → Option Value) (mg mb : Str → Option Value) (m : Str → Option Value) (sc gi ll C D Lr t p n1 mC mD : Nat) (rows : List Value) (u v : List Value) (cs2 cs : List Cell) (T R : Led) (row col wd fl : Int) (g : Bool) (cv : List Value) (codes : List Int) (t1 t2 t3 t4 t5 k1 k2 k3 k4 : Tok)
   (hT : ∀ p ∈ T, p ∈ R) (oC : ∀ p ∈ R, p.1 ≠ C) (oD : ∀ p ∈ R, p.1 ≠ D) (hDC : D ≠ C)
   (hsc : ScrAt w T sc gi) (hgi : GridAt w T gi ll) (hll : (ll, listOf rows.toArray n1) ∈ T) (hLr : rows[row.toNat]? = some (.ref Lr)) (hlr : LineAt w T Lr C)
   (hu : AllC (CellL T) u cs2) (hv : AllC (CellS T) v cs) (lu : (u.length : Int) = 5) (lv : (v.length : Int) = 5)
   (r0 : 0 ≤ row) (r1 : row < 2) (c0 : 0 ≤ col) (c1 : col < 5) (hw : wd = 1 ∨ wd = 2 ∧ col < 4)
   (m1 : (t, tp cv) ∈ T) (hi : IntsAre cv codes) (m2 : (p, tp [.int fl t1, .int (-1) t2, .int (-1) t3, .int (-1) t4, .int 0 t5]) ∈ T)
   (hm : Has [(Str.ofString "line", .ref D), (Str.ofString "column", .int col k1), (Str.ofString "codes", .ref t), (Str.ofString "width", .int wd k2), (Str.ofString "flags", .int fl k3), (Str.ofString "is_guarded", .bool g), (Str.ofString "screen", .ref sc), (Str.ofString "row", .int row k4), (Str.ofString "pen", .ref p)] m) :
   Blk w mean mg mb (Str.ofString "_law_put") s63 1124 (.ref 1123) b63d 12 500 m ((D, listOf u.toArray mD) :: (C, listOf v.toArray mC) :: R)
     (DPost D mD C mC cs2 cs col ⟨codes, wd, fl, g⟩ (listOf u.toArray mD) (listOf v.toArray mC) T R) := by
  unfold Blk
  k_fill
  intro dp un gd cn cs' L a ccd cl outer base g₀ L' s Q E B F X N Tp hk hd huu hret
  obtain ⟨sd, s1, s2, s3, s4, s5, s6, s7, s8, s9, s10, s11, s12, s13, y1, y2, y3, y4, y5, y7, y8, y9, y10, y11, y12, y13, hs1, hs2⟩ := hsc
  obtain ⟨gd', g1, g2, g3, g4, g5, hg1, hg2⟩ := hgi
  obtain ⟨ld, l1, l2, l3, hl1, hl2⟩ := hlr
  replace hl1 := hT _ hl1
  replace hl2 := hT _ hl2
  have hlR : LineAt w R Lr C := ⟨ld, l1, l2, l3, hl1, hl2⟩
  replace hs1 := hT _ hs1
  replace hs2 := hT _ hs2
  replace hg1 := hT _ hg1
  replace hg2 := hT _ hg2
  replace hll := hT _ hll
  have m1R := hT _ m1
  have m2R := hT _ m2
  replace F := Fr.hasL hm F
  dsimp only [ov] at F
  clear hm
  k_extra "WD steps"
  · refine hret _ _ _ _ _ _ .next ?_ (by k_asm) (by k_asm)
    exact D_end2 (by assumption) (by assumption) (by assumption) (by assumption) (by assumption) (by assumption) m1 m2 hu hi (by assumption)
  · refine hret _ _ _ _ _ _ .next ?_ (by k_asm) (by k_asm)
    exact D_end1 (by assumption) (by assumption) (by assumption) (by assumption) m1 m2 hu hi (by assumption)
theorem setup_WC : True := by
  (k_with "WC step" => first | k_extra "e0" | k_extra "base")
  (k_with "WC steps" => repeat' (first | k_extra "WC step" | (k_unfold; (try dsimp only)) | (k_end; wrow_close) | walk1 | (dsimp only; walk1) | (leave1; walk_say "STEP leave1"; try dsimp only) | fail "no step"))
  (k_with "WC iter" => repeat' ((fail_if_success (with_reducible show wpAny _ _ (pyIter (Value.ref _)) _ _ _)); first | k_extra "WC step" | (k_unfold; (try dsimp only)) | (k_end; wrow_close) | walk1 | (dsimp only; walk1) | (leave1; walk_say "STEP leave1"; try dsimp only) | fail "no step"))
  trivial
noncomputable abbrev b63c : List Stmt := pick (a := b63.drop 6) (b := _) (by conv => lhs; whnf)
theorem put_C (w : World) (mean : ExcName → Option Value) (mg mb : Str → Option Value) (m : Str → Option Value) (sc gi ll C D Lr t p n1 mC mD : Nat) (rows : List Value) (u v : List Value) (cs : List Cell) (T R : Led) (row col wd fl : Int) (g : Bool) (cv : List Value) (codes : List Int) (t1 t2 t3 t4 t5 k1 k2 k3 k4 : Tok)
   (hT : ∀ p ∈ T, p ∈ R) (oC : ∀ p ∈ R, p.1 ≠ C) (oD : ∀ p ∈ R, p.1 ≠ D) (hDC : D ≠ C)
   (hsc : ScrAt w T sc gi) (hgi : GridAt w T gi ll) (hll : (ll, listOf rows.toArray n1) ∈ T) (hLr : rows[row.toNat]? = some (.ref Lr)) (hlr : LineAt w T Lr C)
   (hu : AllC (CellL T) u cs) (hv : AllC (CellS T) v cs) (hcs : RowOk cs)
   (r0 : 0 ≤ row) (r1 : row < 2) (c0 : 0 ≤ col) (c1 : col < 5) (hw : wd = 1 ∨ wd = 2 ∧ col < 4)
   (m1 : (t, tp cv) ∈ T) (hi : IntsAre cv codes) (m2 : (p, tp [.int fl t1, .int (-1) t2, .int (-1) t3, .int (-1) t4, .int 0 t5]) ∈ T)
   (hm : Has [(Str.ofString "line", .ref D), (Str.ofString "column", .int col k1), (Str.ofString "codes", .ref t), (Str.ofString "width", .int wd k2), (Str.ofString "flags", .int fl k3), (Str.ofString "is_guarded", .bool g), (Str.ofString "screen", .ref sc), (Str.ofString "row", .int row k4), (Str.ofString "pen", .ref p)] m) :
   BlkE w mean mg mb (Str.ofString "_law_put") s63 1124 (.ref 1123) b63c 12 500 m ((D, listOf u.toArray mD) :: (C, listOf v.toArray mC) :: R)
     (DPost D mD C mC (spots cs col.toNat wd.toNat) cs col ⟨codes, wd, fl, g⟩ (listOf u.toArray mD) (listOf v.toArray mC) T R) := by
  unfold BlkE
  k_fill
  intro dp un gd cn cs' L a ccd cl outer base g₀ L' s Q E hPE B F Xk N Tp hk hd huu hret
  replace F := Fr.hasL hm F
  dsimp only [ov] at F
  k_extra "WC iter"
  refine' spots_loop (D := D) (mD := mD) (R := (C, listOf v.toArray mC) :: R) (T := T) (n := wd.toNat) ?hh ?hr ?hn ?h0 ?h1 ?F ?N ?hC ?hTR ?hcs ?step ?fin
  case hr => assumption
  case hh => exact rfl
  case hn => omega
  case h0 => exact c0
  case h1 => omega
  case F => k_asm
  case N => exact news_pick (by k_extra "own pick") (by k_asm)
  case hC => exact hu
  case hTR => exact fun p hp => .tail _ (hT p hp)
  case hcs => exact hcs
  case step =>
    clear hT hsc hgi hll hLr hlr hu hv hm m1 m2 hi
    intro I i t X u' b h₁ tk₁ o hDI hXI hXT hi0 hi5 hlen hok hC' hCR hA F₁ N₁
    k_extra "WC steps"
    all_goals (try (exfalso; omega))
    · exact spots_put (by assumption) (by assumption) hDI hXI hXT (by assumption) (by assumption) hA hC' (spots_e2 c0 (by assumption) (by assumption))
    · exact spots_put (by assumption) (by assumption) hDI hXI hXT (by assumption) (by assumption) hA hC' (spots_e1 c0 (by assumption) (by omega) (by assumption))
    · exact spots_same (by assumption) (by assumption) hDI hXI hXT hA hC' (spots_e0 c0 (by assumption) (by assumption) (by assumption))
  case fin =>
    intro X u' b h tk hlen hC' hA F' N'
    have hXT : ∀ q ∈ T, q ∈ X ++ T := fun q hq => List.mem_append.mpr (.inr hq)
    have hXR : ∀ q ∈ X ++ T, q ∈ X ++ R := fun q hq => (List.mem_append.mp hq).elim (fun h => List.mem_append.mpr (.inl h)) (fun h => List.mem_append.mpr (.inr (hT q h)))
    have K := put_D w mean mg mb (mset (ov [(Str.ofString "line", .ref D), (Str.ofString "column", .int col k1), (Str.ofString "codes", .ref t), (Str.ofString "width", .int wd k2), (Str.ofString "flags", .int fl k3), (Str.ofString "is_guarded", .bool g), (Str.ofString "screen", .ref sc), (Str.ofString "row", .int row k4), (Str.ofString "pen", .ref p)] m) (Str.ofString "spot") b) sc gi ll C D Lr t p n1 mC mD rows u' v (spots cs col.toNat wd.toNat) cs (X ++ T) (X ++ R) row col wd fl g cv codes t1 t2 t3 t4 t5 k1 k2 k3 k4 hXR
      (off_app oC hA (.tail _ (.head _))) (off_app oD hA (.head _)) hDC (hsc.mono hXT) (hgi.mono hXT) (hXT _ hll) hLr (hlr.mono hXT) hC' (allS_up hv hXT) hlen (by rw [hv.length, hcs.1]; rfl) r0 r1 c0 c1 hw (hXT _ m1) hi (hXT _ m2)
      (by rw [ov_has hm]; exact Has.set hm (by rfl))
    unfold Blk at K
    refine K _ _ _ _ _ _ _ _ _ _ _ _ _ { s with heap := h, toks := tk } _ _ B F' Xk (news_swap N') Tp hk hd huu ?_
    intro fl' v' m' news' h' tk' hfl hP F₂ N₂
    exact hret _ _ _ _ _ _ hfl (dpost_glue hP hA) F₂ N₂
theorem setup_WB : True := by
  (k_with "WB step" => first | k_extra "e0" | k_extra "base")
  (k_with "WB for" => repeat' ((fail_if_success (with_reducible show wpAny _ _ (execs (Stmt.For _ _ _ _ _ :: _) _) _ _ _)); first | k_extra "WB step" | (k_unfold; (try dsimp only)) | (k_end; wrow_close) | walk1 | (dsimp only; walk1) | (leave1; walk_say "STEP leave1"; try dsimp only) | fail "no step"))
  trivial
noncomputable abbrev b63b : List Stmt := pick (a := b63.drop 3) (b := _) (by conv => lhs; whnf)
theorem put_B (w : World) (mean : ExcName → Option Value) (mg mb : Str → Option Value) (m : Str → Option Value) (d l sc gi ll cl C Co D Do Lr n1 n2 mC mD : Nat) (od ol oCo oDo : Obj) (rows ds : List Value) (u v : List Value) (cs : List Cell) (T : Led) (row col way fl : Int) (g : Bool) (k1 k2 k3 k4 : Tok)
   (hD : DeckOk w l od ol) (ne : Ne6 d l C Co D Do) (off : Off T d l C Co D Do)
   (hsc : ScrAt w T sc gi) (hgi : GridAt w T gi ll) (hll : (ll, listOf rows.toArray n1) ∈ T) (hLr : rows[row.toNat]? = some (.ref Lr)) (hlr : LineAt w T Lr C)
   (hcl : (cl, listOf ds.toArray n2) ∈ T) (hDr : ds[row.toNat]? = some (.ref D))
   (hu : AllC (CellL T) u cs) (hv : AllC (CellS T) v cs) (hcs : RowOk cs)
   (r0 : 0 ≤ row) (r1 : row < 2) (c0 : 0 ≤ col) (c1 : col < 5) (w0 : 0 ≤ way) (w1 : way < 3) (f0 : 0 ≤ fl) (f1 : fl ≤ 2797)
   (hm : Has [(Str.ofString "row", .int row k1), (Str.ofString "column", .int col k2), (Str.ofString "way", .int way k3), (Str.ofString "flags", .int fl k4), (Str.ofString "is_guarded", .bool g), (Str.ofString "deck", .ref d), (Str.ofString "screen", .ref sc), (Str.ofString "cells", .ref cl)] m) :
   BlkE w mean mg mb (Str.ofString "_law_put") s63 1124 (.ref 1123) b63b 14 600 m ((d, od) :: (l, ol) :: (C, listOf v.toArray mC) :: (Co, oCo) :: (D, listOf u.toArray mD) :: (Do, oDo) :: T)
     (BPost w d l C Co D Do mC mD oCo oDo T) := by
  obtain ⟨e1, e2, e3, e4, e5, e6, e7, e8, e9, e10, e11, e12, e13, e14, e15⟩ := ne
  have hoff := off
  obtain ⟨f1, f2, f3, f4, f5, f6⟩ := off
  unfold BlkE
  k_fill
  intro dp un gd cn cs' L a ccd cll outer base g₀ L' s Q E hPE B F Xk N Tp hk hd huu hret
  replace F := Fr.hasL hm F
  dsimp only [ov] at F
  clear hm
  k_extra "WB for"
  all_goals (try (exfalso; omega))
  · exact hret _ _ _ _ _ _ (.ret _) (b_ret (by assumption) hoff hu hv hcs) (by assumption) (by assumption)
  · have w9D' := True.intro; have w9F' := True.intro; have w9N' := True.intro; have w9X' := True.intro; have w9a' := True.intro; have w9ac' := True.intro; have w9ap' := True.intro; have w9c' := True.intro; have w9codes' := True.intro; have w9cv' := True.intro; have w9h' := True.intro; have w9hA' := True.intro; have w9hC' := True.intro; have w9hD' := True.intro; have w9hP' := True.intro; have w9hQ' := True.intro; have w9hc' := True.intro; have w9hci' := True.intro; have w9hco' := True.intro; have w9hl' := True.intro; have w9hok' := True.intro; have w9hr' := True.intro; have w9hx0' := True.intro; have w9hx1' := True.intro; have w9hxx' := True.intro; have w9l1 := True.intro; have w9lF' := True.intro; have w9m1' := True.intro; have w9m2' := True.intro; have w9m3' := True.intro; have w9m4' := True.intro; have w9od' := True.intro; have w9ol' := True.intro; have w9r' := True.intro; have w9t' := True.intro; have w9t1' := True.intro; have w9t2' := True.intro; have w9t3' := True.intro; have w9t4' := True.intro; have w9tf' := True.intro; have w9tk' := True.intro; have w9tw' := True.intro; have w9value' := True.intro; have w9vs' := True.intro; have w9x' := True.intro;
    rename_i x' tx od' ol' h11 tk' hx0 hx1 hD' hxx A4 h10 l6 A3 h9 l5 A2 h8 l4 l' h7 l3 t cv codes hco hci lt h6 tkx aw ac aw2 p h5 lp D1 h4 l1 h3 h2 h1 h0 F' N'
    have hc : CellOk ⟨codes, 2, fl, g⟩ := ⟨hco, .inr (.inr rfl), f0, by show fl < 4096; omega⟩
    have hw : (2 : Int) = 1 ∨ (2 : Int) = 2 ∧ col < 4 := .inr ⟨rfl, by omega⟩
    refine BlkE.use hPE B F' Xk (news_perm N') Tp hk (put_C w mean mg mb _ sc gi ll C D Lr t p n1 mC mD rows u v cs ((p, tp [.int fl k4, .int (-1) (tk + 1 + 1 + 1), .int (-1) (tk + 1 + 1 + 1 + 1 + 1), .int (-1) (tk + 1 + 1 + 1 + 1 + 1 + 1 + 1), .int 0 (tk + 1 + 1 + 1 + 1 + 1 + 1 + 1 + 1)]) :: (t, tp cv) :: T) _ row col 2 fl g cv codes k4 (tk + 1 + 1 + 1) (tk + 1 + 1 + 1 + 1 + 1) (tk + 1 + 1 + 1 + 1 + 1 + 1 + 1) (tk + 1 + 1 + 1 + 1 + 1 + 1 + 1 + 1) k2 (tk + 1) k4 k1 ?hT ?oC ?oD ?hDC (hsc.mono ?s1) (hgi.mono ?s1) (.tail _ (.tail _ hll)) hLr (hlr.mono ?s1) (allC_up hu ?s1) (allS_up hv ?s1) hcs r0 r1 c0 c1 hw (.tail _ (.head _)) hci (.head _) ?hm) (by omega) (by omega) ?ret
    case hm => exact ⟨rfl, rfl, rfl, rfl, rfl, rfl, rfl, rfl, rfl, trivial⟩
    case hT => intro q hq; rcases List.mem_cons.mp hq with rfl | hq; exact .tail _ (.head _); rcases List.mem_cons.mp hq with rfl | hq; exact .tail _ (.tail _ (.head _)); exact .tail _ (.tail _ (.tail _ (.tail _ (.tail _ (.tail _ (.tail _ hq))))))
    case oC => k_all
    case oD => k_all
    case hDC => exact Ne.symm e11
    case s1 => exact fun q hq => .tail _ (.tail _ hq)
    case ret =>
      intro fl' v' m' news' h' tk'' hfl hP F₂ N₂
      exact hret _ _ _ _ _ _ hfl (b_end hP hcs hc c0 c1 hw hD' hoff lt lp) F₂ N₂
  · have w9D' := True.intro; have w9F' := True.intro; have w9N' := True.intro; have w9X' := True.intro; have w9a' := True.intro; have w9ac' := True.intro; have w9ap' := True.intro; have w9c' := True.intro; have w9codes' := True.intro; have w9cv' := True.intro; have w9h' := True.intro; have w9hA' := True.intro; have w9hC' := True.intro; have w9hD' := True.intro; have w9hP' := True.intro; have w9hQ' := True.intro; have w9hc' := True.intro; have w9hci' := True.intro; have w9hco' := True.intro; have w9hl' := True.intro; have w9hok' := True.intro; have w9hr' := True.intro; have w9hx0' := True.intro; have w9hx1' := True.intro; have w9hxx' := True.intro; have w9l1 := True.intro; have w9lF' := True.intro; have w9m1' := True.intro; have w9m2' := True.intro; have w9m3' := True.intro; have w9m4' := True.intro; have w9od' := True.intro; have w9ol' := True.intro; have w9r' := True.intro; have w9t' := True.intro; have w9t1' := True.intro; have w9t2' := True.intro; have w9t3' := True.intro; have w9t4' := True.intro; have w9tf' := True.intro; have w9tk' := True.intro; have w9tw' := True.intro; have w9value' := True.intro; have w9vs' := True.intro; have w9x' := True.intro;
    rename_i x' tx od' ol' h11 tk' hx0 hx1 hD' hxx A4 h10 l6 A3 h9 l5 A2 h8 l4 l' h7 l3 t cv codes hco hci lt h6 tkx aw aw2 p h5 lp D1 h4 l1 h3 h2 h1 h0 F' N'
    have hc : CellOk ⟨codes, 1, fl, g⟩ := ⟨hco, .inr (.inl rfl), f0, by show fl < 4096; omega⟩
    have hw : (1 : Int) = 1 ∨ (1 : Int) = 2 ∧ col < 4 := .inl rfl
    refine BlkE.use hPE B F' Xk (news_perm N') Tp hk (put_C w mean mg mb _ sc gi ll C D Lr t p n1 mC mD rows u v cs ((p, tp [.int fl k4, .int (-1) (tk + 1 + 1 + 1), .int (-1) (tk + 1 + 1 + 1 + 1 + 1), .int (-1) (tk + 1 + 1 + 1 + 1 + 1 + 1 + 1), .int 0 (tk + 1 + 1 + 1 + 1 + 1 + 1 + 1 + 1)]) :: (t, tp cv) :: T) _ row col 1 fl g cv codes k4 (tk + 1 + 1 + 1) (tk + 1 + 1 + 1 + 1 + 1) (tk + 1 + 1 + 1 + 1 + 1 + 1 + 1) (tk + 1 + 1 + 1 + 1 + 1 + 1 + 1 + 1) k2 (tk + 1) k4 k1 ?hT ?oC ?oD ?hDC (hsc.mono ?s1) (hgi.mono ?s1) (.tail _ (.tail _ hll)) hLr (hlr.mono ?s1) (allC_up hu ?s1) (allS_up hv ?s1) hcs r0 r1 c0 c1 hw (.tail _ (.head _)) hci (.head _) ?hm) (by omega) (by omega) ?ret
    case hm => exact ⟨rfl, rfl, rfl, rfl, rfl, rfl, rfl, rfl, rfl, trivial⟩
    case hT => intro q hq; rcases List.mem_cons.mp hq with rfl | hq; exact .tail _ (.head _); rcases List.mem_cons.mp hq with rfl | hq; exact .tail _ (.tail _ (.head _)); exact .tail _ (.tail _ (.tail _ (.tail _ (.tail _ (.tail _ (.tail _ hq))))))
    case oC => k_all
    case oD => k_all
    case hDC => exact Ne.symm e11
    case s1 => exact fun q hq => .tail _ (.tail _ hq)
    case ret =>
      intro fl' v' m' news' h' tk'' hfl hP F₂ N₂
      exact hret _ _ _ _ _ _ hfl (b_end hP hcs hc c0 c1 hw hD' hoff lt lp) F₂ N₂
theorem setup_WL : True := by
  (k_with "WL step" => first | k_extra "e0" | k_extra "base")
  (k_with "WL steps" => repeat' (first | k_extra "WL step" | (k_unfold; (try dsimp only)) | (k_end; wrow_close) | walk1 | (dsimp only; walk1) | (leave1; walk_say "STEP leave1"; try dsimp only) | fail "no step"))
  trivial
theorem news_skip2 {h₀ h : Heap} {L : Addr} {a b c d : Addr × Obj} {T : Led} (N : News h₀ L h (a :: b :: c :: d :: T)) : News h₀ L h (a :: b :: T) := fun q hq => N q (by
  rcases List.mem_cons.mp hq with rfl | hq
  · exact .head _
  rcases List.mem_cons.mp hq with rfl | hq
  · exact .tail _ (.head _)
  · exact .tail _ (.tail _ (.tail _ (.tail _ hq))))
theorem lawput_c (w : World) (mean : ExcName → Option Value) (mg mb : Str → Option Value) (d l sc cl C0 C1 D0 D1 : Nat) (od ol : Obj) (v0 v1 u0 u1 : List Value) (c0 c1 : List Cell) (m1 m2 m3 m4 : Nat) (T : Led)
   (hD : DeckOk w l od ol) (hS : Scene w T sc cl C0 C1 D0 D1) (ne : Ne6 d l C0 C1 D0 D1) (off : Off T d l C0 C1 D0 D1) (hR : Rows T u0 u1 v0 v1 c0 c1) :
   Ctr w mean mg mb 1124 20 1000 [.ref d, .ref sc, .ref cl] ((d, od) :: (l, ol) :: (C0, listOf v0.toArray m1) :: (C1, listOf v1.toArray m2) :: (D0, listOf u0.toArray m3) :: (D1, listOf u1.toArray m4) :: T) (PutPost w d l C0 C1 D0 D1 m1 m2 m3 m4 T) := by
  have hne := ne
  have hoff := off
  obtain ⟨gi, ll, L0, L1, n1, n2, hsc, hgi, hll, hcl, hl0, hl1⟩ := hS
  obtain ⟨e1, e2, e3, e4, e5, e6, e7, e8, e9, e10, e11, e12, e13, e14, e15⟩ := ne
  obtain ⟨f1, f2, f3, f4, f5, f6⟩ := off
  unfold Ctr
  k_fill
  intro dp un gd cn cs' a ccd cl' outer A₀ base h₀ L m s Q E B F X N Tp hk hd hu hret
  refine wpAny_call ?_
  k_dflt cell_enter
  k_extra "WL steps"
  (rename (0 : Int) ≤ _ ∧ _ < (2 : Int) => hrow)
  (rename (0 : Int) ≤ _ ∧ _ < (5 : Int) => hund)
  refine' flags_loop (d := d) (l := l) S7 ?hh ?F ?N ?hc ?hd ?hf ?h0 ?h1 ?hD ?hax ?step ?fin
  case hh => exact rfl
  case F => k_asm
  case N => k_asm
  case hc => exact rfl
  case hd => exact rfl
  case hf => exact rfl
  case h0 => decide
  case h1 => decide
  case hD => assumption
  case hax => exact ⟨by k_all, by k_all, by k_ne, by k_ne⟩
  case step =>
    rintro I ⟨hi1, hi2, hi3, hi4⟩ i v od2 ol2 fl2 tf2 b2 h2 tk2 o2' hv hD2 hf0 hf1 F2 N2
    obtain ⟨bv, tb, rfl, hb0, hb1⟩ := flag_item hund.1 hund.2 hv
    k_extra "WL steps"
    all_goals (refine flags_end (by k_asm) (by k_asm) hi2 hi3 hi1 hi4 (by assumption) (by omega) (by omega))
  case fin =>
    intro od2 ol2 fl2 tf2 b2 h2 tk2 hD2 hf0 hf1 F2 N2
    replace hf1 : fl2 ≤ 2797 := hf1
    obtain ⟨C, Co, D, Do, Lr, mC, mCo, mD, mDo, v, vo, u, uo, cs, hLr, hDr, hlr, hCu, hCv, hcs, ne2, off2, N3, hback⟩ := pick_row (d := d) (l := l) (od := od2) (ol := ol2) (m1 := m1) (m2 := m2) (m3 := m3) (m4 := m4) hR hl0 hl1 hrow.1 hrow.2 hne hoff (news_skip2 (news_drop N2)) (fun _ h => h)
    refine BlkE.use (by passes_own) (by k_asm) F2 (by k_asm) N3 (by k_asm) (by first | exact rfl | assumption) (put_B w mean mg mb _ d l sc gi ll cl C Co D Do Lr _ _ mC mD od2 ol2 _ _ _ _ u v cs T _ _ _ fl2 _ _ _ _ _ hD2 ne2 off2 hsc hgi hll hLr hlr hcl hDr hCu hCv hcs hrow.1 hrow.2 ?c0 ?c1 ?w0 ?w1 hf0 hf1 ⟨rfl, rfl, rfl, rfl, rfl, rfl, rfl, rfl, trivial⟩) ?d ?u ?ret
    case c0 => assumption
    case c1 => assumption
    case w0 => assumption
    case w1 => assumption
    case d => omega
    case u => omega
    case ret =>
      intro fl' v' m' news' h' tk' hfl hP F₂ N₂
      obtain ⟨rfl, T', od', ol', v'', u'', cs', hT, hoff', hD', hu', hv', hcs', hN'⟩ := hP
      obtain ⟨nn, hPP, NN⟩ := hback T' od' ol' v'' u'' cs' _ _ _ hT hoff' hD' hu' hv' hcs' (fun p hp => N₂ p (hN' p hp))
      cases hfl <;> dsimp only
      all_goals (k_extra "WL steps")
      all_goals (exact hret _ _ _ _ hPP (by assumption) (by assumption))
/-- the state between two puts -/
noncomputable def JGo (w : World) (d l sc cl C0 C1 D0 D1 m1 m2 m3 m4 : Nat) (T : Led) (i : Nat) (m : Str → Option Value) (n : Led) : Prop :=
  ∃ (T' : Led) (od ol : Obj) (v0 v1 u0 u1 : List Value) (c0 c1 : List Cell), n = (d, od) :: (l, ol) :: (C0, listOf v0.toArray m1) :: (C1, listOf v1.toArray m2) :: (D0, listOf u0.toArray m3) :: (D1, listOf u1.toArray m4) :: T' ∧
    (∀ p ∈ T, p ∈ T') ∧ Off T' d l C0 C1 D0 D1 ∧ DeckOk w l od ol ∧ Rows T' u0 u1 v0 v1 c0 c1 ∧ Has [(Str.ofString "deck", .ref d), (Str.ofString "cells", .ref cl)] m
theorem Scene.mono {w : World} {T T' : Led} {sc cl C0 C1 D0 D1 : Nat} (h : Scene w T sc cl C0 C1 D0 D1) (k : ∀ p ∈ T, p ∈ T') : Scene w T' sc cl C0 C1 D0 D1 := by
  obtain ⟨gi, ll, L0, L1, n1, n2, h1, h2, h3, h4, h5, h6⟩ := h
  exact ⟨gi, ll, L0, L1, n1, n2, h1.mono k, h2.mono k, k _ h3, k _ h4, h5.mono k, h6.mono k⟩
theorem rsz_nn {x : Int} (h : 0 ≤ x) : Builtin.Range.rangeSize 0 x 1 = ((x.toNat : Nat) : Int) := rsz (by omega)
theorem cellL_tup {T T' : Led} {v : Value} {c : Cell} (h : CellL T v c) (k : ∀ a l, (a, tp l) ∈ T → (a, tp l) ∈ T') : CellL T' v c := by
  obtain ⟨a, ac, cv, tw, tf, e, h1, h2, h3⟩ := h
  exact ⟨a, ac, cv, tw, tf, e, k _ _ h1, k _ _ h2, h3⟩
theorem cellS_tup {T T' : Led} {v : Value} {c : Cell} (h : CellS T v c) (k : ∀ a l, (a, tp l) ∈ T → (a, tp l) ∈ T') : CellS T' v c := by
  obtain ⟨a, ac, ap, cv, tw, tf, t1, t2, t3, t4, e, h1, h2, h3, h4⟩ := h
  exact ⟨a, ac, ap, cv, tw, tf, t1, t2, t3, t4, e, k _ _ h1, k _ _ h2, h3, k _ _ h4⟩
theorem Rows.tup {T T' : Led} {u0 u1 v0 v1 : List Value} {c0 c1 : List Cell} (h : Rows T u0 u1 v0 v1 c0 c1) (k : ∀ a l, (a, tp l) ∈ T → (a, tp l) ∈ T') : Rows T' u0 u1 v0 v1 c0 c1 := by
  obtain ⟨h1, h2, h3, h4, h5, h6⟩ := h
  exact ⟨h1.mono fun _ _ x => cellL_tup x k, h2.mono fun _ _ x => cellL_tup x k, h3.mono fun _ _ x => cellS_tup x k, h4.mono fun _ _ x => cellS_tup x k, h5, h6⟩
theorem Rows.mono {T T' : Led} {u0 u1 v0 v1 : List Value} {c0 c1 : List Cell} (h : Rows T u0 u1 v0 v1 c0 c1) (k : ∀ p ∈ T, p ∈ T') : Rows T' u0 u1 v0 v1 c0 c1 := h.tup fun _ _ x => k _ x
theorem off_cons {I d l a b c e : Nat} {oi : Obj} {T : Led} (h : Off T d l a b c e) (k : d < I ∧ l < I ∧ a < I ∧ b < I ∧ c < I ∧ e < I) : Off ((I, oi) :: T) d l a b c e := by
  obtain ⟨h1, h2, h3, h4, h5, h6⟩ := h
  obtain ⟨k1, k2, k3, k4, k5, k6⟩ := k
  exact ⟨fc (Nat.ne_of_gt k1) h1, fc (Nat.ne_of_gt k2) h2, fc (Nat.ne_of_gt k3) h3, fc (Nat.ne_of_gt k4) h4, fc (Nat.ne_of_gt k5) h5, fc (Nat.ne_of_gt k6) h6⟩
theorem putpost_none {w : World} {d l C0 C1 D0 D1 m1 m2 m3 m4 : Nat} {T : Led} {r : Value} {n' : Led} (h : PutPost w d l C0 C1 D0 D1 m1 m2 m3 m4 T r n') : r = .none := by
  obtain ⟨T', od, ol, v0, v1, u0, u1, c0, c1, hr, _, _, _, _, _⟩ := h
  exact hr
/-- the iterator put into the tail -/
theorem news_in {h₀ h : Heap} {L : Addr} {i a b c d e f : Addr × Obj} {T : Led} (N : News h₀ L h (i :: a :: b :: c :: d :: e :: f :: T)) : News h₀ L h (a :: b :: c :: d :: e :: f :: i :: T) := fun p hp => N p (by
  revert p; k_extra "tall")
noncomputable def keepB (T : Led) (p : Addr × Obj) : Bool := @decide (p ∈ T ∨ ∃ l, p.2 = tp l) (Classical.propDecidable _)
noncomputable def keepT (T T' : Led) : Led := T'.filter (keepB T)
theorem keepT_sub {T T' : Led} : ∀ p ∈ keepT T T', p ∈ T' := fun p hp => (List.mem_filter.mp hp).1
theorem keepT_is {T T' : Led} : ∀ p ∈ keepT T T', p ∈ T ∨ ∃ l, p.2 = tp l := fun p hp => @of_decide_eq_true _ (Classical.propDecidable _) (List.mem_filter.mp hp).2
theorem keepT_in {T T' : Led} {p : Addr × Obj} (h : p ∈ T') (k : p ∈ T ∨ ∃ l, p.2 = tp l) : p ∈ keepT T T' := List.mem_filter.mpr ⟨h, @decide_eq_true _ (Classical.propDecidable _) k⟩
theorem go_end {w : World} {d l sc cl C0 C1 D0 D1 m1 m2 m3 m4 I i tk : Nat} {oi : Obj} {T T1 : Led} {h₀ h' : Heap} {L : Addr} {s₁ : Shared} {m' : Str → Option Value} {r : Value} {n' : Led}
    (F : Fr h₀ L h' m') (N : News h₀ L h' n') (hP : PutPost w d l C0 C1 D0 D1 m1 m2 m3 m4 ((I, oi) :: T1) r n') (ho : oi.cls = .type "range_iterator") (hT : ∀ p ∈ T, p ∈ T1)
    (hI : ∀ p ∈ T, p.1 < I) (hd : d < I ∧ l < I ∧ C0 < I ∧ C1 < I ∧ D0 < I ∧ D1 < I) (hm : Has [(Str.ofString "deck", .ref d), (Str.ofString "cells", .ref cl)] m') :
    UnrEndW h₀ L s₁ [(I, oi)] (JGo w d l sc cl C0 C1 D0 D1 m1 m2 m3 m4 T (i + 1)) { s₁ with heap := h', toks := tk } := by
  obtain ⟨T', od, ol, v0, v1, u0, u1, c0, c1, _, rfl, hs, hoff, hD, hR⟩ := hP
  obtain ⟨x1, x2, x3, x4, x5, x6⟩ := hd
  have hin : (I, oi) ∈ T' := hs _ (.head _)
  have sub : ∀ p ∈ keepT T T', p ∈ T' := keepT_sub
  have led : ∀ p ∈ T', p ∈ (d, od) :: (l, ol) :: (C0, listOf v0.toArray m1) :: (C1, listOf v1.toArray m2) :: (D0, listOf u0.toArray m3) :: (D1, listOf u1.toArray m4) :: T' := fun p hp => .tail _ (.tail _ (.tail _ (.tail _ (.tail _ (.tail _ hp)))))
  have ne : ∀ p ∈ keepT T T', p.1 ≠ I := by
    intro p hp e
    rcases keepT_is p hp with h | ⟨la, h⟩
    · exact absurd e (Nat.ne_of_lt (hI p h))
    · have h1 := (N _ (led _ (sub p hp))).1
      have h2 := (N _ (led _ hin)).1
      rw [e, h] at h1
      have h3 : tp la = oi := Option.some.inj (h1.symm.trans h2)
      rw [← h3] at ho
      exact absurd (Value.type.inj ho) (by decide)
  refine ⟨h', tk, _, (d, od) :: (l, ol) :: (C0, listOf v0.toArray m1) :: (C1, listOf v1.toArray m2) :: (D0, listOf u0.toArray m3) :: (D1, listOf u1.toArray m4) :: keepT T T', rfl, F, ?_, ?_, ⟨keepT T T', od, ol, v0, v1, u0, u1, c0, c1, rfl, ?_, ?_, hD, hR.tup ?_, hm⟩⟩
  · intro p hp
    rcases List.mem_append.mp hp with hq | hq
    · rw [List.mem_singleton.mp hq]; exact N _ (led _ hin)
    · refine N p ?_
      clear hp
      revert p
      exact fc mh (fc (mt mh) (fc (mt (mt mh)) (fc (mt (mt (mt mh))) (fc (mt (mt (mt (mt mh)))) (fc (mt (mt (mt (mt (mt mh))))) fun p hp => mt (mt (mt (mt (mt (mt (sub p hp)))))))))))
  · intro p hp q hq
    rw [List.mem_singleton.mp hq]
    revert p
    exact fc (Nat.ne_of_lt x1) (fc (Nat.ne_of_lt x2) (fc (Nat.ne_of_lt x3) (fc (Nat.ne_of_lt x4) (fc (Nat.ne_of_lt x5) (fc (Nat.ne_of_lt x6) ne)))))
  · intro p hp
    exact keepT_in (hs _ (.tail _ (hT p hp))) (.inl hp)
  · obtain ⟨y1, y2, y3, y4, y5, y6⟩ := hoff
    exact ⟨fun p hp => y1 p (sub p hp), fun p hp => y2 p (sub p hp), fun p hp => y3 p (sub p hp), fun p hp => y4 p (sub p hp), fun p hp => y5 p (sub p hp), fun p hp => y6 p (sub p hp)⟩
  · intro a la ha
    exact keepT_in ha (.inr ⟨la, rfl⟩)
theorem setup_YF : True := by
  (k_with "e43" => (k_here; (with_reducible show wpAny _ _ (call (Value.ref 1117) _) _ _ _); (with_reducible refine' Ctr.useLaw (draw_c _ _ _ _ _ _ _ _ _ _ _ ?e43hD ?e43hm ?e43hm2 ?e43hdl ?e43hod ?e43hol) ?e43B ?e43F ?e43X ?e43N ?e43T ?e43k ?e43d ?e43u ?_); (case e43N => k_asm); (case e43hD => assumption); (case e43hm => decide); (case e43hm2 => decide); (case e43hdl => assumption); (case e43hod => k_extra "own all"); (case e43hol => k_extra "own all"); (case e43B => k_asm); (case e43F => k_asm); (case e43X => k_asm); (case e43T => k_asm); (case e43k => exact rfl); (case e43d => decide); (case e43u => decide); rintro w9r' w9n' w9h' w9tk' ⟨w9x', w9t', w9od', w9ol', w9hr', w9hx0', w9hx1', w9hD', w9hn'⟩ w9F' w9N'; subst w9hr'; subst w9hn'))
  (k_with "e44" => (k_here; (with_reducible show wpAny _ _ (call (Value.ref 1124) _) _ _ _); (with_reducible refine' Ctr.useLaw (lawput_c _ _ _ _ _ _ _ _ _ _ _ _ _ _ _ _ _ _ _ _ _ _ _ _ _ ?e44hD ?e44hS ?e44ne ?e44off ?e44hR) ?e44B ?e44F ?e44X ?e44N ?e44T ?e44k ?e44d ?e44u ?_); (case e44N => k_asm); (case e44hD => assumption); (case e44hS => assumption); (case e44ne => assumption); (case e44off => assumption); (case e44hR => assumption); (case e44B => k_asm); (case e44F => k_asm); (case e44X => k_asm); (case e44T => k_asm); (case e44k => exact rfl); (case e44d => decide); (case e44u => decide); rintro w9r' w9n' w9h' w9tk' w9hP' w9F' w9N'; (have w9hr' := putpost_none w9hP'); subst w9hr'))
  (k_with "YF step" => first | k_extra "e44" | k_extra "e43" | k_extra "e35" | k_extra "base")
  (k_with "YF steps" => repeat' (first | k_extra "YF step" | (k_unfold; (try dsimp only)) | (k_end; wrow_close) | walk1 | (dsimp only; walk1) | (leave1; walk_say "STEP leave1"; try dsimp only) | fail "no step"))
  (k_with "YF iter" => repeat' ((fail_if_success (with_reducible show wpAny _ _ (pyIter (Value.ref _)) _ _ _)); first | k_extra "YF step" | (k_unfold; (try dsimp only)) | (k_end; wrow_close) | walk1 | (dsimp only; walk1) | (leave1; walk_say "STEP leave1"; try dsimp only) | fail "no step"))
  trivial
theorem law_go (w : World) (mean : ExcName → Option Value) (mg mb : Str → Option Value) (hW : LawRest w mean mg mb b66w) : LawRest w mean mg mb b66g := by
  refine ⟨?_⟩
  k_fill
  intro base h₀ L fa cdv m s Q E d l sc cl C0 C1 D0 D1 m1 m2 m3 m4 od ol co v0 v1 u0 u1 c0 c1 T hPE B hm F Xk N Tp hD hSc hNe hOff hRows hco hcd hret
  have hNe' := hNe
  have hOff' := hOff
  obtain ⟨e1, e2, e3, e4, e5, e6, e7, e8, e9, e10, e11, e12, e13, e14, e15⟩ := hNe'
  obtain ⟨f1, f2, f3, f4, f5, f6⟩ := hOff'
  replace F := Fr.hasL hm F
  dsimp only [ov] at F
  clear hm
  k_extra "YF iter"
  rename News _ _ _ _ => N9
  rename Fr _ _ _ _ => F9
  with_reducible refine' for_rng (a₀ := 0) (J := JGo w d l sc cl C0 C1 D0 D1 m1 m2 m3 m4 T) ?hh ?hr ?hs ?hn ?F ?N ?h0 ?step ?fin
  case hr => assumption
  case F => exact F9
  case N => exact N9
  case hh => exact rfl
  case hs => exact small_one (by omega) (by omega) (by omega) (by omega)
  case hn => exact rsz_nn (by assumption)
  case h0 => exact ⟨T, _, _, v0, v1, u0, u1, c0, c1, rfl, fun _ h => h, hOff, by assumption, hRows, rfl, rfl, trivial⟩
  case step =>
    rintro I hI i t m₁ news₁ h₁ tk₁ oi hi ⟨T', od2, ol2, x0, x1, y0, y1, z0, z1, rfl, hT, hoff2, hD2, hR2, hm2⟩ F₁ N₁ hoi
    replace F₁ := Fr.hasL hm2 F₁
    dsimp only [ov] at F₁
    clear hm2 hD F9 N9 N
    have N2 := news_in N₁
    have hlt : d < I ∧ l < I ∧ C0 < I ∧ C1 < I ∧ D0 < I ∧ D1 < I := ⟨hI _ (.head _), hI _ (.tail _ (.head _)), hI _ (.tail _ (.tail _ (.head _))), hI _ (.tail _ (.tail _ (.tail _ (.head _)))), hI _ (.tail _ (.tail _ (.tail _ (.tail _ (.head _))))), hI _ (.tail _ (.tail _ (.tail _ (.tail _ (.tail _ (.head _))))))⟩
    have hIT : ∀ p ∈ T, p.1 < I := fun p hp => hI p (.tail _ (.tail _ (.tail _ (.tail _ (.tail _ (.tail _ hp))))))
    have hup : ∀ p ∈ T', p ∈ (I, oi) :: T' := fun p hp => .tail _ hp
    have hSc2 := (hSc.mono hT).mono hup
    have hR3 := hR2.mono hup
    have hoff3 : Off ((I, oi) :: T') d l C0 C1 D0 D1 := off_cons hoff2 hlt
    have hco2 := hT _ hco
    clear N₁ hSc hco hR2
    k_extra "YF steps"
    exact go_end (by k_asm) (by assumption) (by assumption) hoi hT hIT hlt ⟨rfl, rfl, trivial⟩
  case fin =>
    rintro m₁ n' h₁ tk₁ ⟨T', od2, ol2, x0, x1, y0, y1, z0, z1, rfl, hT, hoff2, hD2, hR2, hm2⟩ F₁ N₁
    dsimp only
    exact hW.run _ _ _ _ _ _ _ _ _ _ _ _ _ _ _ _ _ _ _ _ _ _ _ _ _ _ _ _ _ _ _ hPE B hm2 F₁ Xk N₁ Tp hD2 (hSc.mono hT) hNe hoff2 hR2 (hT _ hco) hcd hret
theorem setup_YB : True := by
  (k_with "YB step" => first | k_extra "e35" | k_extra "base")
  (k_with "YB steps" => repeat' (first | k_extra "YB step" | (k_unfold; (try dsimp only)) | (k_end; wrow_close) | walk1 | (dsimp only; walk1) | (leave1; walk_say "STEP leave1"; try dsimp only) | fail "no step"))
  (k_with "YB iter" => repeat' ((fail_if_success (with_reducible show wpAny _ _ (pyIter (Value.ref _)) _ _ _)); first | k_extra "YB step" | (k_unfold; (try dsimp only)) | (k_end; wrow_close) | walk1 | (dsimp only; walk1) | (leave1; walk_say "STEP leave1"; try dsimp only) | fail "no step"))
  trivial
theorem sum_bits (w : World) (mean : ExcName → Option Value) (mg mb : Str → Option Value) (m : Str → Option Value) (cl a : Nat) (fl y : Int) (ty tf : Tok) (N0 : Led)
   (hm : Has [(Str.ofString "total", .int y ty), (Str.ofString "flags", .int fl tf), (Str.ofString "cells", .ref cl), (Str.ofString "area", .ref a)] m) (f0 : 0 ≤ fl) (f1 : fl < 4096) :
   BlkM w mean mg mb (Str.ofString "_law_sum") s64 1131 (.ref 1130) b64j 6 300 m N0 (SumIn (y + lawF fl) cl a N0) := by
  refine ⟨?_⟩
  k_fill
  intro dp un gd cn cs' L a' ccd cll outer base g₀ L' s Q E hPE B F Xk N Tp hk hd huu hret
  have hm0 := hm
  replace F := Fr.hasL hm F
  dsimp only [ov] at F
  clear hm
  k_extra "YB iter"
  rename News _ _ _ _ => N9
  rename Fr _ _ _ _ => F9
  refine' for_tupS (JB y fl cl a tf) ?hh ?F ?N ?hm ?hc ?hd ?h0 ?step ?fin
  case F => exact F9
  case N => exact N9
  case hh => exact rfl
  case hm => exact .head _
  case hc => exact rfl
  case hd => exact rfl
  case h0 =>
    refine ⟨ty, ?_⟩
    have e0 : y + lawB fl 0 = y := Int.add_zero y
    rw [e0]
    exact ⟨rfl, rfl, rfl, rfl, trivial⟩
  case step =>
    rintro I hI i v m₁ h₁ tk₁ o hv ⟨t, hm'⟩ F₁ N₁
    have hlt : i < 4 := by
      have := (List.getElem?_eq_some_iff.mp hv).1
      exact this
    replace F₁ := Fr.hasL hm' F₁
    dsimp only [ov] at F₁
    clear hm' N9 F9
    rcases (by omega : i = 0 ∨ i = 1 ∨ i = 2 ∨ i = 3) with rfl | rfl | rfl | rfl
    all_goals (have hv' := Option.some.inj hv; subst hv')
    all_goals (k_extra "YB steps")
    · exact kept_end (by k_asm) (by k_asm) (fun p hp => hp) hI (jb_of (lawB1 ..) ⟨rfl, rfl, rfl, rfl, trivial⟩)
    · exact kept_end (by k_asm) (by k_asm) (fun p hp => hp) hI (jb_of (lawB2 ..) ⟨rfl, rfl, rfl, rfl, trivial⟩)
    · exact kept_end (by k_asm) (by k_asm) (fun p hp => hp) hI (jb_of (lawB3 ..) ⟨rfl, rfl, rfl, rfl, trivial⟩)
    · exact kept_end (by k_asm) (by k_asm) (fun p hp => hp) hI (jb_of (lawB4 ..) ⟨rfl, rfl, rfl, rfl, trivial⟩)
  case fin =>
    rintro m₁ h₁ tk₁ ⟨t, hm'⟩ F₁ N₁
    clear N9 F9
    k_extra "YB steps"
    exact hret _ _ _ _ (sum_in (fun p hp => .tail _ (.tail _ (.tail _ (.tail _ (.tail _ hp))))) ⟨hm'.1, hm'.2.2.1, hm'.2.2.2.1, trivial⟩ rfl) (by assumption) (by assumption)
theorem setup_YA : True := by
  (k_with "YA step" => first | k_extra "e35" | k_extra "base")
  (k_with "YA steps" => repeat' (first | k_extra "YA step" | (k_unfold; (try dsimp only)) | (k_end; wrow_close) | walk1 | (dsimp only; walk1) | (leave1; walk_say "STEP leave1"; try dsimp only) | fail "no step"))
  (k_with "YA for" => repeat' ((fail_if_success (with_reducible show wpAny _ _ (execs (Stmt.For _ _ _ _ _ :: _) _) _ _ _)); first | k_extra "YA step" | (k_unfold; (try dsimp only)) | (k_end; wrow_close) | walk1 | (dsimp only; walk1) | (leave1; walk_say "STEP leave1"; try dsimp only) | fail "no step"))
  trivial
theorem Fr.abs {g : Heap} {L : Addr} {h : Heap} {x : Str} {v : Int} {t : Tok} {m : Str → Option Value} (F : Fr g L h (fun y => if y = x then some (.int v t) else m y)) : ∃ t', Fr g L h (fun y => if y = x then some (.int v t') else m y) := ⟨t, F⟩
theorem sum_B (w : World) (mean : ExcName → Option Value) (mg mb : Str → Option Value) (m : Str → Option Value) (cl a ac : Nat) (codes : List Int) (cv : List Value) (wd fl z : Int) (g : Bool) (tz tw tf : Tok) (N0 : Led) (hc : CellOk ⟨codes, wd, fl, g⟩)
   (m2 : (ac, tp cv) ∈ N0) (hi : IntsAre cv codes)
   (hm : Has [(Str.ofString "total", .int z tz), (Str.ofString "codes", .ref ac), (Str.ofString "width", .int wd tw), (Str.ofString "flags", .int fl tf), (Str.ofString "is_guarded", .bool g), (Str.ofString "cells", .ref cl), (Str.ofString "area", .ref a)] m) :
   BlkM w mean mg mb (Str.ofString "_law_sum") s64 1131 (.ref 1130) b64i 6 300 m N0 (SumIn (z + weightC ⟨codes, wd, fl, g⟩) cl a N0) := by
  have hc0 := hc
  obtain ⟨⟨hl, hx⟩, hw, f0, f1⟩ := hc
  dsimp only at hl hx hw f0 f1
  refine ⟨?_⟩
  k_fill
  intro dp un gd cn cs' L a' ccd cll outer base g₀ L' s Q E hPE B F Xk N Tp hk hd huu hret
  replace F := Fr.hasL hm F
  dsimp only [ov] at F
  clear hm
  rcases ints_cases hi hl with ⟨rfl, rfl⟩ | ⟨x, tx, rfl, rfl⟩ | ⟨x, y, tx, ty, rfl, rfl⟩
  ·
    k_extra "YA for"
    · rename_i hwd
      rename News _ _ _ _ => N9
      rename Fr _ _ _ _ => F9
      obtain ⟨tt, F9'⟩ := Fr.abs F9
      clear F9
      with_reducible refine' BlkM.use ?PE ?B F9' ?X N9 ?T ?k ?K ?d ?u ?reta
      case PE => passes_own
      case B => k_asm
      case X => k_asm
      case T => k_asm
      case k => first | exact rfl | assumption
      case d => omega
      case u => omega
      case K => exact (sum_bits w mean mg mb _ cl a fl _ _ tf _ ⟨rfl, rfl, rfl, rfl, trivial⟩ f0 f1)
      case reta =>
        rintro m' news' h' tk' ⟨hN, t', hm'⟩ F₂ N₂
        dsimp only
        k_extra "YA steps"
        exact hret _ _ _ _ (sum_in (fun p hp => hN p (by first | exact hp | exact .tail _ hp)) hm' (weight_y hc0 (by assumption) (by simp))) (by assumption) (by assumption)
    · exact hret _ _ _ _ (sum_in (fun p hp => hp) ⟨rfl, rfl, rfl, trivial⟩ (weight_n hc0 (by assumption))) (by assumption) (by assumption)
  ·
    k_extra "YA for"
    · rename_i hwd
      rename News _ _ _ _ => N9
      rename Fr _ _ _ _ => F9
      obtain ⟨tt, F9'⟩ := Fr.abs F9
      clear F9
      with_reducible refine' BlkM.use ?PE ?B F9' ?X N9 ?T ?k ?K ?d ?u ?retb
      case PE => passes_own
      case B => k_asm
      case X => k_asm
      case T => k_asm
      case k => first | exact rfl | assumption
      case d => omega
      case u => omega
      case K => exact (sum_bits w mean mg mb _ cl a fl _ _ tf _ ⟨rfl, rfl, rfl, rfl, trivial⟩ f0 f1)
      case retb =>
        rintro m' news' h' tk' ⟨hN, t', hm'⟩ F₂ N₂
        dsimp only
        k_extra "YA steps"
        exact hret _ _ _ _ (sum_in (fun p hp => hN p (by first | exact hp | exact .tail _ hp)) hm' (weight_y hc0 (by assumption) (by simp))) (by assumption) (by assumption)
    · exact hret _ _ _ _ (sum_in (fun p hp => hp) ⟨rfl, rfl, rfl, trivial⟩ (weight_n hc0 (by assumption))) (by assumption) (by assumption)
  ·
    k_extra "YA for"
    · rename_i hwd
      rename News _ _ _ _ => N9
      rename Fr _ _ _ _ => F9
      obtain ⟨tt, F9'⟩ := Fr.abs F9
      clear F9
      with_reducible refine' BlkM.use ?PE ?B F9' ?X N9 ?T ?k ?K ?d ?u ?retc
      case PE => passes_own
      case B => k_asm
      case X => k_asm
      case T => k_asm
      case k => first | exact rfl | assumption
      case d => omega
      case u => omega
      case K => exact (sum_bits w mean mg mb _ cl a fl _ _ tf _ ⟨rfl, rfl, rfl, rfl, trivial⟩ f0 f1)
      case retc =>
        rintro m' news' h' tk' ⟨hN, t', hm'⟩ F₂ N₂
        dsimp only
        k_extra "YA steps"
        exact hret _ _ _ _ (sum_in (fun p hp => hN p (by first | exact hp | exact .tail _ hp)) hm' (weight_y hc0 (by assumption) (by simp))) (by assumption) (by assumption)
    · exact hret _ _ _ _ (sum_in (fun p hp => hp) ⟨rfl, rfl, rfl, trivial⟩ (weight_n hc0 (by assumption))) (by assumption) (by assumption)
theorem setup_YC : True := by
  (k_with "YC step" => first | k_extra "e35" | k_extra "e37" | k_extra "base")
  (k_with "YC steps" => repeat' (first | k_extra "YC step" | (k_unfold; (try dsimp only)) | (k_end; wrow_close) | walk1 | (dsimp only; walk1) | (leave1; walk_say "STEP leave1"; try dsimp only) | fail "no step"))
  (k_with "YC iter" => repeat' ((fail_if_success (with_reducible show wpAny _ _ (pyIter (Value.ref _)) _ _ _)); first | k_extra "YC step" | (k_unfold; (try dsimp only)) | (k_end; wrow_close) | walk1 | (dsimp only; walk1) | (leave1; walk_say "STEP leave1"; try dsimp only) | fail "no step"))
  (k_with "YC if" => repeat' ((fail_if_success (with_reducible show wpAny _ _ (execs (Stmt.If _ _ _ _ :: _) _) _ _ _)); first | k_extra "YC step" | (k_unfold; (try dsimp only)) | (k_end; wrow_close) | walk1 | (dsimp only; walk1) | (leave1; walk_say "STEP leave1"; try dsimp only) | fail "no step"))
  trivial
theorem lawsum_c (w : World) (mean : ExcName → Option Value) (mg mb : Str → Option Value) (cl a D0 D1 n0 n1 n2 : Nat) (u0 u1 : List Value) (c0 c1 : List Cell) (x y p q : Int) (k1 k2 k3 k4 : Tok) (S T : Led) (ha : (a, tp [.int x k1, .int y k2, .int p k3, .int q k4]) ∈ T) (hx : 0 ≤ x) (hxp : x ≤ p) (hp : p < 2) (hy : 0 ≤ y) (hyq : y ≤ q) (hq : q < 5)
   (hcl : (cl, listOf #[.ref D0, .ref D1] n2) ∈ T) (hD0 : (D0, listOf u0.toArray n0) ∈ T) (hD1 : (D1, listOf u1.toArray n1) ∈ T) (hu0 : AllC (CellL S) u0 c0) (hu1 : AllC (CellL S) u1 c1) (h50 : u0.length = 5) (h51 : u1.length = 5)
   (hST : ∀ z ∈ S, z ∈ T) (hr0 : RowOk c0) (hr1 : RowOk c1) :
   Ctr w mean mg mb 1131 30 2000 [.ref cl, .ref a] T (IntPost T (sumArea c0 c1 x y p q)) := by
  unfold Ctr
  k_fill
  intro dp un gd cn cs a' ccd cl' outer A₀ base h₀ L m s Q E B F X N Tp hk hd hu hret
  refine wpAny_call ?_
  k_dflt cell_enter
  k_extra "YC iter"
  rename News _ _ _ _ => N9
  rename Fr _ _ _ _ => F9
  with_reducible refine' for_rngS (a₀ := x) (b₀ := p + 1) (n := (p + 1 - x).toNat) (fun i => JL (sumS ((slices c0 c1 x y q (p + 1 - x).toNat).take i)) cl a) ?hh ?hr ?hs ?hn ?F ?N ?h0 ?step ?fin
  case F => exact F9
  case N => exact N9
  case hr => assumption
  case hh => exact rfl
  case hs => exact small_one (by omega) (by omega) (by omega) (by omega)
  case hn => exact rsz (by omega)
  case h0 => exact ⟨_, rfl, rfl, rfl, trivial⟩
  case step =>
    rintro I hI i t m₁ h₁ tk₁ oi hi ⟨tt, hm'⟩ F₁ N₁
    replace F₁ := Fr.hasL hm' F₁
    dsimp only [ov] at F₁
    clear hm'
    obtain ⟨Dr, nr, ur, cr, hDr, hDm, hur, h5r, hcr, hrr⟩ : ∃ (Dr nr : Nat) (ur : List Value) (cr : List Cell), [Value.ref D0, .ref D1][(x + (i : Int)).toNat]? = some (.ref Dr) ∧ (Dr, listOf ur.toArray nr) ∈ T ∧ AllC (CellL S) ur cr ∧ ur.length = 5 ∧ rowAt c0 c1 (x + (i : Int)) = cr ∧ RowOk cr := by
      rcases (by omega : x + (i : Int) = 0 ∨ x + (i : Int) = 1) with e | e <;> rw [e]
      · exact ⟨D0, n0, u0, c0, rfl, hD0, hu0, h50, rfl, hr0⟩
      · exact ⟨D1, n1, u1, c1, rfl, hD1, hu1, h51, rfl, hr1⟩
    have hx0 : 0 ≤ x + (i : Int) := by omega
    have hx1 : x + (i : Int) < 2 := by omega
    have hsl := slices_get (c0 := c0) (c1 := c1) (x := x) (y := y) (q := q) hi
    rw [hcr] at hsl
    k_extra "YC iter"
    rename News _ _ _ _ => N8
    rename Fr _ _ _ _ => F8
    rename AllC (CellL S) _ _ => hA8
    have hA9 : AllC (CellL S) _ (sliceC cr y q) := hA8
    with_reducible refine' for_lstS (fun j => JL (sumS ((slices c0 c1 x y q (p + 1 - x).toNat).take i) + sumC ((sliceC cr y q).take j)) cl a) ?hh2 ?F2 ?N2 ?hm2 ?hc2 ?hd2 ?h02 ?step2 ?fin2
    case F2 => exact F8
    case N2 => exact N8
    case hh2 => exact rfl
    case hm2 => exact .head _
    case hc2 => exact rfl
    case hd2 => exact rfl
    case h02 => exact jl_eq ⟨_, rfl, rfl, rfl, trivial⟩ (Int.add_zero _).symm
    case step2 =>
      rintro I2 hI2 j v m₂ h₂ tk₂ oi2 hv2 ⟨t3, hm3⟩ F₂ N₂
      obtain ⟨v', c, e1, e2, aa, ac, cv, tw, tf, rfl, q1, q2, q3⟩ := hA9.get (List.getElem?_eq_some_iff.mp hv2).1
      rw [e1] at hv2
      have ev := Option.some.inj hv2
      subst ev
      have r1 := hST _ q1
      have r2 := hST _ q2
      have hcok : CellOk ⟨c.codes, c.width, c.flags, c.g⟩ := hrr.2.2.2 c (List.mem_of_mem_drop (List.mem_of_mem_take (List.mem_of_getElem? e2)))
      replace F₂ := Fr.hasL hm3 F₂
      dsimp only [ov] at F₂
      clear hm3
      clear N8 F8
      k_extra "YC if"
      rename News _ _ _ _ => N7
      rename Fr _ _ _ _ => F7
      have K := sum_B w mean mg mb _ cl a ac c.codes cv c.width c.flags _ c.g _ _ _ _ hcok (Mem.of N7 (by k_extra "own mem")) q3 (Has.of F7 ⟨rfl, rfl, rfl, rfl, rfl, rfl, rfl, trivial⟩)
      with_reducible refine' BlkM.use ?PE ?B F7 ?X N7 ?T ?k K ?d ?u ?ret
      case PE => passes_own
      case B => k_asm
      case X => k_asm
      case T => k_asm
      case k => first | exact rfl | assumption
      case d => omega
      case u => omega
      case ret =>
        rintro m' news' h' tk' ⟨hN, t', hm'⟩ F₃ N₃
        dsimp only
        k_extra "YC steps"
        exact kept_end (by k_asm) (by k_asm) hN hI2 (jl_eq ⟨_, hm'⟩ (by rw [sumC_succ e2, Int.add_assoc]))
    case fin2 =>
      rintro m₂ h₂ tk₂ ⟨t3, hm3⟩ F₂ N₂
      dsimp only
      k_extra "YC steps"
      exact kept_end (by k_asm) (by k_asm) (fun p hp => .tail _ hp) hI (jl_eq ⟨_, hm3⟩ (by rw [sumS_succ hsl, hA9.length, List.take_length]))
  case fin =>
    rintro m₁ h₁ tk₁ ⟨tt, hm'⟩ F₁ N₁
    replace F₁ := Fr.hasL hm' F₁
    dsimp only [ov] at F₁
    clear hm'
    k_extra "YC steps"
    refine hret _ _ _ _ ⟨⟨_, congrArg (Value.int · _) ?hz⟩, ?hs⟩ (by assumption) (by assumption)
    case hs => exact fun p hp => by first | exact hp | exact .tail _ hp
    case hz =>
      rw [List.take_of_length_le (Nat.le_of_eq slices_len)]
      unfold sumArea
      rw [Int.zero_sub]
theorem setup_WE : True := by
  (k_with "WE step" => first | k_extra "e0" | k_extra "base")
  (k_with "WE steps" => repeat' (first | k_extra "WE step" | (k_unfold; (try dsimp only)) | (k_end; wrow_close) | walk1 | (dsimp only; walk1) | (leave1; walk_say "STEP leave1"; try dsimp only) | fail "no step"))
  (k_with "WE iter" => repeat' ((fail_if_success (with_reducible show wpAny _ _ (pyIter (Value.ref _)) _ _ _)); first | k_extra "WE step" | (k_unfold; (try dsimp only)) | (k_end; wrow_close) | walk1 | (dsimp only; walk1) | (leave1; walk_say "STEP leave1"; try dsimp only) | fail "no step"))
  (k_with "WE for" => repeat' ((fail_if_success (with_reducible show wpAny _ _ (execs (Stmt.For _ _ _ _ _ :: _) _) _ _ _)); first | k_extra "WE step" | (k_unfold; (try dsimp only)) | (k_end; wrow_close) | walk1 | (dsimp only; walk1) | (leave1; walk_say "STEP leave1"; try dsimp only) | fail "no step"))
  trivial
noncomputable abbrev b25b : List Stmt := pick (a := b25.drop 3) (b := _) (by conv => lhs; whnf)
theorem int_fin {x y : Int} {t : Tok} (h : x = y) : ∃ t', Value.int x t = .int y t' := ⟨t, by rw [h]⟩
theorem edit_B (w : World) (mean : ExcName → Option Value) (mg mb : Str → Option Value) (m : Str → Option Value) (ap : Nat) (f0 fl : Int) (g : Bool) (tk0 tf t1 t2 t3 t4 : Tok) (N0 : Led)
   (h0 : 0 ≤ fl) (h1 : fl < 4096) (hp : (ap, tp [.int fl tf, .int (-1) t1, .int (-1) t2, .int (-1) t3, .int 0 t4]) ∈ N0) (l0 : -100000 ≤ f0) (l1 : f0 < 100000)
   (hm : Has [(Str.ofString "found", .int f0 tk0), (Str.ofString "pen", .ref ap), (Str.ofString "is_guarded", .bool g)] m) :
   BlkE w mean mg mb (Str.ofString "edit_weight") s25 102 (.ref 101) b25b 6 300 m N0
     (fun r n' => n' = N0 ∧ ∃ t, r = .int (f0 + eb fl 4 + underW fl + if g then 4 else 0) t) := by
  unfold BlkE
  k_fill
  intro dp un gd cn cs' L a ccd cll outer base g₀ L' s Q E hPE B F Xk N Tp hk hd huu hret
  have hm0 := hm
  replace F := Fr.hasL hm F
  dsimp only [ov] at F
  clear hm
  k_extra "WE iter"
  refine' for_tupK (K := Kx w.params) (ax := 95) (lo := o95 w.params) (JEdit f0 fl ap g N0) ?hh ?F ?N Xk ?lk ?hc ?hd ?hz ?h0 ?step ?fin
  case F => k_asm
  case N => k_asm
  case hh => exact rfl
  case lk => exact rfl
  case hc => exact rfl
  case hd => exact rfl
  case hz => decide
  case h0 =>
    refine ⟨rfl, tk0, ?_⟩
    have e0 : f0 + eb fl 0 = f0 := Int.add_zero f0
    rw [e0]
    exact ⟨rfl, rfl, rfl, trivial⟩
  case step =>
    rintro I hI i v m₁ news₁ h₁ tk₁ o hv ⟨rfl, t, hm'⟩ F₁ N₁ ho
    have hb := eb_bound fl i
    have hlt : i < 4 := by
      have := (List.getElem?_eq_some_iff.mp hv).1
      exact this
    replace F₁ := Fr.hasL hm' F₁
    dsimp only [ov] at F₁
    clear hm'
    rcases (by omega : i = 0 ∨ i = 1 ∨ i = 2 ∨ i = 3) with rfl | rfl | rfl | rfl
    all_goals (have hv' := Option.some.inj hv; subst hv')
    all_goals (k_extra "WE steps")
    all_goals (first
      | exact jedit_end (by k_asm) (by k_asm) hI (by exact ⟨rfl, rfl, rfl, trivial⟩) (eb_yes1 (by assumption))
      | exact jedit_end (by k_asm) (by k_asm) hI (by exact ⟨rfl, rfl, rfl, trivial⟩) (eb_no1 (by omega))
      | exact jedit_end (by k_asm) (by k_asm) hI (by exact ⟨rfl, rfl, rfl, trivial⟩) (eb_yes2 (by assumption))
      | exact jedit_end (by k_asm) (by k_asm) hI (by exact ⟨rfl, rfl, rfl, trivial⟩) (eb_no2 (by omega))
      | exact jedit_end (by k_asm) (by k_asm) hI (by exact ⟨rfl, rfl, rfl, trivial⟩) (eb_yes3 (by assumption))
      | exact jedit_end (by k_asm) (by k_asm) hI (by exact ⟨rfl, rfl, rfl, trivial⟩) (eb_no3 (by omega))
      | exact jedit_end (by k_asm) (by k_asm) hI (by exact ⟨rfl, rfl, rfl, trivial⟩) (eb_yes4 (by assumption))
      | exact jedit_end (by k_asm) (by k_asm) hI (by exact ⟨rfl, rfl, rfl, trivial⟩) (eb_no4 (by omega)))
  case fin =>
    rintro m₁ n' h₁ tk₁ ⟨rfl, t, hm'⟩ F₁ N₁
    have hb := eb_bound fl 4
    replace hm' : Has [(Str.ofString "found", .int (f0 + eb fl 4) t), (Str.ofString "pen", .ref ap), (Str.ofString "is_guarded", .bool g)] m₁ := hm'
    replace F₁ := Fr.hasL hm' F₁
    dsimp only [ov] at F₁
    clear hm'
    k_extra "WE steps"
    all_goals dsimp only
    all_goals (refine hret _ _ _ _ _ _ (.ret _) ⟨rfl, int_fin ?_⟩ (by assumption) (by assumption))
    all_goals (first | rw [underW_yes (by assumption)] | rw [underW_no (by omega)])
    all_goals (first | (rw [if_pos (by assumption)]; try omega) | (rw [if_neg (by rename_i hg; rw [hg]; decide)]; try omega))
theorem edit_c (w : World) (mean : ExcName → Option Value) (mg mb : Str → Option Value) (a ac ap : Nat) (codes : List Int) (cv : List Value) (wd fl : Int) (g : Bool) (tw tf t1 t2 t3 t4 : Tok) (N0 : Led) (hc : CellOk ⟨codes, wd, fl, g⟩)
   (m1 : (a, tp [.ref ac, .int wd tw, .ref ap, .bool g]) ∈ N0) (m2 : (ac, tp cv) ∈ N0) (hi : IntsAre cv codes) (m3 : (ap, tp [.int fl tf, .int (-1) t1, .int (-1) t2, .int (-1) t3, .int 0 t4]) ∈ N0) :
   Ctr w mean mg mb 102 8 400 [.ref a] N0 (WPost ⟨codes, wd, fl, g⟩ N0) := by
  obtain ⟨⟨hl, hx⟩, hw, f0, f1⟩ := hc
  dsimp only at hl hx hw f0 f1
  unfold Ctr
  k_fill
  intro dp un gd cn cs' a' ccd cl' outer A₀ base h₀ L m s Q E B F X N Tp hk hd hu hret
  rcases ints_cases hi hl with ⟨rfl, rfl⟩ | ⟨x, tx, rfl, rfl⟩ | ⟨x, y, tx, ty, rfl, rfl⟩
  ·
    refine wpAny_call ?_
    k_dflt cell_enter
    k_extra "WE for"
    · exact hret _ _ _ _ ⟨rfl, int_fin (weight0 (by assumption))⟩ (by assumption) (by assumption)
    · rename_i hwd tkx Dx hx1 lx hx2 F9 N9
      refine BlkE.use (by passes_own) (by k_asm) F9 (by k_asm) N9 (by k_asm) (by first | exact rfl | assumption) (edit_B w mean mg mb _ ap (32) fl g _ tf t1 t2 t3 t4 _ f0 f1 (.tail _ m3) ?la0 ?la1 ⟨rfl, rfl, rfl, trivial⟩) (by omega) (by omega) ?reta
      case la0 => omega
      case la1 => omega
      case reta =>
        intro fl' v' m' news' h' tk' hfl hP F₂ N₂
        obtain ⟨rfl, t', rfl⟩ := hP
        cases hfl <;> dsimp only
        all_goals (k_extra "WE steps")
        all_goals (exact hret _ _ _ _ ⟨rfl, int_fin (weightN (by assumption) (by simp))⟩ (by assumption) (news_drop (by assumption)))
  ·
    refine wpAny_call ?_
    k_dflt cell_enter
    k_extra "WE for"
    · exact hret _ _ _ _ ⟨rfl, int_fin (weight0 (by assumption))⟩ (by assumption) (by assumption)
    · rename_i hwd tkx Dx hx1 lx hx2 F9 N9
      refine BlkE.use (by passes_own) (by k_asm) F9 (by k_asm) N9 (by k_asm) (by first | exact rfl | assumption) (edit_B w mean mg mb _ ap (x + 0) fl g _ tf t1 t2 t3 t4 _ f0 f1 (.tail _ m3) ?lb0 ?lb1 ⟨rfl, rfl, rfl, trivial⟩) (by omega) (by omega) ?retb
      case lb0 => have q1 := hx x (by simp); omega
      case lb1 => have q1 := hx x (by simp); omega
      case retb =>
        intro fl' v' m' news' h' tk' hfl hP F₂ N₂
        obtain ⟨rfl, t', rfl⟩ := hP
        cases hfl <;> dsimp only
        all_goals (k_extra "WE steps")
        all_goals (exact hret _ _ _ _ ⟨rfl, int_fin (weightN (by assumption) (by simp))⟩ (by assumption) (news_drop (by assumption)))
  ·
    refine wpAny_call ?_
    k_dflt cell_enter
    k_extra "WE for"
    · exact hret _ _ _ _ ⟨rfl, int_fin (weight0 (by assumption))⟩ (by assumption) (by assumption)
    · rename_i hwd tkx Dx hx1 lx hx2 F9 N9
      refine BlkE.use (by passes_own) (by k_asm) F9 (by k_asm) N9 (by k_asm) (by first | exact rfl | assumption) (edit_B w mean mg mb _ ap (x + (y + 0)) fl g _ tf t1 t2 t3 t4 _ f0 f1 (.tail _ m3) ?lc0 ?lc1 ⟨rfl, rfl, rfl, trivial⟩) (by omega) (by omega) ?retc
      case lc0 => have q1 := hx x (by simp); have q2 := hx y (by simp); omega
      case lc1 => have q1 := hx x (by simp); have q2 := hx y (by simp); omega
      case retc =>
        intro fl' v' m' news' h' tk' hfl hP F₂ N₂
        obtain ⟨rfl, t', rfl⟩ := hP
        cases hfl <;> dsimp only
        all_goals (k_extra "WE steps")
        all_goals (exact hret _ _ _ _ ⟨rfl, int_fin (weightN (by assumption) (by simp))⟩ (by assumption) (news_drop (by assumption)))
theorem setup_XW : True := by
  (k_with "e45" => (k_here; (with_reducible show wpAny _ _ (call (Value.ref 102) _) _ _ _); k_dflt (refine' Ctr.use (edit_c _ _ _ _ _ _ _ _ _ _ _ _ _ _ _ _ _ _ _ ?e45hc ?e45m1 ?e45m2 ?e45hi ?e45m3) ?e45B ?e45F ?e45X ?e45N ?e45T ?e45k ?e45d ?e45u ?_; (case e45N => k_asm); (case e45hc => assumption); (case e45m1 => k_extra "own mem"); (case e45m2 => k_extra "own mem"); (case e45hi => assumption); (case e45m3 => k_extra "own mem"); (case e45B => k_asm); (case e45F => k_asm); (case e45X => k_asm); (case e45T => k_asm); (case e45k => first | exact rfl | assumption); (case e45d => ktr_room); (case e45u => ktr_units)); intro w9r' w9n' w9h' w9tk' w9hP' w9F' w9N'; obtain ⟨w9hn', w9t9', w9hr'⟩ := w9hP'; subst w9hr'; subst w9hn'))
  (k_with "XW step" => first | k_extra "e45" | k_extra "e7" | k_extra "e34" | k_extra "base")
  (k_with "XW steps" => repeat' (first | k_extra "XW step" | (k_unfold; (try dsimp only)) | (k_end; wrow_close) | walk1 | (dsimp only; walk1) | (leave1; walk_say "STEP leave1"; try dsimp only) | fail "no step"))
  (k_with "XW iter" => repeat' ((fail_if_success (with_reducible show wpAny _ _ (pyIter (Value.ref _)) _ _ _)); first | k_extra "XW step" | (k_unfold; (try dsimp only)) | (k_end; wrow_close) | walk1 | (dsimp only; walk1) | (leave1; walk_say "STEP leave1"; try dsimp only) | fail "no step"))
  (k_with "XW comp" => repeat' ((fail_if_success (with_reducible show LCg.CompSrc _ _ _ _ _ _ _ _ _ _ _ _ _ _)); first | k_extra "XW step" | (k_unfold; (try dsimp only)) | (k_end; wrow_close) | walk1 | (dsimp only; walk1) | (leave1; walk_say "STEP leave1"; try dsimp only) | fail "no step"))
  (k_with "XW elt" => repeat' ((fail_if_success (with_reducible show LCg.CompEnd _ _ _ _ _ _ _ _ _ _ _ _ _ _)); first | k_extra "XW step" | (k_unfold; (try dsimp only)) | (k_end; wrow_close) | walk1 | (dsimp only; walk1) | (leave1; walk_say "STEP leave1"; try dsimp only) | fail "no step"))
  trivial
theorem checksum_c (w : World) (mean : ExcName → Option Value) (mg mb : Str → Option Value) (sc gi ll a L0 L1 C0 C1 n0 n1 n2 : Nat) (v0 v1 : List Value) (c0 c1 : List Cell) (x y p q : Int) (k1 k2 k3 k4 : Tok) (S T : Led) (ha : (a, tp [.int x k1, .int y k2, .int p k3, .int q k4]) ∈ T) (hx : 0 ≤ x) (hxp : x ≤ p) (hp : p < 2) (hy : 0 ≤ y) (hyq : y ≤ q) (hq : q < 5)
   (hsc : ScrAt w T sc gi) (hG : GridAt w T gi ll) (hll : (ll, listOf #[.ref L0, .ref L1] n2) ∈ T) (hL0 : LineAt w T L0 C0) (hL1 : LineAt w T L1 C1) (hC0 : (C0, listOf v0.toArray n0) ∈ T) (hC1 : (C1, listOf v1.toArray n1) ∈ T) (hv0 : AllC (CellS S) v0 c0) (hv1 : AllC (CellS S) v1 c1) (h50 : v0.length = 5) (h51 : v1.length = 5)
   (hST : ∀ z ∈ S, z ∈ T) (hr0 : RowOk c0) (hr1 : RowOk c1) :
   Ctr w mean mg mb 107 30 2000 [.ref sc, .ref a] T (IntPost T (sumArea c0 c1 x y p q)) := by
  obtain ⟨sd, s1, s2, s3, s4, s5, s6, s7, s8, s9, s10, s11, s12, s13, b1, b2, b3, b4, b5, b7, b8, b9, b10, b11, b12, b13, hs1, hs2⟩ := hsc
  have hG0 := hG
  obtain ⟨gd', g1, g2, g3, g4, g5, hg1, hg2⟩ := hG0
  unfold Ctr
  k_fill
  intro dp un gd cn cs a' ccd cl outer A₀ base h₀ L m s Q E B F X N Tp hk hd hu hret
  refine wpAny_call ?_
  k_dflt cell_enter
  k_extra "XW iter"
  rename News _ _ _ _ => N9
  rename Fr _ _ _ _ => F9
  rename AllSl _ _ _ _ => hS9
  have hlen : w9ys'.length = (p + 1 - x).toNat := by have := hS9.len; simpa [slices] using this
  refine' for_lst (news := (w9D', listOf w9ys'.toArray w9kk') :: (w9X' ++ T)) (n := w9kk') (vs := w9ys') (lo := listOf w9ys'.toArray w9kk') (JT (slices c0 c1 x y q (p + 1 - x).toNat) ((w9D', listOf w9ys'.toArray w9kk') :: (w9X' ++ T))) ?hh ?F ?N ?hm ?hc ?hd ?hk ?h0 ?step ?fin
  case hh => exact rfl
  case F => exact F9
  case N => exact N9
  case hm => exact .head _
  case hc => exact rfl
  case hd => exact rfl
  case hk => rintro i m n ⟨rfl, _⟩; exact .head _
  case h0 => exact ⟨rfl, _, rfl, trivial⟩
  case step =>
    rintro I hI i v m₁ news₁ h₁ tk₁ oi hv ⟨rfl, tt, hm'⟩ F₁ N₁ hoi
    obtain ⟨l, hl, Sa, sn, vs, rfl, hSm, hSc⟩ := hS9.get hv
    replace F₁ := Fr.hasL hm' F₁
    dsimp only [ov] at F₁
    clear hm'
    clear N9 F9
    have hSm2 : (Sa, listOf vs.toArray sn) ∈ (I, oi) :: (w9D', listOf w9ys'.toArray w9kk') :: (w9X' ++ T) := .tail _ (.tail _ (List.mem_append.mpr (.inl hSm)))
    k_extra "XW comp"
    rename News _ _ _ _ => N8
    rename Fr _ _ _ _ => F8
    have hl5 := sl_ok (x := x) (y := y) (q := q) hr0 hr1 hl (M := T) (S := S)
    have hvl : vs.length = l.length := hSc.length
    refine LCg.CompSrc.ledger (by rfl) F8 N8 hSm2 (by rw [List.size_toArray, sizeLine_eq]; omega) ?_
    intro g8
    refine comp_inv (JW ((I, oi) :: (w9D', listOf w9ys'.toArray w9kk') :: (w9X' ++ T)) l) ?step2 ?fin2 _ 0 [] _ (Nat.zero_add _) ⟨rfl, .nil⟩
    case step2 =>
      rintro j ys news hj ⟨rfl, hyi⟩ v I2 oI2 C2 oC2 D2 m₂ h2 tk2 E' hv2 hC2 hxx F₂ N₂ off ne
      rw [List.size_toArray] at hj
      obtain ⟨v', c, e1, e2, aa, ac, ap, cv, tw, tf, t1, t2, t3, t4, rfl, q1, q2, q3, q4⟩ := hSc.get hj
      have ev : v = .ref aa := by
        have hv3 : vs[j]? = some v := by simpa using hv2
        rw [e1] at hv3; exact (Option.some.inj hv3).symm
      subst ev
      have r1 := hST _ q1
      have r2 := hST _ q2
      have r3 := hST _ q4
      have hcok : CellOk ⟨c.codes, c.width, c.flags, c.g⟩ := by
        rcases hl5.2 c (List.mem_of_getElem? e2) with hcc | hcc
        · exact hr0.2.2.2 c hcc
        · exact hr1.2.2.2 c hcc
      clear N8 F8
      k_extra "XW elt"
      show LCg.CompEnd _ _ _ _ _ _ _ _ _ _ _ _ _ _
      exact jw_end (c := c) (by k_asm) (by k_asm) off (.inr ⟨_, hSm2, rfl, _, rfl⟩) e2 hyi
    case fin2 =>
      rintro ys news ⟨rfl, hyi⟩
      unfold LCg.FinE
      intro D2 h2 tk2 F₂ N₂ o1
      clear N8 F8
      replace hyi : IntsAre ys (l.map weightC) := by
        rw [List.size_toArray, hvl, List.take_length] at hyi
        exact hyi
      k_extra "XW steps"
      refine jt_end (by k_asm) (by k_asm) (fun p hp => .tail _ hp) hI ⟨rfl, trivial⟩ ?_
      rw [sumS_succ hl]; rfl
  case fin =>
    rintro m₁ n' h₁ tk₁ ⟨rfl, tt, hm'⟩ F₁ N₁
    replace F₁ := Fr.hasL hm' F₁
    dsimp only [ov] at F₁
    clear hm'
    clear N9 F9
    k_extra "XW steps"
    refine hret _ _ _ _ ⟨int_fin ?hz, fun p hp => List.mem_cons_of_mem _ (List.mem_append.mpr (.inr hp))⟩ (by assumption) (by assumption)
    case hz =>
      rw [hS9.len, List.take_length]
      rfl
theorem setup_XA : True := by
  (k_with "XA step" => k_extra "base")
  (k_with "XA steps" => repeat' (first | k_extra "XA step" | (k_unfold; (try dsimp only)) | (k_end; wrow_close) | walk1 | (dsimp only; walk1) | (leave1; walk_say "STEP leave1"; try dsimp only) | fail "no step"))
  trivial
noncomputable def AreaPost (w : World) (d l : Nat) (T : Led) (r : Value) (news' : Led) : Prop :=
  ∃ (a : Nat) (od ol : Obj) (t0 l0 b0 r0 : Int) (k1 k2 k3 k4 : Tok), r = .ref a ∧ (∀ p ∈ (a, tp [.int t0 k1, .int l0 k2, .int b0 k3, .int r0 k4]) :: (d, od) :: (l, ol) :: T, p ∈ news') ∧ DeckOk w l od ol ∧ 0 ≤ t0 ∧ t0 ≤ b0 ∧ b0 < 2 ∧ 0 ≤ l0 ∧ l0 ≤ r0 ∧ r0 < 5 ∧ @LT.lt Nat _ d a ∧ @LT.lt Nat _ l a ∧ AllLt a T
theorem area_end {w : World} {d l a a2 : Nat} {od ol o2 : Obj} {T : Led} {x y p q : Int} {k1 k2 k3 k4 : Tok} (hD : DeckOk w l od ol) (hx : 0 ≤ x ∧ x < 2) (hy : 0 ≤ y ∧ y < 5) (hp : 0 ≤ p ∧ p < 2 - x) (hq : 0 ≤ q ∧ q < 5 - y) (hl : @LT.lt Nat _ d a ∧ @LT.lt Nat _ l a ∧ @LT.lt Nat _ a2 a ∧ AllLt a T) :
    AreaPost w d l T (.ref a) ((a, tp [.int x k1, .int y k2, .int (x + p) k3, .int (y + q) k4]) :: (d, od) :: (l, ol) :: (a2, o2) :: T) :=
  ⟨a, od, ol, x, y, x + p, y + q, k1, k2, k3, k4, rfl, fun p hp => by
    revert p; k_extra "tall", hD, by omega, by omega, by omega, by omega, by omega, by omega, hl.1, hl.2.1, hl.2.2.2⟩
theorem area_c (w : World) (mean : ExcName → Option Value) (mg mb : Str → Option Value) (d l : Nat) (od ol : Obj) (T : Led) (hD : DeckOk w l od ol) (hdl : d ≠ l) (hd0 : ∀ p ∈ T, p.1 ≠ d) (hl0 : ∀ p ∈ T, p.1 ≠ l) :
   Ctr w mean mg mb 1138 16 700 [.ref d] ((d, od) :: (l, ol) :: T) (AreaPost w d l T) := by
  unfold Ctr
  k_fill
  intro dp un gd cn cs a ccd cl outer A₀ base h₀ L m s Q E B F X N Tp hk hd hu hret
  refine wpAny_call ?_
  k_dflt cell_enter
  k_extra "XA steps"
  refine hret _ _ _ _ (area_end (by assumption) (by assumption) (by assumption) (by assumption) (by assumption) (by assumption)) (by assumption) (by assumption)
noncomputable abbrev b66p : List Stmt := pick (a := b66.drop 5) (b := _) (by conv => lhs; whnf)
/-- what stands in the ledger behind the puts -/
structure Facts (w : World) (x sc cl gi ll L0 L1 C0 C1 D0 D1 n1 n2 m1 m2 m3 m4 Wo Dc W0 W1 k0 k1 k2 k3 : Nat) (co : Obj) (v0 v1 u0 u1 : List Value) (c0 c1 : List Cell) (Z : Led) : Prop where
  scr : ScrAt w Z sc gi
  grid : GridAt w Z gi ll
  lls : (ll, listOf #[.ref L0, .ref L1] n1) ∈ Z
  cls : (cl, listOf #[.ref D0, .ref D1] n2) ∈ Z
  l0 : LineAt w Z L0 C0
  l1 : LineAt w Z L1 C1
  mC0 : (C0, listOf v0.toArray m1) ∈ Z
  mC1 : (C1, listOf v1.toArray m2) ∈ Z
  mD0 : (D0, listOf u0.toArray m3) ∈ Z
  mD1 : (D1, listOf u1.toArray m4) ∈ Z
  rows : Rows Z u0 u1 v0 v1 c0 c1
  cell : (x, co) ∈ Z
  cd : co.data = .cell (some (.ref sc))
  was0 : (Wo, listOf #[.ref Dc] k0) ∈ Z
  was1 : (Dc, listOf #[.ref W0, .ref W1] k1) ∈ Z
  was2 : (W0, listOf v0.toArray k2) ∈ Z
  was3 : (W1, listOf v1.toArray k3) ∈ Z
structure LawTail (w : World) (mean : ExcName → Option Value) (mg mb : Str → Option Value) (body : List Stmt) : Prop where
  run : ∀ (base h₀ : Heap) (L fa : Nat) (cdv : Value) (m : Str → Option Value) (s : Shared) (Q : Flow → Shared → Prop) (E : Value → Shared → Prop)
    (sc cl gi ll L0 L1 C0 C1 D0 D1 n1 n2 m1 m2 m3 m4 Wo Dc W0 W1 k0 k1 k2 k3 : Nat) (co : Obj) (v0 v1 u0 u1 : List Value) (c0 c1 : List Cell) (Z : Led),
    PassesOwn (model PySem.Challenge.rw_np0284_01.row.prog w) (callerA.deeper (envOfC (Str.ofString "law") s66 L fa cdv)) (envOfC (Str.ofString "law") s66 L fa cdv) E →
    Below callerA base [] h₀ → Has [(Str.ofString "cells", .ref cl), (Str.ofString "was", .ref Wo)] m → Fr h₀ L s.heap m → (Kx w.params).In h₀ →
    News h₀ L s.heap Z → Top qv (looseW qv lo) mean mg mb h₀ → Facts w (L + 1) sc cl gi ll L0 L1 C0 C1 D0 D1 n1 n2 m1 m2 m3 m4 Wo Dc W0 W1 k0 k1 k2 k3 co v0 v1 u0 u1 c0 c1 Z →
    (∀ (m' : Str → Option Value) (news' : Led) (h' : Heap) (tk' : Nat), Fr h₀ L h' m' → News h₀ L h' news' → Q (.ret (.bool true)) { s with heap := h', toks := tk' }) →
    wpAny (model PySem.Challenge.rw_np0284_01.row.prog w) (callerA.deeper (envOfC (Str.ofString "law") s66 L fa cdv)) (execs body (envOfC (Str.ofString "law") s66 L fa cdv)) Q E s
section
variable {prog : Program} {w : World} {A : Around} {E : Value → Shared → Prop} {s : Shared} {h₀ : Heap} {L : Addr} {m : Str → Option Value} {news : Led}
theorem list_copyL {C n : Nat} {vs : List Value} {Q : Value → Shared → Prop} (F : Fr h₀ L s.heap m) (N : News h₀ L s.heap news) (hm : (C, listOf vs.toArray n) ∈ news) (hl : vs.length = 5)
    (h : ∀ D c h', Fr h₀ L h' m → News h₀ L h' ((D, listOf vs.toArray c) :: news) → AllLt D news → Q (.ref D) { s with heap := h' }) : wpAny (model prog w) A (call (.type "list") [.ref C]) Q E s :=
  list_copyK F N ⟨_, (N _ hm).1, rfl, n, rfl⟩ (fun D c h' F' N' l => h D c h' F' N' (allLt_all l)) (by rw [List.size_toArray, hl, sizeLine_eq]; omega)
end
/-- copies of the lines' cells -/
inductive JWs (R : Led) (v0 v1 : List Value) : Nat → List Value → Led → Prop
  | zero : JWs R v0 v1 0 [] R
  | one {W0 k0} : AllLt W0 R → JWs R v0 v1 1 [.ref W0] ((W0, listOf v0.toArray k0) :: R)
  | two {W0 k0 W1 k1} : AllLt W0 R → AllLt W1 ((W0, listOf v0.toArray k0) :: R) → JWs R v0 v1 2 [.ref W0, .ref W1] ((W1, listOf v1.toArray k1) :: (W0, listOf v0.toArray k0) :: R)
theorem ws_end {R news : Led} {v0 v1 vs : List Value} {i : Nat} {ys : List Value} {W k I C Dc : Nat} {oI oC oD : Obj} {h₀ h' : Heap} {L : Addr} {m : Str → Option Value} {s₁ : Shared} {tk : Nat} {Sr : Led → Prop}
    (F : Fr h₀ L h' m) (N : News h₀ L h' ((W, listOf vs.toArray k) :: (I, oI) :: (C, oC) :: (Dc, oD) :: news)) (lW : AllLt W ((I, oI) :: (C, oC) :: (Dc, oD) :: news)) (off : ∀ p ∈ news, p.1 ≠ I ∧ p.1 ≠ C ∧ p.1 ≠ Dc)
    (hJ : JWs R v0 v1 i ys news) (hi : i < 2) (hv : i = 0 ∧ vs = v0 ∨ i = 1 ∧ vs = v1) (hS : Sr ((W, listOf vs.toArray k) :: news)) :
    LCg.CompEnd h₀ L m s₁ I oI C oC Dc oD Sr (fun y news' => JWs R v0 v1 (i + 1) (ys ++ [y]) news') (.ref W) { s₁ with heap := h', toks := tk } := by
  have lN : AllLt W news := allLt_of fun p hp => lt_mem lW (.tail _ (.tail _ (.tail _ hp)))
  refine comp_end F N ((W, listOf vs.toArray k) :: news) ?_ ?_ hS ?_
  · intro p hp
    revert p; k_extra "tall"
  · intro p hp
    rcases List.mem_cons.mp hp with rfl | hp
    · exact ⟨Nat.ne_of_gt (lt_mem lW (.head _)), Nat.ne_of_gt (lt_mem lW (.tail _ (.head _))), Nat.ne_of_gt (lt_mem lW (.tail _ (.tail _ (.head _))))⟩
    · exact off p hp
  · cases hJ with
    | zero =>
      rcases hv with ⟨_, rfl⟩ | ⟨h, _⟩
      · exact .one lN
      · omega
    | one h0 =>
      rcases hv with ⟨h, _⟩ | ⟨_, rfl⟩
      · omega
      · exact .two h0 lN
    | two => omega
theorem was_led {w : World} {h₀ h : Heap} {L x d l sc cl gi ll L0 L1 C0 C1 D0 D1 n1 n2 m1 m2 m3 m4 Wo Dc W0 W1 k0 k2 k3 : Nat} {od ol co : Obj} {v0 v1 u0 u1 : List Value} {c0 c1 : List Cell} {T : Led}
    (N : News h₀ L h ((Wo, listOf #[.ref Dc] k0) :: (Dc, LCg.lst [.ref W0, .ref W1]) :: (W1, listOf v1.toArray k3) :: (W0, listOf v0.toArray k2) :: (d, od) :: (l, ol) :: (C0, listOf v0.toArray m1) :: (C1, listOf v1.toArray m2) :: (D0, listOf u0.toArray m3) :: (D1, listOf u1.toArray m4) :: T))
    (lWo : d < Wo ∧ l < Wo) (o2 : ∀ p ∈ (W1, listOf v1.toArray k3) :: (W0, listOf v0.toArray k2) :: (d, od) :: (l, ol) :: (C0, listOf v0.toArray m1) :: (C1, listOf v1.toArray m2) :: (D0, listOf u0.toArray m3) :: (D1, listOf u1.toArray m4) :: T, p.1 ≠ Dc)
    (l0 : d < W0 ∧ l < W0) (l1 : d < W1 ∧ l < W1) (ne : Ne6 d l C0 C1 D0 D1) (off : Off T d l C0 C1 D0 D1) (hS : ScrAt w T sc gi) (hG : GridAt w T gi ll) (hll : (ll, listOf #[.ref L0, .ref L1] n1) ∈ T) (hcl : (cl, listOf #[.ref D0, .ref D1] n2) ∈ T) (hL0 : LineAt w T L0 C0) (hL1 : LineAt w T L1 C1) (hR : Rows T u0 u1 v0 v1 c0 c1) (hco : (x, co) ∈ T) (hcd : co.data = .cell (some (.ref sc))) :
    ∃ Z, News h₀ L h ((d, od) :: (l, ol) :: Z) ∧ (∀ p ∈ Z, p.1 ≠ d) ∧ (∀ p ∈ Z, p.1 ≠ l) ∧ Facts w x sc cl gi ll L0 L1 C0 C1 D0 D1 n1 n2 m1 m2 m3 m4 Wo Dc W0 W1 k0 2 k2 k3 co v0 v1 u0 u1 c0 c1 Z := by
  obtain ⟨e1, e2, e3, e4, e5, e6, e7, e8, e9, e10, e11, e12, e13, e14, e15⟩ := ne
  obtain ⟨f1, f2, f3, f4, f5, f6⟩ := off
  have up : ∀ p ∈ T, p ∈ (Wo, listOf #[.ref Dc] k0) :: (Dc, LCg.lst [.ref W0, .ref W1]) :: (W1, listOf v1.toArray k3) :: (W0, listOf v0.toArray k2) :: (C0, listOf v0.toArray m1) :: (C1, listOf v1.toArray m2) :: (D0, listOf u0.toArray m3) :: (D1, listOf u1.toArray m4) :: T := by k_extra "tall"
  refine ⟨(Wo, listOf #[.ref Dc] k0) :: (Dc, LCg.lst [.ref W0, .ref W1]) :: (W1, listOf v1.toArray k3) :: (W0, listOf v0.toArray k2) :: (C0, listOf v0.toArray m1) :: (C1, listOf v1.toArray m2) :: (D0, listOf u0.toArray m3) :: (D1, listOf u1.toArray m4) :: T, fun p hp => N p ?_, ?_, ?_, ⟨hS.mono up, hG.mono up, up _ hll, up _ hcl, hL0.mono up, hL1.mono up, by k_extra "tmem", by k_extra "tmem", by k_extra "tmem", by k_extra "tmem", hR.mono up, up _ hco, hcd, .head _, .tail _ (.head _), by k_extra "tmem", by k_extra "tmem"⟩⟩
  · revert p; k_extra "tall"
  · exact fc (Nat.ne_of_gt lWo.1) (fc (fun e => o2 (d, od) (by k_extra "tmem") e.symm) (fc (Nat.ne_of_gt l1.1) (fc (Nat.ne_of_gt l0.1) (fc (Ne.symm e2) (fc (Ne.symm e3) (fc (Ne.symm e4) (fc (Ne.symm e5) f1)))))))
  · exact fc (Nat.ne_of_gt lWo.2) (fc (fun e => o2 (l, ol) (by k_extra "tmem") e.symm) (fc (Nat.ne_of_gt l1.2) (fc (Nat.ne_of_gt l0.2) (fc (Ne.symm e6) (fc (Ne.symm e7) (fc (Ne.symm e8) (fc (Ne.symm e9) f2)))))))
theorem Facts.up {w : World} {x sc cl gi ll L0 L1 C0 C1 D0 D1 n1 n2 m1 m2 m3 m4 Wo Dc W0 W1 k0 k1 k2 k3 : Nat} {co : Obj} {v0 v1 u0 u1 : List Value} {c0 c1 : List Cell} {Z Z' : Led} (h : Facts w x sc cl gi ll L0 L1 C0 C1 D0 D1 n1 n2 m1 m2 m3 m4 Wo Dc W0 W1 k0 k1 k2 k3 co v0 v1 u0 u1 c0 c1 Z) (k : ∀ p ∈ Z, p ∈ Z') :
    Facts w x sc cl gi ll L0 L1 C0 C1 D0 D1 n1 n2 m1 m2 m3 m4 Wo Dc W0 W1 k0 k1 k2 k3 co v0 v1 u0 u1 c0 c1 Z' :=
  ⟨h.scr.mono k, h.grid.mono k, k _ h.lls, k _ h.cls, h.l0.mono k, h.l1.mono k, k _ h.mC0, k _ h.mC1, k _ h.mD0, k _ h.mD1, h.rows.mono k, k _ h.cell, h.cd, k _ h.was0, k _ h.was1, k _ h.was2, k _ h.was3⟩
theorem news_am {h₀ h : Heap} {L : Addr} {a b c : Addr × Obj} {Z n : Led} (N : News h₀ L h n) (hs : ∀ p ∈ a :: b :: c :: Z, p ∈ n) : News h₀ L h (a :: Z) := fun p hp => N p (hs p (by
  rcases List.mem_cons.mp hp with rfl | hp
  · exact .head _
  · exact .tail _ (.tail _ (.tail _ hp))))
theorem setup_YG : True := by
  (k_with "e46" => (k_here; (with_reducible show wpAny _ _ (call (Value.type "list") [Value.ref _]) _ _ _); (with_reducible refine' list_copyL ?e46F ?e46N ?e46m ?e46l ?_); (case e46F => k_asm); (case e46N => k_asm); (case e46m => k_extra "own mem"); (case e46l => assumption); intro w9D' w9c' w9h' w9F' w9N' w9l1))
  (k_with "e47" => (k_here; (with_reducible show wpAny _ _ (call (Value.ref 107) _) _ _ _); (with_reducible refine' Ctr.useLaw (check_f ?e47hF ?e47ha ?e47hx ?e47hxp ?e47hp ?e47hy ?e47hyq ?e47hq) ?e47B ?e47F ?e47X ?e47N ?e47T ?e47k ?e47d ?e47u ?_); (case e47N => k_asm); (case e47hF => exact Facts.up (by assumption) (by k_extra "own sub")); (case e47ha => k_extra "own mem"); (case e47hx => omega); (case e47hxp => omega); (case e47hp => omega); (case e47hy => omega); (case e47hyq => omega); (case e47hq => omega); (case e47B => k_asm); (case e47F => k_asm); (case e47X => k_asm); (case e47T => k_asm); (case e47k => exact rfl); (case e47d => decide); (case e47u => decide); rintro w9r' w9n' w9h' w9tk' ⟨⟨w9t', w9hr'⟩, w9hs'⟩ w9F' w9N'; subst w9hr'; replace w9N' := news_sub w9N' w9hs'))
  (k_with "e48" => (k_here; (with_reducible show wpAny _ _ (call (Value.ref 1131) _) _ _ _); (with_reducible refine' Ctr.useLaw (lawsum_f ?e48hF ?e48ha ?e48hx ?e48hxp ?e48hp ?e48hy ?e48hyq ?e48hq) ?e48B ?e48F ?e48X ?e48N ?e48T ?e48k ?e48d ?e48u ?_); (case e48N => k_asm); (case e48hF => exact Facts.up (by assumption) (by k_extra "own sub")); (case e48ha => k_extra "own mem"); (case e48hx => omega); (case e48hxp => omega); (case e48hp => omega); (case e48hy => omega); (case e48hyq => omega); (case e48hq => omega); (case e48B => k_asm); (case e48F => k_asm); (case e48X => k_asm); (case e48T => k_asm); (case e48k => exact rfl); (case e48d => decide); (case e48u => decide); rintro w9r' w9n' w9h' w9tk' ⟨⟨w9t', w9hr'⟩, w9hs'⟩ w9F' w9N'; subst w9hr'; replace w9N' := news_sub w9N' w9hs'))
  (k_with "e49" => (k_here; (with_reducible show wpAny _ _ (call (Value.ref 1138) _) _ _ _); (with_reducible refine' Ctr.useLaw (area_c _ _ _ _ _ _ _ _ _ ?e49hD ?e49hdl ?e49hd0 ?e49hl0) ?e49B ?e49F ?e49X ?e49N ?e49T ?e49k ?e49d ?e49u ?_); (case e49N => k_asm); (case e49hD => assumption); (case e49hdl => assumption); (case e49hd0 => assumption); (case e49hl0 => assumption); (case e49B => k_asm); (case e49F => k_asm); (case e49X => k_asm); (case e49T => k_asm); (case e49k => exact rfl); (case e49d => decide); (case e49u => decide); rintro w9r' w9n' w9h' w9tk' ⟨w9a', w9od', w9ol', w9t0', w9l0', w9b0', w9r0', w9k1', w9k2', w9k3', w9k4', w9hr', w9hs', w9hD', w9hb1', w9hb2', w9hb3', w9hb4', w9hb5', w9hb6', _, _, _⟩ w9F' w9N'; subst w9hr'; replace w9N' := news_am w9N' w9hs'))
  (k_with "YG step" => first | k_extra "e49" | k_extra "e48" | k_extra "e47" | k_extra "e46" | k_extra "e7" | k_extra "e34" | k_extra "e35" | k_extra "base")
  (k_with "YG steps" => repeat' (first | k_extra "YG step" | (k_unfold; (try dsimp only)) | (k_end; wrow_close) | walk1 | (dsimp only; walk1) | (leave1; walk_say "STEP leave1"; try dsimp only) | fail "no step"))
  (k_with "YG iter" => repeat' ((fail_if_success (with_reducible show wpAny _ _ (pyIter (Value.ref _)) _ _ _)); first | k_extra "YG step" | (k_unfold; (try dsimp only)) | (k_end; wrow_close) | walk1 | (dsimp only; walk1) | (leave1; walk_say "STEP leave1"; try dsimp only) | fail "no step"))
  (k_with "YG for" => repeat' ((fail_if_success (with_reducible show wpAny _ _ (execs (Stmt.For _ _ _ _ _ :: _) _) _ _ _)); first | k_extra "YG step" | (k_unfold; (try dsimp only)) | (k_end; wrow_close) | walk1 | (dsimp only; walk1) | (leave1; walk_say "STEP leave1"; try dsimp only) | fail "no step"))
  (k_with "YG comp" => repeat' ((fail_if_success (with_reducible show LCg.CompSrc _ _ _ _ _ _ _ _ _ _ _ _ _ _)); first | k_extra "YG step" | (k_unfold; (try dsimp only)) | (k_end; wrow_close) | walk1 | (dsimp only; walk1) | (leave1; walk_say "STEP leave1"; try dsimp only) | fail "no step"))
  (k_with "YG elt" => repeat' ((fail_if_success (with_reducible show LCg.CompEnd _ _ _ _ _ _ _ _ _ _ _ _ _ _)); first | k_extra "YG step" | (k_unfold; (try dsimp only)) | (k_end; wrow_close) | walk1 | (dsimp only; walk1) | (leave1; walk_say "STEP leave1"; try dsimp only) | fail "no step"))
  trivial
theorem check_f {w : World} {mean : ExcName → Option Value} {mg mb : Str → Option Value} {xx sc cl gi ll L0 L1 C0 C1 D0 D1 n1 n2 m1 m2 m3 m4 Wo Dc W0 W1 k0 k1 k2 k3 a : Nat} {co : Obj} {v0 v1 u0 u1 : List Value} {c0 c1 : List Cell} {Z : Led} {x y p q : Int} {t1 t2 t3 t4 : Tok}
    (hF : Facts w xx sc cl gi ll L0 L1 C0 C1 D0 D1 n1 n2 m1 m2 m3 m4 Wo Dc W0 W1 k0 k1 k2 k3 co v0 v1 u0 u1 c0 c1 Z) (ha : (a, tp [.int x t1, .int y t2, .int p t3, .int q t4]) ∈ Z) (hx : 0 ≤ x) (hxp : x ≤ p) (hp : p < 2) (hy : 0 ≤ y) (hyq : y ≤ q) (hq : q < 5) :
    Ctr w mean mg mb 107 30 2000 [.ref sc, .ref a] Z (IntPost Z (sumArea c0 c1 x y p q)) := by
  have h50 : v0.length = 5 := by rw [hF.rows.3.length]; exact hF.rows.5.1
  have h51 : v1.length = 5 := by rw [hF.rows.4.length]; exact hF.rows.6.1
  exact checksum_c w mean mg mb sc gi ll a L0 L1 C0 C1 m1 m2 n1 v0 v1 c0 c1 x y p q t1 t2 t3 t4 Z Z ha hx hxp hp hy hyq hq hF.scr hF.grid hF.lls hF.l0 hF.l1 hF.mC0 hF.mC1 hF.rows.3 hF.rows.4 h50 h51 (fun _ h => h) hF.rows.5 hF.rows.6
theorem lawsum_f {w : World} {mean : ExcName → Option Value} {mg mb : Str → Option Value} {xx sc cl gi ll L0 L1 C0 C1 D0 D1 n1 n2 m1 m2 m3 m4 Wo Dc W0 W1 k0 k1 k2 k3 a : Nat} {co : Obj} {v0 v1 u0 u1 : List Value} {c0 c1 : List Cell} {Z : Led} {x y p q : Int} {t1 t2 t3 t4 : Tok}
    (hF : Facts w xx sc cl gi ll L0 L1 C0 C1 D0 D1 n1 n2 m1 m2 m3 m4 Wo Dc W0 W1 k0 k1 k2 k3 co v0 v1 u0 u1 c0 c1 Z) (ha : (a, tp [.int x t1, .int y t2, .int p t3, .int q t4]) ∈ Z) (hx : 0 ≤ x) (hxp : x ≤ p) (hp : p < 2) (hy : 0 ≤ y) (hyq : y ≤ q) (hq : q < 5) :
    Ctr w mean mg mb 1131 30 2000 [.ref cl, .ref a] Z (IntPost Z (sumArea c0 c1 x y p q)) := by
  have h50 : u0.length = 5 := by rw [hF.rows.1.length]; exact hF.rows.5.1
  have h51 : u1.length = 5 := by rw [hF.rows.2.length]; exact hF.rows.6.1
  exact lawsum_c w mean mg mb cl a D0 D1 m3 m4 n2 u0 u1 c0 c1 x y p q t1 t2 t3 t4 Z Z ha hx hxp hp hy hyq hq hF.cls hF.mD0 hF.mD1 hF.rows.1 hF.rows.2 h50 h51 (fun _ h => h) hF.rows.5 hF.rows.6
theorem law_was (w : World) (mean : ExcName → Option Value) (mg mb : Str → Option Value) (hW : LawTail w mean mg mb b66p) : LawRest w mean mg mb b66w := by
  refine ⟨?_⟩
  k_fill
  intro base h₀ L fa cdv m s Q E d l sc cl C0 C1 D0 D1 m1 m2 m3 m4 od ol co v0 v1 u0 u1 c0 c1 T hPE B hm F Xk N Tp hD hSc hNe hOff hRows hco hcd hret
  have hNe0 := hNe
  have hOff0 := hOff
  obtain ⟨e1, e2, e3, e4, e5, e6, e7, e8, e9, e10, e11, e12, e13, e14, e15⟩ := hNe
  obtain ⟨f1, f2, f3, f4, f5, f6⟩ := hOff
  obtain ⟨gi, ll, L0, L1, n1, n2, hScr, hGr, hll, hcl, hL0, hL1⟩ := hSc
  have hScr0 := hScr
  have hGr0 := hGr
  have hL00 := hL0
  have hL10 := hL1
  obtain ⟨sd, s1, s2, s3, s4, s5, s6, s7, s8, s9, s10, s11, s12, s13, b1, b2, b3, b4, b5, b7, b8, b9, b10, b11, b12, b13, hs1, hs2⟩ := hScr
  obtain ⟨gd', g1, g2, g3, g4, g5, hg1, hg2⟩ := hGr
  replace F := Fr.hasL hm F
  dsimp only [ov] at F
  clear hm
  k_extra "YG comp"
  obtain ⟨ld0, z1, z2, z3, hl01, hl02⟩ := hL0
  obtain ⟨ld1, z4, z5, z6, hl11, hl12⟩ := hL1
  have h50 : v0.length = 5 := by rw [hRows.3.length]; exact hRows.5.1
  have h51 : v1.length = 5 := by rw [hRows.4.length]; exact hRows.6.1
  refine LCg.CompSrc.ledger (by rfl) F N (by k_extra "own mem") (by rw [sizeLine_eq]; exact (by decide : 2 ≤ 16777216)) ?_
  intro g9
  refine comp_inv (JWs _ v0 v1) ?step ?fin _ 0 [] _ (Nat.zero_add _) .zero
  case step =>
    rintro i ys news hi hJ v I oI C oC D m₂ h tk E' hv hC hx F₁ N₁ off ne
    have hJ0 := hJ
    clear N F
    cases hJ with
    | zero =>
      have ev : v = .ref L0 := (Option.some.inj hv).symm
      subst ev
      k_extra "YG elt"
      show LCg.CompEnd _ _ _ _ _ _ _ _ _ _ _ _ _ _
      exact ws_end (by k_asm) (by assumption) (by assumption) off hJ0 (by decide) (.inl ⟨rfl, rfl⟩) (.inr ⟨_, by k_extra "own mem", rfl, _, rfl⟩)
    | one k0 =>
      have ev : v = .ref L1 := (Option.some.inj hv).symm
      subst ev
      k_extra "YG elt"
      show LCg.CompEnd _ _ _ _ _ _ _ _ _ _ _ _ _ _
      exact ws_end (by k_asm) (by assumption) (by assumption) off hJ0 (by decide) (.inr ⟨rfl, rfl⟩) (.inr ⟨_, by k_extra "own mem", rfl, _, rfl⟩)
    | two => exact absurd hi (by show ¬ 2 < 2; omega)
  case fin =>
    rintro ys news hJ
    cases hJ with
    | two k0 k1 =>
      unfold LCg.FinE
      intro D2 h2 tk2 F₂ N₂ o2
      have o3 := off1_mem o2
      clear F N
      k_extra "YG for"
      rename News _ _ _ _ => N9
      rename Fr _ _ _ _ => F9
      rename_i wo _ _ _
      obtain ⟨Z, NZ, hZd, hZl, hF⟩ := was_led N9 ⟨by omega, by omega⟩ o3 ⟨k0.1, k0.2.1⟩ ⟨k1.2.1, k1.2.2.1⟩ hNe0 hOff0 hScr0 hGr0 hll hcl hL00 hL10 hRows hco hcd
      have hcZ := hF.cell
      have hcdZ := hF.cd
      clear N9 o3 k0 k1 o2 hs1 hs2 hg1 hg2 hl01 hl02 hl11 hl12 hL00 hL10 hScr0 hGr0
      k_extra "YG iter"
      rename News _ _ _ _ => N8
      rename Fr _ _ _ _ => F8
      with_reducible refine' for_tupS (fun _ => Has [(Str.ofString "cells", .ref cl), (Str.ofString "was", .ref wo)]) ?hh ?F ?N ?hm ?hc ?hd ?h0 ?st ?fi
      case F => exact F8
      case N => exact N8
      case hh => exact rfl
      case hm => exact .head _
      case hc => exact rfl
      case hd => exact rfl
      case h0 => exact ⟨rfl, rfl, trivial⟩
      case st =>
        rintro I hI i v m₁ h₁ tk₁ o hv hm' F₁ N₁
        have hlt : i < 2 := (List.getElem?_eq_some_iff.mp hv).1
        replace F₁ := Fr.hasL hm' F₁
        dsimp only [ov] at F₁
        clear hm' N8 F8
        rcases (by omega : i = 0 ∨ i = 1) with rfl | rfl
        all_goals (have hv' := Option.some.inj hv; subst hv')
        all_goals (k_extra "YG steps")
        · exfalso; rename_i hq; revert hq; simp
        · exact kept_end (by k_asm) (by k_asm) (fun p hp => hp) hI ⟨rfl, rfl, trivial⟩
        · exfalso; rename_i hq; revert hq; simp
        · exact kept_end (by k_asm) (by k_asm) (fun p hp => hp) hI ⟨rfl, rfl, trivial⟩
      case fi =>
        rintro m₁ h₁ tk₁ hm' F₁ N₁
        dsimp only
        with_reducible refine' hW.run _ _ _ _ _ _ _ _ _ _ _ _ _ _ _ _ _ _ _ _ _ _ _ _ _ _ _ _ _ _ _ _ _ _ _ _ _ _ _ _ _ ?a ?b ?c ?F3 ?d ?e ?f ?g ?R3
        case a => exact hPE
        case b => exact B
        case F3 => exact F₁
        case d => exact Xk
        case e => exact N₁
        case f => exact Tp
        case g => exact hF.up fun p hp => List.Mem.tail _ (List.Mem.tail _ (List.Mem.tail _ hp))
        case c => exact hm'
        case R3 => exact hret
/-- the tuple that a comprehension reads stays -/
noncomputable def TupIn (ax : Addr) (its : Array Value) (news : Led) : Prop := ∃ k, (ax, ({ cls := .type "tuple", data := .seq its k } : Obj)) ∈ news
section
variable {prog : Program} {w : World} {A : Around} {E : Value → Shared → Prop} {s : Shared} {h₀ : Heap} {L : Addr} {m : Str → Option Value} {env : Env}
/-- what the source of a comprehension over a tuple of the ledger must give -/
noncomputable def TupSrc (prog : Program) (w : World) (A : Around) (h₀ : Heap) (L : Addr) (m : Str → Option Value) (env : Env) (elt : Expr) (x : Str) (scope : Scope) (cl : List (Str × Addr)) (Fin : Shared → List Value → Led → Prop) (xv : Value) (s₁ : Shared) : Prop :=
  ∃ (ax : Addr) (its : Array Value) (news : Led), xv = .ref ax ∧ A.handled = none ∧ Fr h₀ L s₁.heap m ∧ News h₀ L s₁.heap news ∧ TupIn ax its news ∧ its.size ≤ sizeLine ∧
    ∀ g, LCg.CompRest prog w A h₀ L m env elt x scope cl { s₁ with heap := g } (TupIn ax its) (fun i v => its[i]? = some v) (Fin { s₁ with heap := g }) its.size 0 [] news
theorem assign_comp_tup {elt iter : Expr} {x y : Str} {px py : Pos} {scope : Scope} {cl : List (Str × Addr)} {pos spos : Pos} {Q : Flow → Shared → Prop} (F₀ : Fr h₀ L s.heap m) (hLe : env.locals = L)
    (hsw : swapsWith (.ListComp elt [⟨.Name x px, iter, [], 0⟩] scope pos) (some (.Name y py)) spos.line env = pure true)
    (hclos : closureFor scope env = pure cl) (hcell : ∀ z ∈ scope.names, z.2 ≠ .cell) (hkind : scope.kind = .function)
    (hnames : ∀ z ∈ scope.names, z.2 = .local → scope.names.lookup z.1 = some .local) (hx : scope.names.lookup x = some .local)
    (hy : env.kindOf y = some .local) (hp : (env.scope.kind == .class || (env.scope.kind == .module && env.locals != env.globals)) = false)
    (h : wpAny (model prog w) A (eval iter env) (TupSrc prog w A h₀ L m env elt x scope cl (fun s₂ => LCg.FinA h₀ L m s₂ y Q)) E s)
    (hs : ∀ x, foldedSetIterable iter env x = pure x := by intro _; rfl) :
    wpAny (model prog w) A (exec (.Assign [.Name y py] (.ListComp elt [⟨.Name x px, iter, [], 0⟩] scope pos) spos) env) Q E s := by
  subst hLe
  have inner : ∀ ps : Pos, wpAny (model prog w) A (comprehension (.ListComp elt [⟨.Name x px, iter, [], 0⟩] scope pos) scope env ps (newList []) false (eval iter env) (some (assign (.Name y py) env))) (fun _ s' => Q .next s') E s := by
    intro ps
    refine wpAny_comprehension_free (use := some (assign (.Name y py) env)) (Q := fun _ s' => Q .next s') rfl hs hclos hkind hnames (wpAny_mono h ?_ fun _ _ e => e)
    rintro xv s₁ ⟨ax, its, news, rfl, hh, F, N, ⟨k, hm⟩, hsz, R⟩
    have hax := N _ hm
    have hl : s₁.heap.IsTuple ax its := ⟨_, hax.1, rfl, k, rfl⟩
    have hlt : ax < s₁.heap.objs.size := Heap.lt_size hax.1
    have up : ∀ b o, s₁.heap.get? b = some o → (s₁.heap.push { cls := .type "tuple_iterator", data := .fields #[.ref ax, .int 0 0] }).get? b = some o := fun b o e => Heap.get?_push_of_some _ e
    refine wpAny_pyIter_tuple hl ?_
    refine LCg.block_U (S := TupIn ax its) (Walks.tuple hh s₁.heap.objs.size ax (Nat.ne_of_lt hlt) its) hsz ?_ ?_ hcell hkind hx ⟨⟨_, Heap.get?_push_size _ rfl, rfl, rfl⟩, hl.at fun o e => up _ _ e⟩ ?_ (F.keeps up) (N.grown up) (Nat.ne_of_lt F.ns.lt) (next_is_new F)
      (fun p hp => Nat.ne_of_lt (Heap.lt_size (N p hp).1)) ⟨k, hm⟩ (R _) ?_
    · rintro i h ⟨⟨o, e, _⟩, _⟩
      exact ⟨o, e⟩
    · rintro i h h' o nw ⟨⟨o', q, r⟩, _⟩ e e' kk NN ⟨k', hm'⟩
      rw [e] at q
      cases q
      exact ⟨⟨o, e', r⟩, ⟨_, (NN _ hm').1, rfl, k', rfl⟩⟩
    · intro b hb
      show b < (s₁.heap.push _).objs.size
      rw [Heap.size_push]
      rcases List.mem_cons.mp hb with rfl | hb
      · exact Nat.lt_succ_self _
      · rw [List.mem_singleton.mp hb]; exact Nat.lt_succ_of_lt hlt
    · intro D C h' tk m' ys news' F' N' o1 hn hC₀ hD₀ hCL hDL hCD offC fin
      show wpAny _ A (assign (.Name y py) env (.ref D)) _ _ _
      have hL₀ : h₀.get? env.locals = none := Heap.get?_none_of_le F'.above
      refine wpAny_assign_Name (wpAny_storeName_local hy F'.ns (fun h₂ hn₂ hs₂ => ?_) hp)
      have keep₂ : ∀ b o, h₀.get? b = some o → h₂.get? b = some o := fun b o e => hs₂.extBut b o (fun q => by rw [q, hL₀] at e; cases e) (F'.keep b o e)
      have F₂ : Fr h₀ env.locals h₂ (fun z => if z = y then some (.ref D) else m z) := ⟨hn₂, keep₂, F'.above⟩
      refine ⟨m', hn.sameBut hs₂ hCL, fun h'' hs'' => fin D h'' _ (F₂.change hs'' hCL hC₀) (fun p hp => ?_) o1⟩
      refine ⟨hs''.extBut _ _ ?_ (hs₂.extBut _ _ (N' p hp).2.1 (N' p hp).1), (N' p hp).2⟩
      rcases List.mem_cons.mp hp with rfl | hp
      · exact Ne.symm hCD
      · exact offC p hp
  rw [exec_Assign_Name_used _ _ _ _ hsw]
  exact wpAny_bind (wpAny_standAt (wpAny_bind (wpAny_bind (wpAny_mono (inner _) (fun _ s' hq => wpAny_pure (wpAny_pure hq)) fun _ _ e => e))))
end
noncomputable def partsOf (c0 c1 : List Cell) : List Int := [sumArea c0 c1 0 0 0 4, sumArea c0 c1 1 0 1 1, sumArea c0 c1 1 2 1 4]
noncomputable def JP (R : Led) (ps : List Int) (i : Nat) (ys : List Value) (news : Led) : Prop := news = R ∧ IntsAre ys (ps.take i)
theorem jp_end {R : Led} {ps : List Int} {i I C D : Nat} {ys : List Value} {oI oC oD : Obj} {h₀ h' : Heap} {L : Addr} {m : Str → Option Value} {s₁ : Shared} {tk : Nat} {t : Tok} {x : Int} {Sr : Led → Prop}
    (F : Fr h₀ L h' m) (N : News h₀ L h' ((I, oI) :: (C, oC) :: (D, oD) :: R)) (off : ∀ p ∈ R, p.1 ≠ I ∧ p.1 ≠ C ∧ p.1 ≠ D) (hS : Sr R) (hy : IntsAre ys (ps.take i)) (hx : ps[i]? = some x) :
    LCg.CompEnd h₀ L m s₁ I oI C oC D oD Sr (fun yv news' => JP R ps (i + 1) (ys ++ [yv]) news') (.int x t) { s₁ with heap := h', toks := tk } :=
  comp_end F N R (fun p hp => hp) off hS ⟨rfl, by
    rw [List.take_add_one, hx]
    exact ints_snoc hy⟩
theorem fm (a : Int) : a.fmod 65536 = a % 65536 := Int.fmod_eq_emod_of_nonneg a (by decide)
theorem parts_sum {c0 c1 : List Cell} (h0 : c0.length = 5) (h1 : c1.length = 5) : (partsOf c0 c1).sum.fmod 65536 = sumArea c0 c1 0 0 1 4 := by
  obtain ⟨a0, a1, a2, a3, a4, rfl⟩ := len5 h0
  obtain ⟨b0, b1, b2, b3, b4, rfl⟩ := len5 h1
  have e0 : sumS (slices [a0, a1, a2, a3, a4] [b0, b1, b2, b3, b4] 0 0 4 1) = weightC a0 + (weightC a1 + (weightC a2 + (weightC a3 + (weightC a4 + 0)))) + 0 := rfl
  have e1 : sumS (slices [a0, a1, a2, a3, a4] [b0, b1, b2, b3, b4] 1 0 1 1) = weightC b0 + (weightC b1 + 0) + 0 := rfl
  have e2 : sumS (slices [a0, a1, a2, a3, a4] [b0, b1, b2, b3, b4] 1 2 4 1) = weightC b2 + (weightC b3 + (weightC b4 + 0)) + 0 := rfl
  have e3 : sumS (slices [a0, a1, a2, a3, a4] [b0, b1, b2, b3, b4] 0 0 4 2) = weightC a0 + (weightC a1 + (weightC a2 + (weightC a3 + (weightC a4 + 0)))) + (weightC b0 + (weightC b1 + (weightC b2 + (weightC b3 + (weightC b4 + 0)))) + 0) := rfl
  have q0 : sumArea [a0, a1, a2, a3, a4] [b0, b1, b2, b3, b4] 0 0 0 4 = (-(weightC a0 + (weightC a1 + (weightC a2 + (weightC a3 + (weightC a4 + 0)))) + 0)) % 65536 := by rw [← e0, ← fm]; rfl
  have q1 : sumArea [a0, a1, a2, a3, a4] [b0, b1, b2, b3, b4] 1 0 1 1 = (-(weightC b0 + (weightC b1 + 0) + 0)) % 65536 := by rw [← e1, ← fm]; rfl
  have q2 : sumArea [a0, a1, a2, a3, a4] [b0, b1, b2, b3, b4] 1 2 1 4 = (-(weightC b2 + (weightC b3 + (weightC b4 + 0)) + 0)) % 65536 := by rw [← e2, ← fm]; rfl
  have q3 : sumArea [a0, a1, a2, a3, a4] [b0, b1, b2, b3, b4] 0 0 1 4 = (-(weightC a0 + (weightC a1 + (weightC a2 + (weightC a3 + (weightC a4 + 0)))) + (weightC b0 + (weightC b1 + (weightC b2 + (weightC b3 + (weightC b4 + 0)))) + 0))) % 65536 := by rw [← e3, ← fm]; rfl
  rw [fm, q3]
  show (sumArea [a0, a1, a2, a3, a4] [b0, b1, b2, b3, b4] 0 0 0 4 + (sumArea [a0, a1, a2, a3, a4] [b0, b1, b2, b3, b4] 1 0 1 1 + (sumArea [a0, a1, a2, a3, a4] [b0, b1, b2, b3, b4] 1 2 1 4 + 0))) % 65536 = _
  rw [q0, q1, q2]
  generalize weightC a0 = x0
  generalize weightC a1 = x1
  generalize weightC a2 = x2
  generalize weightC a3 = x3
  generalize weightC a4 = x4
  generalize weightC b0 = y0
  generalize weightC b1 = y1
  generalize weightC b2 = y2
  generalize weightC b3 = y3
  generalize weightC b4 = y4
  omega
/-- a cell, a row, the screen's copy as data -/
noncomputable def cellD (c : Cell) : PyData := .tuple [.tuple (c.codes.map PyData.int), .int c.width, .tuple [.int c.flags, .int (-1), .int (-1), .int (-1), .int 0], .bool c.g]
noncomputable def rowD (cs : List Cell) : PyData := .list (cs.map cellD)
noncomputable def scrD (c0 c1 : List Cell) : PyData := .list [.list [rowD c0, rowD c1]]
theorem cellD_lay (c : Cell) : (cellD c).canLay0 = true := by
  simp [cellD, PyData.canLay0, PyData.canLayAll0, ke_canLayAll0]
theorem cellD_depth (c : Cell) : (cellD c).depth ≤ 2 := by
  simp [cellD, PyData.depth, PyData.depthAll, ke_depthAll]
theorem cellsD_lay : ∀ cs : List Cell, PyData.canLayAll0 (cs.map cellD) = true
  | [] => rfl
  | c :: cs => by rw [List.map_cons, PyData.canLayAll0, cellD_lay, cellsD_lay cs]; rfl
theorem cellsD_depth : ∀ cs : List Cell, PyData.depthAll (cs.map cellD) ≤ 2
  | [] => Nat.zero_le _
  | c :: cs => by
    have h1 := cellD_depth c
    have h2 := cellsD_depth cs
    rw [List.map_cons, PyData.depthAll]
    omega
theorem scrD_lay (c0 c1 : List Cell) : (scrD c0 c1).canLay0 = true := by
  simp [scrD, rowD, PyData.canLay0, PyData.canLayAll0, cellsD_lay]
theorem scrD_shaped (c0 c1 : List Cell) : SeqAt.shaped (scrD c0 c1) = true := by
  unfold SeqAt.shaped
  rw [scrD_lay, Bool.true_and]
  refine decide_eq_true ?_
  have h0 := cellsD_depth c0
  have h1 := cellsD_depth c1
  simp only [scrD, rowD, PyData.depth, PyData.depthAll]
  omega
theorem reads_ints {h : Heap} : ∀ {vs : List Value} {ns : List Int}, IntsAre vs ns → ReadsAll h vs (ns.map PyData.int) []
  | _, _, .nil => .nil
  | _, _, .cons n t r => .cons (.int n t) (reads_ints r)
theorem reads_cell {h₀ h : Heap} {L : Addr} {M : Led} {v : Value} {c : Cell} (N : News h₀ L h M) (k : CellS M v c) : ∃ as, Reads h v (cellD c) as := by
  obtain ⟨a, ac, ap, cv, tw, tf, t1, t2, t3, t4, rfl, h1, h2, h3, h4⟩ := k
  exact ⟨_, reads_tuple_at (N _ h1).1 rfl rfl (.cons (reads_tuple_at (N _ h2).1 rfl rfl (reads_ints h3)) (.cons (.int _ _) (.cons (reads_tuple_at (N _ h4).1 rfl rfl (.cons (.int _ _) (.cons (.int _ _) (.cons (.int _ _) (.cons (.int _ _) (.cons (.int _ _) .nil)))))) (.cons (.bool _) .nil))))⟩
theorem reads_cells {h₀ h : Heap} {L : Addr} {M : Led} (N : News h₀ L h M) {vs : List Value} {cs : List Cell} (k : AllC (CellS M) vs cs) : ∃ as, ReadsAll h vs (cs.map cellD) as := by
  induction k with
  | nil => exact ⟨_, .nil⟩
  | cons r _ ih =>
    obtain ⟨as, h1⟩ := reads_cell N r
    obtain ⟨bs, h2⟩ := ih
    exact ⟨_, .cons h1 h2⟩
theorem reads_scr {h₀ h : Heap} {L : Addr} {M : Led} {Wo Dc W0 W1 k0 k1 k2 k3 : Nat} {v0 v1 : List Value} {c0 c1 : List Cell} (N : News h₀ L h M) (h1 : (Wo, listOf #[.ref Dc] k0) ∈ M) (h2 : (Dc, listOf #[.ref W0, .ref W1] k1) ∈ M) (h3 : (W0, listOf v0.toArray k2) ∈ M) (h4 : (W1, listOf v1.toArray k3) ∈ M)
    (a0 : AllC (CellS M) v0 c0) (a1 : AllC (CellS M) v1 c1) : ∃ as, Reads h (.ref Wo) (scrD c0 c1) as := by
  obtain ⟨as, r0⟩ := reads_cells N a0
  obtain ⟨bs, r1⟩ := reads_cells N a1
  have q0 : Reads h (.ref W0) (rowD c0) (W0 :: as) := reads_list_at (N _ h3).1 rfl rfl (by simpa using r0)
  have q1 : Reads h (.ref W1) (rowD c1) (W1 :: bs) := reads_list_at (N _ h4).1 rfl rfl (by simpa using r1)
  exact ⟨_, reads_list_at (N _ h1).1 rfl rfl (.cons (reads_list_at (N _ h2).1 rfl rfl (.cons q0 (.cons q1 .nil))) .nil)⟩
section
variable {prog : Program} {w : World} {E : Value → Shared → Prop} {s : Shared} {nm : Str} {sc : Scope} {L fa : Addr} {cdv : Value}
theorem scr_eq {a b : Nat} {c0 c1 : List Cell} {Q : Value → Shared → Prop} (ra : ∃ as, Reads s.heap (.ref a) (scrD c0 c1) as) (rb : ∃ as, Reads s.heap (.ref b) (scrD c0 c1) as) (h : Q (.bool true) s) :
    wpAny (model prog w) (callerA.deeper (envOfC nm sc L fa cdv)) (compareOp .Eq (.ref a) (.ref b)) Q E s := by
  obtain ⟨as, ra⟩ := ra
  obtain ⟨bs, rb⟩ := rb
  refine eq_dataH ra rb (scrD_shaped c0 c1) (scrD_shaped c0 c1) ?_ ?_
  · show callerA.units + 3 + 64 < cLine
    rw [cLine_is]
    decide
  · rw [PySem.SeqAt.eqv_refl _ (scrD_lay c0 c1)]
    exact h
end
theorem setup_YH : True := by
  (k_with "e50" => (k_here; (with_reducible show wpAny _ _ (exec (PySem.Stmt.Assign [PySem.Expr.Name _ _] (PySem.Expr.ListComp _ _ _ _) _) _) _ _ _); (with_reducible refine' assign_comp_tup ?e50F ?e50a1 ?e50a2 ?e50a3 ?e50a4 ?e50a5 ?e50a6 ?e50a7 ?e50a8 ?e50a9 ?_ ?e50a10); k_dflt ((case e50F => k_asm); (case e50a1 => exact rfl); (case e50a2 => with_unfolding_all rfl); (case e50a3 => with_unfolding_all rfl); (case e50a4 => decide); (case e50a5 => exact rfl); (case e50a6 => decide); (case e50a7 => exact rfl); (case e50a8 => exact rfl); (case e50a9 => exact rfl); (case e50a10 => intro _; rfl))))
  (k_with "YH step" => first | k_extra "e47" | k_extra "e46" | k_extra "e50" | k_extra "e7" | k_extra "e34" | k_extra "e35" | k_extra "base")
  (k_with "YH steps" => repeat' (first | k_extra "YH step" | (k_unfold; (try dsimp only)) | (k_end; wrow_close) | walk1 | (dsimp only; walk1) | (leave1; walk_say "STEP leave1"; try dsimp only) | fail "no step"))
  (k_with "YH comp" => repeat' ((fail_if_success (with_reducible show LCg.CompSrc _ _ _ _ _ _ _ _ _ _ _ _ _ _)); first | k_extra "YH step" | (k_unfold; (try dsimp only)) | (k_end; wrow_close) | walk1 | (dsimp only; walk1) | (leave1; walk_say "STEP leave1"; try dsimp only) | fail "no step"))
  (k_with "YH elt" => repeat' ((fail_if_success (with_reducible show LCg.CompEnd _ _ _ _ _ _ _ _ _ _ _ _ _ _)); first | k_extra "YH step" | (k_unfold; (try dsimp only)) | (k_end; wrow_close) | walk1 | (dsimp only; walk1) | (leave1; walk_say "STEP leave1"; try dsimp only) | fail "no step"))
  (k_with "YH tsrc" => repeat' ((fail_if_success (with_reducible show TupSrc _ _ _ _ _ _ _ _ _ _ _ _ _ _)); first | k_extra "YH step" | (k_unfold; (try dsimp only)) | (k_end; wrow_close) | walk1 | (dsimp only; walk1) | (leave1; walk_say "STEP leave1"; try dsimp only) | fail "no step"))
  (k_with "YH cmp" => repeat' ((fail_if_success (with_reducible show wpAny _ _ (compareOp PySem.CmpOp.Eq (Value.ref _) (Value.ref _)) _ _ _)); first | k_extra "YH step" | (k_unfold; (try dsimp only)) | (k_end; wrow_close) | walk1 | (dsimp only; walk1) | (leave1; walk_say "STEP leave1"; try dsimp only) | fail "no step"))
  trivial
theorem law_parts (w : World) (mean : ExcName → Option Value) (mg mb : Str → Option Value) : LawTail w mean mg mb b66p := by
  refine ⟨?_⟩
  k_fill
  intro base h₀ L fa cdv m s Q E sc cl gi ll L0 L1 C0 C1 D0 D1 n1 n2 m1 m2 m3 m4 Wo Dc W0 W1 k0 k1 k2 k3 co v0 v1 u0 u1 c0 c1 Z hPE B hm F Xk N Tp hF hret
  have hcZ := hF.cell
  have hcd := hF.cd
  replace F := Fr.hasL hm F
  dsimp only [ov] at F
  clear hm
  k_extra "YH tsrc"
  rename News _ _ _ _ => N9
  rename Fr _ _ _ _ => F9
  refine ⟨_, _, _, rfl, rfl, F9, N9, ⟨0, .head _⟩, (by rw [sizeLine_eq]; exact (by decide : 3 ≤ 16777216)), fun g9 => ?_⟩
  refine comp_inv (JP _ (partsOf c0 c1)) ?step ?fin _ 0 [] _ (Nat.zero_add _) ⟨rfl, .nil⟩
  case step =>
    rintro i ys news hi ⟨rfl, hyi⟩ v I oI C oC D m₂ h tk E' hv hC hx F₁ N₁ off ne
    have hi3 : i < 3 := hi
    clear N9 F9 hi
    rcases (by omega : i = 0 ∨ i = 1 ∨ i = 2) with rfl | rfl | rfl
    all_goals (have ev := (Option.some.inj hv).symm; subst ev)
    all_goals (dsimp only [List.getElem_toArray, List.getElem_cons_zero, List.getElem_cons_succ] at hx)
    all_goals (k_extra "YH elt")
    all_goals (show LCg.CompEnd _ _ _ _ _ _ _ _ _ _ _ _ _ _)
    all_goals (exact jp_end (by k_asm) (by k_asm) off ⟨0, .head _⟩ hyi rfl)
  case fin =>
    rintro ys news ⟨rfl, hyi⟩
    unfold LCg.FinA
    intro D2 h2 tk2 F₂ N₂ o2
    clear N9 F9
    have hyi2 : IntsAre ys (partsOf c0 c1) := hyi
    dsimp only
    have hps := parts_sum (c0 := c0) (c1 := c1) hF.rows.5.1 hF.rows.6.1
    have hll := hF.lls
    have hL0 := hF.l0
    have hL1 := hF.l1
    have hGr := hF.grid
    have hScr := hF.scr
    have mC0 := hF.mC0
    have mC1 := hF.mC1
    have h50 : v0.length = 5 := by rw [hF.rows.3.length]; exact hF.rows.5.1
    have h51 : v1.length = 5 := by rw [hF.rows.4.length]; exact hF.rows.6.1
    obtain ⟨sd, s1, s2, s3, s4, s5, s6, s7, s8, s9, s10, s11, s12, s13, b1, b2, b3, b4, b5, b7, b8, b9, b10, b11, b12, b13, hs1, hs2⟩ := hScr
    obtain ⟨gd', g1, g2, g3, g4, g5, hg1, hg2⟩ := hGr
    obtain ⟨ld0, z1, z2, z3, hl01, hl02⟩ := hL0
    obtain ⟨ld1, z4, z5, z6, hl11, hl12⟩ := hL1
    k_extra "YH comp"
    · exfalso
      rename_i hq
      exact absurd hps hq
    rename News _ _ _ _ => N8
    rename Fr _ _ _ _ => F8
    refine LCg.CompSrc.ledger (by rfl) F8 N8 (by k_extra "own mem") (by rw [sizeLine_eq]; exact (by decide : 2 ≤ 16777216)) ?_
    intro g9
    refine comp_inv (JWs _ v0 v1) ?step ?fin _ 0 [] _ (Nat.zero_add _) .zero
    case step =>
      rintro i ys news hi hJ v I oI C oC D m₂ h tk E' hv hC hx F₁ N₁ off ne
      have hJ0 := hJ
      clear N8 F8
      cases hJ with
      | zero =>
        have ev : v = .ref L0 := (Option.some.inj hv).symm
        subst ev
        k_extra "YH elt"
        show LCg.CompEnd _ _ _ _ _ _ _ _ _ _ _ _ _ _
        exact ws_end (by k_asm) (by assumption) (by assumption) off hJ0 (by decide) (.inl ⟨rfl, rfl⟩) (.inr ⟨_, by k_extra "own mem", rfl, _, rfl⟩)
      | one k0 =>
        have ev : v = .ref L1 := (Option.some.inj hv).symm
        subst ev
        k_extra "YH elt"
        show LCg.CompEnd _ _ _ _ _ _ _ _ _ _ _ _ _ _
        exact ws_end (by k_asm) (by assumption) (by assumption) off hJ0 (by decide) (.inr ⟨rfl, rfl⟩) (.inr ⟨_, by k_extra "own mem", rfl, _, rfl⟩)
      | two => exact absurd hi (by show ¬ 2 < 2; omega)
    case fin =>
      rintro ys news hJ
      cases hJ with
      | two q0 q1 =>
        unfold LCg.FinE
        intro D3 h3 tk3 F₃ N₃ o3
        clear N8 F8
        have hZ9 := hF.rows.3
        have hZ8 := hF.rows.4
        have hw0 := hF.was0
        have hw1 := hF.was1
        have hw2 := hF.was2
        have hw3 := hF.was3
        k_extra "YH cmp"
        rename News _ _ _ _ => lN9
        have ra := reads_scr lN9 (.head _) (.tail _ (.head _)) (.tail _ (.tail _ (.tail _ (.head _)))) (.tail _ (.tail _ (.head _))) (allS_up hZ9 (by k_extra "own sub")) (allS_up hZ8 (by k_extra "own sub"))
        have rb := reads_scr lN9 (c0 := c0) (c1 := c1) (Wo := Wo) (Dc := Dc) (W0 := W0) (W1 := W1) (v0 := v0) (v1 := v1) (by k_extra "own mem") (by k_extra "own mem") (by k_extra "own mem") (by k_extra "own mem") (allS_up hZ9 (by k_extra "own sub")) (allS_up hZ8 (by k_extra "own sub"))
        with_reducible refine' scr_eq ra rb ?_
        k_extra "YH steps"
        exact hret _ _ _ _ (by assumption) lN9
theorem law_all (w : World) (mean : ExcName → Option Value) (mg mb : Str → Option Value) : LawRest w mean mg mb b66g := law_go w mean mg mb (law_was w mean mg mb (law_parts w mean mg mb))
end Mine
local macro_rules | `(tactic| k_qdec) => `(tactic| decide +kernel)
theorem PySem.Challenge.cw_np0284_01_holds : PySem.Challenge.rw_np0284_01.Holds := by
  w_on
  refine holds_law Mine.said fun said => ?_
  refine holds_open (q := Mine.qv) (loose := Mine.lo) (Xt := Mine.Xt) (XP := XL Mine.qv []) (Yf := Hook.obs Mine.Hk) (Ya := Hook.val Mine.Hk) (YP := Hook.says Mine.Hk) (N := nat_lit 13646) ?hl (Hook.of Mine.Hk) (Hook.keeps Mine.Hk) (fun s e => xl_of s (Bool.and_eq_true_iff.mp e).1) XL.keeps (by rfl) (by rfl) (by rfl) (fun s e => recFacts_of (Bool.and_eq_true_iff.mp e).2) (by rfl) (by first | assumption | decide +kernel) (by decide +kernel) ⟨rfl, rfl, rfl, rfl, rfl, by with_reducible exact Mine.tw⟩ ?hw ?hc
  case hl => exact Mine.left
  case hw => w_witness2
  case hc =>
    k_go0
    all_goals try k_fold
    rename_i Y fa o pm doc ho hg KX X V GL T B TE TW _ _ M _ w7 hcd ns hs hlay0 hL1 hr1 hl2 w5 w4 sa items w1 hL ra ww1 r0 hI hr hc1 hc0 K0 hD h₁ tk₁ F c right N0 X0
    show wpAny (model PySem.Challenge.rw_np0284_01.row.prog _) (callerA.deeper (envOfC (Str.ofString "law") Mine.s66 _ fa _)) (execs Mine.b66 (envOfC (Str.ofString "law") Mine.s66 _ fa _)) qk ek _
    with_reducible refine' Mine.law_A _ _ _ _ _ _ _ fa _ _ _ qk ek sa items ns ?x1 ?x2 ?x3 c ?x4 ?x5 ?x6 ?x7 ?x8 ?x9 ?x10 ?x11 ?x12 ?x13
    case x1 => exact hI
    case x2 => omega
    case x3 => exact hL
    case x4 => exact right
    case x5 => passes_own
    case x6 => exact K0
    case x8 => exact F
    case x7 => rfl
    case x9 => exact KX
    case x10 => exact N0
    case x11 => exact T
    case x12 => exact Mine.law_all ..
    case x13 =>
      intro m' news' h' tk' F' N'
      first | (k_end; wrow_close) | wrow_close | walk1
