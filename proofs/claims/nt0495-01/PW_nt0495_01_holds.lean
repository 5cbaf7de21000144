import PyProof.Rows.All
import Wide.All
import OpenK.AllK
import Wide.FinOn
import Lean
import PySem.Challenge.RW_nt0495_01
open PySem PySem.W PyProof.Rows PySem.Calls
set_option Elab.async false
set_option compiler.extract_closed false
namespace Mine
set_option maxRecDepth 100000 in
set_option maxHeartbeats 20000000 in
/-- the objects that the walk reads, as the top leaves them; the defs' own texts are taken out of the program by unification -/
noncomputable def hd.heap_39 : Params → Frag := by
  refine (?f : ∀ (a69 : Arguments) (b69 : List Stmt) (s69 : Scope) (a76 : Arguments) (b76 : List Stmt) (s76 : Scope) (a83 : Arguments) (b83 : List Stmt) (s83 : Scope) (a90 : Arguments) (b90 : List Stmt) (s90 : Scope) (a111 : Arguments) (b111 : List Stmt) (s111 : Scope) (a118 : Arguments) (b118 : List Stmt) (s118 : Scope) (a125 : Arguments) (b125 : List Stmt) (s125 : Scope) (a132 : Arguments) (b132 : List Stmt) (s132 : Scope) (a139 : Arguments) (b139 : List Stmt) (s139 : Scope) (a146 : Arguments) (b146 : List Stmt) (s146 : Scope) (a153 : Arguments) (b153 : List Stmt) (s153 : Scope) (a167 : Arguments) (b167 : List Stmt) (s167 : Scope) (a196 : Arguments) (b196 : List Stmt) (s196 : Scope) (a201 : Arguments) (b201 : List Stmt) (s201 : Scope) (a215 : Arguments) (b215 : List Stmt) (s215 : Scope) (a222 : Arguments) (b222 : List Stmt) (s222 : Scope) (a229 : Arguments) (b229 : List Stmt) (s229 : Scope) (a236 : Arguments) (b236 : List Stmt) (s236 : Scope) (a243 : Arguments) (b243 : List Stmt) (s243 : Scope) (a248 : Arguments) (b248 : List Stmt) (s248 : Scope) (a255 : Arguments) (b255 : List Stmt) (s255 : Scope) (a260 : Arguments) (b260 : List Stmt) (s260 : Scope) (a265 : Arguments) (b265 : List Stmt) (s265 : Scope) (a270 : Arguments) (b270 : List Stmt) (s270 : Scope), PySem.Challenge.pw_nt0495_01.main.body = [_, _, _, _, _, _, _, .ClassDef _ _ _ [.FunctionDef _ a69 b69 _ _ _ s69 _ _ _, .FunctionDef _ a76 b76 _ _ _ s76 _ _ _, .FunctionDef _ a83 b83 _ _ _ s83 _ _ _, .FunctionDef _ a90 b90 _ _ _ s90 _ _ _, _, _, .FunctionDef _ a111 b111 _ _ _ s111 _ _ _, .FunctionDef _ a118 b118 _ _ _ s118 _ _ _, .FunctionDef _ a125 b125 _ _ _ s125 _ _ _, .FunctionDef _ a132 b132 _ _ _ s132 _ _ _, .FunctionDef _ a139 b139 _ _ _ s139 _ _ _, .FunctionDef _ a146 b146 _ _ _ s146 _ _ _, .FunctionDef _ a153 b153 _ _ _ s153 _ _ _, _, .FunctionDef _ a167 b167 _ _ _ s167 _ _ _, _, _] _ _ _ _ _ _ _, .FunctionDef _ a196 b196 _ _ _ s196 _ _ _, .FunctionDef _ a201 b201 _ _ _ s201 _ _ _, _, .FunctionDef _ a215 b215 _ _ _ s215 _ _ _, .FunctionDef _ a222 b222 _ _ _ s222 _ _ _, .FunctionDef _ a229 b229 _ _ _ s229 _ _ _, .FunctionDef _ a236 b236 _ _ _ s236 _ _ _, .FunctionDef _ a243 b243 _ _ _ s243 _ _ _, _, _, .FunctionDef _ a248 b248 _ _ _ s248 _ _ _, .FunctionDef _ a255 b255 _ _ _ s255 _ _ _, .FunctionDef _ a260 b260 _ _ _ s260 _ _ _, .FunctionDef _ a265 b265 _ _ _ s265 _ _ _, .FunctionDef _ a270 b270 _ _ _ s270 _ _ _] → Params → Frag) _ _ _ _ _ _ _ _ _ _ _ _ _ _ _ _ _ _ _ _ _ _ _ _ _ _ _ _ _ _ _ _ _ _ _ _ _ _ _ _ _ _ _ _ _ _ _ _ _ _ _ _ _ _ _ _ _ _ _ _ _ _ _ _ _ _ _ _ _ _ _ _ rfl
  exact fun a69 b69 s69 a76 b76 s76 a83 b83 s83 a90 b90 s90 a111 b111 s111 a118 b118 s118 a125 b125 s125 a132 b132 s132 a139 b139 s139 a146 b146 s146 a153 b153 s153 a167 b167 s167 a196 b196 s196 a201 b201 s201 a215 b215 s215 a222 b222 s222 a229 b229 s229 a236 b236 s236 a243 b243 s243 a248 b248 s248 a255 b255 s255 a260 b260 s260 a265 b265 s265 a270 b270 s270 _ P => ((nat_lit 2),⟨.none,none,(.dict #[⟨(PySem.PyData.keyHash P (.ofString "type.__subclasses__.Exception.0")),(.str (.ofString "type.__subclasses__.Exception.0") 221),(.int 39 0)⟩,⟨(PySem.PyData.keyHash P (.ofString "type.__subclasses__.Exception.n")),(.str (.ofString "type.__subclasses__.Exception.n") 222),(.int 1 0)⟩] 2),#[]⟩) ::
    ((nat_lit 3),⟨(.type "dict"),none,(.dict #[⟨(PySem.PyData.keyHash P (.ofString "__name__")),(.str (.ofString "__name__") 165),(.str (.ofString "law_nt0495_01") 505)⟩,⟨(PySem.PyData.keyHash P (.ofString "__doc__")),(.str (.ofString "__doc__") 166),.none⟩,⟨(PySem.PyData.keyHash P (.ofString "__package__")),(.str (.ofString "__package__") 167),.none⟩,⟨(PySem.PyData.keyHash P (.ofString "__loader__")),(.str (.ofString "__loader__") 168),(.builtin "__main__.__loader__#opaque")⟩,⟨(PySem.PyData.keyHash P (.ofString "__spec__")),(.str (.ofString "__spec__") 169),.none⟩,⟨(PySem.PyData.keyHash P (.ofString "__annotations__")),(.str (.ofString "__annotations__") 170),(.ref 6)⟩,⟨(PySem.PyData.keyHash P (.ofString "__builtins__")),(.str (.ofString "__builtins__") 171),(.ref 4)⟩,⟨(PySem.PyData.keyHash P (.ofString "__file__")),(.str (.ofString "__file__") 173),(.str (.ofString "/claim/cut.py") 172)⟩,⟨(PySem.PyData.keyHash P (.ofString "__cached__")),(.str (.ofString "__cached__") 174),.none⟩,⟨(PySem.PyData.keyHash P (.ofString "_wall")),(.str (.ofString "_wall") 193),(.ref 21)⟩,⟨(PySem.PyData.keyHash P (.ofString "PostError")),(.str (.ofString "PostError") 224),(.ref 39)⟩,⟨(PySem.PyData.keyHash P (.ofString "PsError")),(.str (.ofString "PsError") 240),(.ref 52)⟩,⟨(PySem.PyData.keyHash P (.ofString "MOST_ROWS")),(.str (.ofString "MOST_ROWS") 244),(.int 1500 243)⟩,⟨(PySem.PyData.keyHash P (.ofString "MOST_HALVINGS")),(.str (.ofString "MOST_HALVINGS") 246),(.int 10 245)⟩,⟨(PySem.PyData.keyHash P (.ofString "Path")),(.str (.ofString "Path") 408),(.ref 184)⟩,⟨(PySem.PyData.keyHash P (.ofString "path_of")),(.str (.ofString "path_of") 417),(.ref 196)⟩,⟨(PySem.PyData.keyHash P (.ofString "path_points")),(.str (.ofString "path_points") 423),(.ref 201)⟩,⟨(PySem.PyData.keyHash P (.ofString "char_box")),(.str (.ofString "char_box") 435),(.ref 208)⟩,⟨(PySem.PyData.keyHash P (.ofString "path_half")),(.str (.ofString "path_half") 443),(.ref 215)⟩,⟨(PySem.PyData.keyHash P (.ofString "path_halves")),(.str (.ofString "path_halves") 460),(.ref 222)⟩,⟨(PySem.PyData.keyHash P (.ofString "path_is_flat")),(.str (.ofString "path_is_flat") 476),(.ref 229)⟩,⟨(PySem.PyData.keyHash P (.ofString "path_curve_ends")),(.str (.ofString "path_curve_ends") 490),(.ref 236)⟩,⟨(PySem.PyData.keyHash P (.ofString "path_flattened")),(.str (.ofString "path_flattened") 504),(.ref 243)⟩,⟨(PySem.PyData.keyHash P (.ofString "_law_lost")),(.str (.ofString "_law_lost") 508),(.int 9 507)⟩,⟨(PySem.PyData.keyHash P (.ofString "_law_curve")),(.str (.ofString "_law_curve") 514),(.ref 248)⟩,⟨(PySem.PyData.keyHash P (.ofString "_law_is_near")),(.str (.ofString "_law_is_near") 532),(.ref 255)⟩,⟨(PySem.PyData.keyHash P (.ofString "_law_is_on")),(.str (.ofString "_law_is_on") 538),(.ref 260)⟩,⟨(PySem.PyData.keyHash P (.ofString "_law_most_lines")),(.str (.ofString "_law_most_lines") 544),(.ref 265)⟩,⟨(PySem.PyData.keyHash P (.ofString "law")),(.str (.ofString "law") 550),(.ref 270)⟩] 29),#[]⟩) ::
    ((nat_lit 62),⟨(.type "tuple"),none,(.seq #[(.int 1500 243)] 0),#[]⟩) ::
    ((nat_lit 68),⟨(.type "code"),none,(.fields #[(.str (.ofString "__init__") 259),(.str (.ofString "Path.__init__") 260),(.str (.ofString "/claim/cut.py") 261),(.int 16 0),(.int 2 0),(.int 0 0),(.int 0 0),(.int 3 0),(.ref 63),(.bool true),(.int 181 0),(.ref 64),.none,(.ref 65),(.ref 66),(.ref 67),(.int 264 0),(.int 16 0),(.str (.ofString "/claim/cut.py") 265)]),#[]⟩) ::
    ((nat_lit 69),⟨(.type "function"),none,(.func ⟨(.ofString "__init__"), (.ofString "Path.__init__"), a69, (.stmts b69), s69, 3, [], (.ref 62), .none, .none, (.str (.ofString "postcore.paths") 241), none, (.ref 68), .none, 0⟩),#[]⟩) ::
    ((nat_lit 75),⟨(.type "code"),none,(.fields #[(.str (.ofString "rows") 267),(.str (.ofString "Path.rows") 268),(.str (.ofString "/claim/cut.py") 269),(.int 22 0),(.int 1 0),(.int 0 0),(.int 0 0),(.int 3 0),(.ref 70),(.bool true),(.int 181 0),(.ref 71),.none,(.ref 72),(.ref 73),(.ref 74),(.int 271 0),(.int 22 0),(.str (.ofString "/claim/cut.py") 272)]),#[]⟩) ::
    ((nat_lit 76),⟨(.type "function"),none,(.func ⟨(.ofString "rows"), (.ofString "Path.rows"), a76, (.stmts b76), s76, 3, [], .none, .none, .none, (.str (.ofString "postcore.paths") 241), none, (.ref 75), .none, 0⟩),#[]⟩) ::
    ((nat_lit 82),⟨(.type "code"),none,(.fields #[(.str (.ofString "is_empty") 274),(.str (.ofString "Path.is_empty") 275),(.str (.ofString "/claim/cut.py") 276),(.int 25 0),(.int 1 0),(.int 0 0),(.int 0 0),(.int 3 0),(.ref 77),(.bool true),(.int 181 0),(.ref 78),.none,(.ref 79),(.ref 80),(.ref 81),(.int 278 0),(.int 25 0),(.str (.ofString "/claim/cut.py") 279)]),#[]⟩) ::
    ((nat_lit 83),⟨(.type "function"),none,(.func ⟨(.ofString "is_empty"), (.ofString "Path.is_empty"), a83, (.stmts b83), s83, 3, [], .none, .none, .none, (.str (.ofString "postcore.paths") 241), none, (.ref 82), .none, 0⟩),#[]⟩) ::
    ((nat_lit 89),⟨(.type "code"),none,(.fields #[(.str (.ofString "current") 281),(.str (.ofString "Path.current") 282),(.str (.ofString "/claim/cut.py") 283),(.int 28 0),(.int 1 0),(.int 0 0),(.int 0 0),(.int 3 0),(.ref 84),(.bool true),(.int 181 0),(.ref 85),.none,(.ref 86),(.ref 87),(.ref 88),(.int 285 0),(.int 28 0),(.str (.ofString "/claim/cut.py") 286)]),#[]⟩) ::
    ((nat_lit 90),⟨(.type "function"),none,(.func ⟨(.ofString "current"), (.ofString "Path.current"), a90, (.stmts b90), s90, 3, [], .none, .none, .none, (.str (.ofString "postcore.paths") 241), none, (.ref 89), .none, 0⟩),#[]⟩) ::
    ((nat_lit 110),⟨(.type "code"),none,(.fields #[(.str (.ofString "need_room") 302),(.str (.ofString "Path.need_room") 303),(.str (.ofString "/claim/cut.py") 304),(.int 39 0),(.int 2 0),(.int 0 0),(.int 0 0),(.int 3 0),(.ref 105),(.bool true),(.int 181 0),(.ref 106),.none,(.ref 107),(.ref 108),(.ref 109),(.int 307 0),(.int 39 0),(.str (.ofString "/claim/cut.py") 308)]),#[]⟩) ::
    ((nat_lit 111),⟨(.type "function"),none,(.func ⟨(.ofString "need_room"), (.ofString "Path.need_room"), a111, (.stmts b111), s111, 3, [], .none, .none, .none, (.str (.ofString "postcore.paths") 241), none, (.ref 110), .none, 0⟩),#[]⟩) ::
    ((nat_lit 117),⟨(.type "code"),none,(.fields #[(.str (.ofString "move") 310),(.str (.ofString "Path.move") 311),(.str (.ofString "/claim/cut.py") 312),(.int 43 0),(.int 3 0),(.int 0 0),(.int 0 0),(.int 3 0),(.ref 112),(.bool true),(.int 181 0),(.ref 113),.none,(.ref 114),(.ref 115),(.ref 116),(.int 316 0),(.int 43 0),(.str (.ofString "/claim/cut.py") 317)]),#[]⟩) ::
    ((nat_lit 118),⟨(.type "function"),none,(.func ⟨(.ofString "move"), (.ofString "Path.move"), a118, (.stmts b118), s118, 3, [], .none, .none, .none, (.str (.ofString "postcore.paths") 241), none, (.ref 117), .none, 0⟩),#[]⟩) ::
    ((nat_lit 124),⟨(.type "code"),none,(.fields #[(.str (.ofString "go_on") 319),(.str (.ofString "Path.go_on") 320),(.str (.ofString "/claim/cut.py") 321),(.int 51 0),(.int 3 0),(.int 0 0),(.int 0 0),(.int 3 0),(.ref 119),(.bool true),(.int 181 0),(.ref 120),.none,(.ref 121),(.ref 122),(.ref 123),(.int 325 0),(.int 51 0),(.str (.ofString "/claim/cut.py") 326)]),#[]⟩) ::
    ((nat_lit 125),⟨(.type "function"),none,(.func ⟨(.ofString "go_on"), (.ofString "Path.go_on"), a125, (.stmts b125), s125, 3, [], .none, .none, .none, (.str (.ofString "postcore.paths") 241), none, (.ref 124), .none, 0⟩),#[]⟩) ::
    ((nat_lit 131),⟨(.type "code"),none,(.fields #[(.str (.ofString "line") 328),(.str (.ofString "Path.line") 329),(.str (.ofString "/claim/cut.py") 330),(.int 59 0),(.int 3 0),(.int 0 0),(.int 0 0),(.int 3 0),(.ref 126),(.bool true),(.int 181 0),(.ref 127),.none,(.ref 128),(.ref 129),(.ref 130),(.int 334 0),(.int 59 0),(.str (.ofString "/claim/cut.py") 335)]),#[]⟩) ::
    ((nat_lit 132),⟨(.type "function"),none,(.func ⟨(.ofString "line"), (.ofString "Path.line"), a132, (.stmts b132), s132, 3, [], .none, .none, .none, (.str (.ofString "postcore.paths") 241), none, (.ref 131), .none, 0⟩),#[]⟩) ::
    ((nat_lit 138),⟨(.type "code"),none,(.fields #[(.str (.ofString "curve") 337),(.str (.ofString "Path.curve") 338),(.str (.ofString "/claim/cut.py") 339),(.int 62 0),(.int 7 0),(.int 0 0),(.int 0 0),(.int 3 0),(.ref 133),(.bool true),(.int 181 0),(.ref 134),.none,(.ref 135),(.ref 136),(.ref 137),(.int 347 0),(.int 62 0),(.str (.ofString "/claim/cut.py") 348)]),#[]⟩) ::
    ((nat_lit 139),⟨(.type "function"),none,(.func ⟨(.ofString "curve"), (.ofString "Path.curve"), a139, (.stmts b139), s139, 3, [], .none, .none, .none, (.str (.ofString "postcore.paths") 241), none, (.ref 138), .none, 0⟩),#[]⟩) ::
    ((nat_lit 145),⟨(.type "code"),none,(.fields #[(.str (.ofString "close") 350),(.str (.ofString "Path.close") 351),(.str (.ofString "/claim/cut.py") 352),(.int 65 0),(.int 1 0),(.int 0 0),(.int 0 0),(.int 3 0),(.ref 140),(.bool true),(.int 181 0),(.ref 141),.none,(.ref 142),(.ref 143),(.ref 144),(.int 354 0),(.int 65 0),(.str (.ofString "/claim/cut.py") 355)]),#[]⟩) ::
    ((nat_lit 146),⟨(.type "function"),none,(.func ⟨(.ofString "close"), (.ofString "Path.close"), a146, (.stmts b146), s146, 3, [], .none, .none, .none, (.str (.ofString "postcore.paths") 241), none, (.ref 145), .none, 0⟩),#[]⟩) ::
    ((nat_lit 152),⟨(.type "code"),none,(.fields #[(.str (.ofString "put_rows") 357),(.str (.ofString "Path.put_rows") 358),(.str (.ofString "/claim/cut.py") 359),(.int 72 0),(.int 2 0),(.int 0 0),(.int 0 0),(.int 3 0),(.ref 147),(.bool true),(.int 181 0),(.ref 148),.none,(.ref 149),(.ref 150),(.ref 151),(.int 363 0),(.int 72 0),(.str (.ofString "/claim/cut.py") 364)]),#[]⟩) ::
    ((nat_lit 153),⟨(.type "function"),none,(.func ⟨(.ofString "put_rows"), (.ofString "Path.put_rows"), a153, (.stmts b153), s153, 3, [], .none, .none, .none, (.str (.ofString "postcore.paths") 241), none, (.ref 152), .none, 0⟩),#[]⟩) ::
    ((nat_lit 166),⟨(.type "code"),none,(.fields #[(.str (.ofString "flattened") 374),(.str (.ofString "Path.flattened") 375),(.str (.ofString "/claim/cut.py") 376),(.int 93 0),(.int 2 0),(.int 0 0),(.int 0 0),(.int 3 0),(.ref 161),(.bool true),(.int 181 0),(.ref 162),.none,(.ref 163),(.ref 164),(.ref 165),(.int 379 0),(.int 93 0),(.str (.ofString "/claim/cut.py") 380)]),#[]⟩) ::
    ((nat_lit 167),⟨(.type "function"),none,(.func ⟨(.ofString "flattened"), (.ofString "Path.flattened"), a167, (.stmts b167), s167, 3, [], .none, .none, .none, (.str (.ofString "postcore.paths") 241), none, (.ref 166), .none, 0⟩),#[]⟩) ::
    ((nat_lit 182),⟨(.type "tuple"),none,(.seq #[(.str (.ofString "begun") 397),(.str (.ofString "kept") 398),(.str (.ofString "most") 399),(.str (.ofString "point") 400)] 0),#[]⟩) ::
    ((nat_lit 183),⟨(.type "dict"),none,(.dict #[⟨(PySem.PyData.keyHash P (.ofString "__module__")),(.str (.ofString "__module__") 254),(.str (.ofString "postcore.paths") 241)⟩,⟨(PySem.PyData.keyHash P (.ofString "__firstlineno__")),(.str (.ofString "__firstlineno__") 258),(.int 14 257)⟩,⟨(PySem.PyData.keyHash P (.ofString "__init__")),(.str (.ofString "__init__") 266),(.ref 69)⟩,⟨(PySem.PyData.keyHash P (.ofString "rows")),(.str (.ofString "rows") 273),(.ref 76)⟩,⟨(PySem.PyData.keyHash P (.ofString "is_empty")),(.str (.ofString "is_empty") 280),(.ref 83)⟩,⟨(PySem.PyData.keyHash P (.ofString "current")),(.str (.ofString "current") 287),(.ref 90)⟩,⟨(PySem.PyData.keyHash P (.ofString "copy")),(.str (.ofString "copy") 294),(.ref 97)⟩,⟨(PySem.PyData.keyHash P (.ofString "clear")),(.str (.ofString "clear") 301),(.ref 104)⟩,⟨(PySem.PyData.keyHash P (.ofString "need_room")),(.str (.ofString "need_room") 309),(.ref 111)⟩,⟨(PySem.PyData.keyHash P (.ofString "move")),(.str (.ofString "move") 318),(.ref 118)⟩,⟨(PySem.PyData.keyHash P (.ofString "go_on")),(.str (.ofString "go_on") 327),(.ref 125)⟩,⟨(PySem.PyData.keyHash P (.ofString "line")),(.str (.ofString "line") 336),(.ref 132)⟩,⟨(PySem.PyData.keyHash P (.ofString "curve")),(.str (.ofString "curve") 349),(.ref 139)⟩,⟨(PySem.PyData.keyHash P (.ofString "close")),(.str (.ofString "close") 356),(.ref 146)⟩,⟨(PySem.PyData.keyHash P (.ofString "put_rows")),(.str (.ofString "put_rows") 365),(.ref 153)⟩,⟨(PySem.PyData.keyHash P (.ofString "bounds")),(.str (.ofString "bounds") 373),(.ref 160)⟩,⟨(PySem.PyData.keyHash P (.ofString "flattened")),(.str (.ofString "flattened") 381),(.ref 167)⟩,⟨(PySem.PyData.keyHash P (.ofString "reversed")),(.str (.ofString "reversed") 388),(.ref 174)⟩,⟨(PySem.PyData.keyHash P (.ofString "transformed")),(.str (.ofString "transformed") 396),(.ref 181)⟩,⟨(PySem.PyData.keyHash P (.ofString "__static_attributes__")),(.str (.ofString "__static_attributes__") 401),(.ref 182)⟩,⟨(PySem.PyData.keyHash P (.ofString "__dict__")),(.str (.ofString "__dict__") 403),(.ref 185)⟩,⟨(PySem.PyData.keyHash P (.ofString "__weakref__")),(.str (.ofString "__weakref__") 405),(.ref 186)⟩,⟨(PySem.PyData.keyHash P (.ofString "__doc__")),(.str (.ofString "__doc__") 406),.none⟩] 4),#[]⟩) ::
    ((nat_lit 184),⟨(.type "type"),none,(.cls ⟨(.ofString "Path"),[(.type "object")],[(.ref 184),(.type "object")],183,(.ofString "Path"),true,[],[],false,none,false⟩),#[none,none,(some (.str (.ofString "Path") 247)),(some (.str (.ofString "Path") 255)),(some (.builtin "object.__new__")),(some (.bool true))]⟩) ::
    ((nat_lit 185),⟨(.type "getset_descriptor"),none,(.fields #[(.str (.ofString "__dict__") 402),(.ref 184),(.builtin "function.__dict__"),(.builtin "function.__dict__#set")]),#[]⟩) ::
    ((nat_lit 186),⟨(.type "getset_descriptor"),none,(.fields #[(.str (.ofString "__weakref__") 404),(.ref 184),(.builtin "ExceptionGroup.__weakref__"),.none]),#[]⟩) ::
    ((nat_lit 189),⟨(.type "tuple"),none,(.seq #[(.int 1500 243)] 0),#[]⟩) ::
    ((nat_lit 195),⟨(.type "code"),none,(.fields #[(.str (.ofString "path_of") 409),(.str (.ofString "path_of") 410),(.str (.ofString "/claim/cut.py") 411),(.int 101 0),(.int 2 0),(.int 0 0),(.int 0 0),(.int 3 0),(.ref 190),(.bool true),(.int 181 0),(.ref 191),.none,(.ref 192),(.ref 193),(.ref 194),(.int 415 0),(.int 101 0),(.str (.ofString "/claim/cut.py") 416)]),#[]⟩) ::
    ((nat_lit 196),⟨(.type "function"),none,(.func ⟨(.ofString "path_of"), (.ofString "path_of"), a196, (.stmts b196), s196, 3, [], (.ref 189), .none, .none, (.str (.ofString "postcore.paths") 241), none, (.ref 195), .none, 0⟩),#[]⟩) ::
    ((nat_lit 200),⟨(.type "code"),none,(.fields #[(.str (.ofString "path_points") 418),(.str (.ofString "path_points") 419),(.str (.ofString "/claim/cut.py") 420),(.int 105 0),(.int 1 0),(.int 0 0),(.int 0 0),(.int 3 0),(.ref 197),(.bool true),(.int 181 0),(.ref 198),.none,.none,.none,(.ref 199),(.int 421 0),(.int 105 0),(.str (.ofString "/claim/cut.py") 422)]),#[]⟩) ::
    ((nat_lit 201),⟨(.type "function"),none,(.func ⟨(.ofString "path_points"), (.ofString "path_points"), a201, (.stmts b201), s201, 3, [], .none, .none, .none, (.str (.ofString "postcore.paths") 241), none, (.ref 200), .none, 0⟩),#[]⟩) ::
    ((nat_lit 214),⟨(.type "code"),none,(.fields #[(.str (.ofString "path_half") 436),(.str (.ofString "path_half") 437),(.str (.ofString "/claim/cut.py") 438),(.int 114 0),(.int 2 0),(.int 0 0),(.int 0 0),(.int 3 0),(.ref 209),(.bool true),(.int 181 0),(.ref 210),.none,(.ref 211),(.ref 212),(.ref 213),(.int 441 0),(.int 114 0),(.str (.ofString "/claim/cut.py") 442)]),#[]⟩) ::
    ((nat_lit 215),⟨(.type "function"),none,(.func ⟨(.ofString "path_half"), (.ofString "path_half"), a215, (.stmts b215), s215, 3, [], .none, .none, .none, (.str (.ofString "postcore.paths") 241), none, (.ref 214), .none, 0⟩),#[]⟩) ::
    ((nat_lit 221),⟨(.type "code"),none,(.fields #[(.str (.ofString "path_halves") 444),(.str (.ofString "path_halves") 445),(.str (.ofString "/claim/cut.py") 446),(.int 116 0),(.int 1 0),(.int 0 0),(.int 0 0),(.int 3 0),(.ref 216),(.bool true),(.int 181 0),(.ref 217),.none,(.ref 218),(.ref 219),(.ref 220),(.int 458 0),(.int 116 0),(.str (.ofString "/claim/cut.py") 459)]),#[]⟩) ::
    ((nat_lit 222),⟨(.type "function"),none,(.func ⟨(.ofString "path_halves"), (.ofString "path_halves"), a222, (.stmts b222), s222, 3, [], .none, .none, .none, (.str (.ofString "postcore.paths") 241), none, (.ref 221), .none, 0⟩),#[]⟩) ::
    ((nat_lit 228),⟨(.type "code"),none,(.fields #[(.str (.ofString "path_is_flat") 461),(.str (.ofString "path_is_flat") 462),(.str (.ofString "/claim/cut.py") 463),(.int 122 0),(.int 2 0),(.int 0 0),(.int 0 0),(.int 3 0),(.ref 223),(.bool true),(.int 181 0),(.ref 224),.none,(.ref 225),(.ref 226),(.ref 227),(.int 474 0),(.int 122 0),(.str (.ofString "/claim/cut.py") 475)]),#[]⟩) ::
    ((nat_lit 229),⟨(.type "function"),none,(.func ⟨(.ofString "path_is_flat"), (.ofString "path_is_flat"), a229, (.stmts b229), s229, 3, [], .none, .none, .none, (.str (.ofString "postcore.paths") 241), none, (.ref 228), .none, 0⟩),#[]⟩) ::
    ((nat_lit 235),⟨(.type "code"),none,(.fields #[(.str (.ofString "path_curve_ends") 477),(.str (.ofString "path_curve_ends") 478),(.str (.ofString "/claim/cut.py") 479),(.int 130 0),(.int 2 0),(.int 0 0),(.int 0 0),(.int 3 0),(.ref 230),(.bool true),(.int 181 0),(.ref 231),.none,(.ref 232),(.ref 233),(.ref 234),(.int 488 0),(.int 130 0),(.str (.ofString "/claim/cut.py") 489)]),#[]⟩) ::
    ((nat_lit 236),⟨(.type "function"),none,(.func ⟨(.ofString "path_curve_ends"), (.ofString "path_curve_ends"), a236, (.stmts b236), s236, 3, [], .none, .none, .none, (.str (.ofString "postcore.paths") 241), none, (.ref 235), .none, 0⟩),#[]⟩) ::
    ((nat_lit 242),⟨(.type "code"),none,(.fields #[(.str (.ofString "path_flattened") 491),(.str (.ofString "path_flattened") 492),(.str (.ofString "/claim/cut.py") 493),(.int 141 0),(.int 2 0),(.int 0 0),(.int 0 0),(.int 3 0),(.ref 237),(.bool true),(.int 181 0),(.ref 238),.none,(.ref 239),(.ref 240),(.ref 241),(.int 502 0),(.int 141 0),(.str (.ofString "/claim/cut.py") 503)]),#[]⟩) ::
    ((nat_lit 243),⟨(.type "function"),none,(.func ⟨(.ofString "path_flattened"), (.ofString "path_flattened"), a243, (.stmts b243), s243, 3, [], .none, .none, .none, (.str (.ofString "postcore.paths") 241), none, (.ref 242), .none, 0⟩),#[]⟩) ::
    ((nat_lit 247),⟨(.type "code"),none,(.fields #[(.str (.ofString "_law_curve") 509),(.str (.ofString "_law_curve") 510),(.str (.ofString "/claim/cut.py") 511),(.int 155 0),(.int 3 0),(.int 0 0),(.int 0 0),(.int 3 0),(.ref 244),(.bool true),(.int 181 0),(.ref 245),.none,.none,.none,(.ref 246),(.int 512 0),(.int 155 0),(.str (.ofString "/claim/cut.py") 513)]),#[]⟩) ::
    ((nat_lit 248),⟨(.type "function"),none,(.func ⟨(.ofString "_law_curve"), (.ofString "_law_curve"), a248, (.stmts b248), s248, 3, [], .none, .none, .none, (.str (.ofString "law_nt0495_01") 505), none, (.ref 247), .none, 0⟩),#[]⟩) ::
    ((nat_lit 254),⟨(.type "code"),none,(.fields #[(.str (.ofString "_law_is_near") 515),(.str (.ofString "_law_is_near") 516),(.str (.ofString "/claim/cut.py") 517),(.int 158 0),(.int 5 0),(.int 0 0),(.int 0 0),(.int 3 0),(.ref 249),(.bool true),(.int 181 0),(.ref 250),.none,(.ref 251),(.ref 252),(.ref 253),(.int 530 0),(.int 158 0),(.str (.ofString "/claim/cut.py") 531)]),#[]⟩) ::
    ((nat_lit 255),⟨(.type "function"),none,(.func ⟨(.ofString "_law_is_near"), (.ofString "_law_is_near"), a255, (.stmts b255), s255, 3, [], .none, .none, .none, (.str (.ofString "law_nt0495_01") 505), none, (.ref 254), .none, 0⟩),#[]⟩) ::
    ((nat_lit 259),⟨(.type "code"),none,(.fields #[(.str (.ofString "_law_is_on") 533),(.str (.ofString "_law_is_on") 534),(.str (.ofString "/claim/cut.py") 535),(.int 167 0),(.int 4 0),(.int 0 0),(.int 0 0),(.int 3 0),(.ref 256),(.bool true),(.int 181 0),(.ref 257),.none,.none,.none,(.ref 258),(.int 536 0),(.int 167 0),(.str (.ofString "/claim/cut.py") 537)]),#[]⟩) ::
    ((nat_lit 260),⟨(.type "function"),none,(.func ⟨(.ofString "_law_is_on"), (.ofString "_law_is_on"), a260, (.stmts b260), s260, 3, [], .none, .none, .none, (.str (.ofString "law_nt0495_01") 505), none, (.ref 259), .none, 0⟩),#[]⟩) ::
    ((nat_lit 264),⟨(.type "code"),none,(.fields #[(.str (.ofString "_law_most_lines") 539),(.str (.ofString "_law_most_lines") 540),(.str (.ofString "/claim/cut.py") 541),(.int 169 0),(.int 2 0),(.int 0 0),(.int 0 0),(.int 3 0),(.ref 261),(.bool true),(.int 181 0),(.ref 262),.none,.none,.none,(.ref 263),(.int 542 0),(.int 169 0),(.str (.ofString "/claim/cut.py") 543)]),#[]⟩) ::
    ((nat_lit 265),⟨(.type "function"),none,(.func ⟨(.ofString "_law_most_lines"), (.ofString "_law_most_lines"), a265, (.stmts b265), s265, 3, [], .none, .none, .none, (.str (.ofString "law_nt0495_01") 505), none, (.ref 264), .none, 0⟩),#[]⟩) ::
    ((nat_lit 269),⟨(.type "code"),none,(.fields #[(.str (.ofString "law") 545),(.str (.ofString "law") 546),(.str (.ofString "/claim/cut.py") 547),(.int 180 0),(.int 1 0),(.int 0 0),(.int 0 0),(.int 3 0),(.ref 266),(.bool true),(.int 181 0),(.ref 267),.none,.none,.none,(.ref 268),(.int 548 0),(.int 180 0),(.str (.ofString "/claim/cut.py") 549)]),#[]⟩) ::
    ((nat_lit 270),⟨(.type "function"),none,(.func ⟨(.ofString "law"), (.ofString "law"), a270, (.stmts b270), s270, 3, [], .none, .none, .none, (.str (.ofString "law_nt0495_01") 505), none, (.ref 269), .none, 0⟩),#[]⟩) :: []
set_option maxRecDepth 100000 in
set_option maxHeartbeats 20000000 in
/-- the program without the four statements whose names are loose -/
noncomputable def hd.view_39 : Program := by
  refine (?f : ∀ m0 m1 m2 m3 m4 m5 m6 m7 m8 m9 m10 m11 m12 m13 m14 m15 m16 m17 m18 m19 m20 m21 m22 : Stmt, PySem.Challenge.pw_nt0495_01.main.body = [m0, m1, m2, m3, m4, m5, m6, m7, m8, m9, m10, m11, m12, m13, m14, m15, m16, m17, m18, m19, m20, m21, m22] → Program) _ _ _ _ _ _ _ _ _ _ _ _ _ _ _ _ _ _ _ _ _ _ _ rfl
  exact fun m0 m1 m2 m3 m4 m5 m6 m7 m8 m9 m10 m11 m12 m13 m14 m15 m16 m17 m18 m19 m20 m21 m22 _ => { main := { body := [m0, m2, m3, m5, m6, m7, m9, m10, m11, m12, m13, m14, m15, m17, m18, m19, m20, m21, m22], scope := (OpenLaw.row PySem.Challenge.rw_nt0495_01).toRowW.prog.main.scope, futureAnnotations := (OpenLaw.row PySem.Challenge.rw_nt0495_01).toRowW.prog.main.futureAnnotations, file := (OpenLaw.row PySem.Challenge.rw_nt0495_01).toRowW.prog.main.file, more := (OpenLaw.row PySem.Challenge.rw_nt0495_01).toRowW.prog.main.more }, modules := (OpenLaw.row PySem.Challenge.rw_nt0495_01).toRowW.prog.modules, parses := (OpenLaw.row PySem.Challenge.rw_nt0495_01).toRowW.prog.parses, absent := (OpenLaw.row PySem.Challenge.rw_nt0495_01).toRowW.prog.absent, harvested := (OpenLaw.row PySem.Challenge.rw_nt0495_01).toRowW.prog.harvested, given := (OpenLaw.row PySem.Challenge.rw_nt0495_01).toRowW.prog.given }
/-- how the walk's objects are looked at -/
noncomputable abbrev hook : Hook := kHook hd.heap_39 [2, 3, 62, 68, 69, 75, 76, 82, 83, 89, 90, 110, 111, 117, 118, 124, 125, 131, 132, 138, 139, 145, 146, 152, 153, 166, 167, 182, 183, 184, 185, 186, 189, 195, 196, 200, 201, 214, 215, 221, 222, 228, 229, 235, 236, 242, 243, 247, 248, 254, 255, 259, 260, 264, 265, 269, 270] (fun _ => by kernel_rfl)
set_option maxRecDepth 100000 in
set_option maxHeartbeats 20000000 in
/-- the run of the top, in one evaluation -/
theorem left : LeftO (OpenLaw.row PySem.Challenge.rw_nt0495_01).toRowW.prog hd.view_39 [Str.ofString "PostError", Str.ofString "Path", Str.ofString "path_of"] (fun s => xlAt hd.view_39 [] s && recOk (RowW.records (OpenLaw.row PySem.Challenge.rw_nt0495_01).toRowW) s) (Hook.obs hook) (Hook.val hook) 3498 := by
  intro w
  kernel_rfl
set_option maxRecDepth 100000 in
set_option maxHeartbeats 20000000 in
theorem law_said : PySem.Challenge.rw_nt0495_01.wellSaid = true := by decide +kernel
noncomputable abbrev loose0 : List Str := looseW Mine.hd.view_39 [Str.ofString "PostError", Str.ofString "Path", Str.ofString "path_of"]

/-- objects that stand in a heap -/
def Has (h : Heap) (olds : List (Addr × Obj)) : Prop := ∀ p ∈ olds, h.get? p.1 = some p.2
/-- what a call of the def at f gives back, for all callers: nothing that stands is touched; what is made lies in tl -/
def Con (f : Addr) (lv : Nat) (ins : List Dat) (Out : List (Addr × Obj) → List (Addr × Obj) → Value → Prop) : Prop :=
  ∀ (w : World) (mean : ExcName → Option Value) (mg mb : Str → Option Value) (dp un : Nat) (gd : Option (List Code)) (cn : Str) (cs : Scope) (a : Addr) (ccd : Value) (cl : List (Str × Addr)) (outer : List Env) (A₀ : Around) (base h₀ : Heap) (L : Addr) (m : Str → Option Value) (olds : List (Addr × Obj)) (s : Shared) (vs : List Value) (Q E : Value → Shared → Prop),
    Below A₀ base outer h₀ → Fr h₀ L s.heap m → (Mine.hd.heap_39 w.params).In h₀ → Top Mine.hd.view_39 loose0 mean mg mb h₀ → cs.kind = .function → Has s.heap olds → DatAll olds vs ins → dp + lv < recursionLimit → un + 8 * lv < cLine →
    (∀ r tl h' tk', (∀ b o, s.heap.get? b = some o → h'.get? b = some o) → (∀ p ∈ tl, h'.get? p.1 = some p.2 ∧ s.heap.get? p.1 = none) → Out tl olds r → Q r { s with heap := h', toks := tk' }) →
    wpAny (model PySem.Challenge.rw_nt0495_01.row.prog w) (ktrTop dp un gd cn cs L a ccd cl outer) (call (.ref f) vs) Q E s
/-- all of it is new -/
abbrev New (out : Dat) : List (Addr × Obj) → List (Addr × Obj) → Value → Prop := fun tl _ r => DatIn tl r out
/-- new things and old ones -/
abbrev Mix (out : Dat) : List (Addr × Obj) → List (Addr × Obj) → Value → Prop := fun tl olds r => DatIn (tl ++ olds) r out

theorem news_tl {s : Shared} {h₀ h' : Heap} {L : Addr} {m : Str → Option Value} {news tl : List (Addr × Obj)} (F : Fr h₀ L s.heap m) (N : News h₀ L s.heap news) (hk : ∀ b o, s.heap.get? b = some o → h'.get? b = some o)
    (ht : ∀ p ∈ tl, h'.get? p.1 = some p.2 ∧ s.heap.get? p.1 = none) : News h₀ L h' (tl ++ news) := fun p hp => by
  rcases List.mem_append.mp hp with hp | hp
  · obtain ⟨h1, h2⟩ := ht p hp
    refine ⟨h1, fun e => ?_, ?_⟩
    · obtain ⟨oL, _, _, hL, _⟩ := F.ns
      rw [e, hL] at h2
      cases h2
    · cases q : h₀.get? p.1 with
      | none => rfl
      | some o => rw [F.keep _ _ q] at h2; cases h2
  · exact ⟨hk _ _ (N p hp).1, (N p hp).2⟩
theorem con_useG {f : Addr} {lv : Nat} {ins : List Dat} {Out : List (Addr × Obj) → List (Addr × Obj) → Value → Prop} (C : Con f lv ins Out) {big : List (Addr × Obj)}
    {w : World} {mean : ExcName → Option Value} {mg mb : Str → Option Value} {dp un : Nat} {gd : Option (List Code)} {cn : Str} {cs : Scope} {a : Addr} {ccd : Value} {cl : List (Str × Addr)} {outer : List Env} {A₀ : Around} {base h₀ : Heap} {L : Addr} {m : Str → Option Value} {news : List (Addr × Obj)} {s : Shared} {vs : List Value} {Q E : Value → Shared → Prop}
    (B : Below A₀ base outer h₀) (F : Fr h₀ L s.heap m) (X : (Mine.hd.heap_39 w.params).In h₀) (N : News h₀ L s.heap news) (T : Top Mine.hd.view_39 loose0 mean mg mb h₀) (hk : cs.kind = .function) (hb : Has s.heap big) (D : DatAll big vs ins) (hd : dp + lv < recursionLimit) (hu : un + 8 * lv < cLine)
    (ret : ∀ r tl h' tk', Fr h₀ L h' m → News h₀ L h' (tl ++ news) → (∀ q ∈ news, ∀ p ∈ tl, p.1 ≠ q.1) → Out tl big r → Q r { s with heap := h', toks := tk' }) :
    wpAny (model PySem.Challenge.rw_nt0495_01.row.prog w) (ktrTop dp un gd cn cs L a ccd cl outer) (call (.ref f) vs) Q E s := by
  refine C w mean mg mb dp un gd cn cs a ccd cl outer A₀ base h₀ L m big s vs Q E B F X T hk hb D hd hu fun r tl h' tk' hkeep htl ho => ?_
  refine ret r tl h' tk' (F.keeps hkeep) (news_tl F N hkeep htl) (fun q hq p hp e => ?_) ho
  have h1 := (htl p hp).2
  have h2 := (N q hq).1
  rw [e, h2] at h1
  exact nomatch h1
theorem con_use {f : Addr} {lv : Nat} {ins : List Dat} {Out : List (Addr × Obj) → List (Addr × Obj) → Value → Prop} (C : Con f lv ins Out) {bs : List (Addr × Obj)}
    {w : World} {mean : ExcName → Option Value} {mg mb : Str → Option Value} {dp un : Nat} {gd : Option (List Code)} {cn : Str} {cs : Scope} {a : Addr} {ccd : Value} {cl : List (Str × Addr)} {outer : List Env} {A₀ : Around} {base h₀ : Heap} {L : Addr} {m : Str → Option Value} {news : List (Addr × Obj)} {s : Shared} {vs : List Value} {Q E : Value → Shared → Prop}
    (B : Below A₀ base outer h₀) (F : Fr h₀ L s.heap m) (X : (Mine.hd.heap_39 w.params).In h₀) (N : News h₀ L s.heap news) (T : Top Mine.hd.view_39 loose0 mean mg mb h₀) (hk : cs.kind = .function) (hb : Has h₀ bs) (D : DatAll (news ++ bs) vs ins) (hd : dp + lv < recursionLimit) (hu : un + 8 * lv < cLine)
    (ret : ∀ r tl h' tk', Fr h₀ L h' m → News h₀ L h' (tl ++ news) → (∀ q ∈ news, ∀ p ∈ tl, p.1 ≠ q.1) → Out tl (news ++ bs) r → Q r { s with heap := h', toks := tk' }) :
    wpAny (model PySem.Challenge.rw_nt0495_01.row.prog w) (ktrTop dp un gd cn cs L a ccd cl outer) (call (.ref f) vs) Q E s := by
  refine C w mean mg mb dp un gd cn cs a ccd cl outer A₀ base h₀ L m (news ++ bs) s vs Q E B F X T hk (fun p hp => ?_) D hd hu fun r tl h' tk' hkeep htl ho => ?_
  · rcases List.mem_append.mp hp with hp | hp
    · exact (N p hp).1
    · exact F.keep _ _ (hb p hp)
  · refine ret r tl h' tk' (F.keeps hkeep) (news_tl F N hkeep htl) (fun q hq p hp e => ?_) ho
    have h1 := (htl p hp).2
    have h2 := (N q hq).1
    rw [e, h2] at h1
    exact nomatch h1
theorem news_pick {h₀ h : Heap} {L : Addr} {x : Addr × Obj} {tl news : List (Addr × Obj)} (N : News h₀ L h (tl ++ news)) (hm : x ∈ tl) : News h₀ L h (x :: news) := fun p hp => by
  rcases List.mem_cons.mp hp with rfl | hp
  · exact N _ (List.mem_append.mpr (.inl hm))
  · exact N _ (List.mem_append.mpr (.inr hp))
def AllNe (d : Nat) : List (Addr × Obj) → Prop
  | [] => True
  | p :: r => @Ne Nat p.1 d ∧ AllNe d r
theorem allNe_of {d : Addr} : ∀ {l : List (Addr × Obj)}, (∀ q ∈ l, d ≠ q.1) → AllNe d l
  | [], _ => trivial
  | p :: _, h => ⟨fun e => h p (.head _) e.symm, allNe_of fun q hq => h q (.tail _ hq)⟩
theorem allNe_mem {d : Addr} {l : List (Addr × Obj)} (h : AllNe d l) : ∀ p ∈ l, p.1 ≠ d := by
  induction l with
  | nil => intro p hp; exact absurd hp List.not_mem_nil
  | cons x r ih =>
    intro q hq
    cases List.mem_cons.mp hq with
    | inl e => rw [e]; exact h.1
    | inr hq => exact ih h.2 q hq

/-- a place where the walk is to stand still -/
structure Stop (P : Prop) : Prop where
  run : P
theorem stop_here {P : Prop} (h : Stop P) : P := h.run
def emptyOf (h : Heap) : Heap := { h with objs := #[] }
theorem Has.news {h : Heap} {olds : List (Addr × Obj)} (H : Has h olds) : News (emptyOf h) h.objs.size h olds := fun p hp =>
  ⟨H p hp, Nat.ne_of_lt (Heap.lt_size (H p hp)), by
    cases e : (emptyOf h).get? p.1 with
    | none => rfl
    | some o => exact absurd (Heap.lt_size e) (Nat.not_lt_zero _)⟩
theorem has_news {h₀ h : Heap} {L : Addr} {news : List (Addr × Obj)} (N : News h₀ L h news) : Has h news := fun p hp => (N p hp).1
theorem has_app {h : Heap} {a b : List (Addr × Obj)} (x : Has h a) (y : Has h b) : Has h (a ++ b) := fun p hp => (List.mem_append.mp hp).elim (x p) (y p)
theorem has_keep {h₀ h : Heap} {L : Addr} {m : Str → Option Value} {olds : List (Addr × Obj)} (F : Fr h₀ L h m) (H : Has h₀ olds) : Has h olds := fun p hp => F.keep _ _ (H p hp)
theorem has_sub {h₀ h : Heap} {L : Addr} {news l : List (Addr × Obj)} (N : News h₀ L h news) (hs : ∀ p ∈ l, p ∈ news) : Has h l := fun p hp => (N p (hs p hp)).1

abbrev Pt := Int × Int
abbrev Quad := Pt × Pt × Pt × Pt
def ptD (p : Pt) : Dat := .tuple [.int p.1, .int p.2]
def quadD (q : Quad) : Dat := .tuple [ptD q.1, ptD q.2.1, ptD q.2.2.1, ptD q.2.2.2]
def half (p q : Pt) : Pt := (Int.fdiv (p.1 + q.1) 2, Int.fdiv (p.2 + q.2) 2)
def half1 (q : Quad) : Quad := (q.1, half q.1 q.2.1, half (half q.1 q.2.1) (half q.2.1 q.2.2.1), half (half (half q.1 q.2.1) (half q.2.1 q.2.2.1)) (half (half q.2.1 q.2.2.1) (half q.2.2.1 q.2.2.2)))
def half2 (q : Quad) : Quad := (half (half (half q.1 q.2.1) (half q.2.1 q.2.2.1)) (half (half q.2.1 q.2.2.1) (half q.2.2.1 q.2.2.2)), half (half q.2.1 q.2.2.1) (half q.2.2.1 q.2.2.2), half q.2.2.1 q.2.2.2, q.2.2.2)
def iabs (x : Int) : Int := if x < 0 then -x else x
def imax (x y : Int) : Int := if y > x then y else x
def imin (x y : Int) : Int := if y < x then y else x
def farOf (a b c d : Int) : Int := imax (iabs (3 * b - 2 * a - d)) (iabs (3 * c - 2 * d - a))
def isFlat (q : Quad) (f : Int) : Bool := decide (0 + farOf q.1.1 q.2.1.1 q.2.2.1.1 q.2.2.2.1 ^ Int.toNat 2 + farOf q.1.2 q.2.1.2 q.2.2.1.2 q.2.2.2.2 ^ Int.toNat 2 ≤ 16 * f ^ Int.toNat 2)
def PB (B : Int) (p : Pt) : Prop := -B ≤ p.1 ∧ p.1 ≤ B ∧ -B ≤ p.2 ∧ p.2 ≤ B
def QB (B : Int) (q : Quad) : Prop := PB B q.1 ∧ PB B q.2.1 ∧ PB B q.2.2.1 ∧ PB B q.2.2.2

abbrev tupO (vs : List Value) (n : Nat) : Obj := { cls := .type "tuple", data := .seq vs.toArray n }
theorem Has.tup {h : Heap} {olds : List (Addr × Obj)} {a : Addr} {vs : List Value} {n : Nat} (H : Has h olds) (hm : (a, tupO vs n) ∈ olds) : IsTup h a vs.toArray := ⟨_, H _ hm, rfl, n, rfl⟩
theorem Has.list {h : Heap} {olds : List (Addr × Obj)} {a : Addr} {vs : List Value} {n : Nat} (H : Has h olds) (hm : (a, listOf vs.toArray n) ∈ olds) : h.IsList a vs.toArray := ⟨_, H _ hm, rfl, n, rfl⟩
theorem all1 {news : List (Addr × Obj)} {vs : List Value} {d : Dat} (h : DatAll news vs [d]) : ∃ v, vs = [v] ∧ DatIn news v d := by
  cases h with
  | cons h1 hd => cases hd; exact ⟨_, rfl, h1⟩
theorem all2 {news : List (Addr × Obj)} {vs : List Value} {d e : Dat} (h : DatAll news vs [d, e]) : ∃ v u, vs = [v, u] ∧ DatIn news v d ∧ DatIn news u e := by
  cases h with
  | cons h1 hd => obtain ⟨u, rfl, h2⟩ := all1 hd; exact ⟨_, _, rfl, h1, h2⟩
theorem all3 {news : List (Addr × Obj)} {vs : List Value} {d e f : Dat} (h : DatAll news vs [d, e, f]) : ∃ v u x, vs = [v, u, x] ∧ DatIn news v d ∧ DatIn news u e ∧ DatIn news x f := by
  cases h with
  | cons h1 hd => obtain ⟨u, x, rfl, h2, h3⟩ := all2 hd; exact ⟨_, _, _, rfl, h1, h2, h3⟩
theorem all4 {news : List (Addr × Obj)} {vs : List Value} {d e f g : Dat} (h : DatAll news vs [d, e, f, g]) : ∃ v u x y, vs = [v, u, x, y] ∧ DatIn news v d ∧ DatIn news u e ∧ DatIn news x f ∧ DatIn news y g := by
  cases h with
  | cons h1 hd => obtain ⟨u, x, y, rfl, h2, h3, h4⟩ := all3 hd; exact ⟨_, _, _, _, rfl, h1, h2, h3, h4⟩
theorem all5 {news : List (Addr × Obj)} {vs : List Value} {d e f g k : Dat} (h : DatAll news vs [d, e, f, g, k]) : ∃ v u x y z, vs = [v, u, x, y, z] ∧ DatIn news v d ∧ DatIn news u e ∧ DatIn news x f ∧ DatIn news y g ∧ DatIn news z k := by
  cases h with
  | cons h1 hd => obtain ⟨u, x, y, z, rfl, h2, h3, h4, h5⟩ := all4 hd; exact ⟨_, _, _, _, _, rfl, h1, h2, h3, h4, h5⟩
theorem int_of {news : List (Addr × Obj)} {v : Value} {i : Int} (h : DatIn news v (.int i)) : ∃ t, v = .int i t := by cases h; exact ⟨_, rfl⟩
theorem str_of {news : List (Addr × Obj)} {v : Value} {i : Str} (h : DatIn news v (.str i)) : ∃ t, v = .str i t := by cases h; exact ⟨_, rfl⟩
theorem tup_of {news : List (Addr × Obj)} {v : Value} {ds : List Dat} (h : DatIn news v (.tuple ds)) : ∃ a vs n, v = .ref a ∧ (a, tupO vs n) ∈ news ∧ DatAll news vs ds := by
  cases h with
  | tuple hm hd => exact ⟨_, _, _, rfl, hm, hd⟩
theorem more_of {news : List (Addr × Obj)} {vs : List Value} {d : Dat} {ds : List Dat} (h : DatAll news vs (d :: ds)) : ∃ v r, vs = v :: r ∧ DatIn news v d ∧ DatAll news r ds := by
  cases h with
  | cons h1 hd => exact ⟨_, _, rfl, h1, hd⟩
theorem pt_of {news : List (Addr × Obj)} {v : Value} {p : Pt} (h : DatIn news v (ptD p)) : ∃ a n t1 t2, v = .ref a ∧ (a, tupO [Value.int p.1 t1, Value.int p.2 t2] n) ∈ news := by
  obtain ⟨a, vs, n, rfl, m, hd⟩ := tup_of h
  obtain ⟨v, u, rfl, h1, h2⟩ := all2 hd
  obtain ⟨t1, rfl⟩ := int_of h1
  obtain ⟨t2, rfl⟩ := int_of h2
  exact ⟨_, _, _, _, rfl, m⟩
theorem quad_of {news : List (Addr × Obj)} {v : Value} {q : Quad} (h : DatIn news v (quadD q)) : ∃ a n v1 v2 v3 v4, v = .ref a ∧ (a, tupO [v1, v2, v3, v4] n) ∈ news ∧ DatIn news v1 (ptD q.1) ∧ DatIn news v2 (ptD q.2.1) ∧ DatIn news v3 (ptD q.2.2.1) ∧ DatIn news v4 (ptD q.2.2.2) := by
  obtain ⟨a, vs, n, rfl, m, hd⟩ := tup_of h
  obtain ⟨v1, v2, v3, v4, rfl, h1, h2, h3, h4⟩ := all4 hd
  exact ⟨_, _, _, _, _, _, rfl, m, h1, h2, h3, h4⟩
theorem bool_of {news : List (Addr × Obj)} {v : Value} {b : Bool} (h : DatIn news v (.bool b)) : v = .bool b := by cases h; rfl
theorem tup2_of {news : List (Addr × Obj)} {v : Value} {d e : Dat} (h : DatIn news v (.tuple [d, e])) : ∃ a n v1 v2, v = .ref a ∧ (a, tupO [v1, v2] n) ∈ news ∧ DatIn news v1 d ∧ DatIn news v2 e := by
  cases h with
  | tuple hm hd => obtain ⟨v, u, rfl, h1, h2⟩ := all2 hd; exact ⟨_, _, _, _, rfl, hm, h1, h2⟩
theorem list_of {news : List (Addr × Obj)} {v : Value} {ds : List Dat} (h : DatIn news v (.list ds)) : ∃ a vs n, v = .ref a ∧ (a, listOf vs.toArray n) ∈ news ∧ DatAll news vs ds := by
  cases h with
  | list hm hd => exact ⟨_, _, _, rfl, hm, hd⟩

/-- into the body of a def: all that stands is the ground -/
theorem enterC {prog : Program} {w : World} {s : Shared} {K : Frag} {mean : ExcName → Option Value} {mg mb : Str → Option Value} {p : Program} {loose : List Str} {Q E : Value → Shared → Prop} {name qual : Str} {params : Arguments} {body : List Stmt} {scope : Scope} {dV kV doc pm cdv ct oc : Value} {an od : Option Addr} {osl : Array (Option Value)} {f : Addr} {args : List Value} {binds : List (Str × Value)}
    {dp un : Nat} {gd : Option (List Code)} {cn : Str} {cs : Scope} {a : Addr} {ccd : Value} {cl : List (Str × Addr)} {outer : List Env} {A₀ : Around} {base h₀ : Heap} {L : Addr} {m : Str → Option Value}
    (B : Below A₀ base outer h₀) (F : Fr h₀ L s.heap m) (X : K.In h₀) (T : Top p loose mean mg mb h₀) (hck : cs.kind = .function)
    (ho : K.lookup f = some ⟨oc, od, .func (fnOf name qual params body scope dV kV doc pm an cdv ct), osl⟩) (hcd : codeIn K cdv qual = true) (hroom : dp < recursionLimit)
    (hbind : BindsTo s (fnOf name qual params body scope dV kV doc pm an cdv ct) ⟨args, []⟩ binds) (hloc : ∀ y ∈ binds, scope.names.lookup y.1 = some .local)
    (h : ∀ L' h₁, Fr s.heap L' h₁ (fun y => binds.reverse.lookup y) → News s.heap L' h₁ [] → Below (ktrTop dp un gd cn cs L a ccd cl outer) base (envX cn cs L a ccd cl :: outer) s.heap → K.In s.heap → Top p loose mean mg mb s.heap →
      wpAny (model prog w) ((ktrTop dp un gd cn cs L a ccd cl outer).deeper (envOf qual scope L' f cdv)) (execs body (envOf qual scope L' f cdv))
        (fun fl s' => Q (match fl with | .ret v => v | _ => .none) s')
        (fun _ _ => False)
        { s with heap := h₁, toks := s.toks + binds.length })
    (hco : scope.isCoroutine = false) (hgen : scope.isGenerator = false) (hk : scope.kind = .function)
    (hcell : ∀ x ∈ scope.names, x.2 ≠ .cell) : wpAny (model prog w) (ktrTop dp un gd cn cs L a ccd cl outer) (call (.ref f) args) Q E s := by
  refine wpAny_call ?_
  have X' := X.keeps F.keep
  have T' := T.keeps F.keep
  have B₁ := pushX (env := envX cn cs L a ccd cl) B F rfl hck
  refine codeAny_call_def (fd := fnOf name qual params body scope dV kV doc pm an cdv ct) (body := body) (binds := binds) hroom (X' _ _ ho) rfl T'.nolimit (codeRec_of X' hcd) rfl hbind hcell hloc (fun h₁ hns hk₁ => ?_) hco hgen hk
  exact wpAny_mono (h _ h₁ ⟨hns, hk₁, Nat.le_refl _⟩ News.nil ⟨rfl, B₁.stays, B₁.frames⟩ X' T') (fun _ _ x => x) fun _ _ x => x.elim

theorem con_end {s : Shared} {h' : Heap} {L' : Addr} {m' : Str → Option Value} {led olds : List (Addr × Obj)} {Out : List (Addr × Obj) → List (Addr × Obj) → Value → Prop} {Q : Value → Shared → Prop} {r : Value} {tk' : Nat}
    (hret : ∀ r tl h' tk', (∀ b o, s.heap.get? b = some o → h'.get? b = some o) → (∀ p ∈ tl, h'.get? p.1 = some p.2 ∧ s.heap.get? p.1 = none) → Out tl olds r → Q r { s with heap := h', toks := tk' })
    (F : Fr s.heap L' h' m') (N : News s.heap L' h' led) (O : Out led olds r) : Q r { s with heap := h', toks := tk' } :=
  hret r led h' tk' F.keep (fun p hp => ⟨(N p hp).1, (N p hp).2.2⟩) O
theorem datAll_concat {news : List (Addr × Obj)} {vs : List Value} {ds : List Dat} {d : Dat} (h : DatAll news vs (ds ++ [d])) : ∃ ws v, vs = ws ++ [v] ∧ DatAll news ws ds ∧ DatIn news v d := by
  induction ds generalizing vs with
  | nil => obtain ⟨v, rfl, h1⟩ := all1 h; exact ⟨[], v, rfl, .nil, h1⟩
  | cons e es ih =>
    cases h with
    | cons h1 h2 =>
      obtain ⟨ws, v, rfl, h3, h4⟩ := ih h2
      exact ⟨_ :: ws, v, rfl, .cons h1 h3, h4⟩
open Classical in
theorem ne_nil1 {prog : Program} {w : World} {A : Around} {E : Value → Shared → Prop} {s : Shared} {a b : Addr} {olds : List (Addr × Obj)} {xs : List Value} {y : Value} {ka kb : Nat} {ds : List Dat} {Q : Value → Shared → Prop}
    (H : Has s.heap olds) (ma : (a, listOf (xs ++ [y]).toArray ka) ∈ olds) (mb : (b, listOf ([] : List Value).toArray kb) ∈ olds) (Da : DatAll olds (xs ++ [y]) ds) (ha : ∀ d ∈ ds, kqdOk 8 d = true) (hu : A.units + 64 < cLine) (h : Q (.bool true) s) :
    wpAny (model prog w) A (compareOp .NotEq (.ref a) (.ref b)) Q E s := by
  refine kqd_ne H.news ma rfl rfl Da (fun _ h => h) mb rfl rfl DatAll.nil (fun _ h => h) ha (fun _ h => nomatch h) hu ?_
  have e : ds ≠ [] := by
    rintro rfl
    cases xs <;> cases Da
  rw [decide_eq_false e]
  exact h
open Classical in
theorem ne_nil0 {prog : Program} {w : World} {A : Around} {E : Value → Shared → Prop} {s : Shared} {a b : Addr} {olds : List (Addr × Obj)} {ka kb : Nat} {Q : Value → Shared → Prop}
    (H : Has s.heap olds) (ma : (a, listOf ([] : List Value).toArray ka) ∈ olds) (mb : (b, listOf ([] : List Value).toArray kb) ∈ olds) (hu : A.units + 64 < cLine) (h : Q (.bool false) s) :
    wpAny (model prog w) A (compareOp .NotEq (.ref a) (.ref b)) Q E s := by
  refine kqd_ne H.news ma rfl rfl DatAll.nil (fun _ h => h) mb rfl rfl DatAll.nil (fun _ h => h) (fun _ h => nomatch h) (fun _ h => nomatch h) hu ?_
  rw [decide_eq_true rfl]
  exact h
theorem sep_app {tl T news : List (Addr × Obj)} {d : Addr} {o : Obj} (h : ∀ q ∈ news, ∀ p ∈ tl, p.1 ≠ q.1) (hq : (d, o) ∈ news) (hT : ∀ p ∈ T, p.1 ≠ d) : ∀ p ∈ tl ++ T, p.1 ≠ d := fun p hp =>
  (List.mem_append.mp hp).elim (h _ hq p) (hT p)
theorem news_back3 {h₀ h : Heap} {L : Addr} {a b c : Addr × Obj} {tl T : List (Addr × Obj)} (N : News h₀ L h (tl ++ (a :: b :: c :: T))) : News h₀ L h (a :: b :: c :: (tl ++ T)) := fun p hp => N p (by
  simp only [List.mem_append, List.mem_cons] at hp ⊢
  rcases hp with h | h | h | h | h
  · exact .inr (.inl h)
  · exact .inr (.inr (.inl h))
  · exact .inr (.inr (.inr (.inl h)))
  · exact .inl h
  · exact .inr (.inr (.inr (.inr h))))
/-- into the body of a def whose blocks take some of its names -/
theorem enterCC {prog : Program} {w : World} {s : Shared} {K : Frag} {mean : ExcName → Option Value} {mg mb : Str → Option Value} {p : Program} {loose : List Str} {Q E : Value → Shared → Prop} {name qual : Str} {params : Arguments} {body : List Stmt} {scope : Scope} {dV kV doc pm cdv ct oc : Value} {an od : Option Addr} {osl : Array (Option Value)} {f : Addr} {args : List Value} {binds : List (Str × Value)}
    {dp un : Nat} {gd : Option (List Code)} {cn : Str} {cs : Scope} {a : Addr} {ccd : Value} {cl : List (Str × Addr)} {outer : List Env} {A₀ : Around} {base h₀ : Heap} {L : Addr} {m : Str → Option Value}
    (B : Below A₀ base outer h₀) (F : Fr h₀ L s.heap m) (X : K.In h₀) (T : Top p loose mean mg mb h₀) (hck : cs.kind = .function)
    (ho : K.lookup f = some ⟨oc, od, .func (fnOf name qual params body scope dV kV doc pm an cdv ct), osl⟩) (hcd : codeIn K cdv qual = true) (hroom : dp < recursionLimit)
    (hbind : BindsTo s (fnOf name qual params body scope dV kV doc pm an cdv ct) ⟨args, []⟩ binds) (hkind : (binds.all fun y => scope.names.lookup y.1 == some .local || scope.names.lookup y.1 == some .cell) = true)
    (hnd : ((cellsFrom 0 scope.names []).map (·.1)).Nodup)
    (h : ∀ L' h₁ tk cells, Fr s.heap L' h₁ (bindL (envOfC qual scope L' f cdv).kindOf binds fun _ => none) → News s.heap L' h₁ cells →
      CellsAre (bindC (envOfC qual scope L' f cdv).kindOf binds fun _ => none) (cellsFrom (L' + 1) scope.names []) cells → Below (ktrTop dp un gd cn cs L a ccd cl outer) base (envX cn cs L a ccd cl :: outer) s.heap → K.In s.heap → Top p loose mean mg mb s.heap →
      wpAny (model prog w) ((ktrTop dp un gd cn cs L a ccd cl outer).deeper (envOfC qual scope L' f cdv)) (execs body (envOfC qual scope L' f cdv))
        (fun fl s' => Q (match fl with | .ret v => v | _ => .none) s')
        (fun _ _ => False)
        { s with heap := h₁, toks := tk })
    (hco : scope.isCoroutine = false) (hgen : scope.isGenerator = false) (hk : scope.kind = .function) : wpAny (model prog w) (ktrTop dp un gd cn cs L a ccd cl outer) (call (.ref f) args) Q E s := by
  refine wpAny_call ?_
  have X' := X.keeps F.keep
  have T' := T.keeps F.keep
  have B₁ := pushX (env := envX cn cs L a ccd cl) B F rfl hck
  refine codeAny_call_function (fd := fnX name qual params body scope [] dV kV doc pm an cdv ct) hroom (X' _ _ ho) rfl hco hgen rfl (codeRec_of X' hcd) (hbind _ _ _ _ ?_)
  refine wpAny_newFunctionEnv_cells hk (kindsX hkind _) fun env' he s' x => ?_
  subst he
  refine ⟨T'.nolimit.keeps x.toInCall.keep, codeAny_func ?_⟩
  obtain ⟨h₁, tk, rfl, _⟩ := x.done
  have hk₁ := x.toInCall.keep
  obtain ⟨cells, NC, Y⟩ := Cl.news (h₀ := s.heap) (Nat.le_refl _) fun n c hm => ⟨x.cell n c (lookup_of_mem_nodup (cellsFrom_names scope.names 0 (s.heap.objs.size + 1) [] [] rfl ▸ hnd) hm), x.above n c hm⟩
  exact wpAny_mono (h s.heap.objs.size h₁ tk cells ⟨x.toInCall.ns, hk₁, Nat.le_refl _⟩ NC Y ⟨rfl, B₁.stays, B₁.frames⟩ X' T') (fun _ _ x => x) fun _ _ x => x.elim

/-- the same, with the names written out -/
theorem enterCC3 {prog : Program} {w : World} {s : Shared} {K : Frag} {mean : ExcName → Option Value} {mg mb : Str → Option Value} {p : Program} {loose : List Str} {Q E : Value → Shared → Prop} {name qual : Str} {params : Arguments} {body : List Stmt} {scope : Scope} {dV kV doc pm cdv ct oc : Value} {an od : Option Addr} {osl : Array (Option Value)} {f : Addr} {args : List Value}
    {dp un : Nat} {gd : Option (List Code)} {cn : Str} {cs : Scope} {a : Addr} {ccd : Value} {cl : List (Str × Addr)} {outer : List Env} {A₀ : Around} {base h₀ : Heap} {L : Addr} {m : Str → Option Value} (binds : List (Str × Value)) (m0 c0 : Str → Option Value)
    (B : Below A₀ base outer h₀) (F : Fr h₀ L s.heap m) (X : K.In h₀) (T : Top p loose mean mg mb h₀) (hck : cs.kind = .function)
    (ho : K.lookup f = some ⟨oc, od, .func (fnOf name qual params body scope dV kV doc pm an cdv ct), osl⟩) (hcd : codeIn K cdv qual = true) (hroom : dp < recursionLimit)
    (hbind : BindsTo s (fnOf name qual params body scope dV kV doc pm an cdv ct) ⟨args, []⟩ binds) (hkind : (binds.all fun y => scope.names.lookup y.1 == some .local || scope.names.lookup y.1 == some .cell) = true)
    (hnd : ((cellsFrom 0 scope.names []).map (·.1)).Nodup) (hm0 : bindL (fun x => scope.names.lookup x) binds (fun _ => none) = m0) (hc0 : bindC (fun x => scope.names.lookup x) binds (fun _ => none) = c0)
    (h : ∀ L' h₁ tk cells, Fr s.heap L' h₁ m0 → News s.heap L' h₁ cells →
      CellsAre c0 (cellsFrom (L' + 1) scope.names []) cells → Below (ktrTop dp un gd cn cs L a ccd cl outer) base (envX cn cs L a ccd cl :: outer) s.heap → K.In s.heap → Top p loose mean mg mb s.heap →
      wpAny (model prog w) ((ktrTop dp un gd cn cs L a ccd cl outer).deeper (envOfC qual scope L' f cdv)) (execs body (envOfC qual scope L' f cdv))
        (fun fl s' => Q (match fl with | .ret v => v | _ => .none) s')
        (fun _ _ => False)
        { s with heap := h₁, toks := tk })
    (hco : scope.isCoroutine = false) (hgen : scope.isGenerator = false) (hk : scope.kind = .function) : wpAny (model prog w) (ktrTop dp un gd cn cs L a ccd cl outer) (call (.ref f) args) Q E s :=
  enterCC B F X T hck ho hcd hroom hbind hkind hnd (fun L' h₁ tk cells F' N' Y' => h L' h₁ tk cells (hm0 ▸ F') N' (hc0 ▸ Y')) hco hgen hk
def Bd (n : Nat) (x : Int) : Prop := x.natAbs < 2 ^ n
theorem Bd.le {n k : Nat} {x : Int} (h : Bd n x) (hk : n ≤ k) : Bd k x := Nat.lt_of_lt_of_le h (Nat.pow_le_pow_right (by decide) hk)
theorem Bd.add {n k : Nat} {x y : Int} (h : Bd n x) (g : Bd k y) : Bd (max n k + 1) (x + y) := by
  have h1 := h.le (Nat.le_max_left n k)
  have h2 := g.le (Nat.le_max_right n k)
  unfold Bd at *
  rw [Nat.pow_succ]
  omega
theorem Bd.sub {n k : Nat} {x y : Int} (h : Bd n x) (g : Bd k y) : Bd (max n k + 1) (x - y) := by
  have h1 := h.le (Nat.le_max_left n k)
  have h2 := g.le (Nat.le_max_right n k)
  unfold Bd at *
  rw [Nat.pow_succ]
  omega
theorem Bd.mul {n k : Nat} {x y : Int} (h : Bd n x) (g : Bd k y) : Bd (n + k) (x * y) := by
  unfold Bd at *
  rw [Int.natAbs_mul, Nat.pow_add]
  exact Nat.mul_lt_mul'' h g
theorem Bd.sq {n : Nat} {x : Int} (h : Bd n x) : Bd (n + n) (x ^ Int.toNat 2) := by
  have e : x ^ Int.toNat 2 = x * x := by show x ^ 2 = _; rw [Int.pow_succ, Int.pow_succ, Int.pow_zero, Int.one_mul]
  rw [e]
  exact h.mul h
theorem Bd.cube {n : Nat} {x : Int} (h : Bd n x) : Bd (n + n + n) (x ^ Int.toNat 3) := by
  have e : x ^ Int.toNat 3 = x * x * x := by show x ^ 3 = _; rw [Int.pow_succ, Int.pow_succ, Int.pow_succ, Int.pow_zero, Int.one_mul]
  rw [e]
  exact (h.mul h).mul h
theorem Bd.of {n : Nat} {x : Int} (h : -(2 ^ n : Int) < x ∧ x < 2 ^ n) : Bd n x := by
  unfold Bd
  have e : ((2 ^ n : Nat) : Int) = (2 : Int) ^ n := by simp
  omega
theorem Bd.ite {n k : Nat} {c : Prop} [Decidable c] {x y : Int} (h : Bd n x) (g : Bd k y) : Bd (max n k) (if c then x else y) := by
  split
  · exact h.le (Nat.le_max_left n k)
  · exact g.le (Nat.le_max_right n k)
theorem Bd.neg {n : Nat} {x : Int} (h : Bd n x) : Bd n (-x) := by
  unfold Bd at *
  rw [Int.natAbs_neg]
  exact h
theorem Bd.lt64 {n : Nat} {x : Int} (h : Bd n x) (hn : n ≤ 64) : x.natAbs < 2 ^ 64 := h.le hn
theorem bd_mulL {n : Nat} {x y : Int} (h : Bd n x) (hn : n ≤ 64) : IntMulOk x y := .of_left (intBits_le (h.lt64 hn))

/-- a block over a range with a step -/
def StepSrc (prog : Program) (w : World) (A : Around) (h₀ : Heap) (L : Addr) (m : Str → Option Value) (env : Env) (elt : Expr) (x : Str) (scope : Scope) (cl : List (Str × Addr)) (Fin : Shared → List Value → List (Addr × Obj) → Prop) (xv : Value) (s₁ : Shared) : Prop :=
  ∃ r a b c t u v n news, xv = .ref r ∧ A.handled = none ∧ Fr h₀ L s₁.heap m ∧ News h₀ L s₁.heap news ∧ IsRange s₁.heap r a b c t u v ∧ Builtin.Range.small a b c = true ∧ Builtin.Range.rangeSize a b c = ((n : Nat) : Int) ∧ n ≤ sizeLine ∧
    ∀ s₂ : Shared, (∃ h, s₂ = { s₁ with heap := h }) → LCg.CompRest prog w A h₀ L m env elt x scope cl s₂ (fun _ => True) (fun i v => ∃ t, v = .int (a + (i : Int) * c) t) (Fin s₂) n 0 [] news
theorem StepSrc.mk {prog : Program} {w : World} {A : Around} {h₀ : Heap} {L : Addr} {m : Str → Option Value} {env : Env} {elt : Expr} {x : Str} {scope : Scope} {cl : List (Str × Addr)} {Fin : Shared → List Value → List (Addr × Obj) → Prop} {r : Addr} {a b c : Int} {t u v : Tok} (n : Nat) {news : List (Addr × Obj)} {s₁ : Shared}
    (hh : A.handled = none) (F : Fr h₀ L s₁.heap m) (N : News h₀ L s₁.heap news) (hr : IsRange s₁.heap r a b c t u v) (hsm : Builtin.Range.small a b c = true) (hn : Builtin.Range.rangeSize a b c = ((n : Nat) : Int)) (hsz : n ≤ sizeLine)
    (h : ∀ g, LCg.CompRest prog w A h₀ L m env elt x scope cl { s₁ with heap := g } (fun _ => True) (fun i v => ∃ t, v = .int (a + (i : Int) * c) t) (Fin { s₁ with heap := g }) n 0 [] news) :
    StepSrc prog w A h₀ L m env elt x scope cl Fin (.ref r) s₁ := ⟨r, a, b, c, t, u, v, n, news, rfl, hh, F, N, hr, hsm, hn, hsz, fun _ ⟨g, e⟩ => e ▸ h g⟩
theorem ListComp_step {prog : Program} {w : World} {A : Around} {E : Value → Shared → Prop} {s : Shared} {h₀ : Heap} {L : Addr} {m : Str → Option Value} {env : Env} {elt iter : Expr} {x : Str} {px : Pos} {scope : Scope} {cl : List (Str × Addr)} {pos : Pos} {Q : Value → Shared → Prop} (_F₀ : Fr h₀ L s.heap m)
    (hclos : closureFor scope env = pure cl) (hcell : ∀ y ∈ scope.names, y.2 ≠ .cell) (hkind : scope.kind = .function)
    (hnames : ∀ y ∈ scope.names, y.2 = .local → scope.names.lookup y.1 = some .local) (hx : scope.names.lookup x = some .local)
    (h : wpAny (model prog w) A (eval iter env) (StepSrc prog w A h₀ L m env elt x scope cl (fun s₂ => LCg.FinE h₀ L m s₂ Q)) E s)
    (hs : ∀ x, foldedSetIterable iter env x = pure x := by intro _; rfl) :
    wpAny (model prog w) A (eval (.ListComp elt [⟨.Name x px, iter, [], 0⟩] scope pos) env) Q E s := by
  rw [eval_ListComp]
  refine wpAny_comprehension_free (use := none) rfl hs hclos hkind hnames (wpAny_mono h (fun xv s₁ h₁ => ?_) fun _ _ e => e)
  obtain ⟨r, a, b, c, t, u, v, n, news, rfl, hh, F, N, hr, hsm, hn, hsz, R⟩ := h₁
  refine wpAny_pyIter_range hr hsm ?_
  refine LCg.block_U (Walks.range hh _ a c n) hsz (fun i h st => ⟨_, st⟩) (fun i h h' o nw st e e' _ _ _ => by
      have st' : h.get? _ = some _ := st
      show h'.get? _ = some _
      rw [e', ← e]; exact st') hcell hkind hx (by show IsRangeIter _ _ _ _ _; rw [hn]; simpa using Heap.get?_push_size _ rfl) (fun b hb => ?_)
    (F.keeps fun _ _ e => Heap.get?_push_of_some _ e) (N.grown fun _ _ e => Heap.get?_push_of_some _ e) (Nat.ne_of_lt F.ns.lt) (next_is_new F) (fun p hp => Nat.ne_of_lt (Heap.lt_size (N p hp).1)) trivial (R _ ⟨_, rfl⟩) ?_
  · rw [List.mem_singleton.mp hb]
    show s₁.heap.objs.size < (s₁.heap.push _).objs.size
    rw [Heap.size_push]; exact Nat.lt_succ_self _
  · intro D C h tk m' ys news' F' N' o1 hn hC₀ hD₀ hCL hDL hCD offC fin
    refine ⟨m', hn, fun h'' hs'' => fin D h'' tk (F'.change hs'' hCL hC₀) (fun p hp => ?_) o1⟩
    refine ⟨hs''.extBut _ _ ?_ (N' p hp).1, (N' p hp).2⟩
    rcases List.mem_cons.mp hp with rfl | hp
    · exact Ne.symm hCD
    · exact offC p hp

/-- a block with a test over things of any number, by what holds after i turns; what a turn makes besides is dropped -/
theorem compRestT_ind {prog : Program} {w : World} {A : Around} {h₀ : Heap} {L : Addr} {m : Str → Option Value} {env : Env} {ct elt : Expr} {x : Str} {scope : Scope} {cl : List (Str × Addr)} {s : Shared} {S : List (Addr × Obj) → Prop} {P : Nat → Value → Prop} {Fin : List Value → List (Addr × Obj) → Prop} {news : List (Addr × Obj)}
    (Inv : Nat → List Value → Prop) (n : Nat) (fin : ∀ ys, Inv n ys → Fin ys news)
    (step : ∀ i ys (R : List Value → List (Addr × Obj) → Prop), i < n → Inv i ys → (∀ ys', Inv (i + 1) ys' → R ys' news) → ∀ v I oI C oC D m₂ h tk (E' : Value → Shared → Prop), P i v → LCg.NsObj oC m₂ → m₂ x = some v → Fr h₀ L h m → News h₀ L h ((I, oI) :: (C, oC) :: (D, LCg.lst ys) :: news) → LCg.Off3 I C D news → ((@Ne Nat I C) ∧ (@Ne Nat I D) ∧ (@Ne Nat C D)) →
      wpAny (model prog w) A (isTrue ct (compEnvC scope cl C env) (eval ct (compEnvC scope cl C env))) (fun ok s' => if ok = true then
        wpAny (model prog w) A (eval elt (compEnvC scope cl C env)) (LCg.CompEnd h₀ L m { s with heap := h, toks := tk } I oI C oC D (LCg.lst ys) S (fun y news' => R (ys ++ [y]) news')) E' s'
        else LCg.CompEnd h₀ L m { s with heap := h, toks := tk } I oI C oC D (LCg.lst ys) S (fun _ news' => R ys news') Value.none s') E' { s with heap := h, toks := tk }) :
    ∀ k i ys, i + k = n → Inv i ys → LCt.CompRestT prog w A h₀ L m env ct elt x scope cl s S P Fin k i ys news := by
  intro k
  induction k with
  | zero => intro i ys e hi; exact LCt.CompRestT.zero (fin ys ((show i = n from e) ▸ hi))
  | succ k ih =>
    intro i ys e hi
    refine LCt.CompRestT.succ fun v I oI C oC D m₂ h tk E' hv hC hx F N off ne => ?_
    exact step i ys (fun ys' news' => LCt.CompRestT prog w A h₀ L m env ct elt x scope cl s S P Fin k (i + 1) ys' news') (by omega) hi (fun ys' h' => ih (i + 1) ys' (by omega) h') v I oI C oC D m₂ h tk E' hv hC hx F N off ne
theorem compRest_ind {prog : Program} {w : World} {A : Around} {h₀ : Heap} {L : Addr} {m : Str → Option Value} {env : Env} {elt : Expr} {x : Str} {scope : Scope} {cl : List (Str × Addr)} {s : Shared} {S : List (Addr × Obj) → Prop} {P : Nat → Value → Prop} {Fin : List Value → List (Addr × Obj) → Prop}
    (Inv : Nat → List Value → List (Addr × Obj) → Prop) (n : Nat) (fin : ∀ ys news, Inv n ys news → Fin ys news)
    (step : ∀ i ys news (R : List Value → List (Addr × Obj) → Prop), i < n → Inv i ys news → (∀ ys' news', Inv (i + 1) ys' news' → R ys' news') → ∀ v I oI C oC D m₂ h tk (E' : Value → Shared → Prop), P i v → LCg.NsObj oC m₂ → m₂ x = some v → Fr h₀ L h m → News h₀ L h ((I, oI) :: (C, oC) :: (D, LCg.lst ys) :: news) → LCg.Off3 I C D news → ((@Ne Nat I C) ∧ (@Ne Nat I D) ∧ (@Ne Nat C D)) →
      wpAny (model prog w) A (eval elt (compEnvC scope cl C env)) (LCg.CompEnd h₀ L m { s with heap := h, toks := tk } I oI C oC D (LCg.lst ys) S (fun y news' => R (ys ++ [y]) news')) E' { s with heap := h, toks := tk }) :
    ∀ k i ys news, i + k = n → Inv i ys news → LCg.CompRest prog w A h₀ L m env elt x scope cl s S P Fin k i ys news := by
  intro k
  induction k with
  | zero => intro i ys news e hi; exact LCg.CompRest.zero (fin ys news ((show i = n from e) ▸ hi))
  | succ k ih =>
    intro i ys news e hi
    refine LCg.CompRest.succ fun v I oI C oC D m₂ h tk E' hv hC hx F N off ne => ?_
    exact step i ys news (fun ys' news' => LCg.CompRest prog w A h₀ L m env elt x scope cl s S P Fin k (i + 1) ys' news') (by omega) hi (fun ys' news' h' => ih (i + 1) ys' news' (by omega) h') v I oI C oC D m₂ h tk E' hv hC hx F N off ne
theorem rangeSize_nat (n : Nat) : Builtin.Range.rangeSize 0 (n : Int) 1 = (n : Int) := by
  unfold Builtin.Range.rangeSize
  rw [if_pos (by decide)]
  split
  · rw [Int.ediv_one]; omega
  · omega
theorem filter_range_succ (f : Nat → Bool) (i : Nat) : ((List.range (i + 1)).filter f).map Int.ofNat = if f i then ((List.range i).filter f).map Int.ofNat ++ [(i : Int)] else ((List.range i).filter f).map Int.ofNat := by
  rw [List.range_succ, List.filter_append, List.map_append]
  cases h : f i <;> simp [h]
theorem intsAre_snoc {ys : List Value} {ns : List Int} (h : IntsAre ys ns) (i : Int) (t : Tok) : IntsAre (ys ++ [.int i t]) (ns ++ [i]) := by
  induction h with
  | nil => exact .cons i t .nil
  | cons a b r ih => exact .cons a b ih
/-- the count of tokens let go -/
theorem forget_toks {M : Model} {A : Around} {α : Type} {t : Sem α} {Q : α → Shared → Prop} {E : Value → Shared → Prop} {s : Shared} {h : Heap} {n : Nat} (H : ∀ tk, wpAny M A t Q E { s with heap := h, toks := tk }) : wpAny M A t Q E { s with heap := h, toks := n } := H n
/-- the map of a frame, to be named -/
abbrev mapOf {h₀ h : Heap} {L : Addr} {m : Str → Option Value} (_ : Fr h₀ L h m) : Str → Option Value := m
/-- a thing at which P fails if it fails at all: what is said of all is shown of this one, and a walk's terms stay closed -/
@[irreducible] noncomputable def cx {α : Type u} (i : Nonempty α) (p : α → Prop) : α := @Classical.epsilon α i (fun x => ¬ p x)
theorem cx_intro {α : Type u} {p : α → Prop} (i : Nonempty α) (h : p (cx i p)) : ∀ x, p x := fun x => Classical.byContradiction fun hx => by
  unfold cx at h
  exact absurd h (@Classical.epsilon_spec α (fun x => ¬ p x) ⟨x, hx⟩)
theorem inh_p {α : Type u} {β : Type v} (i : Nonempty α) (j : Nonempty β) : Nonempty (α × β) := i.elim fun a => j.elim fun b => ⟨(a, b)⟩
theorem cx_intro2 {α β : Type} {p : α → β → Prop} (i0 : Nonempty α) (i1 : Nonempty β) (h : p (cx (inh_p i0 i1) fun x => p x.1 x.2).1 (cx (inh_p i0 i1) fun x => p x.1 x.2).2) : ∀ a0 a1, p a0 a1 :=
  fun a0 a1 => cx_intro (p := fun x => p x.1 x.2) (inh_p i0 i1) h (a0, a1)
theorem cx_intro3 {α β γ : Type} {p : α → β → γ → Prop} (i0 : Nonempty α) (i1 : Nonempty β) (i2 : Nonempty γ) (h : p (cx (inh_p i0 (inh_p i1 i2)) fun x => p x.1 x.2.1 x.2.2).1 (cx (inh_p i0 (inh_p i1 i2)) fun x => p x.1 x.2.1 x.2.2).2.1 (cx (inh_p i0 (inh_p i1 i2)) fun x => p x.1 x.2.1 x.2.2).2.2) : ∀ a0 a1 a2, p a0 a1 a2 :=
  fun a0 a1 a2 => cx_intro (p := fun x => p x.1 x.2.1 x.2.2) (inh_p i0 (inh_p i1 i2)) h (a0, a1, a2)
theorem cx_intro4 {α β γ δ : Type} {p : α → β → γ → δ → Prop} (i0 : Nonempty α) (i1 : Nonempty β) (i2 : Nonempty γ) (i3 : Nonempty δ) (h : p (cx (inh_p i0 (inh_p i1 (inh_p i2 i3))) fun x => p x.1 x.2.1 x.2.2.1 x.2.2.2).1 (cx (inh_p i0 (inh_p i1 (inh_p i2 i3))) fun x => p x.1 x.2.1 x.2.2.1 x.2.2.2).2.1 (cx (inh_p i0 (inh_p i1 (inh_p i2 i3))) fun x => p x.1 x.2.1 x.2.2.1 x.2.2.2).2.2.1 (cx (inh_p i0 (inh_p i1 (inh_p i2 i3))) fun x => p x.1 x.2.1 x.2.2.1 x.2.2.2).2.2.2) : ∀ a0 a1 a2 a3, p a0 a1 a2 a3 :=
  fun a0 a1 a2 a3 => cx_intro (p := fun x => p x.1 x.2.1 x.2.2.1 x.2.2.2) (inh_p i0 (inh_p i1 (inh_p i2 i3))) h (a0, a1, a2, a3)
theorem cx_intro5 {α β γ δ ε : Type} {p : α → β → γ → δ → ε → Prop} (i0 : Nonempty α) (i1 : Nonempty β) (i2 : Nonempty γ) (i3 : Nonempty δ) (i4 : Nonempty ε) (h : p (cx (inh_p i0 (inh_p i1 (inh_p i2 (inh_p i3 i4)))) fun x => p x.1 x.2.1 x.2.2.1 x.2.2.2.1 x.2.2.2.2).1 (cx (inh_p i0 (inh_p i1 (inh_p i2 (inh_p i3 i4)))) fun x => p x.1 x.2.1 x.2.2.1 x.2.2.2.1 x.2.2.2.2).2.1 (cx (inh_p i0 (inh_p i1 (inh_p i2 (inh_p i3 i4)))) fun x => p x.1 x.2.1 x.2.2.1 x.2.2.2.1 x.2.2.2.2).2.2.1 (cx (inh_p i0 (inh_p i1 (inh_p i2 (inh_p i3 i4)))) fun x => p x.1 x.2.1 x.2.2.1 x.2.2.2.1 x.2.2.2.2).2.2.2.1 (cx (inh_p i0 (inh_p i1 (inh_p i2 (inh_p i3 i4)))) fun x => p x.1 x.2.1 x.2.2.1 x.2.2.2.1 x.2.2.2.2).2.2.2.2) : ∀ a0 a1 a2 a3 a4, p a0 a1 a2 a3 a4 :=
  fun a0 a1 a2 a3 a4 => cx_intro (p := fun x => p x.1 x.2.1 x.2.2.1 x.2.2.2.1 x.2.2.2.2) (inh_p i0 (inh_p i1 (inh_p i2 (inh_p i3 i4)))) h (a0, a1, a2, a3, a4)
theorem cx_intro6 {α β γ δ ε ζ : Type} {p : α → β → γ → δ → ε → ζ → Prop} (i0 : Nonempty α) (i1 : Nonempty β) (i2 : Nonempty γ) (i3 : Nonempty δ) (i4 : Nonempty ε) (i5 : Nonempty ζ) (h : p (cx (inh_p i0 (inh_p i1 (inh_p i2 (inh_p i3 (inh_p i4 i5))))) fun x => p x.1 x.2.1 x.2.2.1 x.2.2.2.1 x.2.2.2.2.1 x.2.2.2.2.2).1 (cx (inh_p i0 (inh_p i1 (inh_p i2 (inh_p i3 (inh_p i4 i5))))) fun x => p x.1 x.2.1 x.2.2.1 x.2.2.2.1 x.2.2.2.2.1 x.2.2.2.2.2).2.1 (cx (inh_p i0 (inh_p i1 (inh_p i2 (inh_p i3 (inh_p i4 i5))))) fun x => p x.1 x.2.1 x.2.2.1 x.2.2.2.1 x.2.2.2.2.1 x.2.2.2.2.2).2.2.1 (cx (inh_p i0 (inh_p i1 (inh_p i2 (inh_p i3 (inh_p i4 i5))))) fun x => p x.1 x.2.1 x.2.2.1 x.2.2.2.1 x.2.2.2.2.1 x.2.2.2.2.2).2.2.2.1 (cx (inh_p i0 (inh_p i1 (inh_p i2 (inh_p i3 (inh_p i4 i5))))) fun x => p x.1 x.2.1 x.2.2.1 x.2.2.2.1 x.2.2.2.2.1 x.2.2.2.2.2).2.2.2.2.1 (cx (inh_p i0 (inh_p i1 (inh_p i2 (inh_p i3 (inh_p i4 i5))))) fun x => p x.1 x.2.1 x.2.2.1 x.2.2.2.1 x.2.2.2.2.1 x.2.2.2.2.2).2.2.2.2.2) : ∀ a0 a1 a2 a3 a4 a5, p a0 a1 a2 a3 a4 a5 :=
  fun a0 a1 a2 a3 a4 a5 => cx_intro (p := fun x => p x.1 x.2.1 x.2.2.1 x.2.2.2.1 x.2.2.2.2.1 x.2.2.2.2.2) (inh_p i0 (inh_p i1 (inh_p i2 (inh_p i3 (inh_p i4 i5))))) h (a0, a1, a2, a3, a4, a5)
theorem cx_intro10 {α β γ δ ε ζ η ι κ μ : Type} {p : α → β → γ → δ → ε → ζ → η → ι → κ → μ → Prop} (i0 : Nonempty α) (i1 : Nonempty β) (i2 : Nonempty γ) (i3 : Nonempty δ) (i4 : Nonempty ε) (i5 : Nonempty ζ) (i6 : Nonempty η) (i7 : Nonempty ι) (i8 : Nonempty κ) (i9 : Nonempty μ) (h : p (cx (inh_p i0 (inh_p i1 (inh_p i2 (inh_p i3 (inh_p i4 (inh_p i5 (inh_p i6 (inh_p i7 (inh_p i8 i9))))))))) fun x => p x.1 x.2.1 x.2.2.1 x.2.2.2.1 x.2.2.2.2.1 x.2.2.2.2.2.1 x.2.2.2.2.2.2.1 x.2.2.2.2.2.2.2.1 x.2.2.2.2.2.2.2.2.1 x.2.2.2.2.2.2.2.2.2).1 (cx (inh_p i0 (inh_p i1 (inh_p i2 (inh_p i3 (inh_p i4 (inh_p i5 (inh_p i6 (inh_p i7 (inh_p i8 i9))))))))) fun x => p x.1 x.2.1 x.2.2.1 x.2.2.2.1 x.2.2.2.2.1 x.2.2.2.2.2.1 x.2.2.2.2.2.2.1 x.2.2.2.2.2.2.2.1 x.2.2.2.2.2.2.2.2.1 x.2.2.2.2.2.2.2.2.2).2.1 (cx (inh_p i0 (inh_p i1 (inh_p i2 (inh_p i3 (inh_p i4 (inh_p i5 (inh_p i6 (inh_p i7 (inh_p i8 i9))))))))) fun x => p x.1 x.2.1 x.2.2.1 x.2.2.2.1 x.2.2.2.2.1 x.2.2.2.2.2.1 x.2.2.2.2.2.2.1 x.2.2.2.2.2.2.2.1 x.2.2.2.2.2.2.2.2.1 x.2.2.2.2.2.2.2.2.2).2.2.1 (cx (inh_p i0 (inh_p i1 (inh_p i2 (inh_p i3 (inh_p i4 (inh_p i5 (inh_p i6 (inh_p i7 (inh_p i8 i9))))))))) fun x => p x.1 x.2.1 x.2.2.1 x.2.2.2.1 x.2.2.2.2.1 x.2.2.2.2.2.1 x.2.2.2.2.2.2.1 x.2.2.2.2.2.2.2.1 x.2.2.2.2.2.2.2.2.1 x.2.2.2.2.2.2.2.2.2).2.2.2.1 (cx (inh_p i0 (inh_p i1 (inh_p i2 (inh_p i3 (inh_p i4 (inh_p i5 (inh_p i6 (inh_p i7 (inh_p i8 i9))))))))) fun x => p x.1 x.2.1 x.2.2.1 x.2.2.2.1 x.2.2.2.2.1 x.2.2.2.2.2.1 x.2.2.2.2.2.2.1 x.2.2.2.2.2.2.2.1 x.2.2.2.2.2.2.2.2.1 x.2.2.2.2.2.2.2.2.2).2.2.2.2.1 (cx (inh_p i0 (inh_p i1 (inh_p i2 (inh_p i3 (inh_p i4 (inh_p i5 (inh_p i6 (inh_p i7 (inh_p i8 i9))))))))) fun x => p x.1 x.2.1 x.2.2.1 x.2.2.2.1 x.2.2.2.2.1 x.2.2.2.2.2.1 x.2.2.2.2.2.2.1 x.2.2.2.2.2.2.2.1 x.2.2.2.2.2.2.2.2.1 x.2.2.2.2.2.2.2.2.2).2.2.2.2.2.1 (cx (inh_p i0 (inh_p i1 (inh_p i2 (inh_p i3 (inh_p i4 (inh_p i5 (inh_p i6 (inh_p i7 (inh_p i8 i9))))))))) fun x => p x.1 x.2.1 x.2.2.1 x.2.2.2.1 x.2.2.2.2.1 x.2.2.2.2.2.1 x.2.2.2.2.2.2.1 x.2.2.2.2.2.2.2.1 x.2.2.2.2.2.2.2.2.1 x.2.2.2.2.2.2.2.2.2).2.2.2.2.2.2.1 (cx (inh_p i0 (inh_p i1 (inh_p i2 (inh_p i3 (inh_p i4 (inh_p i5 (inh_p i6 (inh_p i7 (inh_p i8 i9))))))))) fun x => p x.1 x.2.1 x.2.2.1 x.2.2.2.1 x.2.2.2.2.1 x.2.2.2.2.2.1 x.2.2.2.2.2.2.1 x.2.2.2.2.2.2.2.1 x.2.2.2.2.2.2.2.2.1 x.2.2.2.2.2.2.2.2.2).2.2.2.2.2.2.2.1 (cx (inh_p i0 (inh_p i1 (inh_p i2 (inh_p i3 (inh_p i4 (inh_p i5 (inh_p i6 (inh_p i7 (inh_p i8 i9))))))))) fun x => p x.1 x.2.1 x.2.2.1 x.2.2.2.1 x.2.2.2.2.1 x.2.2.2.2.2.1 x.2.2.2.2.2.2.1 x.2.2.2.2.2.2.2.1 x.2.2.2.2.2.2.2.2.1 x.2.2.2.2.2.2.2.2.2).2.2.2.2.2.2.2.2.1 (cx (inh_p i0 (inh_p i1 (inh_p i2 (inh_p i3 (inh_p i4 (inh_p i5 (inh_p i6 (inh_p i7 (inh_p i8 i9))))))))) fun x => p x.1 x.2.1 x.2.2.1 x.2.2.2.1 x.2.2.2.2.1 x.2.2.2.2.2.1 x.2.2.2.2.2.2.1 x.2.2.2.2.2.2.2.1 x.2.2.2.2.2.2.2.2.1 x.2.2.2.2.2.2.2.2.2).2.2.2.2.2.2.2.2.2) : ∀ a0 a1 a2 a3 a4 a5 a6 a7 a8 a9, p a0 a1 a2 a3 a4 a5 a6 a7 a8 a9 :=
  fun a0 a1 a2 a3 a4 a5 a6 a7 a8 a9 => cx_intro (p := fun x => p x.1 x.2.1 x.2.2.1 x.2.2.2.1 x.2.2.2.2.1 x.2.2.2.2.2.1 x.2.2.2.2.2.2.1 x.2.2.2.2.2.2.2.1 x.2.2.2.2.2.2.2.2.1 x.2.2.2.2.2.2.2.2.2) (inh_p i0 (inh_p i1 (inh_p i2 (inh_p i3 (inh_p i4 (inh_p i5 (inh_p i6 (inh_p i7 (inh_p i8 i9))))))))) h (a0, a1, a2, a3, a4, a5, a6, a7, a8, a9)
theorem cx_all20 {α0 α1 α2 α3 α4 α5 α6 α7 α8 α9 α10 α11 α12 α13 α14 α15 α16 α17 α18 α19 : Type} {p : α0 → α1 → α2 → α3 → α4 → α5 → α6 → α7 → α8 → α9 → α10 → α11 → α12 → α13 → α14 → α15 → α16 → α17 → α18 → α19 → Prop} (i : Nonempty (α0 × α1 × α2 × α3 × α4 × α5 × α6 × α7 × α8 × α9 × α10 × α11 × α12 × α13 × α14 × α15 × α16 × α17 × α18 × α19)) (h : p (cx i fun x => p x.1 x.2.1 x.2.2.1 x.2.2.2.1 x.2.2.2.2.1 x.2.2.2.2.2.1 x.2.2.2.2.2.2.1 x.2.2.2.2.2.2.2.1 x.2.2.2.2.2.2.2.2.1 x.2.2.2.2.2.2.2.2.2.1 x.2.2.2.2.2.2.2.2.2.2.1 x.2.2.2.2.2.2.2.2.2.2.2.1 x.2.2.2.2.2.2.2.2.2.2.2.2.1 x.2.2.2.2.2.2.2.2.2.2.2.2.2.1 x.2.2.2.2.2.2.2.2.2.2.2.2.2.2.1 x.2.2.2.2.2.2.2.2.2.2.2.2.2.2.2.1 x.2.2.2.2.2.2.2.2.2.2.2.2.2.2.2.2.1 x.2.2.2.2.2.2.2.2.2.2.2.2.2.2.2.2.2.1 x.2.2.2.2.2.2.2.2.2.2.2.2.2.2.2.2.2.2.1 x.2.2.2.2.2.2.2.2.2.2.2.2.2.2.2.2.2.2.2).1 (cx i fun x => p x.1 x.2.1 x.2.2.1 x.2.2.2.1 x.2.2.2.2.1 x.2.2.2.2.2.1 x.2.2.2.2.2.2.1 x.2.2.2.2.2.2.2.1 x.2.2.2.2.2.2.2.2.1 x.2.2.2.2.2.2.2.2.2.1 x.2.2.2.2.2.2.2.2.2.2.1 x.2.2.2.2.2.2.2.2.2.2.2.1 x.2.2.2.2.2.2.2.2.2.2.2.2.1 x.2.2.2.2.2.2.2.2.2.2.2.2.2.1 x.2.2.2.2.2.2.2.2.2.2.2.2.2.2.1 x.2.2.2.2.2.2.2.2.2.2.2.2.2.2.2.1 x.2.2.2.2.2.2.2.2.2.2.2.2.2.2.2.2.1 x.2.2.2.2.2.2.2.2.2.2.2.2.2.2.2.2.2.1 x.2.2.2.2.2.2.2.2.2.2.2.2.2.2.2.2.2.2.1 x.2.2.2.2.2.2.2.2.2.2.2.2.2.2.2.2.2.2.2).2.1 (cx i fun x => p x.1 x.2.1 x.2.2.1 x.2.2.2.1 x.2.2.2.2.1 x.2.2.2.2.2.1 x.2.2.2.2.2.2.1 x.2.2.2.2.2.2.2.1 x.2.2.2.2.2.2.2.2.1 x.2.2.2.2.2.2.2.2.2.1 x.2.2.2.2.2.2.2.2.2.2.1 x.2.2.2.2.2.2.2.2.2.2.2.1 x.2.2.2.2.2.2.2.2.2.2.2.2.1 x.2.2.2.2.2.2.2.2.2.2.2.2.2.1 x.2.2.2.2.2.2.2.2.2.2.2.2.2.2.1 x.2.2.2.2.2.2.2.2.2.2.2.2.2.2.2.1 x.2.2.2.2.2.2.2.2.2.2.2.2.2.2.2.2.1 x.2.2.2.2.2.2.2.2.2.2.2.2.2.2.2.2.2.1 x.2.2.2.2.2.2.2.2.2.2.2.2.2.2.2.2.2.2.1 x.2.2.2.2.2.2.2.2.2.2.2.2.2.2.2.2.2.2.2).2.2.1 (cx i fun x => p x.1 x.2.1 x.2.2.1 x.2.2.2.1 x.2.2.2.2.1 x.2.2.2.2.2.1 x.2.2.2.2.2.2.1 x.2.2.2.2.2.2.2.1 x.2.2.2.2.2.2.2.2.1 x.2.2.2.2.2.2.2.2.2.1 x.2.2.2.2.2.2.2.2.2.2.1 x.2.2.2.2.2.2.2.2.2.2.2.1 x.2.2.2.2.2.2.2.2.2.2.2.2.1 x.2.2.2.2.2.2.2.2.2.2.2.2.2.1 x.2.2.2.2.2.2.2.2.2.2.2.2.2.2.1 x.2.2.2.2.2.2.2.2.2.2.2.2.2.2.2.1 x.2.2.2.2.2.2.2.2.2.2.2.2.2.2.2.2.1 x.2.2.2.2.2.2.2.2.2.2.2.2.2.2.2.2.2.1 x.2.2.2.2.2.2.2.2.2.2.2.2.2.2.2.2.2.2.1 x.2.2.2.2.2.2.2.2.2.2.2.2.2.2.2.2.2.2.2).2.2.2.1 (cx i fun x => p x.1 x.2.1 x.2.2.1 x.2.2.2.1 x.2.2.2.2.1 x.2.2.2.2.2.1 x.2.2.2.2.2.2.1 x.2.2.2.2.2.2.2.1 x.2.2.2.2.2.2.2.2.1 x.2.2.2.2.2.2.2.2.2.1 x.2.2.2.2.2.2.2.2.2.2.1 x.2.2.2.2.2.2.2.2.2.2.2.1 x.2.2.2.2.2.2.2.2.2.2.2.2.1 x.2.2.2.2.2.2.2.2.2.2.2.2.2.1 x.2.2.2.2.2.2.2.2.2.2.2.2.2.2.1 x.2.2.2.2.2.2.2.2.2.2.2.2.2.2.2.1 x.2.2.2.2.2.2.2.2.2.2.2.2.2.2.2.2.1 x.2.2.2.2.2.2.2.2.2.2.2.2.2.2.2.2.2.1 x.2.2.2.2.2.2.2.2.2.2.2.2.2.2.2.2.2.2.1 x.2.2.2.2.2.2.2.2.2.2.2.2.2.2.2.2.2.2.2).2.2.2.2.1 (cx i fun x => p x.1 x.2.1 x.2.2.1 x.2.2.2.1 x.2.2.2.2.1 x.2.2.2.2.2.1 x.2.2.2.2.2.2.1 x.2.2.2.2.2.2.2.1 x.2.2.2.2.2.2.2.2.1 x.2.2.2.2.2.2.2.2.2.1 x.2.2.2.2.2.2.2.2.2.2.1 x.2.2.2.2.2.2.2.2.2.2.2.1 x.2.2.2.2.2.2.2.2.2.2.2.2.1 x.2.2.2.2.2.2.2.2.2.2.2.2.2.1 x.2.2.2.2.2.2.2.2.2.2.2.2.2.2.1 x.2.2.2.2.2.2.2.2.2.2.2.2.2.2.2.1 x.2.2.2.2.2.2.2.2.2.2.2.2.2.2.2.2.1 x.2.2.2.2.2.2.2.2.2.2.2.2.2.2.2.2.2.1 x.2.2.2.2.2.2.2.2.2.2.2.2.2.2.2.2.2.2.1 x.2.2.2.2.2.2.2.2.2.2.2.2.2.2.2.2.2.2.2).2.2.2.2.2.1 (cx i fun x => p x.1 x.2.1 x.2.2.1 x.2.2.2.1 x.2.2.2.2.1 x.2.2.2.2.2.1 x.2.2.2.2.2.2.1 x.2.2.2.2.2.2.2.1 x.2.2.2.2.2.2.2.2.1 x.2.2.2.2.2.2.2.2.2.1 x.2.2.2.2.2.2.2.2.2.2.1 x.2.2.2.2.2.2.2.2.2.2.2.1 x.2.2.2.2.2.2.2.2.2.2.2.2.1 x.2.2.2.2.2.2.2.2.2.2.2.2.2.1 x.2.2.2.2.2.2.2.2.2.2.2.2.2.2.1 x.2.2.2.2.2.2.2.2.2.2.2.2.2.2.2.1 x.2.2.2.2.2.2.2.2.2.2.2.2.2.2.2.2.1 x.2.2.2.2.2.2.2.2.2.2.2.2.2.2.2.2.2.1 x.2.2.2.2.2.2.2.2.2.2.2.2.2.2.2.2.2.2.1 x.2.2.2.2.2.2.2.2.2.2.2.2.2.2.2.2.2.2.2).2.2.2.2.2.2.1 (cx i fun x => p x.1 x.2.1 x.2.2.1 x.2.2.2.1 x.2.2.2.2.1 x.2.2.2.2.2.1 x.2.2.2.2.2.2.1 x.2.2.2.2.2.2.2.1 x.2.2.2.2.2.2.2.2.1 x.2.2.2.2.2.2.2.2.2.1 x.2.2.2.2.2.2.2.2.2.2.1 x.2.2.2.2.2.2.2.2.2.2.2.1 x.2.2.2.2.2.2.2.2.2.2.2.2.1 x.2.2.2.2.2.2.2.2.2.2.2.2.2.1 x.2.2.2.2.2.2.2.2.2.2.2.2.2.2.1 x.2.2.2.2.2.2.2.2.2.2.2.2.2.2.2.1 x.2.2.2.2.2.2.2.2.2.2.2.2.2.2.2.2.1 x.2.2.2.2.2.2.2.2.2.2.2.2.2.2.2.2.2.1 x.2.2.2.2.2.2.2.2.2.2.2.2.2.2.2.2.2.2.1 x.2.2.2.2.2.2.2.2.2.2.2.2.2.2.2.2.2.2.2).2.2.2.2.2.2.2.1 (cx i fun x => p x.1 x.2.1 x.2.2.1 x.2.2.2.1 x.2.2.2.2.1 x.2.2.2.2.2.1 x.2.2.2.2.2.2.1 x.2.2.2.2.2.2.2.1 x.2.2.2.2.2.2.2.2.1 x.2.2.2.2.2.2.2.2.2.1 x.2.2.2.2.2.2.2.2.2.2.1 x.2.2.2.2.2.2.2.2.2.2.2.1 x.2.2.2.2.2.2.2.2.2.2.2.2.1 x.2.2.2.2.2.2.2.2.2.2.2.2.2.1 x.2.2.2.2.2.2.2.2.2.2.2.2.2.2.1 x.2.2.2.2.2.2.2.2.2.2.2.2.2.2.2.1 x.2.2.2.2.2.2.2.2.2.2.2.2.2.2.2.2.1 x.2.2.2.2.2.2.2.2.2.2.2.2.2.2.2.2.2.1 x.2.2.2.2.2.2.2.2.2.2.2.2.2.2.2.2.2.2.1 x.2.2.2.2.2.2.2.2.2.2.2.2.2.2.2.2.2.2.2).2.2.2.2.2.2.2.2.1 (cx i fun x => p x.1 x.2.1 x.2.2.1 x.2.2.2.1 x.2.2.2.2.1 x.2.2.2.2.2.1 x.2.2.2.2.2.2.1 x.2.2.2.2.2.2.2.1 x.2.2.2.2.2.2.2.2.1 x.2.2.2.2.2.2.2.2.2.1 x.2.2.2.2.2.2.2.2.2.2.1 x.2.2.2.2.2.2.2.2.2.2.2.1 x.2.2.2.2.2.2.2.2.2.2.2.2.1 x.2.2.2.2.2.2.2.2.2.2.2.2.2.1 x.2.2.2.2.2.2.2.2.2.2.2.2.2.2.1 x.2.2.2.2.2.2.2.2.2.2.2.2.2.2.2.1 x.2.2.2.2.2.2.2.2.2.2.2.2.2.2.2.2.1 x.2.2.2.2.2.2.2.2.2.2.2.2.2.2.2.2.2.1 x.2.2.2.2.2.2.2.2.2.2.2.2.2.2.2.2.2.2.1 x.2.2.2.2.2.2.2.2.2.2.2.2.2.2.2.2.2.2.2).2.2.2.2.2.2.2.2.2.1 (cx i fun x => p x.1 x.2.1 x.2.2.1 x.2.2.2.1 x.2.2.2.2.1 x.2.2.2.2.2.1 x.2.2.2.2.2.2.1 x.2.2.2.2.2.2.2.1 x.2.2.2.2.2.2.2.2.1 x.2.2.2.2.2.2.2.2.2.1 x.2.2.2.2.2.2.2.2.2.2.1 x.2.2.2.2.2.2.2.2.2.2.2.1 x.2.2.2.2.2.2.2.2.2.2.2.2.1 x.2.2.2.2.2.2.2.2.2.2.2.2.2.1 x.2.2.2.2.2.2.2.2.2.2.2.2.2.2.1 x.2.2.2.2.2.2.2.2.2.2.2.2.2.2.2.1 x.2.2.2.2.2.2.2.2.2.2.2.2.2.2.2.2.1 x.2.2.2.2.2.2.2.2.2.2.2.2.2.2.2.2.2.1 x.2.2.2.2.2.2.2.2.2.2.2.2.2.2.2.2.2.2.1 x.2.2.2.2.2.2.2.2.2.2.2.2.2.2.2.2.2.2.2).2.2.2.2.2.2.2.2.2.2.1 (cx i fun x => p x.1 x.2.1 x.2.2.1 x.2.2.2.1 x.2.2.2.2.1 x.2.2.2.2.2.1 x.2.2.2.2.2.2.1 x.2.2.2.2.2.2.2.1 x.2.2.2.2.2.2.2.2.1 x.2.2.2.2.2.2.2.2.2.1 x.2.2.2.2.2.2.2.2.2.2.1 x.2.2.2.2.2.2.2.2.2.2.2.1 x.2.2.2.2.2.2.2.2.2.2.2.2.1 x.2.2.2.2.2.2.2.2.2.2.2.2.2.1 x.2.2.2.2.2.2.2.2.2.2.2.2.2.2.1 x.2.2.2.2.2.2.2.2.2.2.2.2.2.2.2.1 x.2.2.2.2.2.2.2.2.2.2.2.2.2.2.2.2.1 x.2.2.2.2.2.2.2.2.2.2.2.2.2.2.2.2.2.1 x.2.2.2.2.2.2.2.2.2.2.2.2.2.2.2.2.2.2.1 x.2.2.2.2.2.2.2.2.2.2.2.2.2.2.2.2.2.2.2).2.2.2.2.2.2.2.2.2.2.2.1 (cx i fun x => p x.1 x.2.1 x.2.2.1 x.2.2.2.1 x.2.2.2.2.1 x.2.2.2.2.2.1 x.2.2.2.2.2.2.1 x.2.2.2.2.2.2.2.1 x.2.2.2.2.2.2.2.2.1 x.2.2.2.2.2.2.2.2.2.1 x.2.2.2.2.2.2.2.2.2.2.1 x.2.2.2.2.2.2.2.2.2.2.2.1 x.2.2.2.2.2.2.2.2.2.2.2.2.1 x.2.2.2.2.2.2.2.2.2.2.2.2.2.1 x.2.2.2.2.2.2.2.2.2.2.2.2.2.2.1 x.2.2.2.2.2.2.2.2.2.2.2.2.2.2.2.1 x.2.2.2.2.2.2.2.2.2.2.2.2.2.2.2.2.1 x.2.2.2.2.2.2.2.2.2.2.2.2.2.2.2.2.2.1 x.2.2.2.2.2.2.2.2.2.2.2.2.2.2.2.2.2.2.1 x.2.2.2.2.2.2.2.2.2.2.2.2.2.2.2.2.2.2.2).2.2.2.2.2.2.2.2.2.2.2.2.1 (cx i fun x => p x.1 x.2.1 x.2.2.1 x.2.2.2.1 x.2.2.2.2.1 x.2.2.2.2.2.1 x.2.2.2.2.2.2.1 x.2.2.2.2.2.2.2.1 x.2.2.2.2.2.2.2.2.1 x.2.2.2.2.2.2.2.2.2.1 x.2.2.2.2.2.2.2.2.2.2.1 x.2.2.2.2.2.2.2.2.2.2.2.1 x.2.2.2.2.2.2.2.2.2.2.2.2.1 x.2.2.2.2.2.2.2.2.2.2.2.2.2.1 x.2.2.2.2.2.2.2.2.2.2.2.2.2.2.1 x.2.2.2.2.2.2.2.2.2.2.2.2.2.2.2.1 x.2.2.2.2.2.2.2.2.2.2.2.2.2.2.2.2.1 x.2.2.2.2.2.2.2.2.2.2.2.2.2.2.2.2.2.1 x.2.2.2.2.2.2.2.2.2.2.2.2.2.2.2.2.2.2.1 x.2.2.2.2.2.2.2.2.2.2.2.2.2.2.2.2.2.2.2).2.2.2.2.2.2.2.2.2.2.2.2.2.1 (cx i fun x => p x.1 x.2.1 x.2.2.1 x.2.2.2.1 x.2.2.2.2.1 x.2.2.2.2.2.1 x.2.2.2.2.2.2.1 x.2.2.2.2.2.2.2.1 x.2.2.2.2.2.2.2.2.1 x.2.2.2.2.2.2.2.2.2.1 x.2.2.2.2.2.2.2.2.2.2.1 x.2.2.2.2.2.2.2.2.2.2.2.1 x.2.2.2.2.2.2.2.2.2.2.2.2.1 x.2.2.2.2.2.2.2.2.2.2.2.2.2.1 x.2.2.2.2.2.2.2.2.2.2.2.2.2.2.1 x.2.2.2.2.2.2.2.2.2.2.2.2.2.2.2.1 x.2.2.2.2.2.2.2.2.2.2.2.2.2.2.2.2.1 x.2.2.2.2.2.2.2.2.2.2.2.2.2.2.2.2.2.1 x.2.2.2.2.2.2.2.2.2.2.2.2.2.2.2.2.2.2.1 x.2.2.2.2.2.2.2.2.2.2.2.2.2.2.2.2.2.2.2).2.2.2.2.2.2.2.2.2.2.2.2.2.2.1 (cx i fun x => p x.1 x.2.1 x.2.2.1 x.2.2.2.1 x.2.2.2.2.1 x.2.2.2.2.2.1 x.2.2.2.2.2.2.1 x.2.2.2.2.2.2.2.1 x.2.2.2.2.2.2.2.2.1 x.2.2.2.2.2.2.2.2.2.1 x.2.2.2.2.2.2.2.2.2.2.1 x.2.2.2.2.2.2.2.2.2.2.2.1 x.2.2.2.2.2.2.2.2.2.2.2.2.1 x.2.2.2.2.2.2.2.2.2.2.2.2.2.1 x.2.2.2.2.2.2.2.2.2.2.2.2.2.2.1 x.2.2.2.2.2.2.2.2.2.2.2.2.2.2.2.1 x.2.2.2.2.2.2.2.2.2.2.2.2.2.2.2.2.1 x.2.2.2.2.2.2.2.2.2.2.2.2.2.2.2.2.2.1 x.2.2.2.2.2.2.2.2.2.2.2.2.2.2.2.2.2.2.1 x.2.2.2.2.2.2.2.2.2.2.2.2.2.2.2.2.2.2.2).2.2.2.2.2.2.2.2.2.2.2.2.2.2.2.1 (cx i fun x => p x.1 x.2.1 x.2.2.1 x.2.2.2.1 x.2.2.2.2.1 x.2.2.2.2.2.1 x.2.2.2.2.2.2.1 x.2.2.2.2.2.2.2.1 x.2.2.2.2.2.2.2.2.1 x.2.2.2.2.2.2.2.2.2.1 x.2.2.2.2.2.2.2.2.2.2.1 x.2.2.2.2.2.2.2.2.2.2.2.1 x.2.2.2.2.2.2.2.2.2.2.2.2.1 x.2.2.2.2.2.2.2.2.2.2.2.2.2.1 x.2.2.2.2.2.2.2.2.2.2.2.2.2.2.1 x.2.2.2.2.2.2.2.2.2.2.2.2.2.2.2.1 x.2.2.2.2.2.2.2.2.2.2.2.2.2.2.2.2.1 x.2.2.2.2.2.2.2.2.2.2.2.2.2.2.2.2.2.1 x.2.2.2.2.2.2.2.2.2.2.2.2.2.2.2.2.2.2.1 x.2.2.2.2.2.2.2.2.2.2.2.2.2.2.2.2.2.2.2).2.2.2.2.2.2.2.2.2.2.2.2.2.2.2.2.1 (cx i fun x => p x.1 x.2.1 x.2.2.1 x.2.2.2.1 x.2.2.2.2.1 x.2.2.2.2.2.1 x.2.2.2.2.2.2.1 x.2.2.2.2.2.2.2.1 x.2.2.2.2.2.2.2.2.1 x.2.2.2.2.2.2.2.2.2.1 x.2.2.2.2.2.2.2.2.2.2.1 x.2.2.2.2.2.2.2.2.2.2.2.1 x.2.2.2.2.2.2.2.2.2.2.2.2.1 x.2.2.2.2.2.2.2.2.2.2.2.2.2.1 x.2.2.2.2.2.2.2.2.2.2.2.2.2.2.1 x.2.2.2.2.2.2.2.2.2.2.2.2.2.2.2.1 x.2.2.2.2.2.2.2.2.2.2.2.2.2.2.2.2.1 x.2.2.2.2.2.2.2.2.2.2.2.2.2.2.2.2.2.1 x.2.2.2.2.2.2.2.2.2.2.2.2.2.2.2.2.2.2.1 x.2.2.2.2.2.2.2.2.2.2.2.2.2.2.2.2.2.2.2).2.2.2.2.2.2.2.2.2.2.2.2.2.2.2.2.2.1 (cx i fun x => p x.1 x.2.1 x.2.2.1 x.2.2.2.1 x.2.2.2.2.1 x.2.2.2.2.2.1 x.2.2.2.2.2.2.1 x.2.2.2.2.2.2.2.1 x.2.2.2.2.2.2.2.2.1 x.2.2.2.2.2.2.2.2.2.1 x.2.2.2.2.2.2.2.2.2.2.1 x.2.2.2.2.2.2.2.2.2.2.2.1 x.2.2.2.2.2.2.2.2.2.2.2.2.1 x.2.2.2.2.2.2.2.2.2.2.2.2.2.1 x.2.2.2.2.2.2.2.2.2.2.2.2.2.2.1 x.2.2.2.2.2.2.2.2.2.2.2.2.2.2.2.1 x.2.2.2.2.2.2.2.2.2.2.2.2.2.2.2.2.1 x.2.2.2.2.2.2.2.2.2.2.2.2.2.2.2.2.2.1 x.2.2.2.2.2.2.2.2.2.2.2.2.2.2.2.2.2.2.1 x.2.2.2.2.2.2.2.2.2.2.2.2.2.2.2.2.2.2.2).2.2.2.2.2.2.2.2.2.2.2.2.2.2.2.2.2.2.1 (cx i fun x => p x.1 x.2.1 x.2.2.1 x.2.2.2.1 x.2.2.2.2.1 x.2.2.2.2.2.1 x.2.2.2.2.2.2.1 x.2.2.2.2.2.2.2.1 x.2.2.2.2.2.2.2.2.1 x.2.2.2.2.2.2.2.2.2.1 x.2.2.2.2.2.2.2.2.2.2.1 x.2.2.2.2.2.2.2.2.2.2.2.1 x.2.2.2.2.2.2.2.2.2.2.2.2.1 x.2.2.2.2.2.2.2.2.2.2.2.2.2.1 x.2.2.2.2.2.2.2.2.2.2.2.2.2.2.1 x.2.2.2.2.2.2.2.2.2.2.2.2.2.2.2.1 x.2.2.2.2.2.2.2.2.2.2.2.2.2.2.2.2.1 x.2.2.2.2.2.2.2.2.2.2.2.2.2.2.2.2.2.1 x.2.2.2.2.2.2.2.2.2.2.2.2.2.2.2.2.2.2.1 x.2.2.2.2.2.2.2.2.2.2.2.2.2.2.2.2.2.2.2).2.2.2.2.2.2.2.2.2.2.2.2.2.2.2.2.2.2.2) : ∀ a0 a1 a2 a3 a4 a5 a6 a7 a8 a9 a10 a11 a12 a13 a14 a15 a16 a17 a18 a19, p a0 a1 a2 a3 a4 a5 a6 a7 a8 a9 a10 a11 a12 a13 a14 a15 a16 a17 a18 a19 :=
  fun a0 a1 a2 a3 a4 a5 a6 a7 a8 a9 a10 a11 a12 a13 a14 a15 a16 a17 a18 a19 => cx_intro (p := fun x => p x.1 x.2.1 x.2.2.1 x.2.2.2.1 x.2.2.2.2.1 x.2.2.2.2.2.1 x.2.2.2.2.2.2.1 x.2.2.2.2.2.2.2.1 x.2.2.2.2.2.2.2.2.1 x.2.2.2.2.2.2.2.2.2.1 x.2.2.2.2.2.2.2.2.2.2.1 x.2.2.2.2.2.2.2.2.2.2.2.1 x.2.2.2.2.2.2.2.2.2.2.2.2.1 x.2.2.2.2.2.2.2.2.2.2.2.2.2.1 x.2.2.2.2.2.2.2.2.2.2.2.2.2.2.1 x.2.2.2.2.2.2.2.2.2.2.2.2.2.2.2.1 x.2.2.2.2.2.2.2.2.2.2.2.2.2.2.2.2.1 x.2.2.2.2.2.2.2.2.2.2.2.2.2.2.2.2.2.1 x.2.2.2.2.2.2.2.2.2.2.2.2.2.2.2.2.2.2.1 x.2.2.2.2.2.2.2.2.2.2.2.2.2.2.2.2.2.2.2) i h (a0, a1, a2, a3, a4, a5, a6, a7, a8, a9, a10, a11, a12, a13, a14, a15, a16, a17, a18, a19)
theorem cx_all32 {α0 α1 α2 α3 α4 α5 α6 α7 α8 α9 α10 α11 α12 α13 α14 α15 α16 α17 α18 α19 α20 α21 α22 α23 α24 α25 α26 α27 α28 α29 α30 α31 : Type} {p : α0 → α1 → α2 → α3 → α4 → α5 → α6 → α7 → α8 → α9 → α10 → α11 → α12 → α13 → α14 → α15 → α16 → α17 → α18 → α19 → α20 → α21 → α22 → α23 → α24 → α25 → α26 → α27 → α28 → α29 → α30 → α31 → Prop} (i : Nonempty (α0 × α1 × α2 × α3 × α4 × α5 × α6 × α7 × α8 × α9 × α10 × α11 × α12 × α13 × α14 × α15 × α16 × α17 × α18 × α19 × α20 × α21 × α22 × α23 × α24 × α25 × α26 × α27 × α28 × α29 × α30 × α31)) (h : p (cx i fun x => p x.1 x.2.1 x.2.2.1 x.2.2.2.1 x.2.2.2.2.1 x.2.2.2.2.2.1 x.2.2.2.2.2.2.1 x.2.2.2.2.2.2.2.1 x.2.2.2.2.2.2.2.2.1 x.2.2.2.2.2.2.2.2.2.1 x.2.2.2.2.2.2.2.2.2.2.1 x.2.2.2.2.2.2.2.2.2.2.2.1 x.2.2.2.2.2.2.2.2.2.2.2.2.1 x.2.2.2.2.2.2.2.2.2.2.2.2.2.1 x.2.2.2.2.2.2.2.2.2.2.2.2.2.2.1 x.2.2.2.2.2.2.2.2.2.2.2.2.2.2.2.1 x.2.2.2.2.2.2.2.2.2.2.2.2.2.2.2.2.1 x.2.2.2.2.2.2.2.2.2.2.2.2.2.2.2.2.2.1 x.2.2.2.2.2.2.2.2.2.2.2.2.2.2.2.2.2.2.1 x.2.2.2.2.2.2.2.2.2.2.2.2.2.2.2.2.2.2.2.1 x.2.2.2.2.2.2.2.2.2.2.2.2.2.2.2.2.2.2.2.2.1 x.2.2.2.2.2.2.2.2.2.2.2.2.2.2.2.2.2.2.2.2.2.1 x.2.2.2.2.2.2.2.2.2.2.2.2.2.2.2.2.2.2.2.2.2.2.1 x.2.2.2.2.2.2.2.2.2.2.2.2.2.2.2.2.2.2.2.2.2.2.2.1 x.2.2.2.2.2.2.2.2.2.2.2.2.2.2.2.2.2.2.2.2.2.2.2.2.1 x.2.2.2.2.2.2.2.2.2.2.2.2.2.2.2.2.2.2.2.2.2.2.2.2.2.1 x.2.2.2.2.2.2.2.2.2.2.2.2.2.2.2.2.2.2.2.2.2.2.2.2.2.2.1 x.2.2.2.2.2.2.2.2.2.2.2.2.2.2.2.2.2.2.2.2.2.2.2.2.2.2.2.1 x.2.2.2.2.2.2.2.2.2.2.2.2.2.2.2.2.2.2.2.2.2.2.2.2.2.2.2.2.1 x.2.2.2.2.2.2.2.2.2.2.2.2.2.2.2.2.2.2.2.2.2.2.2.2.2.2.2.2.2.1 x.2.2.2.2.2.2.2.2.2.2.2.2.2.2.2.2.2.2.2.2.2.2.2.2.2.2.2.2.2.2.1 x.2.2.2.2.2.2.2.2.2.2.2.2.2.2.2.2.2.2.2.2.2.2.2.2.2.2.2.2.2.2.2).1 (cx i fun x => p x.1 x.2.1 x.2.2.1 x.2.2.2.1 x.2.2.2.2.1 x.2.2.2.2.2.1 x.2.2.2.2.2.2.1 x.2.2.2.2.2.2.2.1 x.2.2.2.2.2.2.2.2.1 x.2.2.2.2.2.2.2.2.2.1 x.2.2.2.2.2.2.2.2.2.2.1 x.2.2.2.2.2.2.2.2.2.2.2.1 x.2.2.2.2.2.2.2.2.2.2.2.2.1 x.2.2.2.2.2.2.2.2.2.2.2.2.2.1 x.2.2.2.2.2.2.2.2.2.2.2.2.2.2.1 x.2.2.2.2.2.2.2.2.2.2.2.2.2.2.2.1 x.2.2.2.2.2.2.2.2.2.2.2.2.2.2.2.2.1 x.2.2.2.2.2.2.2.2.2.2.2.2.2.2.2.2.2.1 x.2.2.2.2.2.2.2.2.2.2.2.2.2.2.2.2.2.2.1 x.2.2.2.2.2.2.2.2.2.2.2.2.2.2.2.2.2.2.2.1 x.2.2.2.2.2.2.2.2.2.2.2.2.2.2.2.2.2.2.2.2.1 x.2.2.2.2.2.2.2.2.2.2.2.2.2.2.2.2.2.2.2.2.2.1 x.2.2.2.2.2.2.2.2.2.2.2.2.2.2.2.2.2.2.2.2.2.2.1 x.2.2.2.2.2.2.2.2.2.2.2.2.2.2.2.2.2.2.2.2.2.2.2.1 x.2.2.2.2.2.2.2.2.2.2.2.2.2.2.2.2.2.2.2.2.2.2.2.2.1 x.2.2.2.2.2.2.2.2.2.2.2.2.2.2.2.2.2.2.2.2.2.2.2.2.2.1 x.2.2.2.2.2.2.2.2.2.2.2.2.2.2.2.2.2.2.2.2.2.2.2.2.2.2.1 x.2.2.2.2.2.2.2.2.2.2.2.2.2.2.2.2.2.2.2.2.2.2.2.2.2.2.2.1 x.2.2.2.2.2.2.2.2.2.2.2.2.2.2.2.2.2.2.2.2.2.2.2.2.2.2.2.2.1 x.2.2.2.2.2.2.2.2.2.2.2.2.2.2.2.2.2.2.2.2.2.2.2.2.2.2.2.2.2.1 x.2.2.2.2.2.2.2.2.2.2.2.2.2.2.2.2.2.2.2.2.2.2.2.2.2.2.2.2.2.2.1 x.2.2.2.2.2.2.2.2.2.2.2.2.2.2.2.2.2.2.2.2.2.2.2.2.2.2.2.2.2.2.2).2.1 (cx i fun x => p x.1 x.2.1 x.2.2.1 x.2.2.2.1 x.2.2.2.2.1 x.2.2.2.2.2.1 x.2.2.2.2.2.2.1 x.2.2.2.2.2.2.2.1 x.2.2.2.2.2.2.2.2.1 x.2.2.2.2.2.2.2.2.2.1 x.2.2.2.2.2.2.2.2.2.2.1 x.2.2.2.2.2.2.2.2.2.2.2.1 x.2.2.2.2.2.2.2.2.2.2.2.2.1 x.2.2.2.2.2.2.2.2.2.2.2.2.2.1 x.2.2.2.2.2.2.2.2.2.2.2.2.2.2.1 x.2.2.2.2.2.2.2.2.2.2.2.2.2.2.2.1 x.2.2.2.2.2.2.2.2.2.2.2.2.2.2.2.2.1 x.2.2.2.2.2.2.2.2.2.2.2.2.2.2.2.2.2.1 x.2.2.2.2.2.2.2.2.2.2.2.2.2.2.2.2.2.2.1 x.2.2.2.2.2.2.2.2.2.2.2.2.2.2.2.2.2.2.2.1 x.2.2.2.2.2.2.2.2.2.2.2.2.2.2.2.2.2.2.2.2.1 x.2.2.2.2.2.2.2.2.2.2.2.2.2.2.2.2.2.2.2.2.2.1 x.2.2.2.2.2.2.2.2.2.2.2.2.2.2.2.2.2.2.2.2.2.2.1 x.2.2.2.2.2.2.2.2.2.2.2.2.2.2.2.2.2.2.2.2.2.2.2.1 x.2.2.2.2.2.2.2.2.2.2.2.2.2.2.2.2.2.2.2.2.2.2.2.2.1 x.2.2.2.2.2.2.2.2.2.2.2.2.2.2.2.2.2.2.2.2.2.2.2.2.2.1 x.2.2.2.2.2.2.2.2.2.2.2.2.2.2.2.2.2.2.2.2.2.2.2.2.2.2.1 x.2.2.2.2.2.2.2.2.2.2.2.2.2.2.2.2.2.2.2.2.2.2.2.2.2.2.2.1 x.2.2.2.2.2.2.2.2.2.2.2.2.2.2.2.2.2.2.2.2.2.2.2.2.2.2.2.2.1 x.2.2.2.2.2.2.2.2.2.2.2.2.2.2.2.2.2.2.2.2.2.2.2.2.2.2.2.2.2.1 x.2.2.2.2.2.2.2.2.2.2.2.2.2.2.2.2.2.2.2.2.2.2.2.2.2.2.2.2.2.2.1 x.2.2.2.2.2.2.2.2.2.2.2.2.2.2.2.2.2.2.2.2.2.2.2.2.2.2.2.2.2.2.2).2.2.1 (cx i fun x => p x.1 x.2.1 x.2.2.1 x.2.2.2.1 x.2.2.2.2.1 x.2.2.2.2.2.1 x.2.2.2.2.2.2.1 x.2.2.2.2.2.2.2.1 x.2.2.2.2.2.2.2.2.1 x.2.2.2.2.2.2.2.2.2.1 x.2.2.2.2.2.2.2.2.2.2.1 x.2.2.2.2.2.2.2.2.2.2.2.1 x.2.2.2.2.2.2.2.2.2.2.2.2.1 x.2.2.2.2.2.2.2.2.2.2.2.2.2.1 x.2.2.2.2.2.2.2.2.2.2.2.2.2.2.1 x.2.2.2.2.2.2.2.2.2.2.2.2.2.2.2.1 x.2.2.2.2.2.2.2.2.2.2.2.2.2.2.2.2.1 x.2.2.2.2.2.2.2.2.2.2.2.2.2.2.2.2.2.1 x.2.2.2.2.2.2.2.2.2.2.2.2.2.2.2.2.2.2.1 x.2.2.2.2.2.2.2.2.2.2.2.2.2.2.2.2.2.2.2.1 x.2.2.2.2.2.2.2.2.2.2.2.2.2.2.2.2.2.2.2.2.1 x.2.2.2.2.2.2.2.2.2.2.2.2.2.2.2.2.2.2.2.2.2.1 x.2.2.2.2.2.2.2.2.2.2.2.2.2.2.2.2.2.2.2.2.2.2.1 x.2.2.2.2.2.2.2.2.2.2.2.2.2.2.2.2.2.2.2.2.2.2.2.1 x.2.2.2.2.2.2.2.2.2.2.2.2.2.2.2.2.2.2.2.2.2.2.2.2.1 x.2.2.2.2.2.2.2.2.2.2.2.2.2.2.2.2.2.2.2.2.2.2.2.2.2.1 x.2.2.2.2.2.2.2.2.2.2.2.2.2.2.2.2.2.2.2.2.2.2.2.2.2.2.1 x.2.2.2.2.2.2.2.2.2.2.2.2.2.2.2.2.2.2.2.2.2.2.2.2.2.2.2.1 x.2.2.2.2.2.2.2.2.2.2.2.2.2.2.2.2.2.2.2.2.2.2.2.2.2.2.2.2.1 x.2.2.2.2.2.2.2.2.2.2.2.2.2.2.2.2.2.2.2.2.2.2.2.2.2.2.2.2.2.1 x.2.2.2.2.2.2.2.2.2.2.2.2.2.2.2.2.2.2.2.2.2.2.2.2.2.2.2.2.2.2.1 x.2.2.2.2.2.2.2.2.2.2.2.2.2.2.2.2.2.2.2.2.2.2.2.2.2.2.2.2.2.2.2).2.2.2.1 (cx i fun x => p x.1 x.2.1 x.2.2.1 x.2.2.2.1 x.2.2.2.2.1 x.2.2.2.2.2.1 x.2.2.2.2.2.2.1 x.2.2.2.2.2.2.2.1 x.2.2.2.2.2.2.2.2.1 x.2.2.2.2.2.2.2.2.2.1 x.2.2.2.2.2.2.2.2.2.2.1 x.2.2.2.2.2.2.2.2.2.2.2.1 x.2.2.2.2.2.2.2.2.2.2.2.2.1 x.2.2.2.2.2.2.2.2.2.2.2.2.2.1 x.2.2.2.2.2.2.2.2.2.2.2.2.2.2.1 x.2.2.2.2.2.2.2.2.2.2.2.2.2.2.2.1 x.2.2.2.2.2.2.2.2.2.2.2.2.2.2.2.2.1 x.2.2.2.2.2.2.2.2.2.2.2.2.2.2.2.2.2.1 x.2.2.2.2.2.2.2.2.2.2.2.2.2.2.2.2.2.2.1 x.2.2.2.2.2.2.2.2.2.2.2.2.2.2.2.2.2.2.2.1 x.2.2.2.2.2.2.2.2.2.2.2.2.2.2.2.2.2.2.2.2.1 x.2.2.2.2.2.2.2.2.2.2.2.2.2.2.2.2.2.2.2.2.2.1 x.2.2.2.2.2.2.2.2.2.2.2.2.2.2.2.2.2.2.2.2.2.2.1 x.2.2.2.2.2.2.2.2.2.2.2.2.2.2.2.2.2.2.2.2.2.2.2.1 x.2.2.2.2.2.2.2.2.2.2.2.2.2.2.2.2.2.2.2.2.2.2.2.2.1 x.2.2.2.2.2.2.2.2.2.2.2.2.2.2.2.2.2.2.2.2.2.2.2.2.2.1 x.2.2.2.2.2.2.2.2.2.2.2.2.2.2.2.2.2.2.2.2.2.2.2.2.2.2.1 x.2.2.2.2.2.2.2.2.2.2.2.2.2.2.2.2.2.2.2.2.2.2.2.2.2.2.2.1 x.2.2.2.2.2.2.2.2.2.2.2.2.2.2.2.2.2.2.2.2.2.2.2.2.2.2.2.2.1 x.2.2.2.2.2.2.2.2.2.2.2.2.2.2.2.2.2.2.2.2.2.2.2.2.2.2.2.2.2.1 x.2.2.2.2.2.2.2.2.2.2.2.2.2.2.2.2.2.2.2.2.2.2.2.2.2.2.2.2.2.2.1 x.2.2.2.2.2.2.2.2.2.2.2.2.2.2.2.2.2.2.2.2.2.2.2.2.2.2.2.2.2.2.2).2.2.2.2.1 (cx i fun x => p x.1 x.2.1 x.2.2.1 x.2.2.2.1 x.2.2.2.2.1 x.2.2.2.2.2.1 x.2.2.2.2.2.2.1 x.2.2.2.2.2.2.2.1 x.2.2.2.2.2.2.2.2.1 x.2.2.2.2.2.2.2.2.2.1 x.2.2.2.2.2.2.2.2.2.2.1 x.2.2.2.2.2.2.2.2.2.2.2.1 x.2.2.2.2.2.2.2.2.2.2.2.2.1 x.2.2.2.2.2.2.2.2.2.2.2.2.2.1 x.2.2.2.2.2.2.2.2.2.2.2.2.2.2.1 x.2.2.2.2.2.2.2.2.2.2.2.2.2.2.2.1 x.2.2.2.2.2.2.2.2.2.2.2.2.2.2.2.2.1 x.2.2.2.2.2.2.2.2.2.2.2.2.2.2.2.2.2.1 x.2.2.2.2.2.2.2.2.2.2.2.2.2.2.2.2.2.2.1 x.2.2.2.2.2.2.2.2.2.2.2.2.2.2.2.2.2.2.2.1 x.2.2.2.2.2.2.2.2.2.2.2.2.2.2.2.2.2.2.2.2.1 x.2.2.2.2.2.2.2.2.2.2.2.2.2.2.2.2.2.2.2.2.2.1 x.2.2.2.2.2.2.2.2.2.2.2.2.2.2.2.2.2.2.2.2.2.2.1 x.2.2.2.2.2.2.2.2.2.2.2.2.2.2.2.2.2.2.2.2.2.2.2.1 x.2.2.2.2.2.2.2.2.2.2.2.2.2.2.2.2.2.2.2.2.2.2.2.2.1 x.2.2.2.2.2.2.2.2.2.2.2.2.2.2.2.2.2.2.2.2.2.2.2.2.2.1 x.2.2.2.2.2.2.2.2.2.2.2.2.2.2.2.2.2.2.2.2.2.2.2.2.2.2.1 x.2.2.2.2.2.2.2.2.2.2.2.2.2.2.2.2.2.2.2.2.2.2.2.2.2.2.2.1 x.2.2.2.2.2.2.2.2.2.2.2.2.2.2.2.2.2.2.2.2.2.2.2.2.2.2.2.2.1 x.2.2.2.2.2.2.2.2.2.2.2.2.2.2.2.2.2.2.2.2.2.2.2.2.2.2.2.2.2.1 x.2.2.2.2.2.2.2.2.2.2.2.2.2.2.2.2.2.2.2.2.2.2.2.2.2.2.2.2.2.2.1 x.2.2.2.2.2.2.2.2.2.2.2.2.2.2.2.2.2.2.2.2.2.2.2.2.2.2.2.2.2.2.2).2.2.2.2.2.1 (cx i fun x => p x.1 x.2.1 x.2.2.1 x.2.2.2.1 x.2.2.2.2.1 x.2.2.2.2.2.1 x.2.2.2.2.2.2.1 x.2.2.2.2.2.2.2.1 x.2.2.2.2.2.2.2.2.1 x.2.2.2.2.2.2.2.2.2.1 x.2.2.2.2.2.2.2.2.2.2.1 x.2.2.2.2.2.2.2.2.2.2.2.1 x.2.2.2.2.2.2.2.2.2.2.2.2.1 x.2.2.2.2.2.2.2.2.2.2.2.2.2.1 x.2.2.2.2.2.2.2.2.2.2.2.2.2.2.1 x.2.2.2.2.2.2.2.2.2.2.2.2.2.2.2.1 x.2.2.2.2.2.2.2.2.2.2.2.2.2.2.2.2.1 x.2.2.2.2.2.2.2.2.2.2.2.2.2.2.2.2.2.1 x.2.2.2.2.2.2.2.2.2.2.2.2.2.2.2.2.2.2.1 x.2.2.2.2.2.2.2.2.2.2.2.2.2.2.2.2.2.2.2.1 x.2.2.2.2.2.2.2.2.2.2.2.2.2.2.2.2.2.2.2.2.1 x.2.2.2.2.2.2.2.2.2.2.2.2.2.2.2.2.2.2.2.2.2.1 x.2.2.2.2.2.2.2.2.2.2.2.2.2.2.2.2.2.2.2.2.2.2.1 x.2.2.2.2.2.2.2.2.2.2.2.2.2.2.2.2.2.2.2.2.2.2.2.1 x.2.2.2.2.2.2.2.2.2.2.2.2.2.2.2.2.2.2.2.2.2.2.2.2.1 x.2.2.2.2.2.2.2.2.2.2.2.2.2.2.2.2.2.2.2.2.2.2.2.2.2.1 x.2.2.2.2.2.2.2.2.2.2.2.2.2.2.2.2.2.2.2.2.2.2.2.2.2.2.1 x.2.2.2.2.2.2.2.2.2.2.2.2.2.2.2.2.2.2.2.2.2.2.2.2.2.2.2.1 x.2.2.2.2.2.2.2.2.2.2.2.2.2.2.2.2.2.2.2.2.2.2.2.2.2.2.2.2.1 x.2.2.2.2.2.2.2.2.2.2.2.2.2.2.2.2.2.2.2.2.2.2.2.2.2.2.2.2.2.1 x.2.2.2.2.2.2.2.2.2.2.2.2.2.2.2.2.2.2.2.2.2.2.2.2.2.2.2.2.2.2.1 x.2.2.2.2.2.2.2.2.2.2.2.2.2.2.2.2.2.2.2.2.2.2.2.2.2.2.2.2.2.2.2).2.2.2.2.2.2.1 (cx i fun x => p x.1 x.2.1 x.2.2.1 x.2.2.2.1 x.2.2.2.2.1 x.2.2.2.2.2.1 x.2.2.2.2.2.2.1 x.2.2.2.2.2.2.2.1 x.2.2.2.2.2.2.2.2.1 x.2.2.2.2.2.2.2.2.2.1 x.2.2.2.2.2.2.2.2.2.2.1 x.2.2.2.2.2.2.2.2.2.2.2.1 x.2.2.2.2.2.2.2.2.2.2.2.2.1 x.2.2.2.2.2.2.2.2.2.2.2.2.2.1 x.2.2.2.2.2.2.2.2.2.2.2.2.2.2.1 x.2.2.2.2.2.2.2.2.2.2.2.2.2.2.2.1 x.2.2.2.2.2.2.2.2.2.2.2.2.2.2.2.2.1 x.2.2.2.2.2.2.2.2.2.2.2.2.2.2.2.2.2.1 x.2.2.2.2.2.2.2.2.2.2.2.2.2.2.2.2.2.2.1 x.2.2.2.2.2.2.2.2.2.2.2.2.2.2.2.2.2.2.2.1 x.2.2.2.2.2.2.2.2.2.2.2.2.2.2.2.2.2.2.2.2.1 x.2.2.2.2.2.2.2.2.2.2.2.2.2.2.2.2.2.2.2.2.2.1 x.2.2.2.2.2.2.2.2.2.2.2.2.2.2.2.2.2.2.2.2.2.2.1 x.2.2.2.2.2.2.2.2.2.2.2.2.2.2.2.2.2.2.2.2.2.2.2.1 x.2.2.2.2.2.2.2.2.2.2.2.2.2.2.2.2.2.2.2.2.2.2.2.2.1 x.2.2.2.2.2.2.2.2.2.2.2.2.2.2.2.2.2.2.2.2.2.2.2.2.2.1 x.2.2.2.2.2.2.2.2.2.2.2.2.2.2.2.2.2.2.2.2.2.2.2.2.2.2.1 x.2.2.2.2.2.2.2.2.2.2.2.2.2.2.2.2.2.2.2.2.2.2.2.2.2.2.2.1 x.2.2.2.2.2.2.2.2.2.2.2.2.2.2.2.2.2.2.2.2.2.2.2.2.2.2.2.2.1 x.2.2.2.2.2.2.2.2.2.2.2.2.2.2.2.2.2.2.2.2.2.2.2.2.2.2.2.2.2.1 x.2.2.2.2.2.2.2.2.2.2.2.2.2.2.2.2.2.2.2.2.2.2.2.2.2.2.2.2.2.2.1 x.2.2.2.2.2.2.2.2.2.2.2.2.2.2.2.2.2.2.2.2.2.2.2.2.2.2.2.2.2.2.2).2.2.2.2.2.2.2.1 (cx i fun x => p x.1 x.2.1 x.2.2.1 x.2.2.2.1 x.2.2.2.2.1 x.2.2.2.2.2.1 x.2.2.2.2.2.2.1 x.2.2.2.2.2.2.2.1 x.2.2.2.2.2.2.2.2.1 x.2.2.2.2.2.2.2.2.2.1 x.2.2.2.2.2.2.2.2.2.2.1 x.2.2.2.2.2.2.2.2.2.2.2.1 x.2.2.2.2.2.2.2.2.2.2.2.2.1 x.2.2.2.2.2.2.2.2.2.2.2.2.2.1 x.2.2.2.2.2.2.2.2.2.2.2.2.2.2.1 x.2.2.2.2.2.2.2.2.2.2.2.2.2.2.2.1 x.2.2.2.2.2.2.2.2.2.2.2.2.2.2.2.2.1 x.2.2.2.2.2.2.2.2.2.2.2.2.2.2.2.2.2.1 x.2.2.2.2.2.2.2.2.2.2.2.2.2.2.2.2.2.2.1 x.2.2.2.2.2.2.2.2.2.2.2.2.2.2.2.2.2.2.2.1 x.2.2.2.2.2.2.2.2.2.2.2.2.2.2.2.2.2.2.2.2.1 x.2.2.2.2.2.2.2.2.2.2.2.2.2.2.2.2.2.2.2.2.2.1 x.2.2.2.2.2.2.2.2.2.2.2.2.2.2.2.2.2.2.2.2.2.2.1 x.2.2.2.2.2.2.2.2.2.2.2.2.2.2.2.2.2.2.2.2.2.2.2.1 x.2.2.2.2.2.2.2.2.2.2.2.2.2.2.2.2.2.2.2.2.2.2.2.2.1 x.2.2.2.2.2.2.2.2.2.2.2.2.2.2.2.2.2.2.2.2.2.2.2.2.2.1 x.2.2.2.2.2.2.2.2.2.2.2.2.2.2.2.2.2.2.2.2.2.2.2.2.2.2.1 x.2.2.2.2.2.2.2.2.2.2.2.2.2.2.2.2.2.2.2.2.2.2.2.2.2.2.2.1 x.2.2.2.2.2.2.2.2.2.2.2.2.2.2.2.2.2.2.2.2.2.2.2.2.2.2.2.2.1 x.2.2.2.2.2.2.2.2.2.2.2.2.2.2.2.2.2.2.2.2.2.2.2.2.2.2.2.2.2.1 x.2.2.2.2.2.2.2.2.2.2.2.2.2.2.2.2.2.2.2.2.2.2.2.2.2.2.2.2.2.2.1 x.2.2.2.2.2.2.2.2.2.2.2.2.2.2.2.2.2.2.2.2.2.2.2.2.2.2.2.2.2.2.2).2.2.2.2.2.2.2.2.1 (cx i fun x => p x.1 x.2.1 x.2.2.1 x.2.2.2.1 x.2.2.2.2.1 x.2.2.2.2.2.1 x.2.2.2.2.2.2.1 x.2.2.2.2.2.2.2.1 x.2.2.2.2.2.2.2.2.1 x.2.2.2.2.2.2.2.2.2.1 x.2.2.2.2.2.2.2.2.2.2.1 x.2.2.2.2.2.2.2.2.2.2.2.1 x.2.2.2.2.2.2.2.2.2.2.2.2.1 x.2.2.2.2.2.2.2.2.2.2.2.2.2.1 x.2.2.2.2.2.2.2.2.2.2.2.2.2.2.1 x.2.2.2.2.2.2.2.2.2.2.2.2.2.2.2.1 x.2.2.2.2.2.2.2.2.2.2.2.2.2.2.2.2.1 x.2.2.2.2.2.2.2.2.2.2.2.2.2.2.2.2.2.1 x.2.2.2.2.2.2.2.2.2.2.2.2.2.2.2.2.2.2.1 x.2.2.2.2.2.2.2.2.2.2.2.2.2.2.2.2.2.2.2.1 x.2.2.2.2.2.2.2.2.2.2.2.2.2.2.2.2.2.2.2.2.1 x.2.2.2.2.2.2.2.2.2.2.2.2.2.2.2.2.2.2.2.2.2.1 x.2.2.2.2.2.2.2.2.2.2.2.2.2.2.2.2.2.2.2.2.2.2.1 x.2.2.2.2.2.2.2.2.2.2.2.2.2.2.2.2.2.2.2.2.2.2.2.1 x.2.2.2.2.2.2.2.2.2.2.2.2.2.2.2.2.2.2.2.2.2.2.2.2.1 x.2.2.2.2.2.2.2.2.2.2.2.2.2.2.2.2.2.2.2.2.2.2.2.2.2.1 x.2.2.2.2.2.2.2.2.2.2.2.2.2.2.2.2.2.2.2.2.2.2.2.2.2.2.1 x.2.2.2.2.2.2.2.2.2.2.2.2.2.2.2.2.2.2.2.2.2.2.2.2.2.2.2.1 x.2.2.2.2.2.2.2.2.2.2.2.2.2.2.2.2.2.2.2.2.2.2.2.2.2.2.2.2.1 x.2.2.2.2.2.2.2.2.2.2.2.2.2.2.2.2.2.2.2.2.2.2.2.2.2.2.2.2.2.1 x.2.2.2.2.2.2.2.2.2.2.2.2.2.2.2.2.2.2.2.2.2.2.2.2.2.2.2.2.2.2.1 x.2.2.2.2.2.2.2.2.2.2.2.2.2.2.2.2.2.2.2.2.2.2.2.2.2.2.2.2.2.2.2).2.2.2.2.2.2.2.2.2.1 (cx i fun x => p x.1 x.2.1 x.2.2.1 x.2.2.2.1 x.2.2.2.2.1 x.2.2.2.2.2.1 x.2.2.2.2.2.2.1 x.2.2.2.2.2.2.2.1 x.2.2.2.2.2.2.2.2.1 x.2.2.2.2.2.2.2.2.2.1 x.2.2.2.2.2.2.2.2.2.2.1 x.2.2.2.2.2.2.2.2.2.2.2.1 x.2.2.2.2.2.2.2.2.2.2.2.2.1 x.2.2.2.2.2.2.2.2.2.2.2.2.2.1 x.2.2.2.2.2.2.2.2.2.2.2.2.2.2.1 x.2.2.2.2.2.2.2.2.2.2.2.2.2.2.2.1 x.2.2.2.2.2.2.2.2.2.2.2.2.2.2.2.2.1 x.2.2.2.2.2.2.2.2.2.2.2.2.2.2.2.2.2.1 x.2.2.2.2.2.2.2.2.2.2.2.2.2.2.2.2.2.2.1 x.2.2.2.2.2.2.2.2.2.2.2.2.2.2.2.2.2.2.2.1 x.2.2.2.2.2.2.2.2.2.2.2.2.2.2.2.2.2.2.2.2.1 x.2.2.2.2.2.2.2.2.2.2.2.2.2.2.2.2.2.2.2.2.2.1 x.2.2.2.2.2.2.2.2.2.2.2.2.2.2.2.2.2.2.2.2.2.2.1 x.2.2.2.2.2.2.2.2.2.2.2.2.2.2.2.2.2.2.2.2.2.2.2.1 x.2.2.2.2.2.2.2.2.2.2.2.2.2.2.2.2.2.2.2.2.2.2.2.2.1 x.2.2.2.2.2.2.2.2.2.2.2.2.2.2.2.2.2.2.2.2.2.2.2.2.2.1 x.2.2.2.2.2.2.2.2.2.2.2.2.2.2.2.2.2.2.2.2.2.2.2.2.2.2.1 x.2.2.2.2.2.2.2.2.2.2.2.2.2.2.2.2.2.2.2.2.2.2.2.2.2.2.2.1 x.2.2.2.2.2.2.2.2.2.2.2.2.2.2.2.2.2.2.2.2.2.2.2.2.2.2.2.2.1 x.2.2.2.2.2.2.2.2.2.2.2.2.2.2.2.2.2.2.2.2.2.2.2.2.2.2.2.2.2.1 x.2.2.2.2.2.2.2.2.2.2.2.2.2.2.2.2.2.2.2.2.2.2.2.2.2.2.2.2.2.2.1 x.2.2.2.2.2.2.2.2.2.2.2.2.2.2.2.2.2.2.2.2.2.2.2.2.2.2.2.2.2.2.2).2.2.2.2.2.2.2.2.2.2.1 (cx i fun x => p x.1 x.2.1 x.2.2.1 x.2.2.2.1 x.2.2.2.2.1 x.2.2.2.2.2.1 x.2.2.2.2.2.2.1 x.2.2.2.2.2.2.2.1 x.2.2.2.2.2.2.2.2.1 x.2.2.2.2.2.2.2.2.2.1 x.2.2.2.2.2.2.2.2.2.2.1 x.2.2.2.2.2.2.2.2.2.2.2.1 x.2.2.2.2.2.2.2.2.2.2.2.2.1 x.2.2.2.2.2.2.2.2.2.2.2.2.2.1 x.2.2.2.2.2.2.2.2.2.2.2.2.2.2.1 x.2.2.2.2.2.2.2.2.2.2.2.2.2.2.2.1 x.2.2.2.2.2.2.2.2.2.2.2.2.2.2.2.2.1 x.2.2.2.2.2.2.2.2.2.2.2.2.2.2.2.2.2.1 x.2.2.2.2.2.2.2.2.2.2.2.2.2.2.2.2.2.2.1 x.2.2.2.2.2.2.2.2.2.2.2.2.2.2.2.2.2.2.2.1 x.2.2.2.2.2.2.2.2.2.2.2.2.2.2.2.2.2.2.2.2.1 x.2.2.2.2.2.2.2.2.2.2.2.2.2.2.2.2.2.2.2.2.2.1 x.2.2.2.2.2.2.2.2.2.2.2.2.2.2.2.2.2.2.2.2.2.2.1 x.2.2.2.2.2.2.2.2.2.2.2.2.2.2.2.2.2.2.2.2.2.2.2.1 x.2.2.2.2.2.2.2.2.2.2.2.2.2.2.2.2.2.2.2.2.2.2.2.2.1 x.2.2.2.2.2.2.2.2.2.2.2.2.2.2.2.2.2.2.2.2.2.2.2.2.2.1 x.2.2.2.2.2.2.2.2.2.2.2.2.2.2.2.2.2.2.2.2.2.2.2.2.2.2.1 x.2.2.2.2.2.2.2.2.2.2.2.2.2.2.2.2.2.2.2.2.2.2.2.2.2.2.2.1 x.2.2.2.2.2.2.2.2.2.2.2.2.2.2.2.2.2.2.2.2.2.2.2.2.2.2.2.2.1 x.2.2.2.2.2.2.2.2.2.2.2.2.2.2.2.2.2.2.2.2.2.2.2.2.2.2.2.2.2.1 x.2.2.2.2.2.2.2.2.2.2.2.2.2.2.2.2.2.2.2.2.2.2.2.2.2.2.2.2.2.2.1 x.2.2.2.2.2.2.2.2.2.2.2.2.2.2.2.2.2.2.2.2.2.2.2.2.2.2.2.2.2.2.2).2.2.2.2.2.2.2.2.2.2.2.1 (cx i fun x => p x.1 x.2.1 x.2.2.1 x.2.2.2.1 x.2.2.2.2.1 x.2.2.2.2.2.1 x.2.2.2.2.2.2.1 x.2.2.2.2.2.2.2.1 x.2.2.2.2.2.2.2.2.1 x.2.2.2.2.2.2.2.2.2.1 x.2.2.2.2.2.2.2.2.2.2.1 x.2.2.2.2.2.2.2.2.2.2.2.1 x.2.2.2.2.2.2.2.2.2.2.2.2.1 x.2.2.2.2.2.2.2.2.2.2.2.2.2.1 x.2.2.2.2.2.2.2.2.2.2.2.2.2.2.1 x.2.2.2.2.2.2.2.2.2.2.2.2.2.2.2.1 x.2.2.2.2.2.2.2.2.2.2.2.2.2.2.2.2.1 x.2.2.2.2.2.2.2.2.2.2.2.2.2.2.2.2.2.1 x.2.2.2.2.2.2.2.2.2.2.2.2.2.2.2.2.2.2.1 x.2.2.2.2.2.2.2.2.2.2.2.2.2.2.2.2.2.2.2.1 x.2.2.2.2.2.2.2.2.2.2.2.2.2.2.2.2.2.2.2.2.1 x.2.2.2.2.2.2.2.2.2.2.2.2.2.2.2.2.2.2.2.2.2.1 x.2.2.2.2.2.2.2.2.2.2.2.2.2.2.2.2.2.2.2.2.2.2.1 x.2.2.2.2.2.2.2.2.2.2.2.2.2.2.2.2.2.2.2.2.2.2.2.1 x.2.2.2.2.2.2.2.2.2.2.2.2.2.2.2.2.2.2.2.2.2.2.2.2.1 x.2.2.2.2.2.2.2.2.2.2.2.2.2.2.2.2.2.2.2.2.2.2.2.2.2.1 x.2.2.2.2.2.2.2.2.2.2.2.2.2.2.2.2.2.2.2.2.2.2.2.2.2.2.1 x.2.2.2.2.2.2.2.2.2.2.2.2.2.2.2.2.2.2.2.2.2.2.2.2.2.2.2.1 x.2.2.2.2.2.2.2.2.2.2.2.2.2.2.2.2.2.2.2.2.2.2.2.2.2.2.2.2.1 x.2.2.2.2.2.2.2.2.2.2.2.2.2.2.2.2.2.2.2.2.2.2.2.2.2.2.2.2.2.1 x.2.2.2.2.2.2.2.2.2.2.2.2.2.2.2.2.2.2.2.2.2.2.2.2.2.2.2.2.2.2.1 x.2.2.2.2.2.2.2.2.2.2.2.2.2.2.2.2.2.2.2.2.2.2.2.2.2.2.2.2.2.2.2).2.2.2.2.2.2.2.2.2.2.2.2.1 (cx i fun x => p x.1 x.2.1 x.2.2.1 x.2.2.2.1 x.2.2.2.2.1 x.2.2.2.2.2.1 x.2.2.2.2.2.2.1 x.2.2.2.2.2.2.2.1 x.2.2.2.2.2.2.2.2.1 x.2.2.2.2.2.2.2.2.2.1 x.2.2.2.2.2.2.2.2.2.2.1 x.2.2.2.2.2.2.2.2.2.2.2.1 x.2.2.2.2.2.2.2.2.2.2.2.2.1 x.2.2.2.2.2.2.2.2.2.2.2.2.2.1 x.2.2.2.2.2.2.2.2.2.2.2.2.2.2.1 x.2.2.2.2.2.2.2.2.2.2.2.2.2.2.2.1 x.2.2.2.2.2.2.2.2.2.2.2.2.2.2.2.2.1 x.2.2.2.2.2.2.2.2.2.2.2.2.2.2.2.2.2.1 x.2.2.2.2.2.2.2.2.2.2.2.2.2.2.2.2.2.2.1 x.2.2.2.2.2.2.2.2.2.2.2.2.2.2.2.2.2.2.2.1 x.2.2.2.2.2.2.2.2.2.2.2.2.2.2.2.2.2.2.2.2.1 x.2.2.2.2.2.2.2.2.2.2.2.2.2.2.2.2.2.2.2.2.2.1 x.2.2.2.2.2.2.2.2.2.2.2.2.2.2.2.2.2.2.2.2.2.2.1 x.2.2.2.2.2.2.2.2.2.2.2.2.2.2.2.2.2.2.2.2.2.2.2.1 x.2.2.2.2.2.2.2.2.2.2.2.2.2.2.2.2.2.2.2.2.2.2.2.2.1 x.2.2.2.2.2.2.2.2.2.2.2.2.2.2.2.2.2.2.2.2.2.2.2.2.2.1 x.2.2.2.2.2.2.2.2.2.2.2.2.2.2.2.2.2.2.2.2.2.2.2.2.2.2.1 x.2.2.2.2.2.2.2.2.2.2.2.2.2.2.2.2.2.2.2.2.2.2.2.2.2.2.2.1 x.2.2.2.2.2.2.2.2.2.2.2.2.2.2.2.2.2.2.2.2.2.2.2.2.2.2.2.2.1 x.2.2.2.2.2.2.2.2.2.2.2.2.2.2.2.2.2.2.2.2.2.2.2.2.2.2.2.2.2.1 x.2.2.2.2.2.2.2.2.2.2.2.2.2.2.2.2.2.2.2.2.2.2.2.2.2.2.2.2.2.2.1 x.2.2.2.2.2.2.2.2.2.2.2.2.2.2.2.2.2.2.2.2.2.2.2.2.2.2.2.2.2.2.2).2.2.2.2.2.2.2.2.2.2.2.2.2.1 (cx i fun x => p x.1 x.2.1 x.2.2.1 x.2.2.2.1 x.2.2.2.2.1 x.2.2.2.2.2.1 x.2.2.2.2.2.2.1 x.2.2.2.2.2.2.2.1 x.2.2.2.2.2.2.2.2.1 x.2.2.2.2.2.2.2.2.2.1 x.2.2.2.2.2.2.2.2.2.2.1 x.2.2.2.2.2.2.2.2.2.2.2.1 x.2.2.2.2.2.2.2.2.2.2.2.2.1 x.2.2.2.2.2.2.2.2.2.2.2.2.2.1 x.2.2.2.2.2.2.2.2.2.2.2.2.2.2.1 x.2.2.2.2.2.2.2.2.2.2.2.2.2.2.2.1 x.2.2.2.2.2.2.2.2.2.2.2.2.2.2.2.2.1 x.2.2.2.2.2.2.2.2.2.2.2.2.2.2.2.2.2.1 x.2.2.2.2.2.2.2.2.2.2.2.2.2.2.2.2.2.2.1 x.2.2.2.2.2.2.2.2.2.2.2.2.2.2.2.2.2.2.2.1 x.2.2.2.2.2.2.2.2.2.2.2.2.2.2.2.2.2.2.2.2.1 x.2.2.2.2.2.2.2.2.2.2.2.2.2.2.2.2.2.2.2.2.2.1 x.2.2.2.2.2.2.2.2.2.2.2.2.2.2.2.2.2.2.2.2.2.2.1 x.2.2.2.2.2.2.2.2.2.2.2.2.2.2.2.2.2.2.2.2.2.2.2.1 x.2.2.2.2.2.2.2.2.2.2.2.2.2.2.2.2.2.2.2.2.2.2.2.2.1 x.2.2.2.2.2.2.2.2.2.2.2.2.2.2.2.2.2.2.2.2.2.2.2.2.2.1 x.2.2.2.2.2.2.2.2.2.2.2.2.2.2.2.2.2.2.2.2.2.2.2.2.2.2.1 x.2.2.2.2.2.2.2.2.2.2.2.2.2.2.2.2.2.2.2.2.2.2.2.2.2.2.2.1 x.2.2.2.2.2.2.2.2.2.2.2.2.2.2.2.2.2.2.2.2.2.2.2.2.2.2.2.2.1 x.2.2.2.2.2.2.2.2.2.2.2.2.2.2.2.2.2.2.2.2.2.2.2.2.2.2.2.2.2.1 x.2.2.2.2.2.2.2.2.2.2.2.2.2.2.2.2.2.2.2.2.2.2.2.2.2.2.2.2.2.2.1 x.2.2.2.2.2.2.2.2.2.2.2.2.2.2.2.2.2.2.2.2.2.2.2.2.2.2.2.2.2.2.2).2.2.2.2.2.2.2.2.2.2.2.2.2.2.1 (cx i fun x => p x.1 x.2.1 x.2.2.1 x.2.2.2.1 x.2.2.2.2.1 x.2.2.2.2.2.1 x.2.2.2.2.2.2.1 x.2.2.2.2.2.2.2.1 x.2.2.2.2.2.2.2.2.1 x.2.2.2.2.2.2.2.2.2.1 x.2.2.2.2.2.2.2.2.2.2.1 x.2.2.2.2.2.2.2.2.2.2.2.1 x.2.2.2.2.2.2.2.2.2.2.2.2.1 x.2.2.2.2.2.2.2.2.2.2.2.2.2.1 x.2.2.2.2.2.2.2.2.2.2.2.2.2.2.1 x.2.2.2.2.2.2.2.2.2.2.2.2.2.2.2.1 x.2.2.2.2.2.2.2.2.2.2.2.2.2.2.2.2.1 x.2.2.2.2.2.2.2.2.2.2.2.2.2.2.2.2.2.1 x.2.2.2.2.2.2.2.2.2.2.2.2.2.2.2.2.2.2.1 x.2.2.2.2.2.2.2.2.2.2.2.2.2.2.2.2.2.2.2.1 x.2.2.2.2.2.2.2.2.2.2.2.2.2.2.2.2.2.2.2.2.1 x.2.2.2.2.2.2.2.2.2.2.2.2.2.2.2.2.2.2.2.2.2.1 x.2.2.2.2.2.2.2.2.2.2.2.2.2.2.2.2.2.2.2.2.2.2.1 x.2.2.2.2.2.2.2.2.2.2.2.2.2.2.2.2.2.2.2.2.2.2.2.1 x.2.2.2.2.2.2.2.2.2.2.2.2.2.2.2.2.2.2.2.2.2.2.2.2.1 x.2.2.2.2.2.2.2.2.2.2.2.2.2.2.2.2.2.2.2.2.2.2.2.2.2.1 x.2.2.2.2.2.2.2.2.2.2.2.2.2.2.2.2.2.2.2.2.2.2.2.2.2.2.1 x.2.2.2.2.2.2.2.2.2.2.2.2.2.2.2.2.2.2.2.2.2.2.2.2.2.2.2.1 x.2.2.2.2.2.2.2.2.2.2.2.2.2.2.2.2.2.2.2.2.2.2.2.2.2.2.2.2.1 x.2.2.2.2.2.2.2.2.2.2.2.2.2.2.2.2.2.2.2.2.2.2.2.2.2.2.2.2.2.1 x.2.2.2.2.2.2.2.2.2.2.2.2.2.2.2.2.2.2.2.2.2.2.2.2.2.2.2.2.2.2.1 x.2.2.2.2.2.2.2.2.2.2.2.2.2.2.2.2.2.2.2.2.2.2.2.2.2.2.2.2.2.2.2).2.2.2.2.2.2.2.2.2.2.2.2.2.2.2.1 (cx i fun x => p x.1 x.2.1 x.2.2.1 x.2.2.2.1 x.2.2.2.2.1 x.2.2.2.2.2.1 x.2.2.2.2.2.2.1 x.2.2.2.2.2.2.2.1 x.2.2.2.2.2.2.2.2.1 x.2.2.2.2.2.2.2.2.2.1 x.2.2.2.2.2.2.2.2.2.2.1 x.2.2.2.2.2.2.2.2.2.2.2.1 x.2.2.2.2.2.2.2.2.2.2.2.2.1 x.2.2.2.2.2.2.2.2.2.2.2.2.2.1 x.2.2.2.2.2.2.2.2.2.2.2.2.2.2.1 x.2.2.2.2.2.2.2.2.2.2.2.2.2.2.2.1 x.2.2.2.2.2.2.2.2.2.2.2.2.2.2.2.2.1 x.2.2.2.2.2.2.2.2.2.2.2.2.2.2.2.2.2.1 x.2.2.2.2.2.2.2.2.2.2.2.2.2.2.2.2.2.2.1 x.2.2.2.2.2.2.2.2.2.2.2.2.2.2.2.2.2.2.2.1 x.2.2.2.2.2.2.2.2.2.2.2.2.2.2.2.2.2.2.2.2.1 x.2.2.2.2.2.2.2.2.2.2.2.2.2.2.2.2.2.2.2.2.2.1 x.2.2.2.2.2.2.2.2.2.2.2.2.2.2.2.2.2.2.2.2.2.2.1 x.2.2.2.2.2.2.2.2.2.2.2.2.2.2.2.2.2.2.2.2.2.2.2.1 x.2.2.2.2.2.2.2.2.2.2.2.2.2.2.2.2.2.2.2.2.2.2.2.2.1 x.2.2.2.2.2.2.2.2.2.2.2.2.2.2.2.2.2.2.2.2.2.2.2.2.2.1 x.2.2.2.2.2.2.2.2.2.2.2.2.2.2.2.2.2.2.2.2.2.2.2.2.2.2.1 x.2.2.2.2.2.2.2.2.2.2.2.2.2.2.2.2.2.2.2.2.2.2.2.2.2.2.2.1 x.2.2.2.2.2.2.2.2.2.2.2.2.2.2.2.2.2.2.2.2.2.2.2.2.2.2.2.2.1 x.2.2.2.2.2.2.2.2.2.2.2.2.2.2.2.2.2.2.2.2.2.2.2.2.2.2.2.2.2.1 x.2.2.2.2.2.2.2.2.2.2.2.2.2.2.2.2.2.2.2.2.2.2.2.2.2.2.2.2.2.2.1 x.2.2.2.2.2.2.2.2.2.2.2.2.2.2.2.2.2.2.2.2.2.2.2.2.2.2.2.2.2.2.2).2.2.2.2.2.2.2.2.2.2.2.2.2.2.2.2.1 (cx i fun x => p x.1 x.2.1 x.2.2.1 x.2.2.2.1 x.2.2.2.2.1 x.2.2.2.2.2.1 x.2.2.2.2.2.2.1 x.2.2.2.2.2.2.2.1 x.2.2.2.2.2.2.2.2.1 x.2.2.2.2.2.2.2.2.2.1 x.2.2.2.2.2.2.2.2.2.2.1 x.2.2.2.2.2.2.2.2.2.2.2.1 x.2.2.2.2.2.2.2.2.2.2.2.2.1 x.2.2.2.2.2.2.2.2.2.2.2.2.2.1 x.2.2.2.2.2.2.2.2.2.2.2.2.2.2.1 x.2.2.2.2.2.2.2.2.2.2.2.2.2.2.2.1 x.2.2.2.2.2.2.2.2.2.2.2.2.2.2.2.2.1 x.2.2.2.2.2.2.2.2.2.2.2.2.2.2.2.2.2.1 x.2.2.2.2.2.2.2.2.2.2.2.2.2.2.2.2.2.2.1 x.2.2.2.2.2.2.2.2.2.2.2.2.2.2.2.2.2.2.2.1 x.2.2.2.2.2.2.2.2.2.2.2.2.2.2.2.2.2.2.2.2.1 x.2.2.2.2.2.2.2.2.2.2.2.2.2.2.2.2.2.2.2.2.2.1 x.2.2.2.2.2.2.2.2.2.2.2.2.2.2.2.2.2.2.2.2.2.2.1 x.2.2.2.2.2.2.2.2.2.2.2.2.2.2.2.2.2.2.2.2.2.2.2.1 x.2.2.2.2.2.2.2.2.2.2.2.2.2.2.2.2.2.2.2.2.2.2.2.2.1 x.2.2.2.2.2.2.2.2.2.2.2.2.2.2.2.2.2.2.2.2.2.2.2.2.2.1 x.2.2.2.2.2.2.2.2.2.2.2.2.2.2.2.2.2.2.2.2.2.2.2.2.2.2.1 x.2.2.2.2.2.2.2.2.2.2.2.2.2.2.2.2.2.2.2.2.2.2.2.2.2.2.2.1 x.2.2.2.2.2.2.2.2.2.2.2.2.2.2.2.2.2.2.2.2.2.2.2.2.2.2.2.2.1 x.2.2.2.2.2.2.2.2.2.2.2.2.2.2.2.2.2.2.2.2.2.2.2.2.2.2.2.2.2.1 x.2.2.2.2.2.2.2.2.2.2.2.2.2.2.2.2.2.2.2.2.2.2.2.2.2.2.2.2.2.2.1 x.2.2.2.2.2.2.2.2.2.2.2.2.2.2.2.2.2.2.2.2.2.2.2.2.2.2.2.2.2.2.2).2.2.2.2.2.2.2.2.2.2.2.2.2.2.2.2.2.1 (cx i fun x => p x.1 x.2.1 x.2.2.1 x.2.2.2.1 x.2.2.2.2.1 x.2.2.2.2.2.1 x.2.2.2.2.2.2.1 x.2.2.2.2.2.2.2.1 x.2.2.2.2.2.2.2.2.1 x.2.2.2.2.2.2.2.2.2.1 x.2.2.2.2.2.2.2.2.2.2.1 x.2.2.2.2.2.2.2.2.2.2.2.1 x.2.2.2.2.2.2.2.2.2.2.2.2.1 x.2.2.2.2.2.2.2.2.2.2.2.2.2.1 x.2.2.2.2.2.2.2.2.2.2.2.2.2.2.1 x.2.2.2.2.2.2.2.2.2.2.2.2.2.2.2.1 x.2.2.2.2.2.2.2.2.2.2.2.2.2.2.2.2.1 x.2.2.2.2.2.2.2.2.2.2.2.2.2.2.2.2.2.1 x.2.2.2.2.2.2.2.2.2.2.2.2.2.2.2.2.2.2.1 x.2.2.2.2.2.2.2.2.2.2.2.2.2.2.2.2.2.2.2.1 x.2.2.2.2.2.2.2.2.2.2.2.2.2.2.2.2.2.2.2.2.1 x.2.2.2.2.2.2.2.2.2.2.2.2.2.2.2.2.2.2.2.2.2.1 x.2.2.2.2.2.2.2.2.2.2.2.2.2.2.2.2.2.2.2.2.2.2.1 x.2.2.2.2.2.2.2.2.2.2.2.2.2.2.2.2.2.2.2.2.2.2.2.1 x.2.2.2.2.2.2.2.2.2.2.2.2.2.2.2.2.2.2.2.2.2.2.2.2.1 x.2.2.2.2.2.2.2.2.2.2.2.2.2.2.2.2.2.2.2.2.2.2.2.2.2.1 x.2.2.2.2.2.2.2.2.2.2.2.2.2.2.2.2.2.2.2.2.2.2.2.2.2.2.1 x.2.2.2.2.2.2.2.2.2.2.2.2.2.2.2.2.2.2.2.2.2.2.2.2.2.2.2.1 x.2.2.2.2.2.2.2.2.2.2.2.2.2.2.2.2.2.2.2.2.2.2.2.2.2.2.2.2.1 x.2.2.2.2.2.2.2.2.2.2.2.2.2.2.2.2.2.2.2.2.2.2.2.2.2.2.2.2.2.1 x.2.2.2.2.2.2.2.2.2.2.2.2.2.2.2.2.2.2.2.2.2.2.2.2.2.2.2.2.2.2.1 x.2.2.2.2.2.2.2.2.2.2.2.2.2.2.2.2.2.2.2.2.2.2.2.2.2.2.2.2.2.2.2).2.2.2.2.2.2.2.2.2.2.2.2.2.2.2.2.2.2.1 (cx i fun x => p x.1 x.2.1 x.2.2.1 x.2.2.2.1 x.2.2.2.2.1 x.2.2.2.2.2.1 x.2.2.2.2.2.2.1 x.2.2.2.2.2.2.2.1 x.2.2.2.2.2.2.2.2.1 x.2.2.2.2.2.2.2.2.2.1 x.2.2.2.2.2.2.2.2.2.2.1 x.2.2.2.2.2.2.2.2.2.2.2.1 x.2.2.2.2.2.2.2.2.2.2.2.2.1 x.2.2.2.2.2.2.2.2.2.2.2.2.2.1 x.2.2.2.2.2.2.2.2.2.2.2.2.2.2.1 x.2.2.2.2.2.2.2.2.2.2.2.2.2.2.2.1 x.2.2.2.2.2.2.2.2.2.2.2.2.2.2.2.2.1 x.2.2.2.2.2.2.2.2.2.2.2.2.2.2.2.2.2.1 x.2.2.2.2.2.2.2.2.2.2.2.2.2.2.2.2.2.2.1 x.2.2.2.2.2.2.2.2.2.2.2.2.2.2.2.2.2.2.2.1 x.2.2.2.2.2.2.2.2.2.2.2.2.2.2.2.2.2.2.2.2.1 x.2.2.2.2.2.2.2.2.2.2.2.2.2.2.2.2.2.2.2.2.2.1 x.2.2.2.2.2.2.2.2.2.2.2.2.2.2.2.2.2.2.2.2.2.2.1 x.2.2.2.2.2.2.2.2.2.2.2.2.2.2.2.2.2.2.2.2.2.2.2.1 x.2.2.2.2.2.2.2.2.2.2.2.2.2.2.2.2.2.2.2.2.2.2.2.2.1 x.2.2.2.2.2.2.2.2.2.2.2.2.2.2.2.2.2.2.2.2.2.2.2.2.2.1 x.2.2.2.2.2.2.2.2.2.2.2.2.2.2.2.2.2.2.2.2.2.2.2.2.2.2.1 x.2.2.2.2.2.2.2.2.2.2.2.2.2.2.2.2.2.2.2.2.2.2.2.2.2.2.2.1 x.2.2.2.2.2.2.2.2.2.2.2.2.2.2.2.2.2.2.2.2.2.2.2.2.2.2.2.2.1 x.2.2.2.2.2.2.2.2.2.2.2.2.2.2.2.2.2.2.2.2.2.2.2.2.2.2.2.2.2.1 x.2.2.2.2.2.2.2.2.2.2.2.2.2.2.2.2.2.2.2.2.2.2.2.2.2.2.2.2.2.2.1 x.2.2.2.2.2.2.2.2.2.2.2.2.2.2.2.2.2.2.2.2.2.2.2.2.2.2.2.2.2.2.2).2.2.2.2.2.2.2.2.2.2.2.2.2.2.2.2.2.2.2.1 (cx i fun x => p x.1 x.2.1 x.2.2.1 x.2.2.2.1 x.2.2.2.2.1 x.2.2.2.2.2.1 x.2.2.2.2.2.2.1 x.2.2.2.2.2.2.2.1 x.2.2.2.2.2.2.2.2.1 x.2.2.2.2.2.2.2.2.2.1 x.2.2.2.2.2.2.2.2.2.2.1 x.2.2.2.2.2.2.2.2.2.2.2.1 x.2.2.2.2.2.2.2.2.2.2.2.2.1 x.2.2.2.2.2.2.2.2.2.2.2.2.2.1 x.2.2.2.2.2.2.2.2.2.2.2.2.2.2.1 x.2.2.2.2.2.2.2.2.2.2.2.2.2.2.2.1 x.2.2.2.2.2.2.2.2.2.2.2.2.2.2.2.2.1 x.2.2.2.2.2.2.2.2.2.2.2.2.2.2.2.2.2.1 x.2.2.2.2.2.2.2.2.2.2.2.2.2.2.2.2.2.2.1 x.2.2.2.2.2.2.2.2.2.2.2.2.2.2.2.2.2.2.2.1 x.2.2.2.2.2.2.2.2.2.2.2.2.2.2.2.2.2.2.2.2.1 x.2.2.2.2.2.2.2.2.2.2.2.2.2.2.2.2.2.2.2.2.2.1 x.2.2.2.2.2.2.2.2.2.2.2.2.2.2.2.2.2.2.2.2.2.2.1 x.2.2.2.2.2.2.2.2.2.2.2.2.2.2.2.2.2.2.2.2.2.2.2.1 x.2.2.2.2.2.2.2.2.2.2.2.2.2.2.2.2.2.2.2.2.2.2.2.2.1 x.2.2.2.2.2.2.2.2.2.2.2.2.2.2.2.2.2.2.2.2.2.2.2.2.2.1 x.2.2.2.2.2.2.2.2.2.2.2.2.2.2.2.2.2.2.2.2.2.2.2.2.2.2.1 x.2.2.2.2.2.2.2.2.2.2.2.2.2.2.2.2.2.2.2.2.2.2.2.2.2.2.2.1 x.2.2.2.2.2.2.2.2.2.2.2.2.2.2.2.2.2.2.2.2.2.2.2.2.2.2.2.2.1 x.2.2.2.2.2.2.2.2.2.2.2.2.2.2.2.2.2.2.2.2.2.2.2.2.2.2.2.2.2.1 x.2.2.2.2.2.2.2.2.2.2.2.2.2.2.2.2.2.2.2.2.2.2.2.2.2.2.2.2.2.2.1 x.2.2.2.2.2.2.2.2.2.2.2.2.2.2.2.2.2.2.2.2.2.2.2.2.2.2.2.2.2.2.2).2.2.2.2.2.2.2.2.2.2.2.2.2.2.2.2.2.2.2.2.1 (cx i fun x => p x.1 x.2.1 x.2.2.1 x.2.2.2.1 x.2.2.2.2.1 x.2.2.2.2.2.1 x.2.2.2.2.2.2.1 x.2.2.2.2.2.2.2.1 x.2.2.2.2.2.2.2.2.1 x.2.2.2.2.2.2.2.2.2.1 x.2.2.2.2.2.2.2.2.2.2.1 x.2.2.2.2.2.2.2.2.2.2.2.1 x.2.2.2.2.2.2.2.2.2.2.2.2.1 x.2.2.2.2.2.2.2.2.2.2.2.2.2.1 x.2.2.2.2.2.2.2.2.2.2.2.2.2.2.1 x.2.2.2.2.2.2.2.2.2.2.2.2.2.2.2.1 x.2.2.2.2.2.2.2.2.2.2.2.2.2.2.2.2.1 x.2.2.2.2.2.2.2.2.2.2.2.2.2.2.2.2.2.1 x.2.2.2.2.2.2.2.2.2.2.2.2.2.2.2.2.2.2.1 x.2.2.2.2.2.2.2.2.2.2.2.2.2.2.2.2.2.2.2.1 x.2.2.2.2.2.2.2.2.2.2.2.2.2.2.2.2.2.2.2.2.1 x.2.2.2.2.2.2.2.2.2.2.2.2.2.2.2.2.2.2.2.2.2.1 x.2.2.2.2.2.2.2.2.2.2.2.2.2.2.2.2.2.2.2.2.2.2.1 x.2.2.2.2.2.2.2.2.2.2.2.2.2.2.2.2.2.2.2.2.2.2.2.1 x.2.2.2.2.2.2.2.2.2.2.2.2.2.2.2.2.2.2.2.2.2.2.2.2.1 x.2.2.2.2.2.2.2.2.2.2.2.2.2.2.2.2.2.2.2.2.2.2.2.2.2.1 x.2.2.2.2.2.2.2.2.2.2.2.2.2.2.2.2.2.2.2.2.2.2.2.2.2.2.1 x.2.2.2.2.2.2.2.2.2.2.2.2.2.2.2.2.2.2.2.2.2.2.2.2.2.2.2.1 x.2.2.2.2.2.2.2.2.2.2.2.2.2.2.2.2.2.2.2.2.2.2.2.2.2.2.2.2.1 x.2.2.2.2.2.2.2.2.2.2.2.2.2.2.2.2.2.2.2.2.2.2.2.2.2.2.2.2.2.1 x.2.2.2.2.2.2.2.2.2.2.2.2.2.2.2.2.2.2.2.2.2.2.2.2.2.2.2.2.2.2.1 x.2.2.2.2.2.2.2.2.2.2.2.2.2.2.2.2.2.2.2.2.2.2.2.2.2.2.2.2.2.2.2).2.2.2.2.2.2.2.2.2.2.2.2.2.2.2.2.2.2.2.2.2.1 (cx i fun x => p x.1 x.2.1 x.2.2.1 x.2.2.2.1 x.2.2.2.2.1 x.2.2.2.2.2.1 x.2.2.2.2.2.2.1 x.2.2.2.2.2.2.2.1 x.2.2.2.2.2.2.2.2.1 x.2.2.2.2.2.2.2.2.2.1 x.2.2.2.2.2.2.2.2.2.2.1 x.2.2.2.2.2.2.2.2.2.2.2.1 x.2.2.2.2.2.2.2.2.2.2.2.2.1 x.2.2.2.2.2.2.2.2.2.2.2.2.2.1 x.2.2.2.2.2.2.2.2.2.2.2.2.2.2.1 x.2.2.2.2.2.2.2.2.2.2.2.2.2.2.2.1 x.2.2.2.2.2.2.2.2.2.2.2.2.2.2.2.2.1 x.2.2.2.2.2.2.2.2.2.2.2.2.2.2.2.2.2.1 x.2.2.2.2.2.2.2.2.2.2.2.2.2.2.2.2.2.2.1 x.2.2.2.2.2.2.2.2.2.2.2.2.2.2.2.2.2.2.2.1 x.2.2.2.2.2.2.2.2.2.2.2.2.2.2.2.2.2.2.2.2.1 x.2.2.2.2.2.2.2.2.2.2.2.2.2.2.2.2.2.2.2.2.2.1 x.2.2.2.2.2.2.2.2.2.2.2.2.2.2.2.2.2.2.2.2.2.2.1 x.2.2.2.2.2.2.2.2.2.2.2.2.2.2.2.2.2.2.2.2.2.2.2.1 x.2.2.2.2.2.2.2.2.2.2.2.2.2.2.2.2.2.2.2.2.2.2.2.2.1 x.2.2.2.2.2.2.2.2.2.2.2.2.2.2.2.2.2.2.2.2.2.2.2.2.2.1 x.2.2.2.2.2.2.2.2.2.2.2.2.2.2.2.2.2.2.2.2.2.2.2.2.2.2.1 x.2.2.2.2.2.2.2.2.2.2.2.2.2.2.2.2.2.2.2.2.2.2.2.2.2.2.2.1 x.2.2.2.2.2.2.2.2.2.2.2.2.2.2.2.2.2.2.2.2.2.2.2.2.2.2.2.2.1 x.2.2.2.2.2.2.2.2.2.2.2.2.2.2.2.2.2.2.2.2.2.2.2.2.2.2.2.2.2.1 x.2.2.2.2.2.2.2.2.2.2.2.2.2.2.2.2.2.2.2.2.2.2.2.2.2.2.2.2.2.2.1 x.2.2.2.2.2.2.2.2.2.2.2.2.2.2.2.2.2.2.2.2.2.2.2.2.2.2.2.2.2.2.2).2.2.2.2.2.2.2.2.2.2.2.2.2.2.2.2.2.2.2.2.2.2.1 (cx i fun x => p x.1 x.2.1 x.2.2.1 x.2.2.2.1 x.2.2.2.2.1 x.2.2.2.2.2.1 x.2.2.2.2.2.2.1 x.2.2.2.2.2.2.2.1 x.2.2.2.2.2.2.2.2.1 x.2.2.2.2.2.2.2.2.2.1 x.2.2.2.2.2.2.2.2.2.2.1 x.2.2.2.2.2.2.2.2.2.2.2.1 x.2.2.2.2.2.2.2.2.2.2.2.2.1 x.2.2.2.2.2.2.2.2.2.2.2.2.2.1 x.2.2.2.2.2.2.2.2.2.2.2.2.2.2.1 x.2.2.2.2.2.2.2.2.2.2.2.2.2.2.2.1 x.2.2.2.2.2.2.2.2.2.2.2.2.2.2.2.2.1 x.2.2.2.2.2.2.2.2.2.2.2.2.2.2.2.2.2.1 x.2.2.2.2.2.2.2.2.2.2.2.2.2.2.2.2.2.2.1 x.2.2.2.2.2.2.2.2.2.2.2.2.2.2.2.2.2.2.2.1 x.2.2.2.2.2.2.2.2.2.2.2.2.2.2.2.2.2.2.2.2.1 x.2.2.2.2.2.2.2.2.2.2.2.2.2.2.2.2.2.2.2.2.2.1 x.2.2.2.2.2.2.2.2.2.2.2.2.2.2.2.2.2.2.2.2.2.2.1 x.2.2.2.2.2.2.2.2.2.2.2.2.2.2.2.2.2.2.2.2.2.2.2.1 x.2.2.2.2.2.2.2.2.2.2.2.2.2.2.2.2.2.2.2.2.2.2.2.2.1 x.2.2.2.2.2.2.2.2.2.2.2.2.2.2.2.2.2.2.2.2.2.2.2.2.2.1 x.2.2.2.2.2.2.2.2.2.2.2.2.2.2.2.2.2.2.2.2.2.2.2.2.2.2.1 x.2.2.2.2.2.2.2.2.2.2.2.2.2.2.2.2.2.2.2.2.2.2.2.2.2.2.2.1 x.2.2.2.2.2.2.2.2.2.2.2.2.2.2.2.2.2.2.2.2.2.2.2.2.2.2.2.2.1 x.2.2.2.2.2.2.2.2.2.2.2.2.2.2.2.2.2.2.2.2.2.2.2.2.2.2.2.2.2.1 x.2.2.2.2.2.2.2.2.2.2.2.2.2.2.2.2.2.2.2.2.2.2.2.2.2.2.2.2.2.2.1 x.2.2.2.2.2.2.2.2.2.2.2.2.2.2.2.2.2.2.2.2.2.2.2.2.2.2.2.2.2.2.2).2.2.2.2.2.2.2.2.2.2.2.2.2.2.2.2.2.2.2.2.2.2.2.1 (cx i fun x => p x.1 x.2.1 x.2.2.1 x.2.2.2.1 x.2.2.2.2.1 x.2.2.2.2.2.1 x.2.2.2.2.2.2.1 x.2.2.2.2.2.2.2.1 x.2.2.2.2.2.2.2.2.1 x.2.2.2.2.2.2.2.2.2.1 x.2.2.2.2.2.2.2.2.2.2.1 x.2.2.2.2.2.2.2.2.2.2.2.1 x.2.2.2.2.2.2.2.2.2.2.2.2.1 x.2.2.2.2.2.2.2.2.2.2.2.2.2.1 x.2.2.2.2.2.2.2.2.2.2.2.2.2.2.1 x.2.2.2.2.2.2.2.2.2.2.2.2.2.2.2.1 x.2.2.2.2.2.2.2.2.2.2.2.2.2.2.2.2.1 x.2.2.2.2.2.2.2.2.2.2.2.2.2.2.2.2.2.1 x.2.2.2.2.2.2.2.2.2.2.2.2.2.2.2.2.2.2.1 x.2.2.2.2.2.2.2.2.2.2.2.2.2.2.2.2.2.2.2.1 x.2.2.2.2.2.2.2.2.2.2.2.2.2.2.2.2.2.2.2.2.1 x.2.2.2.2.2.2.2.2.2.2.2.2.2.2.2.2.2.2.2.2.2.1 x.2.2.2.2.2.2.2.2.2.2.2.2.2.2.2.2.2.2.2.2.2.2.1 x.2.2.2.2.2.2.2.2.2.2.2.2.2.2.2.2.2.2.2.2.2.2.2.1 x.2.2.2.2.2.2.2.2.2.2.2.2.2.2.2.2.2.2.2.2.2.2.2.2.1 x.2.2.2.2.2.2.2.2.2.2.2.2.2.2.2.2.2.2.2.2.2.2.2.2.2.1 x.2.2.2.2.2.2.2.2.2.2.2.2.2.2.2.2.2.2.2.2.2.2.2.2.2.2.1 x.2.2.2.2.2.2.2.2.2.2.2.2.2.2.2.2.2.2.2.2.2.2.2.2.2.2.2.1 x.2.2.2.2.2.2.2.2.2.2.2.2.2.2.2.2.2.2.2.2.2.2.2.2.2.2.2.2.1 x.2.2.2.2.2.2.2.2.2.2.2.2.2.2.2.2.2.2.2.2.2.2.2.2.2.2.2.2.2.1 x.2.2.2.2.2.2.2.2.2.2.2.2.2.2.2.2.2.2.2.2.2.2.2.2.2.2.2.2.2.2.1 x.2.2.2.2.2.2.2.2.2.2.2.2.2.2.2.2.2.2.2.2.2.2.2.2.2.2.2.2.2.2.2).2.2.2.2.2.2.2.2.2.2.2.2.2.2.2.2.2.2.2.2.2.2.2.2.1 (cx i fun x => p x.1 x.2.1 x.2.2.1 x.2.2.2.1 x.2.2.2.2.1 x.2.2.2.2.2.1 x.2.2.2.2.2.2.1 x.2.2.2.2.2.2.2.1 x.2.2.2.2.2.2.2.2.1 x.2.2.2.2.2.2.2.2.2.1 x.2.2.2.2.2.2.2.2.2.2.1 x.2.2.2.2.2.2.2.2.2.2.2.1 x.2.2.2.2.2.2.2.2.2.2.2.2.1 x.2.2.2.2.2.2.2.2.2.2.2.2.2.1 x.2.2.2.2.2.2.2.2.2.2.2.2.2.2.1 x.2.2.2.2.2.2.2.2.2.2.2.2.2.2.2.1 x.2.2.2.2.2.2.2.2.2.2.2.2.2.2.2.2.1 x.2.2.2.2.2.2.2.2.2.2.2.2.2.2.2.2.2.1 x.2.2.2.2.2.2.2.2.2.2.2.2.2.2.2.2.2.2.1 x.2.2.2.2.2.2.2.2.2.2.2.2.2.2.2.2.2.2.2.1 x.2.2.2.2.2.2.2.2.2.2.2.2.2.2.2.2.2.2.2.2.1 x.2.2.2.2.2.2.2.2.2.2.2.2.2.2.2.2.2.2.2.2.2.1 x.2.2.2.2.2.2.2.2.2.2.2.2.2.2.2.2.2.2.2.2.2.2.1 x.2.2.2.2.2.2.2.2.2.2.2.2.2.2.2.2.2.2.2.2.2.2.2.1 x.2.2.2.2.2.2.2.2.2.2.2.2.2.2.2.2.2.2.2.2.2.2.2.2.1 x.2.2.2.2.2.2.2.2.2.2.2.2.2.2.2.2.2.2.2.2.2.2.2.2.2.1 x.2.2.2.2.2.2.2.2.2.2.2.2.2.2.2.2.2.2.2.2.2.2.2.2.2.2.1 x.2.2.2.2.2.2.2.2.2.2.2.2.2.2.2.2.2.2.2.2.2.2.2.2.2.2.2.1 x.2.2.2.2.2.2.2.2.2.2.2.2.2.2.2.2.2.2.2.2.2.2.2.2.2.2.2.2.1 x.2.2.2.2.2.2.2.2.2.2.2.2.2.2.2.2.2.2.2.2.2.2.2.2.2.2.2.2.2.1 x.2.2.2.2.2.2.2.2.2.2.2.2.2.2.2.2.2.2.2.2.2.2.2.2.2.2.2.2.2.2.1 x.2.2.2.2.2.2.2.2.2.2.2.2.2.2.2.2.2.2.2.2.2.2.2.2.2.2.2.2.2.2.2).2.2.2.2.2.2.2.2.2.2.2.2.2.2.2.2.2.2.2.2.2.2.2.2.2.1 (cx i fun x => p x.1 x.2.1 x.2.2.1 x.2.2.2.1 x.2.2.2.2.1 x.2.2.2.2.2.1 x.2.2.2.2.2.2.1 x.2.2.2.2.2.2.2.1 x.2.2.2.2.2.2.2.2.1 x.2.2.2.2.2.2.2.2.2.1 x.2.2.2.2.2.2.2.2.2.2.1 x.2.2.2.2.2.2.2.2.2.2.2.1 x.2.2.2.2.2.2.2.2.2.2.2.2.1 x.2.2.2.2.2.2.2.2.2.2.2.2.2.1 x.2.2.2.2.2.2.2.2.2.2.2.2.2.2.1 x.2.2.2.2.2.2.2.2.2.2.2.2.2.2.2.1 x.2.2.2.2.2.2.2.2.2.2.2.2.2.2.2.2.1 x.2.2.2.2.2.2.2.2.2.2.2.2.2.2.2.2.2.1 x.2.2.2.2.2.2.2.2.2.2.2.2.2.2.2.2.2.2.1 x.2.2.2.2.2.2.2.2.2.2.2.2.2.2.2.2.2.2.2.1 x.2.2.2.2.2.2.2.2.2.2.2.2.2.2.2.2.2.2.2.2.1 x.2.2.2.2.2.2.2.2.2.2.2.2.2.2.2.2.2.2.2.2.2.1 x.2.2.2.2.2.2.2.2.2.2.2.2.2.2.2.2.2.2.2.2.2.2.1 x.2.2.2.2.2.2.2.2.2.2.2.2.2.2.2.2.2.2.2.2.2.2.2.1 x.2.2.2.2.2.2.2.2.2.2.2.2.2.2.2.2.2.2.2.2.2.2.2.2.1 x.2.2.2.2.2.2.2.2.2.2.2.2.2.2.2.2.2.2.2.2.2.2.2.2.2.1 x.2.2.2.2.2.2.2.2.2.2.2.2.2.2.2.2.2.2.2.2.2.2.2.2.2.2.1 x.2.2.2.2.2.2.2.2.2.2.2.2.2.2.2.2.2.2.2.2.2.2.2.2.2.2.2.1 x.2.2.2.2.2.2.2.2.2.2.2.2.2.2.2.2.2.2.2.2.2.2.2.2.2.2.2.2.1 x.2.2.2.2.2.2.2.2.2.2.2.2.2.2.2.2.2.2.2.2.2.2.2.2.2.2.2.2.2.1 x.2.2.2.2.2.2.2.2.2.2.2.2.2.2.2.2.2.2.2.2.2.2.2.2.2.2.2.2.2.2.1 x.2.2.2.2.2.2.2.2.2.2.2.2.2.2.2.2.2.2.2.2.2.2.2.2.2.2.2.2.2.2.2).2.2.2.2.2.2.2.2.2.2.2.2.2.2.2.2.2.2.2.2.2.2.2.2.2.2.1 (cx i fun x => p x.1 x.2.1 x.2.2.1 x.2.2.2.1 x.2.2.2.2.1 x.2.2.2.2.2.1 x.2.2.2.2.2.2.1 x.2.2.2.2.2.2.2.1 x.2.2.2.2.2.2.2.2.1 x.2.2.2.2.2.2.2.2.2.1 x.2.2.2.2.2.2.2.2.2.2.1 x.2.2.2.2.2.2.2.2.2.2.2.1 x.2.2.2.2.2.2.2.2.2.2.2.2.1 x.2.2.2.2.2.2.2.2.2.2.2.2.2.1 x.2.2.2.2.2.2.2.2.2.2.2.2.2.2.1 x.2.2.2.2.2.2.2.2.2.2.2.2.2.2.2.1 x.2.2.2.2.2.2.2.2.2.2.2.2.2.2.2.2.1 x.2.2.2.2.2.2.2.2.2.2.2.2.2.2.2.2.2.1 x.2.2.2.2.2.2.2.2.2.2.2.2.2.2.2.2.2.2.1 x.2.2.2.2.2.2.2.2.2.2.2.2.2.2.2.2.2.2.2.1 x.2.2.2.2.2.2.2.2.2.2.2.2.2.2.2.2.2.2.2.2.1 x.2.2.2.2.2.2.2.2.2.2.2.2.2.2.2.2.2.2.2.2.2.1 x.2.2.2.2.2.2.2.2.2.2.2.2.2.2.2.2.2.2.2.2.2.2.1 x.2.2.2.2.2.2.2.2.2.2.2.2.2.2.2.2.2.2.2.2.2.2.2.1 x.2.2.2.2.2.2.2.2.2.2.2.2.2.2.2.2.2.2.2.2.2.2.2.2.1 x.2.2.2.2.2.2.2.2.2.2.2.2.2.2.2.2.2.2.2.2.2.2.2.2.2.1 x.2.2.2.2.2.2.2.2.2.2.2.2.2.2.2.2.2.2.2.2.2.2.2.2.2.2.1 x.2.2.2.2.2.2.2.2.2.2.2.2.2.2.2.2.2.2.2.2.2.2.2.2.2.2.2.1 x.2.2.2.2.2.2.2.2.2.2.2.2.2.2.2.2.2.2.2.2.2.2.2.2.2.2.2.2.1 x.2.2.2.2.2.2.2.2.2.2.2.2.2.2.2.2.2.2.2.2.2.2.2.2.2.2.2.2.2.1 x.2.2.2.2.2.2.2.2.2.2.2.2.2.2.2.2.2.2.2.2.2.2.2.2.2.2.2.2.2.2.1 x.2.2.2.2.2.2.2.2.2.2.2.2.2.2.2.2.2.2.2.2.2.2.2.2.2.2.2.2.2.2.2).2.2.2.2.2.2.2.2.2.2.2.2.2.2.2.2.2.2.2.2.2.2.2.2.2.2.2.1 (cx i fun x => p x.1 x.2.1 x.2.2.1 x.2.2.2.1 x.2.2.2.2.1 x.2.2.2.2.2.1 x.2.2.2.2.2.2.1 x.2.2.2.2.2.2.2.1 x.2.2.2.2.2.2.2.2.1 x.2.2.2.2.2.2.2.2.2.1 x.2.2.2.2.2.2.2.2.2.2.1 x.2.2.2.2.2.2.2.2.2.2.2.1 x.2.2.2.2.2.2.2.2.2.2.2.2.1 x.2.2.2.2.2.2.2.2.2.2.2.2.2.1 x.2.2.2.2.2.2.2.2.2.2.2.2.2.2.1 x.2.2.2.2.2.2.2.2.2.2.2.2.2.2.2.1 x.2.2.2.2.2.2.2.2.2.2.2.2.2.2.2.2.1 x.2.2.2.2.2.2.2.2.2.2.2.2.2.2.2.2.2.1 x.2.2.2.2.2.2.2.2.2.2.2.2.2.2.2.2.2.2.1 x.2.2.2.2.2.2.2.2.2.2.2.2.2.2.2.2.2.2.2.1 x.2.2.2.2.2.2.2.2.2.2.2.2.2.2.2.2.2.2.2.2.1 x.2.2.2.2.2.2.2.2.2.2.2.2.2.2.2.2.2.2.2.2.2.1 x.2.2.2.2.2.2.2.2.2.2.2.2.2.2.2.2.2.2.2.2.2.2.1 x.2.2.2.2.2.2.2.2.2.2.2.2.2.2.2.2.2.2.2.2.2.2.2.1 x.2.2.2.2.2.2.2.2.2.2.2.2.2.2.2.2.2.2.2.2.2.2.2.2.1 x.2.2.2.2.2.2.2.2.2.2.2.2.2.2.2.2.2.2.2.2.2.2.2.2.2.1 x.2.2.2.2.2.2.2.2.2.2.2.2.2.2.2.2.2.2.2.2.2.2.2.2.2.2.1 x.2.2.2.2.2.2.2.2.2.2.2.2.2.2.2.2.2.2.2.2.2.2.2.2.2.2.2.1 x.2.2.2.2.2.2.2.2.2.2.2.2.2.2.2.2.2.2.2.2.2.2.2.2.2.2.2.2.1 x.2.2.2.2.2.2.2.2.2.2.2.2.2.2.2.2.2.2.2.2.2.2.2.2.2.2.2.2.2.1 x.2.2.2.2.2.2.2.2.2.2.2.2.2.2.2.2.2.2.2.2.2.2.2.2.2.2.2.2.2.2.1 x.2.2.2.2.2.2.2.2.2.2.2.2.2.2.2.2.2.2.2.2.2.2.2.2.2.2.2.2.2.2.2).2.2.2.2.2.2.2.2.2.2.2.2.2.2.2.2.2.2.2.2.2.2.2.2.2.2.2.2.1 (cx i fun x => p x.1 x.2.1 x.2.2.1 x.2.2.2.1 x.2.2.2.2.1 x.2.2.2.2.2.1 x.2.2.2.2.2.2.1 x.2.2.2.2.2.2.2.1 x.2.2.2.2.2.2.2.2.1 x.2.2.2.2.2.2.2.2.2.1 x.2.2.2.2.2.2.2.2.2.2.1 x.2.2.2.2.2.2.2.2.2.2.2.1 x.2.2.2.2.2.2.2.2.2.2.2.2.1 x.2.2.2.2.2.2.2.2.2.2.2.2.2.1 x.2.2.2.2.2.2.2.2.2.2.2.2.2.2.1 x.2.2.2.2.2.2.2.2.2.2.2.2.2.2.2.1 x.2.2.2.2.2.2.2.2.2.2.2.2.2.2.2.2.1 x.2.2.2.2.2.2.2.2.2.2.2.2.2.2.2.2.2.1 x.2.2.2.2.2.2.2.2.2.2.2.2.2.2.2.2.2.2.1 x.2.2.2.2.2.2.2.2.2.2.2.2.2.2.2.2.2.2.2.1 x.2.2.2.2.2.2.2.2.2.2.2.2.2.2.2.2.2.2.2.2.1 x.2.2.2.2.2.2.2.2.2.2.2.2.2.2.2.2.2.2.2.2.2.1 x.2.2.2.2.2.2.2.2.2.2.2.2.2.2.2.2.2.2.2.2.2.2.1 x.2.2.2.2.2.2.2.2.2.2.2.2.2.2.2.2.2.2.2.2.2.2.2.1 x.2.2.2.2.2.2.2.2.2.2.2.2.2.2.2.2.2.2.2.2.2.2.2.2.1 x.2.2.2.2.2.2.2.2.2.2.2.2.2.2.2.2.2.2.2.2.2.2.2.2.2.1 x.2.2.2.2.2.2.2.2.2.2.2.2.2.2.2.2.2.2.2.2.2.2.2.2.2.2.1 x.2.2.2.2.2.2.2.2.2.2.2.2.2.2.2.2.2.2.2.2.2.2.2.2.2.2.2.1 x.2.2.2.2.2.2.2.2.2.2.2.2.2.2.2.2.2.2.2.2.2.2.2.2.2.2.2.2.1 x.2.2.2.2.2.2.2.2.2.2.2.2.2.2.2.2.2.2.2.2.2.2.2.2.2.2.2.2.2.1 x.2.2.2.2.2.2.2.2.2.2.2.2.2.2.2.2.2.2.2.2.2.2.2.2.2.2.2.2.2.2.1 x.2.2.2.2.2.2.2.2.2.2.2.2.2.2.2.2.2.2.2.2.2.2.2.2.2.2.2.2.2.2.2).2.2.2.2.2.2.2.2.2.2.2.2.2.2.2.2.2.2.2.2.2.2.2.2.2.2.2.2.2.1 (cx i fun x => p x.1 x.2.1 x.2.2.1 x.2.2.2.1 x.2.2.2.2.1 x.2.2.2.2.2.1 x.2.2.2.2.2.2.1 x.2.2.2.2.2.2.2.1 x.2.2.2.2.2.2.2.2.1 x.2.2.2.2.2.2.2.2.2.1 x.2.2.2.2.2.2.2.2.2.2.1 x.2.2.2.2.2.2.2.2.2.2.2.1 x.2.2.2.2.2.2.2.2.2.2.2.2.1 x.2.2.2.2.2.2.2.2.2.2.2.2.2.1 x.2.2.2.2.2.2.2.2.2.2.2.2.2.2.1 x.2.2.2.2.2.2.2.2.2.2.2.2.2.2.2.1 x.2.2.2.2.2.2.2.2.2.2.2.2.2.2.2.2.1 x.2.2.2.2.2.2.2.2.2.2.2.2.2.2.2.2.2.1 x.2.2.2.2.2.2.2.2.2.2.2.2.2.2.2.2.2.2.1 x.2.2.2.2.2.2.2.2.2.2.2.2.2.2.2.2.2.2.2.1 x.2.2.2.2.2.2.2.2.2.2.2.2.2.2.2.2.2.2.2.2.1 x.2.2.2.2.2.2.2.2.2.2.2.2.2.2.2.2.2.2.2.2.2.1 x.2.2.2.2.2.2.2.2.2.2.2.2.2.2.2.2.2.2.2.2.2.2.1 x.2.2.2.2.2.2.2.2.2.2.2.2.2.2.2.2.2.2.2.2.2.2.2.1 x.2.2.2.2.2.2.2.2.2.2.2.2.2.2.2.2.2.2.2.2.2.2.2.2.1 x.2.2.2.2.2.2.2.2.2.2.2.2.2.2.2.2.2.2.2.2.2.2.2.2.2.1 x.2.2.2.2.2.2.2.2.2.2.2.2.2.2.2.2.2.2.2.2.2.2.2.2.2.2.1 x.2.2.2.2.2.2.2.2.2.2.2.2.2.2.2.2.2.2.2.2.2.2.2.2.2.2.2.1 x.2.2.2.2.2.2.2.2.2.2.2.2.2.2.2.2.2.2.2.2.2.2.2.2.2.2.2.2.1 x.2.2.2.2.2.2.2.2.2.2.2.2.2.2.2.2.2.2.2.2.2.2.2.2.2.2.2.2.2.1 x.2.2.2.2.2.2.2.2.2.2.2.2.2.2.2.2.2.2.2.2.2.2.2.2.2.2.2.2.2.2.1 x.2.2.2.2.2.2.2.2.2.2.2.2.2.2.2.2.2.2.2.2.2.2.2.2.2.2.2.2.2.2.2).2.2.2.2.2.2.2.2.2.2.2.2.2.2.2.2.2.2.2.2.2.2.2.2.2.2.2.2.2.2.1 (cx i fun x => p x.1 x.2.1 x.2.2.1 x.2.2.2.1 x.2.2.2.2.1 x.2.2.2.2.2.1 x.2.2.2.2.2.2.1 x.2.2.2.2.2.2.2.1 x.2.2.2.2.2.2.2.2.1 x.2.2.2.2.2.2.2.2.2.1 x.2.2.2.2.2.2.2.2.2.2.1 x.2.2.2.2.2.2.2.2.2.2.2.1 x.2.2.2.2.2.2.2.2.2.2.2.2.1 x.2.2.2.2.2.2.2.2.2.2.2.2.2.1 x.2.2.2.2.2.2.2.2.2.2.2.2.2.2.1 x.2.2.2.2.2.2.2.2.2.2.2.2.2.2.2.1 x.2.2.2.2.2.2.2.2.2.2.2.2.2.2.2.2.1 x.2.2.2.2.2.2.2.2.2.2.2.2.2.2.2.2.2.1 x.2.2.2.2.2.2.2.2.2.2.2.2.2.2.2.2.2.2.1 x.2.2.2.2.2.2.2.2.2.2.2.2.2.2.2.2.2.2.2.1 x.2.2.2.2.2.2.2.2.2.2.2.2.2.2.2.2.2.2.2.2.1 x.2.2.2.2.2.2.2.2.2.2.2.2.2.2.2.2.2.2.2.2.2.1 x.2.2.2.2.2.2.2.2.2.2.2.2.2.2.2.2.2.2.2.2.2.2.1 x.2.2.2.2.2.2.2.2.2.2.2.2.2.2.2.2.2.2.2.2.2.2.2.1 x.2.2.2.2.2.2.2.2.2.2.2.2.2.2.2.2.2.2.2.2.2.2.2.2.1 x.2.2.2.2.2.2.2.2.2.2.2.2.2.2.2.2.2.2.2.2.2.2.2.2.2.1 x.2.2.2.2.2.2.2.2.2.2.2.2.2.2.2.2.2.2.2.2.2.2.2.2.2.2.1 x.2.2.2.2.2.2.2.2.2.2.2.2.2.2.2.2.2.2.2.2.2.2.2.2.2.2.2.1 x.2.2.2.2.2.2.2.2.2.2.2.2.2.2.2.2.2.2.2.2.2.2.2.2.2.2.2.2.1 x.2.2.2.2.2.2.2.2.2.2.2.2.2.2.2.2.2.2.2.2.2.2.2.2.2.2.2.2.2.1 x.2.2.2.2.2.2.2.2.2.2.2.2.2.2.2.2.2.2.2.2.2.2.2.2.2.2.2.2.2.2.1 x.2.2.2.2.2.2.2.2.2.2.2.2.2.2.2.2.2.2.2.2.2.2.2.2.2.2.2.2.2.2.2).2.2.2.2.2.2.2.2.2.2.2.2.2.2.2.2.2.2.2.2.2.2.2.2.2.2.2.2.2.2.2) : ∀ a0 a1 a2 a3 a4 a5 a6 a7 a8 a9 a10 a11 a12 a13 a14 a15 a16 a17 a18 a19 a20 a21 a22 a23 a24 a25 a26 a27 a28 a29 a30 a31, p a0 a1 a2 a3 a4 a5 a6 a7 a8 a9 a10 a11 a12 a13 a14 a15 a16 a17 a18 a19 a20 a21 a22 a23 a24 a25 a26 a27 a28 a29 a30 a31 :=
  fun a0 a1 a2 a3 a4 a5 a6 a7 a8 a9 a10 a11 a12 a13 a14 a15 a16 a17 a18 a19 a20 a21 a22 a23 a24 a25 a26 a27 a28 a29 a30 a31 => cx_intro (p := fun x => p x.1 x.2.1 x.2.2.1 x.2.2.2.1 x.2.2.2.2.1 x.2.2.2.2.2.1 x.2.2.2.2.2.2.1 x.2.2.2.2.2.2.2.1 x.2.2.2.2.2.2.2.2.1 x.2.2.2.2.2.2.2.2.2.1 x.2.2.2.2.2.2.2.2.2.2.1 x.2.2.2.2.2.2.2.2.2.2.2.1 x.2.2.2.2.2.2.2.2.2.2.2.2.1 x.2.2.2.2.2.2.2.2.2.2.2.2.2.1 x.2.2.2.2.2.2.2.2.2.2.2.2.2.2.1 x.2.2.2.2.2.2.2.2.2.2.2.2.2.2.2.1 x.2.2.2.2.2.2.2.2.2.2.2.2.2.2.2.2.1 x.2.2.2.2.2.2.2.2.2.2.2.2.2.2.2.2.2.1 x.2.2.2.2.2.2.2.2.2.2.2.2.2.2.2.2.2.2.1 x.2.2.2.2.2.2.2.2.2.2.2.2.2.2.2.2.2.2.2.1 x.2.2.2.2.2.2.2.2.2.2.2.2.2.2.2.2.2.2.2.2.1 x.2.2.2.2.2.2.2.2.2.2.2.2.2.2.2.2.2.2.2.2.2.1 x.2.2.2.2.2.2.2.2.2.2.2.2.2.2.2.2.2.2.2.2.2.2.1 x.2.2.2.2.2.2.2.2.2.2.2.2.2.2.2.2.2.2.2.2.2.2.2.1 x.2.2.2.2.2.2.2.2.2.2.2.2.2.2.2.2.2.2.2.2.2.2.2.2.1 x.2.2.2.2.2.2.2.2.2.2.2.2.2.2.2.2.2.2.2.2.2.2.2.2.2.1 x.2.2.2.2.2.2.2.2.2.2.2.2.2.2.2.2.2.2.2.2.2.2.2.2.2.2.1 x.2.2.2.2.2.2.2.2.2.2.2.2.2.2.2.2.2.2.2.2.2.2.2.2.2.2.2.1 x.2.2.2.2.2.2.2.2.2.2.2.2.2.2.2.2.2.2.2.2.2.2.2.2.2.2.2.2.1 x.2.2.2.2.2.2.2.2.2.2.2.2.2.2.2.2.2.2.2.2.2.2.2.2.2.2.2.2.2.1 x.2.2.2.2.2.2.2.2.2.2.2.2.2.2.2.2.2.2.2.2.2.2.2.2.2.2.2.2.2.2.1 x.2.2.2.2.2.2.2.2.2.2.2.2.2.2.2.2.2.2.2.2.2.2.2.2.2.2.2.2.2.2.2) i h (a0, a1, a2, a3, a4, a5, a6, a7, a8, a9, a10, a11, a12, a13, a14, a15, a16, a17, a18, a19, a20, a21, a22, a23, a24, a25, a26, a27, a28, a29, a30, a31)
theorem ex_el {α : Sort u} {p : α → Prop} {C : Prop} (h : ∃ x, p x) (k : ∀ x, p x → C) : C := h.elim k
@[irreducible] noncomputable def ep {α : Type u} (i : Nonempty α) (p : α → Prop) : α := @Classical.epsilon α i p
theorem ep_el {α : Type u} {p : α → Prop} {C : Prop} (i : Nonempty α) (h : ∃ x, p x) (k : p (ep i p) → C) : C := k (by unfold ep; exact Classical.epsilon_spec h)
theorem and_el {a b C : Prop} (h : a ∧ b) (k : a → b → C) : C := k h.1 h.2
theorem inh_world : Nonempty World := ⟨⟨fun _ _ => 0, { strHash := fun _ => 0, shareClass := fun _ => 0, mergeTok := fun x => x, idOf := fun _ => 0, idOfShared := fun _ _ => 0, followText := fun _ => false, idOfImm := fun _ => 0 }⟩⟩
theorem inh_shared : Nonempty Shared := ⟨{}⟩
theorem inh_around : Nonempty Around := ⟨{}⟩
theorem inh_dat : Nonempty Dat := ⟨.int 0⟩
theorem inh_int : Nonempty Int := ⟨0⟩
theorem inh_nat : Nonempty Nat := ⟨0⟩
theorem inh_heap : Nonempty Heap := ⟨default⟩
theorem inh_val : Nonempty Value := ⟨default⟩
abbrev CxT := World × (ExcName → Option Value) × (Str → Option Value) × (Str → Option Value) × Nat × Nat × Option (List Code) × Str × Scope × Addr × Value × List (Str × Addr) × List Env × Around × Heap × Heap × Addr × (Str → Option Value) × List (Addr × Obj) × Shared × List Value × (Value → Shared → Prop) × (Value → Shared → Prop)
theorem inh_cxt : Nonempty CxT := inh_world.elim fun w => ⟨(w, fun _ => none, fun _ => none, fun _ => none, 0, 0, none, default, default, 0, .none, [], [], {}, default, default, 0, fun _ => none, [], {}, [], fun _ _ => False, fun _ _ => False)⟩
def conAt (w : World) (mean : ExcName → Option Value) (mg mb : Str → Option Value) (dp un : Nat) (gd : Option (List Code)) (cn : Str) (cs : Scope) (a : Addr) (ccd : Value) (cl : List (Str × Addr)) (outer : List Env) (A₀ : Around) (base h₀ : Heap) (L : Addr) (m : Str → Option Value) (olds : List (Addr × Obj)) (s : Shared) (vs : List Value) (Q E : Value → Shared → Prop) (f : Addr) (lv : Nat) (ins : List Dat) (Out : List (Addr × Obj) → List (Addr × Obj) → Value → Prop) : Prop :=
    Below A₀ base outer h₀ → Fr h₀ L s.heap m → (Mine.hd.heap_39 w.params).In h₀ → Top Mine.hd.view_39 loose0 mean mg mb h₀ → cs.kind = .function → Has s.heap olds → DatAll olds vs ins → dp + lv < recursionLimit → un + 8 * lv < cLine →
    (∀ r tl h' tk', (∀ b o, s.heap.get? b = some o → h'.get? b = some o) → (∀ p ∈ tl, h'.get? p.1 = some p.2 ∧ s.heap.get? p.1 = none) → Out tl olds r → Q r { s with heap := h', toks := tk' }) →
    wpAny (model PySem.Challenge.rw_nt0495_01.row.prog w) (ktrTop dp un gd cn cs L a ccd cl outer) (call (.ref f) vs) Q E s
def conC (f : Addr) (lv : Nat) (ins : List Dat) (Out : List (Addr × Obj) → List (Addr × Obj) → Value → Prop) (c : CxT) : Prop :=
  conAt c.1 c.2.1 c.2.2.1 c.2.2.2.1 c.2.2.2.2.1 c.2.2.2.2.2.1 c.2.2.2.2.2.2.1 c.2.2.2.2.2.2.2.1 c.2.2.2.2.2.2.2.2.1 c.2.2.2.2.2.2.2.2.2.1 c.2.2.2.2.2.2.2.2.2.2.1 c.2.2.2.2.2.2.2.2.2.2.2.1 c.2.2.2.2.2.2.2.2.2.2.2.2.1 c.2.2.2.2.2.2.2.2.2.2.2.2.2.1 c.2.2.2.2.2.2.2.2.2.2.2.2.2.2.1 c.2.2.2.2.2.2.2.2.2.2.2.2.2.2.2.1 c.2.2.2.2.2.2.2.2.2.2.2.2.2.2.2.2.1 c.2.2.2.2.2.2.2.2.2.2.2.2.2.2.2.2.2.1 c.2.2.2.2.2.2.2.2.2.2.2.2.2.2.2.2.2.2.1 c.2.2.2.2.2.2.2.2.2.2.2.2.2.2.2.2.2.2.2.1 c.2.2.2.2.2.2.2.2.2.2.2.2.2.2.2.2.2.2.2.2.1 c.2.2.2.2.2.2.2.2.2.2.2.2.2.2.2.2.2.2.2.2.2.1 c.2.2.2.2.2.2.2.2.2.2.2.2.2.2.2.2.2.2.2.2.2.2 f lv ins Out
theorem con_of {f : Addr} {lv : Nat} {ins : List Dat} {Out : List (Addr × Obj) → List (Addr × Obj) → Value → Prop} (h : ∀ c, conC f lv ins Out c) : Con f lv ins Out :=
  fun w mean mg mb dp un gd cn cs a ccd cl outer A₀ base h₀ L m olds s vs Q E => h (w, mean, mg, mb, dp, un, gd, cn, cs, a, ccd, cl, outer, A₀, base, h₀, L, m, olds, s, vs, Q, E)
theorem con_use_pt {f : Addr} {lv : Nat} {ins : List Dat} {p : Pt} (C : Con f lv ins (New (ptD p))) {bs : List (Addr × Obj)}
    {w : World} {mean : ExcName → Option Value} {mg mb : Str → Option Value} {dp un : Nat} {gd : Option (List Code)} {cn : Str} {cs : Scope} {a : Addr} {ccd : Value} {cl : List (Str × Addr)} {outer : List Env} {A₀ : Around} {base h₀ : Heap} {L : Addr} {m : Str → Option Value} {news : List (Addr × Obj)} {s : Shared} {vs : List Value} {Q E : Value → Shared → Prop}
    (B : Below A₀ base outer h₀) (F : Fr h₀ L s.heap m) (X : (Mine.hd.heap_39 w.params).In h₀) (N : News h₀ L s.heap news) (T : Top Mine.hd.view_39 loose0 mean mg mb h₀) (hk : cs.kind = .function) (hb : Has h₀ bs) (D : DatAll (news ++ bs) vs ins) (hd : dp + lv < recursionLimit) (hu : un + 8 * lv < cLine)
    (ret : ∀ x : Addr × Nat × Tok × Tok × Heap × Nat, Fr h₀ L x.2.2.2.2.1 m → News h₀ L x.2.2.2.2.1 ((x.1, tupO [.int p.1 x.2.2.1, .int p.2 x.2.2.2.1] x.2.1) :: news) → AllNe x.1 news → Q (.ref x.1) { s with heap := x.2.2.2.2.1, toks := x.2.2.2.2.2 }) :
    wpAny (model PySem.Challenge.rw_nt0495_01.row.prog w) (ktrTop dp un gd cn cs L a ccd cl outer) (call (.ref f) vs) Q E s := by
  refine con_use C B F X N T hk hb D hd hu fun r tl h tk F9 N9 hl ho => ?_
  obtain ⟨a9, n9, u9, v9, rfl, m9⟩ := pt_of ho
  exact ret (a9, n9, u9, v9, h, tk) F9 (news_pick N9 m9) (allNe_of fun q hq => hl q hq _ m9)
theorem con_use_bool {f : Addr} {lv : Nat} {ins : List Dat} {b : Bool} (C : Con f lv ins (New (.bool b))) {bs : List (Addr × Obj)}
    {w : World} {mean : ExcName → Option Value} {mg mb : Str → Option Value} {dp un : Nat} {gd : Option (List Code)} {cn : Str} {cs : Scope} {a : Addr} {ccd : Value} {cl : List (Str × Addr)} {outer : List Env} {A₀ : Around} {base h₀ : Heap} {L : Addr} {m : Str → Option Value} {news : List (Addr × Obj)} {s : Shared} {vs : List Value} {Q E : Value → Shared → Prop}
    (B : Below A₀ base outer h₀) (F : Fr h₀ L s.heap m) (X : (Mine.hd.heap_39 w.params).In h₀) (N : News h₀ L s.heap news) (T : Top Mine.hd.view_39 loose0 mean mg mb h₀) (hk : cs.kind = .function) (hb : Has h₀ bs) (D : DatAll (news ++ bs) vs ins) (hd : dp + lv < recursionLimit) (hu : un + 8 * lv < cLine)
    (ret : ∀ x : Heap × Nat, Fr h₀ L x.1 m → News h₀ L x.1 news → Q (.bool b) { s with heap := x.1, toks := x.2 }) :
    wpAny (model PySem.Challenge.rw_nt0495_01.row.prog w) (ktrTop dp un gd cn cs L a ccd cl outer) (call (.ref f) vs) Q E s := by
  refine con_use C B F X N T hk hb D hd hu fun r tl h tk F9 N9 hl ho => ?_
  cases bool_of ho
  exact ret (h, tk) F9 (News.right N9)
theorem con_use_boolG {f : Addr} {lv : Nat} {ins : List Dat} {b : Bool} (C : Con f lv ins (New (.bool b))) {big : List (Addr × Obj)}
    {w : World} {mean : ExcName → Option Value} {mg mb : Str → Option Value} {dp un : Nat} {gd : Option (List Code)} {cn : Str} {cs : Scope} {a : Addr} {ccd : Value} {cl : List (Str × Addr)} {outer : List Env} {A₀ : Around} {base h₀ : Heap} {L : Addr} {m : Str → Option Value} {news : List (Addr × Obj)} {s : Shared} {vs : List Value} {Q E : Value → Shared → Prop}
    (B : Below A₀ base outer h₀) (F : Fr h₀ L s.heap m) (X : (Mine.hd.heap_39 w.params).In h₀) (N : News h₀ L s.heap news) (T : Top Mine.hd.view_39 loose0 mean mg mb h₀) (hk : cs.kind = .function) (hb : Has s.heap big) (D : DatAll big vs ins) (hd : dp + lv < recursionLimit) (hu : un + 8 * lv < cLine)
    (ret : ∀ x : Heap × Nat, Fr h₀ L x.1 m → News h₀ L x.1 news → Q (.bool b) { s with heap := x.1, toks := x.2 }) :
    wpAny (model PySem.Challenge.rw_nt0495_01.row.prog w) (ktrTop dp un gd cn cs L a ccd cl outer) (call (.ref f) vs) Q E s := by
  refine con_useG C B F X N T hk hb D hd hu fun r tl h tk F9 N9 hl ho => ?_
  cases bool_of ho
  exact ret (h, tk) F9 (News.right N9)
theorem con_use_twoG {f : Addr} {lv : Nat} {ins : List Dat} {d e : Dat} (C : Con f lv ins (Mix (.tuple [d, e]))) {big : List (Addr × Obj)}
    {w : World} {mean : ExcName → Option Value} {mg mb : Str → Option Value} {dp un : Nat} {gd : Option (List Code)} {cn : Str} {cs : Scope} {a : Addr} {ccd : Value} {cl : List (Str × Addr)} {outer : List Env} {A₀ : Around} {base h₀ : Heap} {L : Addr} {m : Str → Option Value} {news : List (Addr × Obj)} {s : Shared} {vs : List Value} {Q E : Value → Shared → Prop}
    (B : Below A₀ base outer h₀) (F : Fr h₀ L s.heap m) (X : (Mine.hd.heap_39 w.params).In h₀) (N : News h₀ L s.heap news) (T : Top Mine.hd.view_39 loose0 mean mg mb h₀) (hk : cs.kind = .function) (hb : Has s.heap big) (D : DatAll big vs ins) (hd : dp + lv < recursionLimit) (hu : un + 8 * lv < cLine)
    (ret : ∀ x : Addr × Nat × Value × Value × List (Addr × Obj) × Heap × Nat, Fr h₀ L x.2.2.2.2.2.1 m → News h₀ L x.2.2.2.2.2.1 (x.2.2.2.2.1 ++ news) → (∀ q ∈ news, ∀ p ∈ x.2.2.2.2.1, p.1 ≠ q.1) → (x.1, tupO [x.2.2.1, x.2.2.2.1] x.2.1) ∈ x.2.2.2.2.1 ++ big → DatIn (x.2.2.2.2.1 ++ big) x.2.2.1 d → DatIn (x.2.2.2.2.1 ++ big) x.2.2.2.1 e → Q (.ref x.1) { s with heap := x.2.2.2.2.2.1, toks := x.2.2.2.2.2.2 }) :
    wpAny (model PySem.Challenge.rw_nt0495_01.row.prog w) (ktrTop dp un gd cn cs L a ccd cl outer) (call (.ref f) vs) Q E s := by
  refine con_useG C B F X N T hk hb D hd hu fun r tl h tk F9 N9 hl ho => ?_
  obtain ⟨a9, n9, u9, v9, rfl, m9, x9, y9⟩ := tup2_of ho
  exact ret (a9, n9, u9, v9, tl, h, tk) F9 N9 hl m9 x9 y9
theorem DatAll.getS {news : List (Addr × Obj)} {vs : List Value} {ds : List Dat} {k : Nat} {d : Dat} (h : DatAll news vs ds) (e : ds[k]? = some d) : ∃ v, vs[k]? = some v ∧ DatIn news v d := by
  induction k generalizing vs ds with
  | zero =>
    cases ds with
    | nil => cases e
    | cons x r => cases e; cases h with | cons h1 _ => exact ⟨_, rfl, h1⟩
  | succ k ih =>
    cases ds with
    | nil => cases e
    | cons x r => cases h with | cons _ h2 => exact ih h2 e
theorem pt_ofT {news : List (Addr × Obj)} {v : Value} {p : Pt} (h : DatIn news v (ptD p)) : ∃ x : Addr × Nat × Tok × Tok, v = .ref x.1 ∧ (x.1, tupO [Value.int p.1 x.2.2.1, Value.int p.2 x.2.2.2] x.2.1) ∈ news := by
  obtain ⟨d0, d1, d2, d3, h⟩ := pt_of h
  exact ⟨(d0, d1, d2, d3), h⟩
theorem quad_ofT {news : List (Addr × Obj)} {v : Value} {q : Quad} (h : DatIn news v (quadD q)) : ∃ x : Addr × Nat × Value × Value × Value × Value, v = .ref x.1 ∧ (x.1, tupO [x.2.2.1, x.2.2.2.1, x.2.2.2.2.1, x.2.2.2.2.2] x.2.1) ∈ news ∧ DatIn news x.2.2.1 (ptD q.1) ∧ DatIn news x.2.2.2.1 (ptD q.2.1) ∧ DatIn news x.2.2.2.2.1 (ptD q.2.2.1) ∧ DatIn news x.2.2.2.2.2 (ptD q.2.2.2) := by
  obtain ⟨d0, d1, d2, d3, d4, d5, h⟩ := quad_of h
  exact ⟨(d0, d1, d2, d3, d4, d5), h⟩
theorem tup2_ofT {news : List (Addr × Obj)} {v : Value} {d e : Dat} (h : DatIn news v (.tuple [d, e])) : ∃ x : Addr × Nat × Value × Value, v = .ref x.1 ∧ (x.1, tupO [x.2.2.1, x.2.2.2] x.2.1) ∈ news ∧ DatIn news x.2.2.1 d ∧ DatIn news x.2.2.2 e := by
  obtain ⟨d0, d1, d2, d3, h⟩ := tup2_of h
  exact ⟨(d0, d1, d2, d3), h⟩
theorem list_ofT {news : List (Addr × Obj)} {v : Value} {ds : List Dat} (h : DatIn news v (.list ds)) : ∃ x : Addr × List Value × Nat, v = .ref x.1 ∧ (x.1, listOf (x.2.1).toArray x.2.2) ∈ news ∧ DatAll news x.2.1 ds := by
  obtain ⟨d0, d1, d2, h⟩ := list_of h
  exact ⟨(d0, d1, d2), h⟩
theorem tup_ofT {news : List (Addr × Obj)} {v : Value} {ds : List Dat} (h : DatIn news v (.tuple ds)) : ∃ x : Addr × List Value × Nat, v = .ref x.1 ∧ (x.1, tupO x.2.1 x.2.2) ∈ news ∧ DatAll news x.2.1 ds := by
  obtain ⟨d0, d1, d2, h⟩ := tup_of h
  exact ⟨(d0, d1, d2), h⟩
theorem more_ofT {news : List (Addr × Obj)} {vs : List Value} {d : Dat} {ds : List Dat} (h : DatAll news vs (d :: ds)) : ∃ x : Value × List Value, vs = x.1 :: x.2 ∧ DatIn news x.1 d ∧ DatAll news x.2 ds := by
  obtain ⟨d0, d1, h⟩ := more_of h
  exact ⟨(d0, d1), h⟩
theorem datAll_concatT {news : List (Addr × Obj)} {vs : List Value} {ds : List Dat} {d : Dat} (h : DatAll news vs (ds ++ [d])) : ∃ x : List Value × Value, vs = x.1 ++ [x.2] ∧ DatAll news x.1 ds ∧ DatIn news x.2 d := by
  obtain ⟨d0, d1, h⟩ := datAll_concat h
  exact ⟨(d0, d1), h⟩
theorem all2T {news : List (Addr × Obj)} {vs : List Value} {d e : Dat} (h : DatAll news vs [d, e]) : ∃ x : Value × Value, vs = [x.1, x.2] ∧ DatIn news x.1 d ∧ DatIn news x.2 e := by
  obtain ⟨d0, d1, h⟩ := all2 h
  exact ⟨(d0, d1), h⟩
theorem all3T {news : List (Addr × Obj)} {vs : List Value} {d e f : Dat} (h : DatAll news vs [d, e, f]) : ∃ x : Value × Value × Value, vs = [x.1, x.2.1, x.2.2] ∧ DatIn news x.1 d ∧ DatIn news x.2.1 e ∧ DatIn news x.2.2 f := by
  obtain ⟨d0, d1, d2, h⟩ := all3 h
  exact ⟨(d0, d1, d2), h⟩
theorem all4T {news : List (Addr × Obj)} {vs : List Value} {d e f g : Dat} (h : DatAll news vs [d, e, f, g]) : ∃ x : Value × Value × Value × Value, vs = [x.1, x.2.1, x.2.2.1, x.2.2.2] ∧ DatIn news x.1 d ∧ DatIn news x.2.1 e ∧ DatIn news x.2.2.1 f ∧ DatIn news x.2.2.2 g := by
  obtain ⟨d0, d1, d2, d3, h⟩ := all4 h
  exact ⟨(d0, d1, d2, d3), h⟩
theorem all5T {news : List (Addr × Obj)} {vs : List Value} {d e f g k : Dat} (h : DatAll news vs [d, e, f, g, k]) : ∃ x : Value × Value × Value × Value × Value, vs = [x.1, x.2.1, x.2.2.1, x.2.2.2.1, x.2.2.2.2] ∧ DatIn news x.1 d ∧ DatIn news x.2.1 e ∧ DatIn news x.2.2.1 f ∧ DatIn news x.2.2.2.1 g ∧ DatIn news x.2.2.2.2 k := by
  obtain ⟨d0, d1, d2, d3, d4, h⟩ := all5 h
  exact ⟨(d0, d1, d2, d3, d4), h⟩
theorem item_tup0 {prog : Program} {w : World} {A : Around} {E : Value → Shared → Prop} {s : Shared} {value slice : Expr} {t : Addr} {v : Value} {rr : List Value} {u : Tok} {Q : Value → Shared → Prop} (ht : IsTup s.heap t (v :: rr).toArray) (h : Q v s)
    (hs : subscripted slice false (.ref t) (.int 0 u) = operate [.ref t, .int 0 u] (getItem (.ref t) (.int 0 u)) := by with_unfolding_all rfl) :
    wpAny (model prog w) A (subscriptTail value slice (.ref t) (.int 0 u)) Q E s :=
  item_tupleT ht (by decide) (by decide) (j := 0) (by simp [seqIndex?]) rfl h hs

local macro_rules | `(tactic| walk_at $s:str) => do let t := Lean.Syntax.mkStrLit ("MY:" ++ s.getString); `(tactic| k_extra $t)
local macro_rules | `(tactic| k_mem) => `(tactic| walk_at "MY_MEM")
local macro_rules | `(tactic| walk_at "MY_ENTER") => `(tactic| (walk_at "MY_P1"; intro L' h' F' N' B' X' T'; (try dsimp only); (try k_fold)))
local macro_rules | `(tactic| walk_at "MY_ENTERB") => `(tactic| (walk_at "MY_P2"; intro L' h' F' N' B' X' T'; (try dsimp only [List.reverse_cons, List.reverse_nil, List.nil_append, List.cons_append] at F'); (try dsimp only); (try k_fold)))
local macro_rules | `(tactic| k_all) => `(tactic| assumption)
local macro_rules | `(tactic| walk_at "assign Tuple") => `(tactic| (walk_at "MY_PTUP"; intro h' F' N'; (try k_sweep)))
local macro_rules | `(tactic| walk_at "MY_ENTERC") => `(tactic| (walk_at "MY_P3"; intro L' h' tk' cells' F' N' Y' B' X' T'; k_cells Y'; (try simp only [List.cons_append, List.nil_append] at N'); (try dsimp only); (try k_fold)))
local macro_rules | `(tactic| walk_at "MY_ENTER3") => `(tactic| (walk_at "MY_P4"; intro L' h' tk' cells' F' N' Y' B' X' T'; k_cells Y'; (try dsimp only at *); (try simp only [List.cons_append, List.nil_append] at N'); (try k_fold)))
local macro_rules | `(tactic| k_room) => `(tactic| ((try simp only [depth_under_make, depth_under_kw, depth_in1, depth_deeper, depth_caller]); (try dsimp only [ktrTop, Around.deeper]); omega))
local macro_rules | `(tactic| k_ne) => `(tactic| (refine neN ?_; (try dsimp only); first | walk_at "MY_NE" | omega))
local macro_rules
  | `(tactic| intro $x:ident) => `(tactic| first | (walk_at "MY_EPS"; refine no_implicit_lambda% (cx_intro (by walk_at "MY_INH") ?_); generalize cx _ _ = $x) | intro ($x:ident : _))
  | `(tactic| intro _) => `(tactic| intro y9)
  | `(tactic| intro $x:term $xs:term*) => do
    if xs.size == 0 then Lean.Macro.throwUnsupported
    let y9 ← `(y9)
    let all := (#[x] ++ xs).map fun t => if t.raw.isIdent then t else y9
    let mut r ← `(tactic| (intro $(all[0]!):term; intro $(all.extract 1 all.size)*))
    for (k, c) in [(2, Lean.mkIdent ``cx_intro2), (3, Lean.mkIdent ``cx_intro3), (4, Lean.mkIdent ``cx_intro4), (5, Lean.mkIdent ``cx_intro5), (6, Lean.mkIdent ``cx_intro6), (10, Lean.mkIdent ``cx_intro10)] do
      if k ≤ all.size then
        let mut e ← `(x9)
        let mut gs := #[]
        for i in [0:k] do
          let v : Lean.TSyntax `ident := ⟨all[i]!.raw⟩
          if i + 1 == k then gs := gs.push (← `(Lean.Parser.Tactic.generalizeArg| $e:term = $v:ident))
          else gs := gs.push (← `(Lean.Parser.Tactic.generalizeArg| Prod.fst $e = $v:ident))
          e ← `((Prod.snd $e))
        let hs ← (Array.replicate k ()).mapM fun _ => `((by walk_at "MY_INH"))
        let rest := all.extract k all.size
        let g ← `(tactic| (refine no_implicit_lambda% ($c $hs* ?_); generalize cx _ _ = x9; generalize $gs,*; clear x9))
        let t ← if rest.size == 0 then pure g else `(tactic| ($g:tactic; intro $rest*))
        r ← `(tactic| first | $t:tactic | $r:tactic)
    `(tactic| first | (walk_at "MY_EPS"; $r:tactic) | (intro ($(all[0]!) : _); intro $(all.extract 1 all.size)*))
local macro_rules | `(tactic| k_fold) => `(tactic| skip)
local macro_rules | `(tactic| k_cells $Y:ident) => `(tactic| first
  | (refine ex_el (CellsAre.one $Y) ?_; intro o' hE'; refine and_el hE' ?_; clear hE'; intro hE' d1'; subst hE'; clear $Y)
  | (refine ex_el (CellsAre.two $Y) ?_; intro o' hE'; refine ex_el hE' ?_; clear hE'; intro o2' hE'; refine and_el hE' ?_; clear hE'; intro hE' d1'; subst hE'; clear $Y; refine and_el d1' ?_; clear d1'; intro d1' d2')
  | (refine ex_el (CellsAre.three $Y) ?_; intro o' hE'; refine ex_el hE' ?_; clear hE'; intro o2' hE'; refine ex_el hE' ?_; clear hE'; intro o3' hE'; refine and_el hE' ?_; clear hE'; intro hE' d1'; subst hE'; clear $Y; refine and_el d1' ?_; clear d1'; intro d1' d2'; refine and_el d2' ?_; clear d2'; intro d2' d3')
  | (refine ex_el (CellsAre.four $Y) ?_; intro o' hE'; refine ex_el hE' ?_; clear hE'; intro o2' hE'; refine ex_el hE' ?_; clear hE'; intro o3' hE'; refine ex_el hE' ?_; clear hE'; intro o4' hE'; refine and_el hE' ?_; clear hE'; intro hE' d1'; subst hE'; clear $Y; refine and_el d1' ?_; clear d1'; intro d1' d2'; refine and_el d2' ?_; clear d2'; intro d2' d3'; refine and_el d3' ?_; clear d3'; intro d3' d4'))
local macro_rules | `(tactic| ktu_obj) => `(tactic| (refine AllObj.cons ?_; intro o' hc'; (try dsimp only at hc')))
local macro_rules | `(tactic| walk_at "ItemsRest") => `(tactic| first
  | ((with_unfolding_all refine' ItemsRest.val ?_); intro h' tk' F'; ktu_objs)
  | ((with_unfolding_all refine' ItemsRest.flat ?_); intro v' h' tk' hv' F'; (try dict_open hv'); ktu_objs)
  | ((with_unfolding_all refine' ItemsRest.zero ?_); intro h' tk' F' N'))

theorem on_f1 : True := by
  k_with_none
  w_top off
  k_with "MY:MY_MEM" => (first | assumption | exact List.Mem.head _ | (refine List.Mem.tail _ ?_; walk_at "MY_MEM") | (refine List.mem_append.mpr (Or.inr ?_); walk_at "MY_MEM") | (refine List.mem_append.mpr (Or.inl ?_); walk_at "MY_MEM"))
  k_with "MY:MY_IN" => (first | assumption | exact DatIn.int _ _ | exact DatIn.str _ _ | exact DatIn.bool _ | (refine DatIn.mono ?kdM (by assumption); (case kdM => (refine fun p9 h9 => ?_; first | walk_at "MY_MEM" | ((rcases List.mem_append.mp h9 with h9 | h9) <;> walk_at "MY_MEM")))) | exact DatIn.tuple (by walk_at "MY_MEM") (by walk_at "MY_ALL") | exact DatIn.list (by walk_at "MY_MEM") (by walk_at "MY_ALL"))
  k_with "MY:MY_ALL" => (first | assumption | exact DatAll.nil | (refine DatAll.mono ?kdM (by assumption); (case kdM => (refine fun p9 h9 => ?_; first | walk_at "MY_MEM" | ((rcases List.mem_append.mp h9 with h9 | h9) <;> walk_at "MY_MEM")))) | exact DatAll.cons (by walk_at "MY_IN") (by walk_at "MY_ALL"))
  k_with "MY:MY_USE" => ((case k1 => k_asm); (case k2 => k_asm); (case k3 => k_asm); (case k4 => k_asm); (case k5 => k_asm); (case kK => first | exact rfl | assumption); (case kD => walk_at "MY_ALL"); (case kb => walk_at "MY_HAS"); (case kd => ((try dsimp only [ktrTop, Around.deeper]); omega)); (case ku => ((try dsimp only [ktrTop, Around.deeper]); omega)))
  k_with "MY:MY_P1" => (refine' enterC ?k1 ?k2 ?k3 ?k5 ?kK ?k6 ?k7 ?k8 ?k9 ?kB ?_ ?c2 ?c3 ?c4 ?c5; (case k1 => k_asm); (case k2 => k_asm); (case k3 => k_asm); (case k5 => k_asm); (case kK => first | exact rfl | assumption); (case k6 => k_is); (case k7 => k_is); (case k8 => omega); (case k9 => exact BindsTo.of_eq rfl); (case c5 => decide); (case kB => exact locs rfl); (case c2 => exact rfl); (case c3 => exact rfl); (case c4 => exact rfl); k_whole)
  k_with "MY:MY_P2" => ((case k1 => k_asm); (case k2 => k_asm); (case k3 => k_asm); (case k5 => k_asm); (case kK => first | exact rfl | assumption); (case k6 => k_is); (case k7 => k_is); (case k8 => omega); (case k9 => first | exact BindsTo.of_eq rfl | exact binds_K (by k_in) rfl (by k_is) rfl rfl rfl); (case c5 => decide); (case kB => exact locs rfl); (case c2 => exact rfl); (case c3 => exact rfl); (case c4 => exact rfl); k_whole)
  k_with "MY:MY_END" => ((try dsimp only); (try k_unfold); (try dsimp only); refine con_end (by assumption) (by assumption) (by assumption) ?_; (try dsimp only); walk_at "MY_IN")
  k_with "MY:MY_HAS" => (first | assumption | exact has_news (by with_reducible assumption) | (refine has_app ?_ ?_ <;> walk_at "MY_HAS") | exact has_keep (by with_reducible assumption) (by with_reducible assumption) | exact has_sub (by with_reducible assumption) (by refine fun p9 h9 => ?_; walk_at "MY_MEM"))
  k_with "MY:MY_TUP" => (first | with_reducible assumption | exact Fr.tup (by with_reducible assumption) (by assumption) | exact News.isTup (by with_reducible assumption) (by walk_at "MY_MEM") | (refine' Has.tup ?kzhH ?kzhM; (case kzhM => assumption); (case kzhH => walk_at "MY_HAS")))
  k_with "MY:subscriptTail" => (k_here; (with_reducible show wpAny _ _ (subscriptTail _ _ (Value.ref _) (Value.int _ _)) _ _ _); k_dflt (refine' item_tupleT ?kzt ?kza ?kzb ?kzc ?kzd ?_; (case kzt => walk_at "MY_TUP"); (case kza => decide); (case kzb => decide); (case kzc => rfl); (case kzd => rfl); k_whole))
  k_with "MY:MY_PTUP" => (k_here; (with_reducible show wpAny _ _ (assign (Expr.Tuple _ _ _) _ (Value.ref _)) _ _ _); k_dflt (refine' unpackN_ ?kzF ?kzN ?kzt ?k1 ?k2 ?k3 ?_; (case kzF => with_reducible assumption); (case kzN => with_reducible assumption); (case kzt => walk_at "MY_TUP"); (case k1 => exact rfl); (case k2 => exact rfl); (case k3 => exact rfl); k_whole))
  k_with "MY:eval Name" => (k_here; (fail_if_success (with_reducible show wpAny _ _ (eval (Expr.Name _ _) (compEnvC _ _ _ _)) _ _ _)); k_dflt (first | (refine' nameX_L ?kzF ?kzv ?_ ?kza ?kzb; (case kzF => with_reducible assumption); (case kza => rfl); (case kzb => rfl); (case kzv => rfl); k_whole) | (refine' nameX_C ?kzN ?kzc ?kzm ?kzd ?_ ?kza ?kzb; (case kza => rfl); (case kzb => rfl); (case kzN => with_reducible assumption); (case kzc => rfl); (case kzm => walk_at "MY_MEM"); (case kzd => k_asm); k_whole) | (refine' nameX_K ?kzF ?kzX ?kzT ?kze ?_ ?kza ?kzb; (case kzF => with_reducible assumption); (case kzX => k_asm); (case kzT => k_asm); (case kza => rfl); (case kzb => rfl); (case kze => k_is); k_whole) | (refine' nameX_B ?kzF ?kzX ?kzT ?kze ?kzv ?kzn ?_ ?kza ?kzb; (case kzF => with_reducible assumption); (case kzX => k_asm); (case kzT => k_asm); (case kza => rfl); (case kzb => rfl); (case kze => k_is); (case kzv => boot_fast); (case kzn => decide); k_whole)))
  k_with "MY:eval Name" => (k_here; (with_reducible show wpAny _ _ (eval (Expr.Name _ _) (compEnvC _ _ _ _)) _ _ _); k_dflt (first | refine LCgL.ld_own (by k_asm) (by walk_at "MY_MEM") (by assumption) (by assumption) ?_ | (refine' lcf_cell ?kzN ?kzc ?kzm ?kzd ?_ ?kza ?kzb; (case kza => rfl); (case kzb => rfl); (case kzN => k_asm); (case kzc => rfl); (case kzm => walk_at "MY_MEM"); (case kzd => k_asm); k_whole) | (refine' lcf_free ?kzN ?kzc ?kzm ?kzd ?_ ?kza ?kzb; (case kza => rfl); (case kzb => rfl); (case kzN => k_asm); (case kzc => rfl); (case kzm => walk_at "MY_MEM"); (case kzd => k_asm); k_whole) | refine LCgL.ld_global (by k_asm) (by k_asm) (by k_asm) (by k_is) ?_ | refine LCgL.ld_built (by k_asm) (by k_asm) (by k_asm) (by k_is) (by boot_by_name) (by decide) ?_))
  k_with "MY:call builtin:len" => (k_here; (with_reducible show wpAny _ _ (call (Value.builtin "len") [Value.ref _]) _ _ _); k_dflt (refine' PyProof.Rows.len_tuple ?kzt ?kzf ?_; (case kzt => walk_at "MY_TUP"); (case kzf => (simp only [List.size_toArray, List.length_cons, List.length_nil]; omega)); k_whole); (try simp only [List.size_toArray, List.length_cons, List.length_nil]))
  k_with "MY:MY_P3" => (refine' enterCC ?k1 ?k2 ?k3 ?k5 ?kK ?k6 ?k7 ?k8 ?k9 ?kB ?kD ?_ ?c2 ?c3 ?c4; (case k1 => k_asm); (case k2 => k_asm); (case k3 => k_asm); (case k5 => k_asm); (case kK => first | exact rfl | assumption); (case k6 => k_is); (case k7 => k_is); (case k8 => omega); (case k9 => exact BindsTo.of_eq rfl); (case kB => exact rfl); (case kD => decide +kernel); (case c2 => exact rfl); (case c3 => exact rfl); (case c4 => exact rfl); k_whole)
  k_with "MY:MY_P4" => ((case k1 => k_asm); (case k2 => k_asm); (case k3 => k_asm); (case k5 => k_asm); (case kK => first | exact rfl | assumption); (case k6 => k_is); (case k7 => k_is); (case k8 => omega); (case k9 => exact BindsTo.of_eq rfl); (case kB => exact rfl); (case kD => decide +kernel); (case kM => with_unfolding_all rfl); (case kC => with_unfolding_all rfl); (case c2 => exact rfl); (case c3 => exact rfl); (case c4 => exact rfl); k_whole)
  k_with "MY:MY_BD" => (first | assumption | exact Bd.add (by walk_at "MY_BD") (by walk_at "MY_BD") | exact Bd.sub (by walk_at "MY_BD") (by walk_at "MY_BD") | exact Bd.mul (by walk_at "MY_BD") (by walk_at "MY_BD") | exact Bd.sq (by walk_at "MY_BD") | exact Bd.cube (by walk_at "MY_BD") | exact Bd.ite (by walk_at "MY_BD") (by walk_at "MY_BD") | exact Bd.neg (by walk_at "MY_BD") | exact Bd.of (n := 12) (by decide))
  k_with "MY:binaryOp Mult int int" => (refine mul_int ?_ (bd_mulL (by walk_at "MY_BD") (by decide)))
  k_with "MY:binaryOp Pow int int" => (refine pow_int_small (by decide) (by decide) (Bd.lt64 (by walk_at "MY_BD") (by decide)) ?_)
  k_with "MY:MY_LST" => (first | with_reducible assumption | exact Fr.lst (by with_reducible assumption) (by assumption) | exact News.isList (by with_reducible assumption) (by walk_at "MY_MEM") | (refine' Has.list ?kzhH ?kzhM; (case kzhM => assumption); (case kzhH => walk_at "MY_HAS")))
  k_with "MY:call builtin:len" => (k_here; (with_reducible show wpAny _ _ (call (Value.builtin "len") [Value.ref _]) _ _ _); k_dflt (refine' PyProof.Rows.len_list ?kzt ?kzf ?_; (case kzt => walk_at "MY_LST"); (case kzf => (simp only [List.size_toArray, List.length_cons, List.length_nil]; omega)); k_whole); (try simp only [List.size_toArray, List.length_cons, List.length_nil]))
  k_with "MY:MY_BLOCKNAME" => (first | refine name_own (by assumption) (by assumption) ?_ | refine name_cell (by assumption) rfl ?_ | refine name_free (by assumption) rfl ?_)
  k_with "MY:MY_LT" => (first | assumption | exact And.left (by with_reducible assumption) | exact And.right (by with_reducible assumption) | exact And.left (And.right (by with_reducible assumption)) | exact And.right (And.right (by with_reducible assumption)) | exact And.left (And.right (And.right (by with_reducible assumption))) | exact And.right (And.right (And.right (by with_reducible assumption))) | exact And.left (And.right (And.right (And.right (by with_reducible assumption)))) | exact And.right (And.right (And.right (And.right (by with_reducible assumption)))) | exact And.left (And.right (And.right (And.right (And.right (by with_reducible assumption))))) | exact And.right (And.right (And.right (And.right (And.right (by with_reducible assumption))))) | exact And.left (And.right (And.right (And.right (And.right (And.right (by with_reducible assumption)))))) | exact And.right (And.right (And.right (And.right (And.right (And.right (by with_reducible assumption)))))) | exact And.left (And.right (And.right (And.right (And.right (And.right (And.right (by with_reducible assumption))))))) | exact And.right (And.right (And.right (And.right (And.right (And.right (And.right (by with_reducible assumption))))))) | exact And.left (And.right (And.right (And.right (And.right (And.right (And.right (And.right (by with_reducible assumption)))))))) | exact And.right (And.right (And.right (And.right (And.right (And.right (And.right (And.right (by with_reducible assumption)))))))) | exact And.left (And.right (And.right (And.right (And.right (And.right (And.right (And.right (And.right (by with_reducible assumption))))))))) | exact And.right (And.right (And.right (And.right (And.right (And.right (And.right (And.right (And.right (by with_reducible assumption))))))))))
  k_with "MY:MY_NE" => (first | assumption | exact Ne.symm (by assumption) | exact Nat.ne_of_gt (by walk_at "MY_LT") | exact Nat.ne_of_lt (by walk_at "MY_LT") | walk_at "MY_LT" | exact Ne.symm (by walk_at "MY_LT"))
  k_with "MY:MY_INH" => (first | exact inh_heap | exact inh_nat | exact inh_val | exact inh_int | exact inh_shared | exact inh_around | exact inh_dat | exact inh_cxt | exact inh_world | infer_instance)
  k_with "MY:MY_INHP" => (repeat' (first | walk_at "MY_INH" | refine inh_p ?_ ?_))
  k_with "MY:MY_CON" => (refine con_of ?_; walk_at "MY_CON1")
  k_with "MY:MY_CON1" => (intro c9; unfold conC; generalize c9.1 = w, c9.2.1 = mean, c9.2.2.1 = mg, c9.2.2.2.1 = mb, c9.2.2.2.2.1 = dp, c9.2.2.2.2.2.1 = un, c9.2.2.2.2.2.2.1 = gd, c9.2.2.2.2.2.2.2.1 = cn, c9.2.2.2.2.2.2.2.2.1 = cs, c9.2.2.2.2.2.2.2.2.2.1 = a, c9.2.2.2.2.2.2.2.2.2.2.1 = ccd, c9.2.2.2.2.2.2.2.2.2.2.2.1 = cl, c9.2.2.2.2.2.2.2.2.2.2.2.2.1 = outer, c9.2.2.2.2.2.2.2.2.2.2.2.2.2.1 = A₀, c9.2.2.2.2.2.2.2.2.2.2.2.2.2.2.1 = base, c9.2.2.2.2.2.2.2.2.2.2.2.2.2.2.2.1 = h₀, c9.2.2.2.2.2.2.2.2.2.2.2.2.2.2.2.2.1 = L, c9.2.2.2.2.2.2.2.2.2.2.2.2.2.2.2.2.2.1 = m, c9.2.2.2.2.2.2.2.2.2.2.2.2.2.2.2.2.2.2.1 = olds, c9.2.2.2.2.2.2.2.2.2.2.2.2.2.2.2.2.2.2.2.1 = s, c9.2.2.2.2.2.2.2.2.2.2.2.2.2.2.2.2.2.2.2.2.1 = vs, c9.2.2.2.2.2.2.2.2.2.2.2.2.2.2.2.2.2.2.2.2.2.1 = Q, c9.2.2.2.2.2.2.2.2.2.2.2.2.2.2.2.2.2.2.2.2.2.2 = E; clear c9; unfold conAt; k_fill; intro B F X T hk hH hD hroom hunits hret)
  trivial
section
theorem on_f2 : True := by
  w_top off
  k_with "MY:MY_EPS" => ((fail_if_success (k_extra "OFF:half")); skip)
  trivial
-- EPS
set_option maxRecDepth 100000 in
set_option maxHeartbeats 20000000 in
theorem half_con : ∀ p q : Pt, Con 215 1 [ptD p, ptD q] (New (ptD (half p q))) := by
  intro p q
  walk_at "MY_CON"
  (refine ep_el (by walk_at "MY_INH") (all2T hD) ?_; generalize ep _ _ = x9; generalize x9.1 = v1, x9.2 = v2; clear x9; intro hz1)
  (first | (refine ep_el (by walk_at "MY_INH") (hz1) ?_; generalize ep _ _ = hz2; intro hz3) | (refine and_el (hz1) ?_; intro hz2 hz3))
  clear hz1
  subst hz2
  (first | (refine ep_el (by walk_at "MY_INH") (hz3) ?_; generalize ep _ _ = h1; intro h2) | (refine and_el (hz3) ?_; intro h1 h2))
  clear hz3
  (refine ep_el (by walk_at "MY_INH") (pt_ofT h1) ?_; generalize ep _ _ = x9; generalize x9.1 = a1, x9.2.1 = n1, x9.2.2.1 = t1, x9.2.2.2 = t2; clear x9; intro hz4)
  (first | (refine ep_el (by walk_at "MY_INH") (hz4) ?_; generalize ep _ _ = hz5; intro m1) | (refine and_el (hz4) ?_; intro hz5 m1))
  clear hz4
  subst hz5
  (refine ep_el (by walk_at "MY_INH") (pt_ofT h2) ?_; generalize ep _ _ = x9; generalize x9.1 = a2, x9.2.1 = n2, x9.2.2.1 = t3, x9.2.2.2 = t4; clear x9; intro hz6)
  (first | (refine ep_el (by walk_at "MY_INH") (hz6) ?_; generalize ep _ _ = hz7; intro m2) | (refine and_el (hz6) ?_; intro hz7 m2))
  clear hz6
  subst hz7
  clear h1 h2 hD
  have b1 := hH.tup m1
  have b2 := hH.tup m2
  k_dflt walk_at "MY_ENTER"
  k_steps
  walk_at "MY_END"

theorem on_f3 : True := by
  k_with "MY:MY_P215" => ((fail_if_success (k_extra "OFF:half")); (k_here; (with_reducible show wpAny _ _ (call (Value.ref 215) _) _ _ _); k_dflt (refine' con_use_pt (half_con (_, _) (_, _)) ?k1 ?k2 ?k3 ?k4 ?k5 ?kK ?kb ?kD ?kd ?ku ?_; walk_at "MY_USE")))
  trivial
local macro_rules | `(tactic| walk_at "call ref") => `(tactic| (walk_at "MY_P215"; intro x9; generalize x9.1 = a9, x9.2.1 = n9, x9.2.2.1 = u9, x9.2.2.2.1 = v9, x9.2.2.2.2.1 = h9, x9.2.2.2.2.2 = tk9; clear x9; intro F9 N9 l9; (try simp only [AllNe, and_true] at l9); (try dsimp only); walk_say "HALF"))

set_option maxRecDepth 100000 in
set_option maxHeartbeats 20000000 in
theorem halves_con : ∀ q : Quad, Con 222 2 [quadD q] (Mix (.tuple [quadD (half1 q), quadD (half2 q)])) := by
  intro q
  walk_at "MY_CON"
  (first | (refine ep_el (by walk_at "MY_INH") (all1 hD) ?_; generalize ep _ _ = v1; intro hz8) | (refine and_el (all1 hD) ?_; intro v1 hz8))
  (first | (refine ep_el (by walk_at "MY_INH") (hz8) ?_; generalize ep _ _ = hz9; intro h0) | (refine and_el (hz8) ?_; intro hz9 h0))
  clear hz8
  subst hz9
  (refine ep_el (by walk_at "MY_INH") (quad_ofT h0) ?_; generalize ep _ _ = x9; generalize x9.1 = a1, x9.2.1 = n1, x9.2.2.1 = v1, x9.2.2.2.1 = v2, x9.2.2.2.2.1 = v3, x9.2.2.2.2.2 = v4; clear x9; intro hz10)
  (first | (refine ep_el (by walk_at "MY_INH") (hz10) ?_; generalize ep _ _ = hz11; intro hz12) | (refine and_el (hz10) ?_; intro hz11 hz12))
  clear hz10
  subst hz11
  (first | (refine ep_el (by walk_at "MY_INH") (hz12) ?_; generalize ep _ _ = m1; intro hz13) | (refine and_el (hz12) ?_; intro m1 hz13))
  clear hz12
  (first | (refine ep_el (by walk_at "MY_INH") (hz13) ?_; generalize ep _ _ = h1; intro hz14) | (refine and_el (hz13) ?_; intro h1 hz14))
  clear hz13
  (first | (refine ep_el (by walk_at "MY_INH") (hz14) ?_; generalize ep _ _ = h2; intro hz15) | (refine and_el (hz14) ?_; intro h2 hz15))
  clear hz14
  (first | (refine ep_el (by walk_at "MY_INH") (hz15) ?_; generalize ep _ _ = h3; intro h4) | (refine and_el (hz15) ?_; intro h3 h4))
  clear hz15
  (refine ep_el (by walk_at "MY_INH") (pt_ofT h1) ?_; generalize ep _ _ = x9; generalize x9.1 = a2, x9.2.1 = n2, x9.2.2.1 = t1, x9.2.2.2 = t2; clear x9; intro hz16)
  (first | (refine ep_el (by walk_at "MY_INH") (hz16) ?_; generalize ep _ _ = hz17; intro m2) | (refine and_el (hz16) ?_; intro hz17 m2))
  clear hz16
  subst hz17
  (refine ep_el (by walk_at "MY_INH") (pt_ofT h2) ?_; generalize ep _ _ = x9; generalize x9.1 = a3, x9.2.1 = n3, x9.2.2.1 = t3, x9.2.2.2 = t4; clear x9; intro hz18)
  (first | (refine ep_el (by walk_at "MY_INH") (hz18) ?_; generalize ep _ _ = hz19; intro m3) | (refine and_el (hz18) ?_; intro hz19 m3))
  clear hz18
  subst hz19
  (refine ep_el (by walk_at "MY_INH") (pt_ofT h3) ?_; generalize ep _ _ = x9; generalize x9.1 = a4, x9.2.1 = n4, x9.2.2.1 = t5, x9.2.2.2 = t6; clear x9; intro hz20)
  (first | (refine ep_el (by walk_at "MY_INH") (hz20) ?_; generalize ep _ _ = hz21; intro m4) | (refine and_el (hz20) ?_; intro hz21 m4))
  clear hz20
  subst hz21
  (refine ep_el (by walk_at "MY_INH") (pt_ofT h4) ?_; generalize ep _ _ = x9; generalize x9.1 = a5, x9.2.1 = n5, x9.2.2.1 = t7, x9.2.2.2 = t8; clear x9; intro hz22)
  (first | (refine ep_el (by walk_at "MY_INH") (hz22) ?_; generalize ep _ _ = hz23; intro m5) | (refine and_el (hz22) ?_; intro hz23 m5))
  clear hz22
  subst hz23
  clear h0 h1 h2 h3 h4 hD
  have b1 := hH.tup m1
  have b2 := hH.tup m2
  have b3 := hH.tup m3
  have b4 := hH.tup m4
  have b5 := hH.tup m5
  k_dflt walk_at "MY_ENTER"
  k_steps
  walk_at "MY_END"

theorem off_half : True := by
  k_with "OFF:half" => skip
  trivial
end
section
theorem on_f4 : True := by
  w_top off
  k_with "MY:MY_EPS" => ((fail_if_success (k_extra "OFF:flat")); skip)
  trivial
-- EPS
set_option maxRecDepth 100000 in
set_option maxHeartbeats 20000000 in
theorem flat_con : ∀ (q : Quad) (f : Int), QB 1000000 q → (-1000000 ≤ f ∧ f ≤ 1000000) → Con 229 2 [quadD q, .int f] (New (.bool (isFlat q f))) := by
  intro q f hq hf
  walk_at "MY_CON"
  (refine ep_el (by walk_at "MY_INH") (all2T hD) ?_; generalize ep _ _ = x9; generalize x9.1 = v1, x9.2 = v0; clear x9; intro hz24)
  (first | (refine ep_el (by walk_at "MY_INH") (hz24) ?_; generalize ep _ _ = hz25; intro hz26) | (refine and_el (hz24) ?_; intro hz25 hz26))
  clear hz24
  subst hz25
  (first | (refine ep_el (by walk_at "MY_INH") (hz26) ?_; generalize ep _ _ = h0; intro hi) | (refine and_el (hz26) ?_; intro h0 hi))
  clear hz26
  (first | (refine ep_el (by walk_at "MY_INH") (int_of hi) ?_; generalize ep _ _ = t0; intro hz27) | (refine and_el (int_of hi) ?_; intro t0 hz27))
  subst hz27
  (first | (refine ep_el (by walk_at "MY_INH") (hq) ?_; generalize ep _ _ = hz28; intro hz29) | (refine and_el (hq) ?_; intro hz28 hz29))
  clear hq
  (first | (refine ep_el (by walk_at "MY_INH") (hz28) ?_; generalize ep _ _ = q1; intro hz30) | (refine and_el (hz28) ?_; intro q1 hz30))
  clear hz28
  (first | (refine ep_el (by walk_at "MY_INH") (hz30) ?_; generalize ep _ _ = q2; intro hz31) | (refine and_el (hz30) ?_; intro q2 hz31))
  clear hz30
  (first | (refine ep_el (by walk_at "MY_INH") (hz31) ?_; generalize ep _ _ = q3; intro q4) | (refine and_el (hz31) ?_; intro q3 q4))
  clear hz31
  (first | (refine ep_el (by walk_at "MY_INH") (hz29) ?_; generalize ep _ _ = hz32; intro hz33) | (refine and_el (hz29) ?_; intro hz32 hz33))
  clear hz29
  (first | (refine ep_el (by walk_at "MY_INH") (hz32) ?_; generalize ep _ _ = q5; intro hz34) | (refine and_el (hz32) ?_; intro q5 hz34))
  clear hz32
  (first | (refine ep_el (by walk_at "MY_INH") (hz34) ?_; generalize ep _ _ = q6; intro hz35) | (refine and_el (hz34) ?_; intro q6 hz35))
  clear hz34
  (first | (refine ep_el (by walk_at "MY_INH") (hz35) ?_; generalize ep _ _ = q7; intro q8) | (refine and_el (hz35) ?_; intro q7 q8))
  clear hz35
  (first | (refine ep_el (by walk_at "MY_INH") (hz33) ?_; generalize ep _ _ = hz36; intro hz37) | (refine and_el (hz33) ?_; intro hz36 hz37))
  clear hz33
  (first | (refine ep_el (by walk_at "MY_INH") (hz36) ?_; generalize ep _ _ = q9; intro hz38) | (refine and_el (hz36) ?_; intro q9 hz38))
  clear hz36
  (first | (refine ep_el (by walk_at "MY_INH") (hz38) ?_; generalize ep _ _ = q10; intro hz39) | (refine and_el (hz38) ?_; intro q10 hz39))
  clear hz38
  (first | (refine ep_el (by walk_at "MY_INH") (hz39) ?_; generalize ep _ _ = q11; intro q12) | (refine and_el (hz39) ?_; intro q11 q12))
  clear hz39
  (first | (refine ep_el (by walk_at "MY_INH") (hz37) ?_; generalize ep _ _ = q13; intro hz40) | (refine and_el (hz37) ?_; intro q13 hz40))
  clear hz37
  (first | (refine ep_el (by walk_at "MY_INH") (hz40) ?_; generalize ep _ _ = q14; intro hz41) | (refine and_el (hz40) ?_; intro q14 hz41))
  clear hz40
  (first | (refine ep_el (by walk_at "MY_INH") (hz41) ?_; generalize ep _ _ = q15; intro q16) | (refine and_el (hz41) ?_; intro q15 q16))
  clear hz41
  have z1 : Bd 20 q.1.1 := Bd.of (by omega)
  have z2 : Bd 20 q.1.2 := Bd.of (by omega)
  have z3 : Bd 20 q.2.1.1 := Bd.of (by omega)
  have z4 : Bd 20 q.2.1.2 := Bd.of (by omega)
  have z5 : Bd 20 q.2.2.1.1 := Bd.of (by omega)
  have z6 : Bd 20 q.2.2.1.2 := Bd.of (by omega)
  have z7 : Bd 20 q.2.2.2.1 := Bd.of (by omega)
  have z8 : Bd 20 q.2.2.2.2 := Bd.of (by omega)
  have z9 : Bd 20 f := Bd.of (by omega)
  (refine ep_el (by walk_at "MY_INH") (quad_ofT h0) ?_; generalize ep _ _ = x9; generalize x9.1 = a1, x9.2.1 = n1, x9.2.2.1 = v1, x9.2.2.2.1 = v2, x9.2.2.2.2.1 = v3, x9.2.2.2.2.2 = v4; clear x9; intro hz42)
  (first | (refine ep_el (by walk_at "MY_INH") (hz42) ?_; generalize ep _ _ = hz43; intro hz44) | (refine and_el (hz42) ?_; intro hz43 hz44))
  clear hz42
  subst hz43
  (first | (refine ep_el (by walk_at "MY_INH") (hz44) ?_; generalize ep _ _ = m1; intro hz45) | (refine and_el (hz44) ?_; intro m1 hz45))
  clear hz44
  (first | (refine ep_el (by walk_at "MY_INH") (hz45) ?_; generalize ep _ _ = h1; intro hz46) | (refine and_el (hz45) ?_; intro h1 hz46))
  clear hz45
  (first | (refine ep_el (by walk_at "MY_INH") (hz46) ?_; generalize ep _ _ = h2; intro hz47) | (refine and_el (hz46) ?_; intro h2 hz47))
  clear hz46
  (first | (refine ep_el (by walk_at "MY_INH") (hz47) ?_; generalize ep _ _ = h3; intro h4) | (refine and_el (hz47) ?_; intro h3 h4))
  clear hz47
  (refine ep_el (by walk_at "MY_INH") (pt_ofT h1) ?_; generalize ep _ _ = x9; generalize x9.1 = a2, x9.2.1 = n2, x9.2.2.1 = t1, x9.2.2.2 = t2; clear x9; intro hz48)
  (first | (refine ep_el (by walk_at "MY_INH") (hz48) ?_; generalize ep _ _ = hz49; intro m2) | (refine and_el (hz48) ?_; intro hz49 m2))
  clear hz48
  subst hz49
  (refine ep_el (by walk_at "MY_INH") (pt_ofT h2) ?_; generalize ep _ _ = x9; generalize x9.1 = a3, x9.2.1 = n3, x9.2.2.1 = t3, x9.2.2.2 = t4; clear x9; intro hz50)
  (first | (refine ep_el (by walk_at "MY_INH") (hz50) ?_; generalize ep _ _ = hz51; intro m3) | (refine and_el (hz50) ?_; intro hz51 m3))
  clear hz50
  subst hz51
  (refine ep_el (by walk_at "MY_INH") (pt_ofT h3) ?_; generalize ep _ _ = x9; generalize x9.1 = a4, x9.2.1 = n4, x9.2.2.1 = t5, x9.2.2.2 = t6; clear x9; intro hz52)
  (first | (refine ep_el (by walk_at "MY_INH") (hz52) ?_; generalize ep _ _ = hz53; intro m4) | (refine and_el (hz52) ?_; intro hz53 m4))
  clear hz52
  subst hz53
  (refine ep_el (by walk_at "MY_INH") (pt_ofT h4) ?_; generalize ep _ _ = x9; generalize x9.1 = a5, x9.2.1 = n5, x9.2.2.1 = t7, x9.2.2.2 = t8; clear x9; intro hz54)
  (first | (refine ep_el (by walk_at "MY_INH") (hz54) ?_; generalize ep _ _ = hz55; intro m5) | (refine and_el (hz54) ?_; intro hz55 m5))
  clear hz54
  subst hz55
  clear hi h0 h1 h2 h3 h4 hD
  have b1 := hH.tup m1
  have b2 := hH.tup m2
  have b3 := hH.tup m3
  have b4 := hH.tup m4
  have b5 := hH.tup m5
  k_dflt walk_at "MY_ENTER"
  k_steps
  walk_at "MY_END"

theorem off_flat : True := by
  k_with "OFF:flat" => skip
  trivial
end
section
-- EPS
local macro_rules | `(tactic| walk_at "call ref") => `(tactic| (walk_at "MY_P229"; intro x9; generalize x9.1 = h9, x9.2 = tk9; clear x9; intro F9 N9; (try dsimp only); walk_say "FLAT"))
local macro_rules | `(tactic| walk_at "call ref") => `(tactic| (walk_at "MY_P222"; intro z9; generalize z9.1 = a9, z9.2.1 = n9, z9.2.2.1 = u9, z9.2.2.2.1 = v9, z9.2.2.2.2.1 = tl9, z9.2.2.2.2.2.1 = h9, z9.2.2.2.2.2.2 = tk9; clear z9; intro F9 N9 hl9 m9 x9 y9; (replace N9 := news_back3 N9); (have s9 := sep_app hl9 (List.Mem.tail _ (List.Mem.head _)) (by assumption)); (have t9 := sep_app hl9 (List.Mem.tail _ (List.Mem.tail _ (List.Mem.head _))) (by assumption)); (try dsimp only); walk_say "HALVES"))
local macro_rules | `(tactic| walk_at "call builtin:list.pop") => `(tactic| (walk_at "MY_PPOP"; intro h' F' N'; (try dsimp only); (try k_sweep)))
local macro_rules | `(tactic| walk_at "call builtin:list.append") => `(tactic| (walk_at "MY_PAPP"; intro h' F' N'; (try k_sweep)))

theorem on_f5 : True := by
  w_top off
  k_with "MY:MY_EPS" => ((fail_if_success (k_extra "OFF:ends")); skip)
  k_with "MY:MY_P229" => ((fail_if_success (k_extra "OFF:ends")); (k_here; (with_reducible show wpAny _ _ (call (Value.ref 229) _) _ _ _); k_dflt (refine' con_use_boolG (flat_con _ _ ?kzq1 ?kzq2) ?k1 ?k2 ?k3 ?k4 ?k5 ?kK ?kb ?kD ?kd ?ku ?_; walk_at "MY_USE"; (case kzq1 => assumption); (case kzq2 => assumption))))
  k_with "MY:MY_P222" => ((fail_if_success (k_extra "OFF:ends")); (k_here; (with_reducible show wpAny _ _ (call (Value.ref 222) _) _ _ _); k_dflt (refine' con_use_twoG (halves_con _) ?k1 ?k2 ?k3 ?k4 ?k5 ?kK ?kb ?kD ?kd ?ku ?_; walk_at "MY_USE")))
  k_with "MY:exec While Compare cons nil" => ((fail_if_success (k_extra "OFF:ends")); (refine stop_here ?_))
  k_with "MY:compareOp NotEq ref ref" => ((fail_if_success (k_extra "OFF:ends")); (k_here; k_dflt (first | (refine' ne_nil1 ?kzH ?kzma ?kzmb ?kzDa ?kzha ?kzhu ?_; (case kzH => exact has_app (has_news (by with_reducible assumption)) (has_keep (by with_reducible assumption) (by with_reducible assumption))); (case kzma => walk_at "MY_MEM"); (case kzmb => walk_at "MY_MEM"); (case kzDa => walk_at "MY_ALL"); (case kzha => assumption); (case kzhu => ((try dsimp only [ktrTop, Around.deeper]); omega)); k_whole) | (refine' ne_nil0 ?kzH ?kzma ?kzmb ?kzhu ?_; (case kzH => exact has_news (by with_reducible assumption)); (case kzma => walk_at "MY_MEM"); (case kzmb => exact List.Mem.head _); (case kzhu => ((try dsimp only [ktrTop, Around.deeper]); omega)); k_whole)); (try dsimp only)))
  k_with "MY:MY_PPOP" => ((fail_if_success (k_extra "OFF:ends")); (k_here; (with_reducible show wpAny _ _ (call (Value.builtin _) [Value.ref _]) _ _ _); k_dflt (refine' kl_pop ?kzF ?kzN ?kze ?kzU ?kzz ?_; (case kzF => with_reducible assumption); (case kzN => with_reducible assumption); (case kzU => k_upd); (case kze => exact kpa_last _ _); (case kzz => (rw [sizeLine_eq]; simp only [List.length_append, List.length_singleton]; omega)); k_whole)))
  k_with "MY:MY_PAPP" => ((fail_if_success (k_extra "OFF:ends")); (k_here; (with_reducible show wpAny _ _ (call (Value.builtin _) [Value.ref _, _]) _ _ _); k_dflt (refine' append_K ?k1 ?k2 ?k3 ?_ ?kzz; (case k1 => k_asm); (case k2 => k_asm); (case k3 => k_upd); (case kzz => (rw [sizeLine_eq]; simp only [List.size_toArray, Array.size_push]; omega)); k_whole)))
  k_with "MY:KswEnd" => ((fail_if_success (k_extra "OFF:ends")); (refine stop_here ?_))
  trivial

/-- the ends of the lines, with so many halvings left -/
def ends (f : Int) : Nat → Quad → List Pt
  | 0, q => [q.2.2.2]
  | n + 1, q => if isFlat q f then [q.2.2.2] else ends f n (half1 q) ++ ends f n (half2 q)
theorem ends_length (f : Int) : ∀ (n : Nat) (q : Quad), 1 ≤ (ends f n q).length ∧ (ends f n q).length ≤ 2 ^ n
  | 0, q => by simp [ends]
  | n + 1, q => by
    have h1 := ends_length f n (half1 q)
    have h2 := ends_length f n (half2 q)
    rw [ends]
    split
    · simp; exact Nat.one_le_two_pow
    · rw [List.length_append, Nat.pow_succ]; omega
/-- what a stack of parts stands for, its last part first -/
def pend (f : Int) (st : List (Quad × Nat)) : List Pt := st.reverse.flatMap fun x => ends f (10 - x.2) x.1
theorem pend_nil (f : Int) : pend f [] = [] := rfl
theorem pend_snoc (f : Int) (st : List (Quad × Nat)) (x : Quad × Nat) : pend f (st ++ [x]) = ends f (10 - x.2) x.1 ++ pend f st := by simp [pend]
theorem flatMap_length {α β : Type} (g : α → List β) (h : ∀ x, 1 ≤ (g x).length) : ∀ l : List α, l.length ≤ (l.flatMap g).length
  | [] => by simp
  | x :: l => by
    have h1 := h x
    have h2 := flatMap_length g h l
    rw [List.flatMap_cons, List.length_append, List.length_cons]
    omega
theorem pend_length (f : Int) (st : List (Quad × Nat)) : st.length ≤ (pend f st).length := by
  have h := flatMap_length (fun x : Quad × Nat => ends f (10 - x.2) x.1) (fun x => (ends_length f _ _).1) st.reverse
  rw [List.length_reverse] at h
  exact h
def stD (x : Quad × Nat) : Dat := .tuple [quadD x.1, .int x.2]
theorem stD_ok (st : List (Quad × Nat)) : ∀ d ∈ st.map stD, kqdOk 8 d = true := by
  intro d hd
  (first | (refine ep_el (by walk_at "MY_INH") (List.mem_map.mp hd) ?_; generalize ep _ _ = x; intro hz56) | (refine and_el (List.mem_map.mp hd) ?_; intro x hz56))
  (first | (refine ep_el (by walk_at "MY_INH") (hz56) ?_; generalize ep _ _ = hz57; intro hz58) | (refine and_el (hz56) ?_; intro hz57 hz58))
  clear hz56
  clear hz57
  subst hz58
  simp [stD, quadD, ptD, kqdOk]
theorem PB.half {B : Int} {p q : Pt} (h : PB B p) (k : PB B q) : PB B (half p q) := by
  (first | (refine ep_el (by walk_at "MY_INH") (h) ?_; generalize ep _ _ = h1; intro hz59) | (refine and_el (h) ?_; intro h1 hz59))
  clear h
  (first | (refine ep_el (by walk_at "MY_INH") (hz59) ?_; generalize ep _ _ = h2; intro hz60) | (refine and_el (hz59) ?_; intro h2 hz60))
  clear hz59
  (first | (refine ep_el (by walk_at "MY_INH") (hz60) ?_; generalize ep _ _ = h3; intro h4) | (refine and_el (hz60) ?_; intro h3 h4))
  clear hz60
  (first | (refine ep_el (by walk_at "MY_INH") (k) ?_; generalize ep _ _ = k1; intro hz61) | (refine and_el (k) ?_; intro k1 hz61))
  clear k
  (first | (refine ep_el (by walk_at "MY_INH") (hz61) ?_; generalize ep _ _ = k2; intro hz62) | (refine and_el (hz61) ?_; intro k2 hz62))
  clear hz61
  (first | (refine ep_el (by walk_at "MY_INH") (hz62) ?_; generalize ep _ _ = k3; intro k4) | (refine and_el (hz62) ?_; intro k3 k4))
  clear hz62
  simp only [PB, Mine.half, Int.fdiv_eq_ediv_of_nonneg _ (show (0 : Int) ≤ 2 by decide)]
  omega
theorem QB.half1 {B : Int} {q : Quad} (h : QB B q) : QB B (half1 q) :=
  ⟨h.1, h.1.half h.2.1, (h.1.half h.2.1).half (h.2.1.half h.2.2.1), ((h.1.half h.2.1).half (h.2.1.half h.2.2.1)).half ((h.2.1.half h.2.2.1).half (h.2.2.1.half h.2.2.2))⟩
theorem QB.half2 {B : Int} {q : Quad} (h : QB B q) : QB B (half2 q) :=
  ⟨((h.1.half h.2.1).half (h.2.1.half h.2.2.1)).half ((h.2.1.half h.2.2.1).half (h.2.2.1.half h.2.2.2)), (h.2.1.half h.2.2.1).half (h.2.2.1.half h.2.2.2), h.2.2.1.half h.2.2.2, h.2.2.2⟩

theorem ends_flat {f : Int} {q : Quad} (h : isFlat q f = true) : ∀ n, ends f n q = [q.2.2.2]
  | 0 => rfl
  | n + 1 => by rw [ends, if_pos h]
theorem ends_halves {f : Int} {q : Quad} (h : isFlat q f = false) (n : Nat) : ends f (n + 1) q = ends f n (half1 q) ++ ends f n (half2 q) := by
  rw [ends, if_neg (by rw [h]; exact Bool.false_ne_true)]
theorem nil_or_snoc {α : Type} (l : List α) : l = [] ∨ ∃ l' x, l = l' ++ [x] := by
  rcases List.eq_nil_or_concat l with h | ⟨l', x, h⟩
  · exact .inl h
  · exact .inr ⟨l', x, by rw [h, List.concat_eq_append]⟩
theorem stored4 {z : Str} (h : [Str.ofString "part", Str.ofString "depth", Str.ofString "ahead", Str.ofString "behind"].contains z = false) :
    z ≠ Str.ofString "part" ∧ z ≠ Str.ofString "depth" ∧ z ≠ Str.ofString "ahead" ∧ z ≠ Str.ofString "behind" := by
  simpa [List.contains_cons, Bool.or_eq_false_iff, beq_eq_false_iff_ne] using h

structure LoopS where
  fs : List Value
  ws : List Value
  n1 : Nat
  n2 : Nat
  T : List (Addr × Obj)
  st : List (Quad × Nat)
  fd : List Pt
theorem loopS_all {P : LoopS → Prop} (h : ∀ x : List Value × List Value × Nat × Nat × List (Addr × Obj) × List (Quad × Nat) × List Pt, P ⟨x.1, x.2.1, x.2.2.1, x.2.2.2.1, x.2.2.2.2.1, x.2.2.2.2.2.1, x.2.2.2.2.2.2⟩) : ∀ c, P c := fun c => h (c.fs, c.ws, c.n1, c.n2, c.T, c.st, c.fd)
def LoopS.led (lw lf : Addr) (c : LoopS) : List (Addr × Obj) := (lw, listOf c.ws.toArray c.n2) :: (lf, listOf c.fs.toArray c.n1) :: c.T
def LoopS.facts (olds : List (Addr × Obj)) (lw lf : Addr) (c : LoopS) : Prop :=
  DatAll (c.T ++ olds) c.fs (c.fd.map ptD) ∧ DatAll (c.T ++ olds) c.ws (c.st.map stD) ∧ (∀ p ∈ c.T, p.1 ≠ lw) ∧ (∀ p ∈ c.T, p.1 ≠ lf)
def LoopS.good (f : Int) (q : Quad) (c : LoopS) : Prop := c.fd ++ pend f c.st = ends f 10 q ∧ ∀ x ∈ c.st, QB 1000000 x.1 ∧ x.2 ≤ 10
def LoopS.mu (c : LoopS) : Nat := (c.st.map fun x => 3 ^ (10 - x.2)).sum

theorem mu_drop (st : List (Quad × Nat)) (x : Quad × Nat) : (st.map fun x => 3 ^ (10 - x.2)).sum < ((st ++ [x]).map fun x => 3 ^ (10 - x.2)).sum := by
  have h : 0 < 3 ^ (10 - x.2) := Nat.pow_pos (by decide)
  simp only [List.map_append, List.map_cons, List.map_nil, List.sum_append, List.sum_cons, List.sum_nil]
  omega
theorem mu_halve (st : List (Quad × Nat)) (x : Quad × Nat) (a b : Quad) (h : x.2 < 10) : ((st ++ [(a, x.2 + 1)] ++ [(b, x.2 + 1)]).map fun x => 3 ^ (10 - x.2)).sum < ((st ++ [x]).map fun x => 3 ^ (10 - x.2)).sum := by
  have h0 : 0 < 3 ^ (10 - (x.2 + 1)) := Nat.pow_pos (by decide)
  have e : 10 - x.2 = (10 - (x.2 + 1)) + 1 := by omega
  simp only [List.map_append, List.map_cons, List.map_nil, List.sum_append, List.sum_cons, List.sum_nil]
  rw [e, Nat.pow_succ]
  omega
theorem good_found {f : Int} {q : Quad} {fd : List Pt} {st : List (Quad × Nat)} {x : Quad × Nat} (h : x.2 = 10 ∨ isFlat x.1 f = true) (g : fd ++ pend f (st ++ [x]) = ends f 10 q) : fd ++ [x.1.2.2.2] ++ pend f st = ends f 10 q := by
  rw [← g, pend_snoc, List.append_assoc]
  congr 2
  rcases h with h | h
  · rw [h]; rfl
  · rw [ends_flat h]
theorem good_halve {f : Int} {q : Quad} {fd : List Pt} {st : List (Quad × Nat)} {x : Quad × Nat} (hn : x.2 < 10) (h : isFlat x.1 f = false) (g : fd ++ pend f (st ++ [x]) = ends f 10 q) :
    fd ++ pend f (st ++ [(half2 x.1, x.2 + 1)] ++ [(half1 x.1, x.2 + 1)]) = ends f 10 q := by
  rw [← g, pend_snoc, pend_snoc, pend_snoc, ← List.append_assoc, ← List.append_assoc]
  have e : 10 - x.2 = (10 - (x.2 + 1)) + 1 := by omega
  rw [e, ends_halves h, ← List.append_assoc, ← List.append_assoc]

theorem fr_loop {m₀ ps : Str → Option Value} (hps : ∀ z, z ≠ Str.ofString "part" → z ≠ Str.ofString "depth" → z ≠ Str.ofString "ahead" → z ≠ Str.ofString "behind" → [Str.ofString "part", Str.ofString "depth", Str.ofString "ahead", Str.ofString "behind"].contains z = false → ps z = m₀ z) :
    ∀ z, (∀ p ∈ ([] : List (Str × Value)), z ≠ p.1) → [Str.ofString "part", Str.ofString "depth", Str.ofString "ahead", Str.ofString "behind"].contains z = false → ps z = m₀ z := fun z _ h3 =>
  hps z (stored4 h3).1 (stored4 h3).2.1 (stored4 h3).2.2.1 (stored4 h3).2.2.2 h3
theorem loop_found {olds T : List (Addr × Obj)} {lw lf : Addr} {fs ws : List Value} {n1 n2 : Nat} {st : List (Quad × Nat)} {fd : List Pt} {x : Quad × Nat} {p4 : Value} (k1 : DatAll (T ++ olds) fs (fd.map ptD)) (kp : DatIn (T ++ olds) p4 (ptD x.1.2.2.2)) (k6 : DatAll (T ++ olds) ws (st.map stD)) (k3 : ∀ p ∈ T, p.1 ≠ lw) (k4 : ∀ p ∈ T, p.1 ≠ lf) :
    LoopS.facts olds lw lf ⟨fs ++ [p4], ws, n1, n2, T, st, fd ++ [x.1.2.2.2]⟩ :=
  ⟨by show DatAll _ _ ((fd ++ [_]).map ptD); rw [List.map_append]; exact k1.append (.cons kp .nil), k6, k3, k4⟩
theorem loop_goodF {f : Int} {q : Quad} {fs ws : List Value} {n1 n2 : Nat} {T : List (Addr × Obj)} {st : List (Quad × Nat)} {fd : List Pt} {x : Quad × Nat} (h : x.2 = 10 ∨ isFlat x.1 f = true) (g1 : fd ++ pend f (st ++ [x]) = ends f 10 q) (g2 : ∀ y ∈ st ++ [x], QB 1000000 y.1 ∧ y.2 ≤ 10) :
    LoopS.good f q ⟨fs, ws, n1, n2, T, st, fd ++ [x.1.2.2.2]⟩ := ⟨good_found h g1, fun y hy => g2 y (List.mem_append.mpr (.inl hy))⟩
theorem loop_goodH {f : Int} {q : Quad} {fs ws : List Value} {n1 n2 : Nat} {T : List (Addr × Obj)} {st : List (Quad × Nat)} {fd : List Pt} {x : Quad × Nat} (hn : x.2 < 10) (h : isFlat x.1 f = false) (g1 : fd ++ pend f (st ++ [x]) = ends f 10 q) (g2 : ∀ y ∈ st ++ [x], QB 1000000 y.1 ∧ y.2 ≤ 10) :
    LoopS.good f q ⟨fs, ws, n1, n2, T, st ++ [(half2 x.1, x.2 + 1)] ++ [(half1 x.1, x.2 + 1)], fd⟩ := by
  have hx := (g2 x (List.mem_append.mpr (.inr (List.mem_singleton.mpr rfl)))).1
  refine ⟨good_halve hn h g1, fun y hy => ?_⟩
  rcases List.mem_append.mp hy with hy | hy
  · rcases List.mem_append.mp hy with hy | hy
    · exact g2 y (List.mem_append.mpr (.inl hy))
    · rw [List.mem_singleton.mp hy]; exact ⟨hx.half2, by dsimp only; omega⟩
  · rw [List.mem_singleton.mp hy]; exact ⟨hx.half1, by dsimp only; omega⟩
theorem loop_ledH {lw lf D1 D2 : Addr} {o1 o2 : Obj} {r : Addr × Obj} {fs ws : List Value} {n1 n2 : Nat} {tl T : List (Addr × Obj)} {st : List (Quad × Nat)} {fd : List Pt} : ∀ p ∈ LoopS.led lw lf ⟨fs, ws, n1, n2, (D2, o2) :: (D1, o1) :: (tl ++ T), st, fd⟩, p ∈ (D2, o2) :: (D1, o1) :: r :: (lw, listOf ws.toArray n2) :: (lf, listOf fs.toArray n1) :: (tl ++ T) := fun p hp => by
  simp only [LoopS.led, List.mem_cons] at hp ⊢
  rcases hp with h | h | h | h | h
  · exact .inr (.inr (.inr (.inl h)))
  · exact .inr (.inr (.inr (.inr (.inl h))))
  · exact .inl h
  · exact .inr (.inl h)
  · exact .inr (.inr (.inr (.inr (.inr h))))
theorem loop_factsH {olds T tl : List (Addr × Obj)} {lw lf D1 D2 : Addr} {fs ws : List Value} {n1 n2 m1 m2 : Nat} {st : List (Quad × Nat)} {fd : List Pt} {x : Quad × Nat} {u9 v9 : Value} {t1 t2 : Tok} (k1 : DatAll (T ++ olds) fs (fd.map ptD)) (k6 : DatAll (T ++ olds) ws (st.map stD)) (x9 : DatIn (tl ++ (T ++ olds)) u9 (quadD (half1 x.1))) (y9 : DatIn (tl ++ (T ++ olds)) v9 (quadD (half2 x.1)))
    (s9 : ∀ p ∈ tl ++ T, p.1 ≠ lw) (t9 : ∀ p ∈ tl ++ T, p.1 ≠ lf) (d1 : @Ne Nat D1 lw) (d2 : @Ne Nat D2 lw) (e1 : @Ne Nat D1 lf) (e2 : @Ne Nat D2 lf) :
    LoopS.facts olds lw lf ⟨fs, ws ++ [.ref D1] ++ [.ref D2], n1, n2, (D2, tupO [u9, Value.int (↑x.snd + 1) t2] m2) :: (D1, tupO [v9, Value.int (↑x.snd + 1) t1] m1) :: (tl ++ T), st ++ [(half2 x.1, x.2 + 1)] ++ [(half1 x.1, x.2 + 1)], fd⟩ := by
  have hsub : ∀ p ∈ tl ++ (T ++ olds), p ∈ ((D2, tupO [u9, Value.int (↑x.snd + 1) t2] m2) :: (D1, tupO [v9, Value.int (↑x.snd + 1) t1] m1) :: (tl ++ T)) ++ olds := fun p hp =>
    List.mem_append.mpr ((List.mem_append.mp hp).elim (fun h => .inl (List.mem_cons_of_mem _ (List.mem_cons_of_mem _ (List.mem_append.mpr (.inl h))))) fun h => (List.mem_append.mp h).elim (fun h => .inl (List.mem_cons_of_mem _ (List.mem_cons_of_mem _ (List.mem_append.mpr (.inr h))))) .inr)
  have hsub' : ∀ p ∈ T ++ olds, p ∈ ((D2, tupO [u9, Value.int (↑x.snd + 1) t2] m2) :: (D1, tupO [v9, Value.int (↑x.snd + 1) t1] m1) :: (tl ++ T)) ++ olds := fun p hp => hsub p (List.mem_append.mpr (.inr hp))
  refine ⟨k1.mono hsub', ?_, ?_, ?_⟩
  · show DatAll _ _ ((st ++ [_] ++ [_]).map stD)
    rw [List.map_append, List.map_append]
    exact ((k6.mono hsub').append (.cons (.tuple (List.mem_append.mpr (.inl (List.mem_cons_of_mem _ List.mem_cons_self))) (.cons (y9.mono hsub) (.cons (.int _ _) .nil))) .nil)).append (.cons (.tuple (List.mem_append.mpr (.inl List.mem_cons_self)) (.cons (x9.mono hsub) (.cons (.int _ _) .nil))) .nil)
  · intro p hp
    rcases List.mem_cons.mp hp with rfl | hp
    · exact d2
    · rcases List.mem_cons.mp hp with rfl | hp
      · exact d1
      · exact s9 p hp
  · intro p hp
    rcases List.mem_cons.mp hp with rfl | hp
    · exact e2
    · rcases List.mem_cons.mp hp with rfl | hp
      · exact e1
      · exact t9 p hp
theorem loop_lens {olds T : List (Addr × Obj)} {f : Int} {q : Quad} {fs ws : List Value} {st : List (Quad × Nat)} {fd : List Pt} {x : Quad × Nat} (k1 : DatAll (T ++ olds) fs (fd.map ptD)) (k2 : DatAll (T ++ olds) ws ((st ++ [x]).map stD)) (g1 : fd ++ pend f (st ++ [x]) = ends f 10 q) : fs.length ≤ 1024 ∧ ws.length ≤ 1024 := by
  have h1 := k1.length
  have h5 := k2.length
  have h2 := congrArg List.length g1
  have h3 := (ends_length f 10 q).2
  have h4 := pend_length f (st ++ [x])
  rw [List.length_map] at h1 h5
  rw [List.length_append] at h2
  omega
theorem loop_done {f : Int} {q : Quad} {fd : List Pt} (g : fd ++ pend f [] = ends f 10 q) : fd = ends f 10 q := by simpa [pend] using g
set_option maxRecDepth 100000 in
set_option maxHeartbeats 20000000 in
theorem ends_con : ∀ (q : Quad) (f : Int) (hq : QB 1000000 q) (hf : -1000000 ≤ f ∧ f ≤ 1000000), Con 236 12 [quadD q, .int f] (Mix (.list ((ends f 10 q).map ptD))) := by
  intro q f hq hf
  walk_at "MY_CON"
  (refine ep_el (by walk_at "MY_INH") (all2T hD) ?_; generalize ep _ _ = x9; generalize x9.1 = v1, x9.2 = v0; clear x9; intro hz63)
  (first | (refine ep_el (by walk_at "MY_INH") (hz63) ?_; generalize ep _ _ = hz64; intro hz65) | (refine and_el (hz63) ?_; intro hz64 hz65))
  clear hz63
  subst hz64
  (first | (refine ep_el (by walk_at "MY_INH") (hz65) ?_; generalize ep _ _ = h0; intro hi) | (refine and_el (hz65) ?_; intro h0 hi))
  clear hz65
  (first | (refine ep_el (by walk_at "MY_INH") (int_of hi) ?_; generalize ep _ _ = t0; intro hz66) | (refine and_el (int_of hi) ?_; intro t0 hz66))
  subst hz66
  (refine ep_el (by walk_at "MY_INH") (quad_ofT h0) ?_; generalize ep _ _ = x9; generalize x9.1 = a1, x9.2.1 = n1, x9.2.2.1 = v1, x9.2.2.2.1 = v2, x9.2.2.2.2.1 = v3, x9.2.2.2.2.2 = v4; clear x9; intro hz67)
  (first | (refine ep_el (by walk_at "MY_INH") (hz67) ?_; generalize ep _ _ = hz68; intro hz69) | (refine and_el (hz67) ?_; intro hz68 hz69))
  clear hz67
  subst hz68
  (first | (refine ep_el (by walk_at "MY_INH") (hz69) ?_; generalize ep _ _ = m1; intro hz70) | (refine and_el (hz69) ?_; intro m1 hz70))
  clear hz69
  (first | (refine ep_el (by walk_at "MY_INH") (hz70) ?_; generalize ep _ _ = h1; intro hz71) | (refine and_el (hz70) ?_; intro h1 hz71))
  clear hz70
  (first | (refine ep_el (by walk_at "MY_INH") (hz71) ?_; generalize ep _ _ = h2; intro hz72) | (refine and_el (hz71) ?_; intro h2 hz72))
  clear hz71
  (first | (refine ep_el (by walk_at "MY_INH") (hz72) ?_; generalize ep _ _ = h3; intro h4) | (refine and_el (hz72) ?_; intro h3 h4))
  clear hz72
  k_dflt walk_at "MY_ENTER"
  k_steps
  rename_i tk0 lf _ _ d0 _ hl0 lw _ hl1 dt _ hl2 _ _ hh lF lN
  refine Stop.mk ?_
  refine ksw_while (σ := LoopS) (LoopS.led lw lf) (fun _ => []) (LoopS.facts olds lw lf) [Str.ofString "part", Str.ofString "depth", Str.ofString "ahead", Str.ofString "behind"] (LoopS.good f q) LoopS.mu ⟨[], [.ref d0], 0, 0, [(d0, tupO [.ref a1, .int 0 tk0] 0)], [(q, 0)], []⟩ lF ?kn ?kf ?kk ?kp ?turn
  case kn => exact fun p hp => lN p (List.mem_cons_of_mem _ (by
    simp only [LoopS.led, List.mem_cons, List.not_mem_nil, or_false] at hp ⊢
    rcases hp with h | h | h
    · exact .inl h
    · exact .inr (.inr h)
    · exact .inr (.inl h)))
  case kf =>
    refine ⟨.nil, .cons (.tuple (List.Mem.head _) (.cons (h0.mono fun p hp => List.mem_append.mpr (.inr hp)) (.cons (.int _ _) .nil))) .nil, fun p hp => ?_, fun p hp => ?_⟩
    · rw [List.mem_singleton.mp hp]; exact Nat.ne_of_lt hl1.1
    · rw [List.mem_singleton.mp hp]; exact fun e => Nat.lt_irrefl _ (e ▸ (hl0 : @LT.lt Nat _ lf d0))
  case kk => exact fun p hp => nomatch hp
  case kp => exact ⟨by simp [pend], fun x hx => by rw [List.mem_singleton.mp hx]; exact ⟨hq, Nat.zero_le _⟩⟩
  case turn =>
    have hlt : @LT.lt Nat _ lf lw := hl1.2
    clear lF lN hl1 hl2
    refine loopS_all ?_
    intro x9
    generalize x9.1 = fs, x9.2.1 = ws, x9.2.2.1 = n1', x9.2.2.2.1 = n2', x9.2.2.2.2.1 = Tl, x9.2.2.2.2.2.1 = st, x9.2.2.2.2.2.2 = fd
    clear x9
    intro u hh tk hk9 hg9 kF kN
    (first | (refine ep_el (by walk_at "MY_INH") (hk9) ?_; generalize ep _ _ = k1; intro hz73) | (refine and_el (hk9) ?_; intro k1 hz73))
    clear hk9
    (first | (refine ep_el (by walk_at "MY_INH") (hz73) ?_; generalize ep _ _ = k2; intro hz74) | (refine and_el (hz73) ?_; intro k2 hz74))
    clear hz73
    (first | (refine ep_el (by walk_at "MY_INH") (hz74) ?_; generalize ep _ _ = k3; intro k4) | (refine and_el (hz74) ?_; intro k3 k4))
    clear hz74
    (first | (refine ep_el (by walk_at "MY_INH") (hg9) ?_; generalize ep _ _ = g1; intro g2) | (refine and_el (hg9) ?_; intro g1 g2))
    clear hg9
    dsimp only [LoopS.led] at k1 k2 k3 k4 g1 g2 kF kN
    refine Or.elim (nil_or_snoc st) ?_ ?_ <;> intro hst
    · subst hst
      have hw0 : ws = [] := List.eq_nil_of_length_eq_zero k2.length
      subst hw0
      (try k_fold)
      k_steps
      (try dsimp only); (try k_unfold); (try dsimp only)
      refine con_end hret (by assumption) (by assumption) ?_
      have e := loop_done g1
      subst e
      exact DatIn.list (List.mem_append.mpr (.inl (List.mem_cons_of_mem _ (List.mem_cons_of_mem _ List.mem_cons_self)))) (k1.mono fun p hp => by
        rcases List.mem_append.mp hp with h | h
        · exact List.mem_append.mpr (.inl (List.mem_cons_of_mem _ (List.mem_cons_of_mem _ (List.mem_cons_of_mem _ h))))
        · exact List.mem_append.mpr (.inr h))
    · (first | (refine ep_el (by walk_at "MY_INH") (hst) ?_; generalize ep _ _ = st; intro hz89) | (refine and_el (hst) ?_; intro st hz89))
      clear hst
      (first | (refine ep_el (by walk_at "MY_INH") (hz89) ?_; generalize ep _ _ = x; intro hst) | (refine and_el (hz89) ?_; intro x hst))
      clear hz89
      subst hst
      (first | (refine ep_el (by walk_at "MY_INH") (loop_lens k1 k2 g1) ?_; generalize ep _ _ = hlf; intro hlw) | (refine and_el (loop_lens k1 k2 g1) ?_; intro hlf hlw))
      have hok := stD_ok (st ++ [x])
      rw [List.map_append] at k2 hok
      (refine ep_el (by walk_at "MY_INH") (datAll_concatT k2) ?_; generalize ep _ _ = x9; generalize x9.1 = ws, x9.2 = v; clear x9; intro hz75)
      (first | (refine ep_el (by walk_at "MY_INH") (hz75) ?_; generalize ep _ _ = hz76; intro hz77) | (refine and_el (hz75) ?_; intro hz76 hz77))
      clear hz75
      subst hz76
      (first | (refine ep_el (by walk_at "MY_INH") (hz77) ?_; generalize ep _ _ = k6; intro k5) | (refine and_el (hz77) ?_; intro k6 k5))
      clear hz77
      (refine ep_el (by walk_at "MY_INH") (tup2_ofT k5) ?_; generalize ep _ _ = x9; generalize x9.1 = av, x9.2.1 = nv, x9.2.2.1 = pv, x9.2.2.2 = dv; clear x9; intro hz78)
      (first | (refine ep_el (by walk_at "MY_INH") (hz78) ?_; generalize ep _ _ = hz79; intro hz80) | (refine and_el (hz78) ?_; intro hz79 hz80))
      clear hz78
      subst hz79
      (first | (refine ep_el (by walk_at "MY_INH") (hz80) ?_; generalize ep _ _ = mv; intro hz81) | (refine and_el (hz80) ?_; intro mv hz81))
      clear hz80
      (first | (refine ep_el (by walk_at "MY_INH") (hz81) ?_; generalize ep _ _ = kp; intro kd) | (refine and_el (hz81) ?_; intro kp kd))
      clear hz81
      (first | (refine ep_el (by walk_at "MY_INH") (int_of kd) ?_; generalize ep _ _ = td; intro hz82) | (refine and_el (int_of kd) ?_; intro td hz82))
      subst hz82
      have kp' := kp
      (refine ep_el (by walk_at "MY_INH") (quad_ofT kp') ?_; generalize ep _ _ = x9; generalize x9.1 = ap, x9.2.1 = np, x9.2.2.1 = p1, x9.2.2.2.1 = p2, x9.2.2.2.2.1 = p3, x9.2.2.2.2.2 = p4; clear x9; intro hz83)
      (first | (refine ep_el (by walk_at "MY_INH") (hz83) ?_; generalize ep _ _ = hz84; intro hz85) | (refine and_el (hz83) ?_; intro hz84 hz85))
      clear hz83
      subst hz84
      (first | (refine ep_el (by walk_at "MY_INH") (hz85) ?_; generalize ep _ _ = mp; intro hz86) | (refine and_el (hz85) ?_; intro mp hz86))
      clear hz85
      (first | (refine ep_el (by walk_at "MY_INH") (hz86) ?_; generalize ep _ _ = kp1; intro hz87) | (refine and_el (hz86) ?_; intro kp1 hz87))
      clear hz86
      (first | (refine ep_el (by walk_at "MY_INH") (hz87) ?_; generalize ep _ _ = kp2; intro hz88) | (refine and_el (hz87) ?_; intro kp2 hz88))
      clear hz87
      (first | (refine ep_el (by walk_at "MY_INH") (hz88) ?_; generalize ep _ _ = kp3; intro kp4) | (refine and_el (hz88) ?_; intro kp3 kp4))
      clear hz88
      (first | (refine ep_el (by walk_at "MY_INH") (g2 x (List.mem_append.mpr (.inr (List.mem_singleton.mpr rfl)))) ?_; generalize ep _ _ = hxq; intro hx10) | (refine and_el (g2 x (List.mem_append.mpr (.inr (List.mem_singleton.mpr rfl)))) ?_; intro hxq hx10))
      rw [List.length_append, List.length_singleton] at hlw
      clear kp' k5 kd
      (try k_fold)
      k_steps
      · rename_i hx _ F' N'
        refine Stop.mk ?_
        rw [List.push_toArray] at N'
        exact ksw_end ⟨fs ++ [p4], ws, n1' + 1, n2' + 1, Tl, st, fd ++ [x.1.2.2.2]⟩ F' N' (fun p hp => List.mem_cons_of_mem _ hp) (loop_found k1 kp4 k6 k3 k4) (fun p hp => nomatch hp) (fr_loop fun z e1 e2 e3 e4 h3 => by (repeat refine (if_neg (by assumption)).trans ?_); (show (if _ = true then _ else _) = _); rw [h3]; rfl) (loop_goodF (.inl (by clear N' F'; omega)) g1 g2) (mu_drop st x)
      · rename_i hx _ F' N'
        refine Stop.mk ?_
        rw [List.push_toArray] at N'
        exact ksw_end ⟨fs ++ [p4], ws, n1' + 1, n2' + 1, Tl, st, fd ++ [x.1.2.2.2]⟩ F' N' (fun p hp => List.mem_cons_of_mem _ hp) (loop_found k1 kp4 k6 k3 k4) (fun p hp => nomatch hp) (fr_loop fun z e1 e2 e3 e4 h3 => by (repeat refine (if_neg (by assumption)).trans ?_); (show (if _ = true then _ else _) = _); rw [h3]; rfl) (loop_goodF (.inr hx) g1 g2) (mu_drop st x)
      · rename_i l' _ _ _ _ _ _ _ hx _ _ hfl a9 n9 u9 v9 tl _ _ _ m9 x9 y9 s9 t9 _ _ _ tk1 D1 _ l1 _ tk2 D2 _ l2 _ F' N'
        refine Stop.mk ?_
        rw [List.push_toArray, List.push_toArray] at N'
        exact ksw_end ⟨fs, ws ++ [.ref D1] ++ [.ref D2], n1', n2' + 1 + 1 + 1, (D2, tupO [u9, Value.int (↑x.snd + 1) (tk2 + 1)] 0) :: (D1, tupO [v9, Value.int (↑x.snd + 1) (tk1 + 1)] 0) :: (tl ++ Tl), st ++ [(half2 x.1, x.2 + 1)] ++ [(half1 x.1, x.2 + 1)], fd⟩ F' N' loop_ledH (loop_factsH k1 k6 x9 y9 s9 t9 (Nat.ne_of_gt l1.2.1) (Nat.ne_of_gt l2.2.2.1) (Nat.ne_of_gt l1.2.2.1) (Nat.ne_of_gt l2.2.2.2.1)) (fun p hp => nomatch hp) (fr_loop fun z e1 e2 e3 e4 h3 => by (repeat refine (if_neg (by assumption)).trans ?_); (show (if _ = true then _ else _) = _); rw [h3]; rfl) (loop_goodH (by clear N' F' x9 y9 s9 t9; omega) hfl g1 g2) (mu_halve st x _ _ (by clear N' F' x9 y9 s9 t9; omega))

theorem off_ends : True := by
  k_with "OFF:ends" => skip
  trivial
end
section
-- EPS
local macro_rules | `(tactic| walk_at "StepSrc") => `(tactic| ((k_dflt (first
  | (refine' StepSrc.mk 1 ?k1 ?k2 ?k3 ?k4 ?k5 ?k6 ?k7 ?_; (case k1 => rfl); (case k2 => k_asm); (case k3 => k_asm); (case k4 => assumption); (case k5 => rfl); (case k6 => rfl); (case k7 => exact Nat.le_of_ble_eq_true rfl))
  | (refine' StepSrc.mk 3 ?k1 ?k2 ?k3 ?k4 ?k5 ?k6 ?k7 ?_; (case k1 => rfl); (case k2 => k_asm); (case k3 => k_asm); (case k4 => assumption); (case k5 => rfl); (case k6 => rfl); (case k7 => exact Nat.le_of_ble_eq_true rfl)))); (try dsimp only); intro g'; (try dsimp only)))
local macro_rules | `(tactic| walk_at "CompRest") => `(tactic| (k_dflt first
  | (refine LCg.CompRest.succ ?_; intro v' I' oI' C' oC' D' m' h' tk' E' hv' hC' hx' F' N' off' ne'; (refine ex_el hv' ?_; clear hv'; intro t9' hv9'; subst hv9'); (try simp only [LCg.Off3, and_true] at off'))
  | refine LCg.CompRest.zero ?_))
theorem on_f6 : True := by
  w_top off
  k_with "MY:MY_EPS" => ((fail_if_success (k_extra "OFF:points")); skip)
  k_with "MY:eval ListComp" => ((fail_if_success (k_extra "OFF:points")); (k_here; k_dflt (refine ListComp_step (by with_reducible assumption) (by with_unfolding_all rfl) (by decide) (by rfl) (by decide) (by rfl) ?_)))
  trivial
set_option maxRecDepth 100000 in
set_option maxHeartbeats 20000000 in
theorem points1_con : ∀ (c : Str) (p : Pt), Con 201 12 [.tuple [.str c, .int p.1, .int p.2]] (New (.list [ptD p])) := by
  intro c p
  walk_at "MY_CON"
  (first | (refine ep_el (by walk_at "MY_INH") (all1 hD) ?_; generalize ep _ _ = v1; intro hz90) | (refine and_el (all1 hD) ?_; intro v1 hz90))
  (first | (refine ep_el (by walk_at "MY_INH") (hz90) ?_; generalize ep _ _ = hz91; intro h1) | (refine and_el (hz90) ?_; intro hz91 h1))
  clear hz90
  subst hz91
  (refine ep_el (by walk_at "MY_INH") (tup_ofT h1) ?_; generalize ep _ _ = x9; generalize x9.1 = a1, x9.2.1 = vs1, x9.2.2 = n1; clear x9; intro hz92)
  (first | (refine ep_el (by walk_at "MY_INH") (hz92) ?_; generalize ep _ _ = hz93; intro hz94) | (refine and_el (hz92) ?_; intro hz93 hz94))
  clear hz92
  subst hz93
  (first | (refine ep_el (by walk_at "MY_INH") (hz94) ?_; generalize ep _ _ = m1; intro hd) | (refine and_el (hz94) ?_; intro m1 hd))
  clear hz94
  (refine ep_el (by walk_at "MY_INH") (all3T hd) ?_; generalize ep _ _ = x9; generalize x9.1 = v1, x9.2.1 = v2, x9.2.2 = v3; clear x9; intro hz95)
  (first | (refine ep_el (by walk_at "MY_INH") (hz95) ?_; generalize ep _ _ = hz96; intro hz97) | (refine and_el (hz95) ?_; intro hz96 hz97))
  clear hz95
  subst hz96
  (first | (refine ep_el (by walk_at "MY_INH") (hz97) ?_; generalize ep _ _ = h1; intro hz98) | (refine and_el (hz97) ?_; intro h1 hz98))
  clear hz97
  (first | (refine ep_el (by walk_at "MY_INH") (hz98) ?_; generalize ep _ _ = h2; intro h3) | (refine and_el (hz98) ?_; intro h2 h3))
  clear hz98
  (first | (refine ep_el (by walk_at "MY_INH") (str_of h1) ?_; generalize ep _ _ = t1; intro hz99) | (refine and_el (str_of h1) ?_; intro t1 hz99))
  subst hz99
  (first | (refine ep_el (by walk_at "MY_INH") (int_of h2) ?_; generalize ep _ _ = t2; intro hz100) | (refine and_el (int_of h2) ?_; intro t2 hz100))
  subst hz100
  (first | (refine ep_el (by walk_at "MY_INH") (int_of h3) ?_; generalize ep _ _ = t3; intro hz101) | (refine and_el (int_of h3) ?_; intro t3 hz101))
  subst hz101
  clear h1 h2 h3 hD hd
  have b1 := hH.tup m1
  k_dflt walk_at "MY_ENTERC"
  k_steps
  walk_at "MY_END"
set_option maxRecDepth 100000 in
set_option maxHeartbeats 20000000 in
theorem points3_con : ∀ (c : Str) (p q r : Pt), Con 201 12 [.tuple [.str c, .int p.1, .int p.2, .int q.1, .int q.2, .int r.1, .int r.2]] (New (.list [ptD p, ptD q, ptD r])) := by
  intro c p q r
  walk_at "MY_CON"
  (first | (refine ep_el (by walk_at "MY_INH") (all1 hD) ?_; generalize ep _ _ = v1; intro hz102) | (refine and_el (all1 hD) ?_; intro v1 hz102))
  (first | (refine ep_el (by walk_at "MY_INH") (hz102) ?_; generalize ep _ _ = hz103; intro h1) | (refine and_el (hz102) ?_; intro hz103 h1))
  clear hz102
  subst hz103
  (refine ep_el (by walk_at "MY_INH") (tup_ofT h1) ?_; generalize ep _ _ = x9; generalize x9.1 = a1, x9.2.1 = vs1, x9.2.2 = n1; clear x9; intro hz104)
  (first | (refine ep_el (by walk_at "MY_INH") (hz104) ?_; generalize ep _ _ = hz105; intro hz106) | (refine and_el (hz104) ?_; intro hz105 hz106))
  clear hz104
  subst hz105
  (first | (refine ep_el (by walk_at "MY_INH") (hz106) ?_; generalize ep _ _ = m1; intro hd) | (refine and_el (hz106) ?_; intro m1 hd))
  clear hz106
  (refine ep_el (by walk_at "MY_INH") (more_ofT hd) ?_; generalize ep _ _ = x9; generalize x9.1 = v1, x9.2 = r1; clear x9; intro hz107)
  (first | (refine ep_el (by walk_at "MY_INH") (hz107) ?_; generalize ep _ _ = hz108; intro hz109) | (refine and_el (hz107) ?_; intro hz108 hz109))
  clear hz107
  subst hz108
  (first | (refine ep_el (by walk_at "MY_INH") (hz109) ?_; generalize ep _ _ = h1; intro hd) | (refine and_el (hz109) ?_; intro h1 hd))
  clear hz109
  (refine ep_el (by walk_at "MY_INH") (more_ofT hd) ?_; generalize ep _ _ = x9; generalize x9.1 = v2, x9.2 = r2; clear x9; intro hz110)
  (first | (refine ep_el (by walk_at "MY_INH") (hz110) ?_; generalize ep _ _ = hz111; intro hz112) | (refine and_el (hz110) ?_; intro hz111 hz112))
  clear hz110
  subst hz111
  (first | (refine ep_el (by walk_at "MY_INH") (hz112) ?_; generalize ep _ _ = h2; intro hd) | (refine and_el (hz112) ?_; intro h2 hd))
  clear hz112
  (refine ep_el (by walk_at "MY_INH") (more_ofT hd) ?_; generalize ep _ _ = x9; generalize x9.1 = v3, x9.2 = r3; clear x9; intro hz113)
  (first | (refine ep_el (by walk_at "MY_INH") (hz113) ?_; generalize ep _ _ = hz114; intro hz115) | (refine and_el (hz113) ?_; intro hz114 hz115))
  clear hz113
  subst hz114
  (first | (refine ep_el (by walk_at "MY_INH") (hz115) ?_; generalize ep _ _ = h3; intro hd) | (refine and_el (hz115) ?_; intro h3 hd))
  clear hz115
  (refine ep_el (by walk_at "MY_INH") (all4T hd) ?_; generalize ep _ _ = x9; generalize x9.1 = v4, x9.2.1 = v5, x9.2.2.1 = v6, x9.2.2.2 = v7; clear x9; intro hz116)
  (first | (refine ep_el (by walk_at "MY_INH") (hz116) ?_; generalize ep _ _ = hz117; intro hz118) | (refine and_el (hz116) ?_; intro hz117 hz118))
  clear hz116
  subst hz117
  (first | (refine ep_el (by walk_at "MY_INH") (hz118) ?_; generalize ep _ _ = h4; intro hz119) | (refine and_el (hz118) ?_; intro h4 hz119))
  clear hz118
  (first | (refine ep_el (by walk_at "MY_INH") (hz119) ?_; generalize ep _ _ = h5; intro hz120) | (refine and_el (hz119) ?_; intro h5 hz120))
  clear hz119
  (first | (refine ep_el (by walk_at "MY_INH") (hz120) ?_; generalize ep _ _ = h6; intro h7) | (refine and_el (hz120) ?_; intro h6 h7))
  clear hz120
  (first | (refine ep_el (by walk_at "MY_INH") (str_of h1) ?_; generalize ep _ _ = t1; intro hz121) | (refine and_el (str_of h1) ?_; intro t1 hz121))
  subst hz121
  (first | (refine ep_el (by walk_at "MY_INH") (int_of h2) ?_; generalize ep _ _ = t2; intro hz122) | (refine and_el (int_of h2) ?_; intro t2 hz122))
  subst hz122
  (first | (refine ep_el (by walk_at "MY_INH") (int_of h3) ?_; generalize ep _ _ = t3; intro hz123) | (refine and_el (int_of h3) ?_; intro t3 hz123))
  subst hz123
  (first | (refine ep_el (by walk_at "MY_INH") (int_of h4) ?_; generalize ep _ _ = t4; intro hz124) | (refine and_el (int_of h4) ?_; intro t4 hz124))
  subst hz124
  (first | (refine ep_el (by walk_at "MY_INH") (int_of h5) ?_; generalize ep _ _ = t5; intro hz125) | (refine and_el (int_of h5) ?_; intro t5 hz125))
  subst hz125
  (first | (refine ep_el (by walk_at "MY_INH") (int_of h6) ?_; generalize ep _ _ = t6; intro hz126) | (refine and_el (int_of h6) ?_; intro t6 hz126))
  subst hz126
  (first | (refine ep_el (by walk_at "MY_INH") (int_of h7) ?_; generalize ep _ _ = t7; intro hz127) | (refine and_el (int_of h7) ?_; intro t7 hz127))
  subst hz127
  clear h1 h2 h3 h4 h5 h6 h7 hD hd
  have b1 := hH.tup m1
  k_dflt walk_at "MY_ENTERC"
  k_steps
  walk_at "MY_END"

theorem off_points : True := by
  k_with "OFF:points" => skip
  trivial
end
section
theorem on_f7 : True := by
  w_top off
  k_with "MY:MY_EPS" => ((fail_if_success (k_extra "OFF:near")); skip)
  trivial
-- EPS
/-- is a point so near to a stretch -/
def isNear (p b e : Pt) (most times : Int) : Bool :=
  let px := p.1 - times * b.1
  let py := p.2 - times * b.2
  let ex := times * (e.1 - b.1)
  let ey := times * (e.2 - b.2)
  let long := ex * ex + ey * ey
  let along := px * ex + py * ey
  let far := (times * most) ^ Int.toNat 2
  if long = 0 ∨ along ≤ 0 then decide (px * px + py * py ≤ far)
  else if along ≥ long then decide ((px - ex) ^ Int.toNat 2 + (py - ey) ^ Int.toNat 2 ≤ far)
  else decide ((px * ey - py * ex) ^ Int.toNat 2 ≤ far * long)
theorem near1 {p b e : Pt} {most times : Int} (h : times * (e.1 - b.1) * (times * (e.1 - b.1)) + times * (e.2 - b.2) * (times * (e.2 - b.2)) = 0) :
    isNear p b e most times = decide ((p.1 - times * b.1) * (p.1 - times * b.1) + (p.2 - times * b.2) * (p.2 - times * b.2) ≤ (times * most) ^ Int.toNat 2) := if_pos (.inl h)
theorem near2 {p b e : Pt} {most times : Int} (h : (p.1 - times * b.1) * (times * (e.1 - b.1)) + (p.2 - times * b.2) * (times * (e.2 - b.2)) ≤ 0) :
    isNear p b e most times = decide ((p.1 - times * b.1) * (p.1 - times * b.1) + (p.2 - times * b.2) * (p.2 - times * b.2) ≤ (times * most) ^ Int.toNat 2) := if_pos (.inr h)
theorem near3 {p b e : Pt} {most times : Int} (h0 : times * (e.1 - b.1) * (times * (e.1 - b.1)) + times * (e.2 - b.2) * (times * (e.2 - b.2)) ≠ 0)
    (h1 : ¬ (p.1 - times * b.1) * (times * (e.1 - b.1)) + (p.2 - times * b.2) * (times * (e.2 - b.2)) ≤ 0)
    (h2 : (p.1 - times * b.1) * (times * (e.1 - b.1)) + (p.2 - times * b.2) * (times * (e.2 - b.2)) ≥ times * (e.1 - b.1) * (times * (e.1 - b.1)) + times * (e.2 - b.2) * (times * (e.2 - b.2))) :
    isNear p b e most times = decide ((p.1 - times * b.1 - times * (e.1 - b.1)) ^ Int.toNat 2 + (p.2 - times * b.2 - times * (e.2 - b.2)) ^ Int.toNat 2 ≤ (times * most) ^ Int.toNat 2) :=
  (if_neg (fun h => h.elim h0 h1)).trans (if_pos h2)
theorem near4 {p b e : Pt} {most times : Int} (h0 : times * (e.1 - b.1) * (times * (e.1 - b.1)) + times * (e.2 - b.2) * (times * (e.2 - b.2)) ≠ 0)
    (h1 : ¬ (p.1 - times * b.1) * (times * (e.1 - b.1)) + (p.2 - times * b.2) * (times * (e.2 - b.2)) ≤ 0)
    (h2 : ¬ (p.1 - times * b.1) * (times * (e.1 - b.1)) + (p.2 - times * b.2) * (times * (e.2 - b.2)) ≥ times * (e.1 - b.1) * (times * (e.1 - b.1)) + times * (e.2 - b.2) * (times * (e.2 - b.2))) :
    isNear p b e most times = decide (((p.1 - times * b.1) * (times * (e.2 - b.2)) - (p.2 - times * b.2) * (times * (e.1 - b.1))) ^ Int.toNat 2 ≤ (times * most) ^ Int.toNat 2 * (times * (e.1 - b.1) * (times * (e.1 - b.1)) + times * (e.2 - b.2) * (times * (e.2 - b.2)))) :=
  (if_neg (fun h => h.elim h0 h1)).trans (if_neg h2)
set_option maxRecDepth 100000 in
set_option maxHeartbeats 20000000 in
theorem near_con : ∀ (p b e : Pt) (most times : Int) (hp1 : Bd 21 p.1) (hp2 : Bd 21 p.2) (hb1 : Bd 21 b.1) (hb2 : Bd 21 b.2) (he1 : Bd 21 e.1) (he2 : Bd 21 e.2) (htb1 : Bd 21 (times * b.1)) (htb2 : Bd 21 (times * b.2)) (hm : Bd 15 most) (ht : Bd 10 times), Con 255 2 [ptD p, ptD b, ptD e, .int most, .int times] (New (.bool (isNear p b e most times))) := by
  intro p b e most times hp1 hp2 hb1 hb2 he1 he2 htb1 htb2 hm ht
  walk_at "MY_CON"
  (refine ep_el (by walk_at "MY_INH") (all5T hD) ?_; generalize ep _ _ = x9; generalize x9.1 = v1, x9.2.1 = v2, x9.2.2.1 = v3, x9.2.2.2.1 = v4, x9.2.2.2.2 = v5; clear x9; intro hz128)
  (first | (refine ep_el (by walk_at "MY_INH") (hz128) ?_; generalize ep _ _ = hz129; intro hz130) | (refine and_el (hz128) ?_; intro hz129 hz130))
  clear hz128
  subst hz129
  (first | (refine ep_el (by walk_at "MY_INH") (hz130) ?_; generalize ep _ _ = h1; intro hz131) | (refine and_el (hz130) ?_; intro h1 hz131))
  clear hz130
  (first | (refine ep_el (by walk_at "MY_INH") (hz131) ?_; generalize ep _ _ = h2; intro hz132) | (refine and_el (hz131) ?_; intro h2 hz132))
  clear hz131
  (first | (refine ep_el (by walk_at "MY_INH") (hz132) ?_; generalize ep _ _ = h3; intro hz133) | (refine and_el (hz132) ?_; intro h3 hz133))
  clear hz132
  (first | (refine ep_el (by walk_at "MY_INH") (hz133) ?_; generalize ep _ _ = h4; intro h5) | (refine and_el (hz133) ?_; intro h4 h5))
  clear hz133
  (first | (refine ep_el (by walk_at "MY_INH") (int_of h4) ?_; generalize ep _ _ = t0; intro hz134) | (refine and_el (int_of h4) ?_; intro t0 hz134))
  subst hz134
  (first | (refine ep_el (by walk_at "MY_INH") (int_of h5) ?_; generalize ep _ _ = t01; intro hz135) | (refine and_el (int_of h5) ?_; intro t01 hz135))
  subst hz135
  (refine ep_el (by walk_at "MY_INH") (pt_ofT h1) ?_; generalize ep _ _ = x9; generalize x9.1 = a2, x9.2.1 = n2, x9.2.2.1 = t1, x9.2.2.2 = t2; clear x9; intro hz136)
  (first | (refine ep_el (by walk_at "MY_INH") (hz136) ?_; generalize ep _ _ = hz137; intro m2) | (refine and_el (hz136) ?_; intro hz137 m2))
  clear hz136
  subst hz137
  (refine ep_el (by walk_at "MY_INH") (pt_ofT h2) ?_; generalize ep _ _ = x9; generalize x9.1 = a3, x9.2.1 = n3, x9.2.2.1 = t3, x9.2.2.2 = t4; clear x9; intro hz138)
  (first | (refine ep_el (by walk_at "MY_INH") (hz138) ?_; generalize ep _ _ = hz139; intro m3) | (refine and_el (hz138) ?_; intro hz139 m3))
  clear hz138
  subst hz139
  (refine ep_el (by walk_at "MY_INH") (pt_ofT h3) ?_; generalize ep _ _ = x9; generalize x9.1 = a4, x9.2.1 = n4, x9.2.2.1 = t5, x9.2.2.2 = t6; clear x9; intro hz140)
  (first | (refine ep_el (by walk_at "MY_INH") (hz140) ?_; generalize ep _ _ = hz141; intro m4) | (refine and_el (hz140) ?_; intro hz141 m4))
  clear hz140
  subst hz141
  clear h1 h2 h3 h4 h5 hD
  have b2 := hH.tup m2
  have b3 := hH.tup m3
  have b4 := hH.tup m4
  k_dflt walk_at "MY_ENTER"
  k_steps
  all_goals ((try dsimp only); (try k_unfold); (try dsimp only); refine con_end hret (by assumption) (by assumption) ?_; show DatIn _ _ (.bool (isNear p b e most times)))
  · rw [near1 (by assumption)]; exact .bool _
  · rw [near2 (by assumption)]; exact .bool _
  · rw [near3 (by assumption) (by assumption) (by assumption)]; exact .bool _
  · rw [near4 (by assumption) (by assumption) (by assumption)]; exact .bool _

theorem off_near : True := by
  k_with "OFF:near" => skip
  trivial
end
section
-- EPS
local macro_rules | `(tactic| walk_at "call ref") => `(tactic| (walk_at "MY_P255"; intro x9; generalize x9.1 = h9, x9.2 = tk9; clear x9; intro F9 N9; (try dsimp only); walk_say "NEAR"))
theorem on_f8 : True := by
  w_top off
  k_with "MY:MY_EPS" => ((fail_if_success (k_extra "OFF:on")); skip)
  k_with "MY:eval ListComp" => ((fail_if_success (k_extra "OFF:on")); (k_here; (with_reducible show wpAny _ _ (eval (Expr.ListComp _ [⟨_, _, [_], _⟩] _ _) _) _ _ _); k_dflt (refine LCt.ListComp_T (F₀ := by k_asm) (by with_unfolding_all rfl) (by decide) (by rfl) (by decide) (by rfl) ?_)))
  k_with "MY:CompSrcT" => ((fail_if_success (k_extra "OFF:on")); (k_here; (refine stop_here ?_)))
  k_with "MY:CompEnd" => ((fail_if_success (k_extra "OFF:on")); (refine stop_here ?_))
  k_with "MY:MY_P255" => ((fail_if_success (k_extra "OFF:on")); (k_here; (with_reducible show wpAny _ _ (call (Value.ref 255) _) _ _ _); k_dflt (refine' con_use_boolG (near_con _ _ _ _ _ ?kzq1 ?kzq2 ?kzq3 ?kzq4 ?kzq5 ?kzq6 ?kzq7 ?kzq8 ?kzq9 ?kzq10) ?k1 ?k2 ?k3 ?k4 ?k5 ?kK ?kb ?kD ?kd ?ku ?_; walk_at "MY_USE"; (case kzq1 => assumption); (case kzq2 => assumption); (case kzq3 => assumption); (case kzq4 => assumption); (case kzq5 => assumption); (case kzq6 => assumption); (case kzq7 => assumption); (case kzq8 => assumption); (case kzq9 => assumption); (case kzq10 => assumption))))
  k_with "MY:subscriptTail" => ((fail_if_success (k_extra "OFF:on")); (k_here; (with_reducible show wpAny _ _ (subscriptTail _ _ (Value.ref _) (Value.int _ _)) _ _ _); k_dflt (refine' item_list ?kzl ?kza ?kzb ?kzc ?_ ?kzs ?kzg; (case kzl => walk_at "MY_LST"); (case kzc => assumption); (case kza => omega); (case kzb => omega); (case kzs => with_unfolding_all rfl); (case kzg => (intro _; with_unfolding_all rfl)); k_whole)))
  trivial
/-- the k-th stretch of a line of points is near -/
def nearAt (p : Pt) (es : List Pt) (most times : Int) (k : Nat) : Bool := isNear p (es.getD k (0, 0)) (es.getD (k + 1) (0, 0)) most times
def isOn (p : Pt) (es : List Pt) (most times : Int) : Bool := !decide ((((List.range (es.length - 1)).filter (nearAt p es most times)).map Int.ofNat) = [])
set_option maxRecDepth 100000 in
set_option maxHeartbeats 20000000 in
theorem on_con : ∀ (p : Pt) (es : List Pt) (most times : Int) (hp1 : Bd 21 p.1) (hp2 : Bd 21 p.2) (hes : ∀ e ∈ es, Bd 21 e.1 ∧ Bd 21 e.2 ∧ Bd 21 (times * e.1) ∧ Bd 21 (times * e.2)) (hm : Bd 15 most) (ht : Bd 10 times) (hl1 : 1 ≤ es.length) (hl2 : es.length ≤ 2000), Con 260 14 [ptD p, .list (es.map ptD), .int most, .int times] (New (.bool (isOn p es most times))) := by
  intro p es most times hp1 hp2 hes hm ht hl1 hl2
  walk_at "MY_CON"
  (refine ep_el (by walk_at "MY_INH") (all4T hD) ?_; generalize ep _ _ = x9; generalize x9.1 = vp, x9.2.1 = v2, x9.2.2.1 = v4, x9.2.2.2 = v5; clear x9; intro hz142)
  (first | (refine ep_el (by walk_at "MY_INH") (hz142) ?_; generalize ep _ _ = hz143; intro hz144) | (refine and_el (hz142) ?_; intro hz143 hz144))
  clear hz142
  subst hz143
  (first | (refine ep_el (by walk_at "MY_INH") (hz144) ?_; generalize ep _ _ = h1; intro hz145) | (refine and_el (hz144) ?_; intro h1 hz145))
  clear hz144
  (first | (refine ep_el (by walk_at "MY_INH") (hz145) ?_; generalize ep _ _ = h2; intro hz146) | (refine and_el (hz145) ?_; intro h2 hz146))
  clear hz145
  (first | (refine ep_el (by walk_at "MY_INH") (hz146) ?_; generalize ep _ _ = h4; intro h5) | (refine and_el (hz146) ?_; intro h4 h5))
  clear hz146
  (first | (refine ep_el (by walk_at "MY_INH") (int_of h4) ?_; generalize ep _ _ = t0; intro hz147) | (refine and_el (int_of h4) ?_; intro t0 hz147))
  subst hz147
  (first | (refine ep_el (by walk_at "MY_INH") (int_of h5) ?_; generalize ep _ _ = t01; intro hz148) | (refine and_el (int_of h5) ?_; intro t01 hz148))
  subst hz148
  (refine ep_el (by walk_at "MY_INH") (list_ofT h2) ?_; generalize ep _ _ = x9; generalize x9.1 = al, x9.2.1 = vs, x9.2.2 = nl; clear x9; intro hz149)
  (first | (refine ep_el (by walk_at "MY_INH") (hz149) ?_; generalize ep _ _ = hz150; intro hz151) | (refine and_el (hz149) ?_; intro hz150 hz151))
  clear hz149
  subst hz150
  (first | (refine ep_el (by walk_at "MY_INH") (hz151) ?_; generalize ep _ _ = ml; intro hd) | (refine and_el (hz151) ?_; intro ml hd))
  clear hz151
  clear h2 hD
  have b1 := hH.list ml
  have hlen := hd.length
  rw [List.length_map] at hlen
  k_dflt walk_at "MY_ENTERC"
  k_steps
  refine Stop.mk ?_
  have en : ((vs.length : Int) - 1) = ((es.length - 1 : Nat) : Int) := by omega
  refine LCt.CompSrcT.range (n := es.length - 1) (by rfl) (by k_asm) (by k_asm) (by assumption) (small_one (by decide) (by decide) (by omega) (by omega)) (by rw [en]; exact rangeSize_nat _) (by rw [sizeLine_eq]; omega) ?_
  intro g'
  refine compRestT_ind (fun i ys => IntsAre ys (((List.range i).filter (nearAt p es most times)).map Int.ofNat)) (es.length - 1) ?fin ?step (es.length - 1) 0 [] (by omega) .nil
  case fin =>
    intro ys hi
    k_steps
    refine con_end hret (by assumption) (by assumption) ?_
    exact DatIn.bool _
  case step =>
    intro i ys R hi hI hR v I oI C oC D m₂ hh tk E' hv hC hx FF NN off ne
    (first | (refine ep_el (by walk_at "MY_INH") (hv) ?_; generalize ep _ _ = t9; intro hz152) | (refine and_el (hv) ?_; intro t9 hz152))
    clear hv
    subst hz152
    have hq : ∃ q1 q2 : Pt, es[i]? = some q1 ∧ es[i + 1]? = some q2 := ⟨_, _, List.getElem?_eq_getElem (by omega), List.getElem?_eq_getElem (by omega)⟩
    (first | (refine ep_el (by walk_at "MY_INH") (hq) ?_; generalize ep _ _ = q1; intro hz153) | (refine and_el (hq) ?_; intro q1 hz153))
    clear hq
    (first | (refine ep_el (by walk_at "MY_INH") (hz153) ?_; generalize ep _ _ = q2; intro hz154) | (refine and_el (hz153) ?_; intro q2 hz154))
    clear hz153
    (first | (refine ep_el (by walk_at "MY_INH") (hz154) ?_; generalize ep _ _ = f1; intro f2) | (refine and_el (hz154) ?_; intro f1 f2))
    clear hz154
    (first | (refine ep_el (by walk_at "MY_INH") (DatAll.getS hd (k := i) (d := ptD q1) (by rw [List.getElem?_map, f1]; rfl)) ?_; generalize ep _ _ = x1; intro hz155) | (refine and_el (DatAll.getS hd (k := i) (d := ptD q1) (by rw [List.getElem?_map, f1]; rfl)) ?_; intro x1 hz155))
    (first | (refine ep_el (by walk_at "MY_INH") (hz155) ?_; generalize ep _ _ = hx1; intro hd1) | (refine and_el (hz155) ?_; intro hx1 hd1))
    clear hz155
    (first | (refine ep_el (by walk_at "MY_INH") (DatAll.getS hd (k := i + 1) (d := ptD q2) (by rw [List.getElem?_map, f2]; rfl)) ?_; generalize ep _ _ = x2; intro hz156) | (refine and_el (DatAll.getS hd (k := i + 1) (d := ptD q2) (by rw [List.getElem?_map, f2]; rfl)) ?_; intro x2 hz156))
    (first | (refine ep_el (by walk_at "MY_INH") (hz156) ?_; generalize ep _ _ = hx2; intro hd2) | (refine and_el (hz156) ?_; intro hx2 hd2))
    clear hz156
    (first | (refine ep_el (by walk_at "MY_INH") (hes _ (List.mem_of_getElem? f1)) ?_; generalize ep _ _ = z1; intro hz157) | (refine and_el (hes _ (List.mem_of_getElem? f1)) ?_; intro z1 hz157))
    (first | (refine ep_el (by walk_at "MY_INH") (hz157) ?_; generalize ep _ _ = z2; intro hz158) | (refine and_el (hz157) ?_; intro z2 hz158))
    clear hz157
    (first | (refine ep_el (by walk_at "MY_INH") (hz158) ?_; generalize ep _ _ = z3; intro z4) | (refine and_el (hz158) ?_; intro z3 z4))
    clear hz158
    (first | (refine ep_el (by walk_at "MY_INH") (hes _ (List.mem_of_getElem? f2)) ?_; generalize ep _ _ = z5; intro hz159) | (refine and_el (hes _ (List.mem_of_getElem? f2)) ?_; intro z5 hz159))
    (first | (refine ep_el (by walk_at "MY_INH") (hz159) ?_; generalize ep _ _ = z6; intro hz160) | (refine and_el (hz159) ?_; intro z6 hz160))
    clear hz159
    (first | (refine ep_el (by walk_at "MY_INH") (hz160) ?_; generalize ep _ _ = z7; intro z8) | (refine and_el (hz160) ?_; intro z7 z8))
    clear hz160
    have e1 : nearAt p es most times i = isNear p q1 q2 most times := by
      unfold nearAt
      rw [List.getD_eq_getElem?_getD, List.getD_eq_getElem?_getD, f1, f2]
      rfl
    have hy1 : vs.toArray[((0 : Int) + (i : Int)).toNat]? = some x1 := by
      rw [show ((0 : Int) + (i : Int)).toNat = i by omega, List.getElem?_toArray]; exact hx1
    have hy2 : vs.toArray[((0 : Int) + (i : Int) + 1).toNat]? = some x2 := by
      rw [show ((0 : Int) + (i : Int) + 1).toNat = i + 1 by omega, List.getElem?_toArray]; exact hx2
    k_steps
    · rename_i hb
      refine Stop.mk ?_
      refine LCg.CompEnd.intro (by with_reducible assumption) (by with_reducible assumption) _ (fun _ h => h) off trivial (hR _ ?_)
      rw [filter_range_succ, if_pos (e1.trans hb), Int.zero_add]
      exact intsAre_snoc hI _ _
    · rename_i hb
      refine Stop.mk ?_
      refine LCg.CompEnd.intro (by with_reducible assumption) (by with_reducible assumption) _ (fun _ h => h) off trivial (hR _ ?_)
      rw [filter_range_succ, if_neg (by rw [e1, hb]; exact Bool.false_ne_true)]
      exact hI

theorem off_on : True := by
  k_with "OFF:on" => skip
  trivial
end
section
theorem on_f9 : True := by
  w_top off
  trivial
theorem ints_list : ∀ {vs : List Value} {l : List Int}, vs.length = l.length → (∀ (j : Nat) v, vs[j]? = some v → ∃ t, v = Value.int (l.getD j 0) t) → IntsAre vs l
  | [], [], _, _ => .nil
  | v :: vs, a :: l, hl, h => by
    obtain ⟨t, rfl⟩ := h 0 v rfl
    exact .cons _ _ (ints_list (by simpa using hl) fun j u e => by simpa using h (j + 1) u e)
theorem cons_of {vs : List Value} {n : Nat} (h : vs.length = n + 1) : ∃ a r, vs = a :: r ∧ r.length = n := by
  cases vs with
  | nil => cases h
  | cons a r => exact ⟨a, r, rfl, Nat.succ.inj h⟩
section
variable {prog : Program} {w : World} {A : Around} {E : Value → Shared → Prop} {s : Shared}
theorem nextOf_tup_item {it t : Addr} {i : Nat} {items : Array Value} {x : Value} {Q : Value → Shared → Prop} (hit : IsTupIter s.heap it t i) (ht : IsTup s.heap t items) (hx : items[i]? = some x)
    (hQ : ∀ h', IsTupIter h' it t (i + 1) → Heap.SameBut it s.heap h' → Q x { s with heap := h' }) : wpAny (model prog w) A (Builtin.SmallTypes.nextOf (.ref it)) Q E s := by
  obtain ⟨o, ho, hc, hd⟩ := id hit
  obtain ⟨ol, hol, _, nl, hdl⟩ := ht
  unfold Builtin.SmallTypes.nextOf
  refine wpAny_bind (wpAny_callSpecial?_slot (name := Str.ofString "__next__") hit.typeIs slot_tupleiter_next
    (wpAny_call_entry slot_tupleiter_next hit.typeIs entry_tupleiter_next ?_ (args_tupleiter_next _)))
  show wpAny _ _ (field (.ref it) 0 >>= _) _ _ s
  refine wpAny_bind (wpAny_field ho hd (x := .ref t) rfl ?_)
  show wpAny _ _ (if (Value.ref t == Value.none) = true then _ else _) _ _ s
  rw [if_neg (show ¬ ((Value.ref t == Value.none) = true) from Bool.false_ne_true)]
  show wpAny _ _ (field (.ref it) 1 >>= _) _ _ s
  refine wpAny_bind (wpAny_field ho hd (x := .int i 0) rfl ?_)
  show wpAny _ _ (seqItems? (.ref t) >>= _) _ _ s
  refine wpAny_bind (wpAny_seqItems hol hdl ?_)
  simp only [Int.toNat_natCast, hx]
  refine wpAny_bind (wpAny_setField ho hd (by simp) (wpAny_pure ⟨x, rfl, wpAny_pure (hQ _ ?_ (Heap.SameBut.update ..))⟩))
  exact ⟨_, Heap.get?_update_self _ ho (Obj.isFreed_of_fields (Obj.data_mapFields hd _)), (Obj.cls_mapFields ..).trans hc, by
    rw [Obj.data_mapFields hd]; simp [rawInt]⟩
theorem nextOf_tup_end {it t : Addr} {i : Nat} {items : Array Value} {Q : Value → Shared → Prop} (hh : A.handled = none) (hit : IsTupIter s.heap it t i) (ht : IsTup s.heap t items) (hx : items[i]? = none)
    (hE : ∀ h' e, Heap.ExtBut it s.heap h' → (∃ o, h'.get? e = some o ∧ o.cls = .type "StopIteration") → E (.ref e) { s with heap := h' }) : wpAny (model prog w) A (Builtin.SmallTypes.nextOf (.ref it)) Q E s := by
  obtain ⟨o, ho, hc, hd⟩ := id hit
  obtain ⟨ol, hol, _, nl, hdl⟩ := ht
  unfold Builtin.SmallTypes.nextOf
  refine wpAny_bind (wpAny_callSpecial?_slot (name := Str.ofString "__next__") hit.typeIs slot_tupleiter_next
    (wpAny_call_entry slot_tupleiter_next hit.typeIs entry_tupleiter_next ?_ (args_tupleiter_next _)))
  show wpAny _ _ (field (.ref it) 0 >>= _) _ _ s
  refine wpAny_bind (wpAny_field ho hd (x := .ref t) rfl ?_)
  show wpAny _ _ (if (Value.ref t == Value.none) = true then _ else _) _ _ s
  rw [if_neg (show ¬ ((Value.ref t == Value.none) = true) from Bool.false_ne_true)]
  show wpAny _ _ (field (.ref it) 1 >>= _) _ _ s
  refine wpAny_bind (wpAny_field ho hd (x := .int i 0) rfl ?_)
  show wpAny _ _ (seqItems? (.ref t) >>= _) _ _ s
  refine wpAny_bind (wpAny_seqItems hol hdl ?_)
  simp only [Int.toNat_natCast, hx]
  refine wpAny_bind (wpAny_rule (wpAny_bind (wpAny_setField ho hd (by simp) ?_)))
  show wpAny _ _ (newExc (.type "StopIteration") [] >>= _) _ _ _
  refine wpAny_bind ?_
  simp only [newExc, newTuple]
  refine wpAny_bind (wpAny_newObj_type ?_ (by size_fits))
  refine wpAny_bind (m := firstArgMember _ _) (wpAny_of_eq (a := Value.none) (by first | rfl | (simp only [firstArgMember]; rfl)) ?_)
  refine wpAny_newObj_type ?_ (by size_fits)
  simp only [raiseNew]
  refine wpAny_bind (wpAny_handled ?_)
  first | rw [show A.in1.handled = none from hh] | rw [hh]
  refine wpAny_bind (wpAny_pure (wpAny_throw ?_))
  exact hE _ _ (((Heap.SameBut.update ..).extBut.push _).push _) ⟨_, Heap.get?_push_size _ rfl, rfl⟩

abbrev tzH1 (h : Heap) (t : Addr) : Heap := h.push { cls := .type "tuple_iterator", data := .fields #[.ref t, .int 0 0] }
abbrev tzH2 (h : Heap) (t l : Addr) : Heap := (tzH1 h t).push { cls := .type "list_iterator", data := .fields #[.ref l, .int 0 0] }
abbrev tzH3 (h : Heap) (t l : Addr) : Heap := (tzH2 h t l).push { cls := .type "tuple", data := .seq #[.ref h.objs.size, .ref (tzH1 h t).objs.size] }
abbrev tzH4 (h : Heap) (t l : Addr) : Heap := (tzH3 h t l).push { cls := .type "tuple", data := .seq #[.none, .none] }
abbrev tzH5 (h : Heap) (t l : Addr) : Heap := (tzH4 h t l).push { cls := .type "zip", data := .fields #[.none, .bool false, .bool false, .ref (tzH2 h t l).objs.size, .ref (tzH3 h t l).objs.size] }
theorem meets_tz (t l : Addr) (xs ys : Array Value) :
    Meets (Builtin.«zip.__new__» ⟨[.type "zip", .ref t, .ref l], []⟩) (fun _ R s => IsTup s.heap t xs ∧ s.heap.IsList l ys ∧
      R (.ok (.ret (.ref (tzH4 s.heap t l).objs.size))) { s with heap := tzH5 s.heap t l }) :=
  .of_wp fun prog w A R s h => by
    obtain ⟨hp, g, d, tk, os⟩ := s; obtain ⟨hl1, hl2, h⟩ := h
    have hsub := sub_zip
    have hL1 : IsTup (Shared.heap ⟨hp, g, d, tk, os⟩) t xs := hl1
    have hL2 : Heap.IsList (Shared.heap ⟨hp.push { cls := .type "tuple_iterator", data := .fields #[.ref t, .int 0 0] }, g, d, tk, os⟩) l ys := Heap.IsList.push hl2 _
    wp_walk using iter_tuple hL1, wpAny_pyIter_list hL2
    exact ⟨_, rfl, h⟩

/-- the state of a zip over a tuple t and a list l after i turns -/
structure ZSt (n : Nat) (t l : Nat) (xs ys : Array Value) (f0 : Value) (i : Nat) (h : Heap) : Prop where
  z : IsZip h (n + 4) (n + 2) (n + 3) f0
  ti : IsPair h (n + 2) (.ref n) (.ref (n + 1))
  to : ∃ a b, IsPair h (n + 3) a b
  i1 : IsTupIter h n t i
  i2 : h.IsListIter (n + 1) l i
  l1 : IsTup h t xs
  l2 : h.IsList l ys
  lt1 : t < n
  lt2 : l < n

theorem tz_new {t l : Nat} {xs ys : Array Value} {Q : Value → Shared → Prop} (ht : IsTup s.heap t xs) (hl : s.heap.IsList l ys)
    (h : ∀ h', ZSt s.heap.objs.size t l xs ys .none 0 h' → h'.objs.size = s.heap.objs.size + 5 → (∀ c o, s.heap.get? c = some o → h'.get? c = some o) → Q (.ref (s.heap.objs.size + 4)) { s with heap := h' }) :
    wpAny (model prog w) A (call (.type "zip") [.ref t, .ref l]) Q E s := by
  refine callType_new F.called_zip (by decide) (F.typeCall_zip_2 _ _) (F.newCall_zip_2 _ _) (fun obj => F.args_object_init_3 obj _ _) F.entry_zip_new
    (meets_tz t l xs ys) ⟨ht, hl, ?_⟩
  have z1 : (tzH1 s.heap t).objs.size = s.heap.objs.size + 1 := Heap.size_push ..
  have z2 : (tzH2 s.heap t l).objs.size = s.heap.objs.size + 2 := by rw [Heap.size_push, z1]
  have z3 : (tzH3 s.heap t l).objs.size = s.heap.objs.size + 3 := by rw [Heap.size_push, z2]
  have z4 : (tzH4 s.heap t l).objs.size = s.heap.objs.size + 4 := by rw [Heap.size_push, z3]
  have z5 : (tzH5 s.heap t l).objs.size = s.heap.objs.size + 5 := by rw [Heap.size_push, z4]
  have up : ∀ c o, s.heap.get? c = some o → (tzH5 s.heap t l).get? c = some o := fun c o x =>
    Heap.get?_push_of_some _ (Heap.get?_push_of_some _ (Heap.get?_push_of_some _ (Heap.get?_push_of_some _ (Heap.get?_push_of_some _ x))))
  have g5 : (tzH5 s.heap t l).get? (tzH4 s.heap t l).objs.size = some _ := Heap.get?_push_size _ rfl
  have g4 : (tzH5 s.heap t l).get? (tzH3 s.heap t l).objs.size = some _ := Heap.get?_push_of_some _ (Heap.get?_push_size _ rfl)
  have g3 : (tzH5 s.heap t l).get? (tzH2 s.heap t l).objs.size = some _ := Heap.get?_push_of_some _ (Heap.get?_push_of_some _ (Heap.get?_push_size _ rfl))
  have g2 : (tzH5 s.heap t l).get? (tzH1 s.heap t).objs.size = some _ := Heap.get?_push_of_some _ (Heap.get?_push_of_some _ (Heap.get?_push_of_some _ (Heap.get?_push_size _ rfl)))
  have g1 : (tzH5 s.heap t l).get? s.heap.objs.size = some _ := Heap.get?_push_of_some _ (Heap.get?_push_of_some _ (Heap.get?_push_of_some _ (Heap.get?_push_of_some _ (Heap.get?_push_size _ rfl))))
  show _ ∧ _
  rw [z2, z3, z4] at g5
  rw [z1, z2] at g3
  rw [z3] at g4
  rw [z1] at g2
  rw [z4]
  exact ⟨⟨_, g5, rfl⟩, h _ ⟨g5, g3, ⟨_, _, g4⟩, ⟨_, g1, rfl, rfl⟩, ⟨_, g2, rfl, rfl⟩, ht.keeps up, (let ⟨o, ho, r⟩ := hl; ⟨o, up _ _ ho, r⟩), ht.lt, (let ⟨_, ho, _⟩ := hl; Heap.lt_size ho)⟩ z5 up⟩

theorem tz_item {n : Nat} {t l : Nat} {xs ys : Array Value} {i : Nat} {x y : Value} {Q : Option Value → Shared → Prop} (Z : ZSt n t l xs ys .none i s.heap) (hx : xs[i]? = some x) (hy : ys[i]? = some y)
    (hQ : ∀ h' (T : Nat), ZSt n t l xs ys (rawInt T) (i + 1) h' → IsPair h' T x y → n + 4 < T → s.heap.get? T = none → (∀ c o, c ≠ n + 4 → c ≠ n + 3 → c ≠ n → c ≠ n + 1 → s.heap.get? c = some o → h'.get? c = some o) → Q (some (.ref T)) { s with heap := h' }) :
    wpAny (model prog w) A (pyNext (.ref (n + 4))) Q E s := by
  obtain ⟨hz, hTI, ⟨a, b, hTO⟩, h1, h2, hl1, hl2, lt1, lt2⟩ := Z
  have hT : s.TypeIs (.ref (n + 4)) "zip" := ⟨_, hz, rfl⟩
  have e0 : ∀ {a b : Nat}, a < b → (@Ne Nat a b) := fun h => Nat.ne_of_lt h
  have e1 : ∀ {a b : Nat}, b < a → (@Ne Nat a b) := fun h => Nat.ne_of_gt h
  unfold pyNext
  refine wpAny_bind (wpAny_attempt (wpAny_callSpecial?_slot (name := Str.ofString "__next__") hT F.slot_zip_next
    (wpAny_call_entry F.slot_zip_next hT F.entry_zip_next ?_ (F.args_zip_next_1 _))))
  show wpAny _ _ (field (.ref (n + 4)) 2 >>= _) _ _ _
  refine wpAny_bind (wpAny_field hz rfl (x := .bool false) rfl ?_)
  show wpAny _ _ (field (.ref (n + 4)) 3 >>= _) _ _ _
  refine wpAny_bind (wpAny_field hz rfl (x := .ref (n + 2)) rfl ?_)
  refine wpAny_bind (wpAny_seqItems hTI rfl ?_)
  show wpAny _ _ (Builtin.SmallTypes.ownedTupleIsFree (.ref (n + 4)) >>= _) _ _ _
  refine wpAny_bind ?_
  unfold Builtin.SmallTypes.ownedTupleIsFree
  refine wpAny_bind (wpAny_field hz rfl (x := .none) rfl (wpAny_pure ?_))
  simp only [if_true]
  refine wpAny_bind (wpAny_rule ?_)
  refine wpAny_bind (wpAny_field hz rfl (x := .ref (n + 3)) rfl ?_)
  refine wpAny_bind (wpAny_setField_rec hz (by simp) fun h₁ hz₁ hs₁ => ?_)
  replace hz₁ : IsZip h₁ (n + 4) (n + 2) (n + 3) .ellipsis := hz₁
  refine wpAny_bind ?_
  simp only [List.zipIdx_cons, List.zipIdx_nil, List.forIn_cons, List.forIn_nil]
  refine wpAny_bind (wpAny_bind (wpAny_onRaise ?_))
  show wpAny _ _ (Builtin.SmallTypes.nextOf (.ref n) >>= _) _ _ _
  refine wpAny_bind (nextOf_tup_item (h1.extBut hs₁.extBut (e0 (by omega))) (hl1.extBut hs₁.extBut (e0 (by omega))) hx fun h₂ h1₂ hs₂ => wpAny_pure ?_)
  have hTO₂ : IsPair h₂ (n + 3) a b := hs₂.extBut _ _ (e1 (by omega)) (hs₁.extBut _ _ (e0 (by omega)) hTO)
  refine wpAny_bind (wpAny_seqItems hTO₂ rfl ?_)
  refine wpAny_bind (wpAny_updateSeq_pair hTO₂ fun h₃ hTO₃ hs₃ => ?_)
  replace hTO₃ : IsPair h₃ (n + 3) x b := hTO₃
  refine wpAny_bind (wpAny_letGo (wpAny_pure ?_))
  refine wpAny_bind (wpAny_bind (wpAny_onRaise ?_))
  show wpAny _ _ (Builtin.SmallTypes.nextOf (.ref (n + 1)) >>= _) _ _ _
  refine wpAny_bind (wpAny_nextOf_list_item (((h2.extBut hs₁.extBut (e0 (by omega))).extBut hs₂.extBut (e1 (by omega))).extBut hs₃.extBut (e0 (by omega)))
    (((hl2.extBut hs₁.extBut (e0 (by omega))).extBut hs₂.extBut (e0 (by omega))).extBut hs₃.extBut (e0 (by omega))) hy fun h₄ h2₄ hs₄ => wpAny_pure ?_)
  have hTO₄ : IsPair h₄ (n + 3) x b := hs₄.extBut _ _ (e1 (by omega)) hTO₃
  refine wpAny_bind (wpAny_seqItems hTO₄ rfl ?_)
  refine wpAny_bind (wpAny_updateSeq_pair hTO₄ fun h₅ hTO₅ hs₅ => ?_)
  replace hTO₅ : IsPair h₅ (n + 3) x y := hTO₅
  refine wpAny_bind (wpAny_letGo (wpAny_pure (wpAny_pure ?_)))
  refine wpAny_bind (wpAny_seqItems hTO₅ rfl ?_)
  refine wpAny_bind (wpAny_newTuple ?_)
  have hsz : h₅.objs.size = s.heap.objs.size := by rw [hs₅.1, hs₄.1, hs₃.1, hs₂.1, hs₁.1]
  have hz₅ : IsZip h₅ (n + 4) (n + 2) (n + 3) .ellipsis := hs₅.extBut _ _ (e1 (by omega)) (hs₄.extBut _ _ (e1 (by omega)) (hs₃.extBut _ _ (e1 (by omega)) (hs₂.extBut _ _ (e1 (by omega)) hz₁)))
  have hk₅ : ∀ c o, c ≠ n + 4 → c ≠ n + 3 → c ≠ n → c ≠ n + 1 → s.heap.get? c = some o → h₅.get? c = some o := fun c o c1 c2 c3 c4 e =>
    hs₅.extBut _ _ c2 (hs₄.extBut _ _ c4 (hs₃.extBut _ _ c2 (hs₂.extBut _ _ c3 (hs₁.extBut _ _ c1 e))))
  have h1₅ : IsTupIter h₅ n t (i + 1) := ((h1₂.extBut hs₃.extBut (e0 (by omega))).extBut hs₄.extBut (e0 (by omega))).extBut hs₅.extBut (e0 (by omega))
  have h2₅ : h₅.IsListIter (n + 1) l (i + 1) := h2₄.extBut hs₅.extBut (e0 (by omega))
  have hzlt : n + 4 < h₅.objs.size := Heap.lt_size hz₅
  show wpAny _ _ (Builtin.SmallTypes.ownedTupleHandOut (.ref (n + 4)) (.ref h₅.objs.size) >>= _) _ _ _
  refine wpAny_bind ?_
  unfold Builtin.SmallTypes.ownedTupleHandOut
  have hz₆ : IsZip (h₅.push { cls := .type "tuple", data := .seq #[x, y] }) (n + 4) (n + 2) (n + 3) .ellipsis := Heap.get?_push_of_some _ hz₅
  refine wpAny_bind (wpAny_setField_rec hz₆ (by simp) fun h₇ hz₇ hs₇ => ?_)
  replace hz₇ : IsZip h₇ (n + 4) (n + 2) (n + 3) (rawInt h₅.objs.size) := hz₇
  refine wpAny_setField_rec hz₇ (by simp) fun h₈ hz₈ hs₈ => ?_
  replace hz₈ : IsZip h₈ (n + 4) (n + 2) (n + 3) (rawInt h₅.objs.size) := hz₈
  have up : ∀ c o, c ≠ n + 4 → h₅.get? c = some o → h₈.get? c = some o := fun c o c1 e => hs₈.extBut _ _ c1 (hs₇.extBut _ _ c1 (Heap.get?_push_of_some _ e))
  have hT₈ : IsPair h₈ h₅.objs.size x y := hs₈.extBut _ _ (Nat.ne_of_gt hzlt) (hs₇.extBut _ _ (Nat.ne_of_gt hzlt) (Heap.get?_push_size _ rfl))
  refine wpAny_pure ⟨_, rfl, wpAny_pure ?_⟩
  refine hQ h₈ h₅.objs.size ⟨hz₈, ?_, ⟨_, _, up _ _ (e0 (by omega)) hTO₅⟩, h1₅.extBut (fun c o c1 e => up c o c1 e) (e0 (by omega)), h2₅.extBut (b := n + 4) (fun c o c1 e => up c o c1 e) (e0 (by omega)), ?_, ?_, lt1, lt2⟩ hT₈ hzlt ?_ fun c o c1 c2 c3 c4 e => up c o c1 (hk₅ c o c1 c2 c3 c4 e)
  · exact up _ _ (e0 (by omega)) (hk₅ _ _ (e0 (by omega)) (e0 (by omega)) (e1 (by omega)) (e1 (by omega)) hTI)
  · obtain ⟨o, ho, r⟩ := hl1
    exact ⟨o, up _ _ (e0 (by omega)) (hk₅ _ _ (e0 (by omega)) (e0 (by omega)) (e0 (by omega)) (e0 (by omega)) ho), r⟩
  · obtain ⟨o, ho, r⟩ := hl2
    exact ⟨o, up _ _ (e0 (by omega)) (hk₅ _ _ (e0 (by omega)) (e0 (by omega)) (e0 (by omega)) (e0 (by omega)) ho), r⟩
  · rw [hsz]; exact Heap.get?_none_of_le (Nat.le_refl _)

theorem tz_end {n : Nat} {t l : Nat} {xs ys : Array Value} {i : Nat} {Q : Option Value → Shared → Prop} (hh : A.handled = none) (Z : ZSt n t l xs ys .none i s.heap) (hx : xs[i]? = none)
    (hQ : ∀ h', (∀ c o, c ≠ n + 4 → c ≠ n + 3 → c ≠ n → c ≠ n + 1 → s.heap.get? c = some o → h'.get? c = some o) → Q none { s with heap := h' }) :
    wpAny (model prog w) A (pyNext (.ref (n + 4))) Q E s := by
  obtain ⟨hz, hTI, ⟨a, b, hTO⟩, h1, h2, hl1, hl2, lt1, lt2⟩ := Z
  have hT : s.TypeIs (.ref (n + 4)) "zip" := ⟨_, hz, rfl⟩
  have e0 : ∀ {a b : Nat}, a < b → (@Ne Nat a b) := fun h => Nat.ne_of_lt h
  have e1 : ∀ {a b : Nat}, b < a → (@Ne Nat a b) := fun h => Nat.ne_of_gt h
  unfold pyNext
  refine wpAny_bind (wpAny_attempt (wpAny_callSpecial?_slot (name := Str.ofString "__next__") hT F.slot_zip_next
    (wpAny_call_entry F.slot_zip_next hT F.entry_zip_next ?_ (F.args_zip_next_1 _))))
  show wpAny _ _ (field (.ref (n + 4)) 2 >>= _) _ _ _
  refine wpAny_bind (wpAny_field hz rfl (x := .bool false) rfl ?_)
  show wpAny _ _ (field (.ref (n + 4)) 3 >>= _) _ _ _
  refine wpAny_bind (wpAny_field hz rfl (x := .ref (n + 2)) rfl ?_)
  refine wpAny_bind (wpAny_seqItems hTI rfl ?_)
  show wpAny _ _ (Builtin.SmallTypes.ownedTupleIsFree (.ref (n + 4)) >>= _) _ _ _
  refine wpAny_bind ?_
  unfold Builtin.SmallTypes.ownedTupleIsFree
  refine wpAny_bind (wpAny_field hz rfl (x := .none) rfl (wpAny_pure ?_))
  simp only [if_true]
  refine wpAny_bind (wpAny_rule ?_)
  refine wpAny_bind (wpAny_field hz rfl (x := .ref (n + 3)) rfl ?_)
  refine wpAny_bind (wpAny_setField_rec hz (by simp) fun h₁ hz₁ hs₁ => ?_)
  replace hz₁ : IsZip h₁ (n + 4) (n + 2) (n + 3) .ellipsis := hz₁
  refine wpAny_bind ?_
  simp only [List.zipIdx_cons, List.zipIdx_nil, List.forIn_cons, List.forIn_nil]
  refine wpAny_bind (wpAny_bind (wpAny_onRaise ?_))
  show wpAny _ _ (Builtin.SmallTypes.nextOf (.ref n) >>= _) _ _ _
  refine wpAny_bind (nextOf_tup_end hh (h1.extBut hs₁.extBut (e0 (by omega))) (hl1.extBut hs₁.extBut (e0 (by omega))) hx fun h₂ e hs₂ he => ?_)
  obtain ⟨oe, hoe, hce⟩ := he
  have hz₂ : IsZip h₂ (n + 4) (n + 2) (n + 3) .ellipsis := hs₂ _ _ (e1 (by omega)) hz₁
  have hez : e ≠ n + 4 := fun x => by subst x; rw [hz₂] at hoe; cases hoe; simp at hce
  refine wpAny_setField_rec hz₂ (by simp) fun h₃ _ hs₃ => ?_
  refine wpAny_bind (wpAny_isInstance (T := "StopIteration") (b := true) ⟨oe, hs₃.extBut _ _ hez hoe, hce⟩ isSubtype_stop ?_)
  exact wpAny_pure (hQ _ fun c o c1 _ c3 _ x => hs₃.extBut _ _ c1 (hs₂ _ _ c3 (hs₁.extBut _ _ c1 x)))
end
theorem ZSt.keep {n : Nat} {t l : Nat} {xs ys : Array Value} {f0 : Value} {i : Nat} {h h' : Heap} (Z : ZSt n t l xs ys f0 i h) (hk : ∀ (c : Nat) o, c < n + 5 → h.get? c = some o → h'.get? c = some o) : ZSt n t l xs ys f0 i h' := by
  obtain ⟨hz, hTI, ⟨a, b, hTO⟩, ⟨o1, g1, r1⟩, ⟨o2, g2, r2⟩, ⟨o3, g3, r3⟩, ⟨o4, g4, r4⟩, lt1, lt2⟩ := Z
  exact ⟨hk _ _ (by omega) hz, hk _ _ (by omega) hTI, ⟨a, b, hk _ _ (by omega) hTO⟩, ⟨o1, hk _ _ (by omega) g1, r1⟩, ⟨o2, hk _ _ (by omega) g2, r2⟩, ⟨o3, hk _ _ (by omega) g3, r3⟩, ⟨o4, hk _ _ (by omega) g4, r4⟩, lt1, lt2⟩
section
variable {prog : Program} {w : World} {A : Around} {E : Value → Shared → Prop} {s : Shared}
theorem zip_comp {t l : Nat} {xs ys : Array Value} {k : Nat} {env : Env} {elt iter : Expr} {a b : Str} {pa pb tp : Pos} {kk : Nat} {scope : Scope} {cl : List (Str × Addr)} {pos : Pos} {Q : Value → Shared → Prop} (F : Nat → Value → Prop)
    (hh : A.handled = none) (hxs : xs.size = k) (hys : ys.size = k) (hsz : k ≤ sizeLine)
    (hclos : closureFor scope env = pure cl) (hcell : ∀ y ∈ scope.names, y.2 ≠ .cell) (hkind : scope.kind = .function)
    (hnames : ∀ y ∈ scope.names, y.2 = .local → scope.names.lookup y.1 = some .local) (hxa : scope.names.lookup a = some .local) (hxb : scope.names.lookup b = some .local) (hab : ¬ a = b)
    (ht : IsTup s.heap t xs) (hl : s.heap.IsList l ys)
    (hiter : ∀ R, wpAny (model prog w) A (call (.type "zip") [.ref t, .ref l]) R E s → wpAny (model prog w) A (eval iter env) R E s)
    (helt : ∀ i x y C m h tk E', xs[i]? = some x → ys[i]? = some y → h.Ns C m → m a = some x → m b = some y → (∀ c o, s.heap.get? c = some o → h.get? c = some o) →
      wpAny (model prog w) A (eval elt (compEnvC scope cl C env)) (fun v s' => Stop (F i v ∧ Keeps { s with heap := h, toks := tk } s')) E' { s with heap := h, toks := tk })
    (hQ : ∀ D h tk vs, (∀ c o, s.heap.get? c = some o → h.get? c = some o) → s.heap.get? D = none → h.get? D = some (LCg.lst vs) → vs.length = k → (∀ i v, vs[i]? = some v → F i v) → Q (.ref D) { s with heap := h, toks := tk })
    (hs : ∀ x, foldedSetIterable iter env x = pure x := by intro _; rfl) :
    wpAny (model prog w) A (eval (.ListComp elt [⟨.Tuple [.Name a pa, .Name b pb] kk tp, iter, [], 0⟩] scope pos) env) Q E s := by
  rw [eval_ListComp]
  refine wpAny_comprehension_free (use := none) rfl hs hclos hkind hnames (hiter _ (tz_new ht hl fun h0 Z hz0 hk0 => wpAny_pyIter_zip Z.z ?_))
  refine wpAny_newObj_type (wpAny_newFunctionEnv hcell (by intro y hy; simp at hy) (fun h₁ hns₁ hsb₁ => ?_) hkind)
  dsimp only at hns₁ hsb₁ ⊢
  generalize hn : s.heap.objs.size = n at *
  have hD : h0.objs.size = n + 5 := hz0
  generalize hH2 : h0.push { cls := .type "list", dict := none, data := .seq ([] : List Value).toArray } = H2 at hns₁ hsb₁ ⊢
  have hC : H2.objs.size = n + 6 := by rw [← hH2, Heap.size_push, hD]
  rw [hC] at hns₁ hsb₁ ⊢
  rw [hD]
  have old0 : ∀ (b : Nat) o, h0.get? b = some o → h₁.get? b = some o := fun b o e => by
    have hlt : b < h0.objs.size := Heap.lt_size e
    exact hsb₁.extBut b o (show (@Ne Nat b (n + 6)) by omega) (Heap.get?_push_of_some _ (hH2 ▸ Heap.get?_push_of_some _ e))
  have hacc : h₁.get? (n + 5) = some (LCg.lst []) := hsb₁.extBut _ _ (show (@Ne Nat (n + 5) (n + 6)) by omega) (Heap.get?_push_of_some _ (hH2 ▸ (hD ▸ Heap.get?_push_size _ rfl)))
  have Z1 : ZSt n t l xs ys .none 0 h₁ := Z.keep fun c o _ e => old0 c o e
  have loop : ∀ s₃ : Shared, s₃ = { s with heap := h₁, toks := s.toks + ([] : List (Str × Value)).length } →
      codeAny (model prog w) A (.compLoop (.ListComp elt [⟨.Tuple [.Name a pa, .Name b pb] kk tp, iter, [], 0⟩] scope pos) 0 (.ref (n + 4)) (.ref (n + 5)) (compEnvC scope cl (n + 6) env))
        (compPost (model prog w) A E none Q (.ref (n + 5)) (n + 6)) s₃ := by
    rintro s₃ rfl
    refine kcp_loop (fun m s' => ∃ h tk i vs mm, s' = { s with heap := h, toks := tk } ∧ i ≤ k ∧ m = k + 1 - i ∧ vs.length = i ∧ ZSt n t l xs ys .none i h ∧ (∀ (c : Nat) o, s.heap.get? c = some o → h.get? c = some o) ∧ h.Ns (n + 6) mm ∧
      h.get? (n + 5) = some (LCg.lst vs) ∧ ∀ j v, vs[j]? = some v → F j v) ?_ (k + 1) ⟨h₁, _, 0, [], _, rfl, Nat.zero_le _, rfl, rfl, Z1, fun c o e => old0 c o (hk0 c o e), hns₁, hacc, fun j v e => by simp at e⟩
    rintro m s' ⟨h, tk, i, vs, mm, rfl, hi, rfl, hlen, Zi, hks, hns, hD, hF⟩
    have slt : ∀ (c : Nat) o, s.heap.get? c = some o → c < n := fun c o e => hn ▸ Heap.lt_size e
    by_cases hlt : i < k
    · have hxi : xs[i]? = some xs[i] := Array.getElem?_eq_getElem (by omega)
      have hyi : ys[i]? = some ys[i] := Array.getElem?_eq_getElem (by omega)
      refine tz_item Zi hxi hyi fun h2 T Z2 hT hTlt hTn hk2 => ?_
      refine wpAny_letOwnedTupleGo_zip Z2.z fun h3 hz3 hs3 => ?_
      have hT3 : h3.IsTuple T #[xs[i], ys[i]] := ⟨_, hs3.extBut _ _ (show (@Ne Nat T (n + 4)) by omega) hT, rfl, _, rfl⟩
      have up3 : ∀ (c : Nat) o, c ≠ n + 4 → c ≠ n + 3 → c ≠ n → c ≠ n + 1 → h.get? c = some o → h3.get? c = some o := fun c o c1 c2 c3 c4 e => hs3.extBut c o c1 (hk2 c o c1 c2 c3 c4 e)
      have Z3 : ZSt n t l xs ys .none (i + 1) h3 := by
        obtain ⟨_, hTI, ⟨a, b, hTO⟩, ⟨o1, g1, r1⟩, ⟨o2, g2, r2⟩, ⟨o3, g3, r3⟩, ⟨o4, g4, r4⟩, lt1, lt2⟩ := Z2
        exact ⟨hz3, hs3.extBut _ _ (show (@Ne Nat (n + 2) (n + 4)) by omega) hTI, ⟨a, b, hs3.extBut _ _ (show (@Ne Nat (n + 3) (n + 4)) by omega) hTO⟩, ⟨o1, hs3.extBut _ _ (show (@Ne Nat n (n + 4)) by omega) g1, r1⟩, ⟨o2, hs3.extBut _ _ (show (@Ne Nat (n + 1) (n + 4)) by omega) g2, r2⟩, ⟨o3, hs3.extBut _ _ (show (@Ne Nat t (n + 4)) by omega) g3, r3⟩, ⟨o4, hs3.extBut _ _ (show (@Ne Nat l (n + 4)) by omega) g4, r4⟩, lt1, lt2⟩
      refine kcp_assign (env := compEnvC scope cl (n + 6) env) hh hT3 (lookup_relabel_local hxa) (lookup_relabel_local hxb) (by simp [compEnvC, relabel, hkind]) (hns.at' fun o e => up3 _ o (show (@Ne Nat (n + 6) (n + 4)) by omega) (show (@Ne Nat (n + 6) (n + 3)) by omega) (show (@Ne Nat (n + 6) n) by omega) (show (@Ne Nat (n + 6) (n + 1)) by omega) e) fun h4 tk4 hns4 hk4 => ?_
      have up4 : ∀ (c : Nat) o, c ≠ n + 6 → c ≠ n + 4 → c ≠ n + 3 → c ≠ n → c ≠ n + 1 → h.get? c = some o → h4.get? c = some o := fun c o c0 c1 c2 c3 c4 e => hk4 c o c0 (up3 c o c1 c2 c3 c4 e)
      have ks4 : ∀ (c : Nat) o, s.heap.get? c = some o → h4.get? c = some o := fun c o e => by
        have := slt c o e
        exact up4 c o (by omega) (by omega) (by omega) (by omega) (by omega) (hks c o e)
      refine wpAny_mono (helt i _ _ _ _ h4 _ _ hxi hyi hns4 (by simp [hab]) (by simp) ks4) (fun v s5 h5 => ?_) fun _ _ e => e
      replace h5 := h5.run
      obtain ⟨hFv, h5, tk5, rfl, hk5⟩ := h5
      have hD5 : h5.get? (n + 5) = some (LCg.lst vs) := hk5 _ _ (up4 (n + 5) _ (by omega) (by omega) (by omega) (by omega) (by omega) hD)
      refine append_at (hsz := by show vs.toArray.size ≤ sizeLine; rw [List.size_toArray, hlen]; omega) hD5 fun h6 hs6 hD6 => ?_
      refine ⟨k + 1 - (i + 1), by omega, h6, tk5, i + 1, vs ++ [v], _, rfl, hlt, rfl, by simp [hlen], (Z3.keep (h' := h6) fun c o hc e => hs6.extBut c o (show (@Ne Nat c (n + 5)) by omega) (hk5 c o (hk4 c o (show (@Ne Nat c (n + 6)) by omega) e))), fun c o e => ?_, (hns4.keeps hk5).sameBut hs6 (show (@Ne Nat (n + 6) (n + 5)) by omega), hD6.trans (congrArg some (LCg.lst_snoc vs v)), fun j u e => ?_⟩
      · have := slt c o e
        exact hs6.extBut c o (show (@Ne Nat c (n + 5)) by omega) (hk5 c o (ks4 c o e))
      · rw [List.getElem?_append] at e
        split at e
        · exact hF j u e
        · rename_i hj
          have hj0 : j - vs.length = 0 := by
            cases hq : j - vs.length with
            | zero => rfl
            | succ q => rw [hq] at e; simp at e
          rw [hj0] at e
          simp at e
          subst e
          have : j = i := by omega
          rw [this]; exact hFv
    · have hik : i = k := by omega
      subst hik
      refine tz_end hh Zi (Array.getElem?_eq_none (by omega)) fun h2 hk2 => ?_
      refine ⟨mm, hns.at' fun o e => hk2 _ o (show (@Ne Nat (n + 6) (n + 4)) by omega) (show (@Ne Nat (n + 6) (n + 3)) by omega) (show (@Ne Nat (n + 6) n) by omega) (show (@Ne Nat (n + 6) (n + 1)) by omega) e, fun h' hs' => hQ (n + 5) h' tk vs (fun c o e => ?_) (Heap.get?_none_of_le (by omega)) ?_ hlen hF⟩
      · have hc : @LT.lt Nat _ c n := slt c o e
        exact hs'.extBut c o (show (@Ne Nat c (n + 6)) by omega) (hk2 c o (show (@Ne Nat c (n + 4)) by omega) (show (@Ne Nat c (n + 3)) by omega) (show (@Ne Nat c n) by omega) (show (@Ne Nat c (n + 1)) by omega) (hks c o e))
      · exact hs'.extBut _ _ (show (@Ne Nat (n + 5) (n + 6)) by omega) (hk2 _ _ (show (@Ne Nat (n + 5) (n + 4)) by omega) (show (@Ne Nat (n + 5) (n + 3)) by omega) (show (@Ne Nat (n + 5) n) by omega) (show (@Ne Nat (n + 5) (n + 1)) by omega) hD)
  exact codeAny_compStart_list (loop _ rfl) (wpAny_pyIter_zip Z1.z (loop _ rfl))
end
section
variable {prog : Program} {w : World} {A : Around} {E : Value → Shared → Prop} {s : Shared}
/-- a block over a tuple whose own name is a cell -/
theorem cell_comp {k : Nat} {env : Env} {elt iter : Expr} {x : Str} {px : Pos} {scope : Scope} {cl : List (Str × Addr)} {pos : Pos} {Q : Value → Shared → Prop} (F : Nat → Value → Prop)
    (hh : A.handled = none) (hsz : k ≤ sizeLine)
    (hclos : closureFor scope env = pure cl) (hkind : scope.kind = .function)
    (hnames : ∀ y ∈ scope.names, y.2 = .local → scope.names.lookup y.1 = some .local)
    (hpush : ∀ h : Heap, pushCells h scope.names = h.push { cls := .type "cell", data := .cell none }) (hcf : ∀ n : Nat, cellsFrom n scope.names cl = (x, n) :: cl)
    (hx : ∀ C cl, (compEnvC scope cl C env).kindOf x = some .cell)
    (hiter : wpAny (model prog w) A (eval iter env) (fun xv s₁ => Stop (∃ (t : Nat) (its : Array Value), xv = .ref t ∧ IsTup s₁.heap t its ∧ its.size = k ∧
      (∀ i v (C X : Addr) h tk E', its[i]? = some v → h.IsCell X (some v) → (∀ c o, s₁.heap.get? c = some o → h.get? c = some o) →
        wpAny (model prog w) A (eval elt (compEnvC scope ((x, X) :: cl) C env)) (fun v s' => Stop (F i v ∧ Keeps { s₁ with heap := h, toks := tk } s')) E' { s₁ with heap := h, toks := tk }) ∧
      (∀ D h tk vs, (∀ c o, s₁.heap.get? c = some o → h.get? c = some o) → s₁.heap.get? D = none → h.get? D = some (LCg.lst vs) → vs.length = k → (∀ i v, vs[i]? = some v → F i v) → Q (.ref D) { s₁ with heap := h, toks := tk }))) E s)
    (hs : ∀ x, foldedSetIterable iter env x = pure x := by intro _; rfl) :
    wpAny (model prog w) A (eval (.ListComp elt [⟨.Name x px, iter, [], 0⟩] scope pos) env) Q E s := by
  rw [eval_ListComp]
  refine wpAny_comprehension_free (use := none) rfl hs hclos hkind hnames (wpAny_mono hiter (fun xv s₁ h₁ => ?_) fun _ _ e => e)
  obtain ⟨t, its, rfl, ht, hk, helt, hQ⟩ := h₁.run
  clear hiter
  obtain ⟨h0, gg, dd, tk0, os0⟩ := s₁
  dsimp only at ht helt hQ
  refine iter_tuple ht ?_
  have htl : t < h0.objs.size := ht.lt
  refine wpAny_newObj_type ?_
  dsimp only
  generalize hn : h0.objs.size = n at *
  simp only [newFunctionEnv, Option.isSome_some, if_true]
  refine wpAny_bind (wpAny_alloc ?_)
  refine wpAny_bind (wpAny_layCells _ (fun name kind cells => by cases hkc : kind == NameKind.cell <;> simp [hkc]) _ _ _ _ ?_)
  rw [hcf, hpush, List.forIn_nil]
  refine wpAny_bind (wpAny_pure (wpAny_pure ?_))
  dsimp only
  generalize hH1 : h0.push { cls := .type "tuple_iterator", data := .fields #[.ref t, .int 0 0] } = H1
  generalize hH2 : H1.push { cls := .type "list", data := .seq ([] : List Value).toArray } = H2
  generalize hH3 : H2.push { cls := .type "dict", data := .dict #[] } = H3
  generalize hH4 : H3.push { cls := .type "cell", data := .cell none } = H4
  have z1 : H1.objs.size = n + 1 := by rw [← hH1, Heap.size_push, hn]
  have z2 : H2.objs.size = n + 2 := by rw [← hH2, Heap.size_push, z1]
  have z3 : H3.objs.size = n + 3 := by rw [← hH3, Heap.size_push, z2]
  have z4 : H4.objs.size = n + 4 := by rw [← hH4, Heap.size_push, z3]
  rw [z1, z2, z3]
  have up : ∀ (c : Nat) o, h0.get? c = some o → H4.get? c = some o := fun c o e => by
    rw [← hH4, ← hH3, ← hH2, ← hH1]
    exact Heap.get?_push_of_some _ (Heap.get?_push_of_some _ (Heap.get?_push_of_some _ (Heap.get?_push_of_some _ e)))
  have gI : IsTupIter H4 n t 0 := ⟨{ cls := .type "tuple_iterator", data := .fields #[.ref t, .int 0 0] }, by
    rw [← hH4, ← hH3, ← hH2, ← hH1, ← hn]
    exact Heap.get?_push_of_some _ (Heap.get?_push_of_some _ (Heap.get?_push_of_some _ (Heap.get?_push_size _ rfl))), rfl, rfl⟩
  have gD : H4.get? (n + 1) = some (LCg.lst []) := by
    rw [← hH4, ← hH3, ← hH2, ← z1]
    exact Heap.get?_push_of_some _ (Heap.get?_push_of_some _ (Heap.get?_push_size _ rfl))
  have gC : H4.Ns (n + 2) (fun _ => none) := by
    rw [← hH4, ← hH3, ← z2]
    exact (Heap.Ns.new H2 (.type "dict")).keeps fun _ _ e => Heap.get?_push_of_some _ e
  have gX : H4.IsCell (n + 3) none := ⟨{ cls := .type "cell", data := .cell none }, by rw [← hH4, ← z3]; exact Heap.get?_push_size _ rfl, rfl⟩
  have hk4 : ∀ (c : Nat) o, h0.get? c = some o → H4.get? c = some o := up
  have slt : ∀ (c : Nat) o, h0.get? c = some o → c < n := fun c o e => hn ▸ Heap.lt_size e
  have loop : ∀ s₃ : Shared, s₃ = (⟨H4, gg, dd, tk0, os0⟩ : Shared) →
      codeAny (model prog w) A (.compLoop (.ListComp elt [⟨.Name x px, iter, [], 0⟩] scope pos) 0 (.ref n) (.ref (n + 1)) (compEnvC scope ((x, n + 3) :: cl) (n + 2) env))
        (compPost (model prog w) A E none Q (.ref (n + 1)) (n + 2)) s₃ := by
    rintro s₃ rfl
    refine kcp_loop (fun m s' => ∃ h tk i vs u, s' = ⟨h, gg, dd, tk, os0⟩ ∧ i ≤ k ∧ m = k + 1 - i ∧ vs.length = i ∧ IsTupIter h n t i ∧ IsTup h t its ∧ (∀ (c : Nat) o, h0.get? c = some o → h.get? c = some o) ∧ h.Ns (n + 2) (fun _ => none) ∧
      h.get? (n + 1) = some (LCg.lst vs) ∧ h.IsCell (n + 3) u ∧ ∀ j v, vs[j]? = some v → F j v) ?_ (k + 1) ⟨H4, _, 0, [], none, rfl, Nat.zero_le _, rfl, rfl, gI, ht.keeps up, hk4, gC, gD, gX, fun j v e => by simp at e⟩
    rintro m s' ⟨h, tk, i, vs, u, rfl, hi, rfl, hlen, It, Tt, hks, hns, hD, hX, hF⟩
    by_cases hlt : i < k
    · have hxi : its[i]? = some its[i] := Array.getElem?_eq_getElem (by omega)
      refine next_tuple_item It Tt hxi fun h2 It2 hs2 => ?_
      refine letGo_tupleiter It2 ?_
      obtain ⟨oX, gX, rX⟩ := hX
      refine wpAny_assign_Name (wpAny_storeName_cell (c := n + 3) (v₀ := u) hkind (hx _ _) (by simp [compEnvC]) ⟨oX, hs2.extBut _ _ (show (@Ne Nat (n + 3) n) by omega) gX, rX⟩ fun h3 hX3 hs3 => ?_)
      have up3 : ∀ (c : Nat) o, c ≠ n → c ≠ n + 3 → h.get? c = some o → h3.get? c = some o := fun c o c1 c2 e => hs3.extBut c o c2 (hs2.extBut c o c1 e)
      have ks3 : ∀ (c : Nat) o, h0.get? c = some o → h3.get? c = some o := fun c o e => by
        have := slt c o e
        exact up3 c o (by omega) (by omega) (hks c o e)
      refine wpAny_mono (helt i _ (n + 2) (n + 3) h3 _ _ hxi hX3 ks3) (fun v s5 h5 => ?_) fun _ _ e => e
      replace h5 := h5.run
      obtain ⟨hFv, h5, tk5, rfl, hk5⟩ := h5
      have hD5 : h5.get? (n + 1) = some (LCg.lst vs) := hk5 _ _ (up3 (n + 1) _ (by omega) (by omega) hD)
      refine append_at (hsz := by show vs.toArray.size ≤ sizeLine; rw [List.size_toArray, hlen]; omega) hD5 fun h6 hs6 hD6 => ?_
      have up6 : ∀ (c : Nat) o, c ≠ n + 1 → h3.get? c = some o → h6.get? c = some o := fun c o c1 e => hs6.extBut c o c1 (hk5 c o e)
      refine ⟨k + 1 - (i + 1), by omega, h6, tk5, i + 1, vs ++ [v], some its[i], rfl, hlt, rfl, by simp [hlen], ?_, ?_, fun c o e => ?_, ?_, hD6.trans (congrArg some (LCg.lst_snoc vs v)), ?_, fun j u e => ?_⟩
      · obtain ⟨o, ho, r⟩ := It2
        exact ⟨o, up6 _ _ (by omega) (hs3.extBut _ _ (show (@Ne Nat n (n + 3)) by omega) ho), r⟩
      · obtain ⟨o, ho, r⟩ := Tt
        exact ⟨o, up6 _ _ (by omega) (up3 _ _ (by omega) (by omega) ho), r⟩
      · have := slt c o e
        exact up6 c o (by omega) (ks3 c o e)
      · exact hns.at' fun o e => up6 _ o (show (@Ne Nat (n + 2) (n + 1)) by omega) (up3 _ o (show (@Ne Nat (n + 2) n) by omega) (show (@Ne Nat (n + 2) (n + 3)) by omega) e)
      · obtain ⟨o, ho, r⟩ := hX3
        exact ⟨o, up6 _ _ (by omega) ho, r⟩
      · rw [List.getElem?_append] at e
        split at e
        · exact hF j u e
        · rename_i hj
          have hj0 : j - vs.length = 0 := by
            cases hq : j - vs.length with
            | zero => rfl
            | succ q => rw [hq] at e; simp at e
          rw [hj0] at e
          simp at e
          subst e
          have : j = i := by omega
          rw [this]; exact hFv
    · have hik : i = k := by omega
      subst hik
      refine next_tuple_end hh It Tt (Array.getElem?_eq_none (by omega)) fun h2 hk2 => ?_
      refine ⟨_, hns.at' fun o e => hk2 _ o (show (@Ne Nat (n + 2) n) by omega) e, fun h' hs' => hQ (n + 1) h' tk vs (fun c o e => ?_) ?_ ?_ hlen hF⟩
      · have hc : @LT.lt Nat _ c n := slt c o e
        exact hs'.extBut c o (show (@Ne Nat c (n + 2)) by omega) (hk2 c o (show (@Ne Nat c n) by omega) (hks c o e))
      · cases q : h0.get? (n + 1) with
        | none => rfl
        | some o => have := slt _ _ q; omega
      · exact hs'.extBut _ _ (show (@Ne Nat (n + 1) (n + 2)) by omega) (hk2 _ _ (show (@Ne Nat (n + 1) n) by omega) hD)
  refine codeAny_compStart_list (loop _ rfl) ?_
  exact (Walks.tuple (prog := prog) (w := w) hh n t (Nat.ne_of_lt htl) its).self 0 (⟨H4, gg, dd, tk0, os0⟩ : Shared) _ _ ⟨gI, ht.keeps up⟩ (loop _ rfl)
end
section
variable {prog : Program} {w : World} {A : Around} {E : Value → Shared → Prop} {s : Shared}
theorem name_own {M : Model} {scope : Scope} {cl : List (Str × Addr)} {C : Addr} {env : Env} {x : Str} {pos : Pos} {m : Str → Option Value} {v : Value} {Q : Value → Shared → Prop} (hns : s.heap.Ns C m) (hx : m x = some v) (h : Q v s)
    (hk : (compEnvC scope cl C env).scope.kind = .function := by rfl) (hl : (compEnvC scope cl C env).kindOf x = some .local := by rfl) (hd : (x == ("__debug__" : Str)) = false := by decide) :
    wpAny M A (eval (.Name x pos) (compEnvC scope cl C env)) Q E s := ldVarK hns hx h hk hl hd
theorem name_free {M : Model} {scope : Scope} {cl : List (Str × Addr)} {C X : Addr} {env : Env} {x : Str} {pos : Pos} {v : Value} {Q : Value → Shared → Prop} (hX : s.heap.IsCell X (some v)) (hc : (compEnvC scope cl C env).cells.lookup x = some X) (h : Q v s)
    (hk : (compEnvC scope cl C env).scope.kind = .function := by rfl) (hl : (compEnvC scope cl C env).kindOf x = some .free := by rfl) (hb : (x == ("__debug__" : Str)) = false := by decide) (hn : (x == ("__classdict__" : Str)) = false := by decide) :
    wpAny M A (eval (.Name x pos) (compEnvC scope cl C env)) Q E s := wpAny_Name (wpAny_loadName_free hk hl hc hX h hn) hb
theorem name_cell {M : Model} {scope : Scope} {cl : List (Str × Addr)} {C X : Addr} {env : Env} {x : Str} {pos : Pos} {v : Value} {Q : Value → Shared → Prop} (hX : s.heap.IsCell X (some v)) (hc : (compEnvC scope cl C env).cells.lookup x = some X) (h : Q v s)
    (hk : (compEnvC scope cl C env).scope.kind = .function := by rfl) (hl : (compEnvC scope cl C env).kindOf x = some .cell := by rfl) (hb : (x == ("__debug__" : Str)) = false := by decide) :
    wpAny M A (eval (.Name x pos) (compEnvC scope cl C env)) Q E s := wpAny_Name (wpAny_loadName_cell hk hl hc hX h) hb
theorem sum_keep {l : Addr} {vs : List Value} {ns : List Int} {Q : Value → Shared → Prop} (hh : A.handled = none) (hl : s.heap.IsList l vs.toArray) (hi : IntsAre vs ns)
    (h : ∀ h' tk t', (∀ b o, s.heap.get? b = some o → h'.get? b = some o) → Q (.int ns.sum t') { s with heap := h', toks := tk }) : wpAny (model prog w) A (call (.builtin "sum") [.ref l]) Q E s := by
  obtain ⟨xs, hx⟩ := hi.allInts.items
  have hl' : s.heap.IsList l (intItems xs) := hx ▸ hl
  refine sum_intListG hh hl' fun h' tk t' hk => ?_
  have e1 : ns = xs.toList.map (·.1) := by
    rw [← nums_intItems, ← hx]
    exact (show numsOf vs.toArray.toList = ns from hi.numsOf).symm
  have e2 : preSum (numAt xs) xs.size = ns.sum := by
    rw [preSum_eq, List.take_of_length_le (by simp), e1]
  rw [e2]
  exact h h' tk t' hk
theorem ints4 {vs : List Value} {f : Nat → Int} (hl : vs.length = 4) (h : ∀ (i : Nat) (v : Value), vs[i]? = some v → ∃ t, v = Value.int (f i) t) : IntsAre vs [f 0, f 1, f 2, f 3] := by
  refine ints_list hl fun j v e => ?_
  have hj := (List.getElem?_eq_some_iff.mp e).1
  obtain ⟨t, rfl⟩ := h j v e
  refine ⟨t, congrArg (Value.int · t) ?_⟩
  have hj4 : j < 4 := hl ▸ hj
  have : ∀ j : Fin 4, f j.1 = [f 0, f 1, f 2, f 3].getD j.1 0 := fun j => by
    rcases j with ⟨_ | _ | _ | _ | j, hj⟩ <;> first | rfl | omega
  exact this ⟨j, hj4⟩
end
theorem news_add {h₀ h₁ h : Heap} {L D : Addr} {m : Str → Option Value} {o : Obj} {news : List (Addr × Obj)} (F : Fr h₀ L h₁ m) (N : News h₀ L h₁ news) (hk : ∀ b o, h₁.get? b = some o → h.get? b = some o) (h0 : h₁.get? D = none) (hD : h.get? D = some o) : News h₀ L h ((D, o) :: news) := fun p hp => by
  rcases List.mem_cons.mp hp with rfl | hp
  · refine ⟨hD, fun e => ?_, ?_⟩
    · obtain ⟨oL, _, _, hL, _⟩ := F.ns
      have e' : D = L := e
      rw [e', hL] at h0
      cases h0
    · cases q : h₀.get? D with
      | none => rfl
      | some o => rw [F.keep _ _ q] at h0; cases h0
  · exact ⟨hk _ _ (N p hp).1, (N p hp).2⟩
theorem two_of {vs : List Value} (hl : vs.length = 2) : ∃ a b, vs = [a, b] := by
  obtain ⟨a, v1, rfl, h1⟩ := cons_of hl
  obtain ⟨b, v2, rfl, h2⟩ := cons_of h1
  rw [List.eq_nil_of_length_eq_zero h2]
  exact ⟨a, b, rfl⟩
/-- the points by their place -/
def ptAt (q : Quad) : Nat → Pt
  | 0 => q.1
  | 1 => q.2.1
  | 2 => q.2.2.1
  | _ => q.2.2.2
theorem pts_atT {big : List (Addr × Obj)} {vs : List Value} {q : Quad} {i : Nat} {v : Value} (h : DatAll big vs [ptD q.1, ptD q.2.1, ptD q.2.2.1, ptD q.2.2.2]) (hv : vs[i]? = some v) :
    ∃ x : Addr × Nat × Tok × Tok, v = .ref x.1 ∧ (x.1, tupO [Value.int (ptAt q i).1 x.2.2.1, Value.int (ptAt q i).2 x.2.2.2] x.2.1) ∈ big := by
  have hl : vs.length = 4 := h.length
  have hi : i < 4 := hl ▸ (List.getElem?_eq_some_iff.mp hv).1
  obtain ⟨v', e, d⟩ := h.get (k := i) hi
  rw [hv] at e
  obtain rfl := Option.some.inj e
  have hd : [ptD q.1, ptD q.2.1, ptD q.2.2.1, ptD q.2.2.2][i] = ptD (ptAt q i) := by
    rcases i with _ | _ | _ | _ | i <;> first | rfl | omega
  rw [hd] at d
  obtain ⟨a, n, t1, t2, rfl, m⟩ := pt_of d
  exact ⟨(a, n, t1, t2), rfl, m⟩
theorem ints2T {vs : List Value} {f : Nat → Int} (hl : vs.length = 2) (h : ∀ (i : Nat) (v : Value), vs[i]? = some v → ∃ t, v = Value.int (f i) t) : ∃ x : Tok × Tok, vs = [.int (f 0) x.1, .int (f 1) x.2] := by
  obtain ⟨a, b, rfl⟩ := two_of hl
  obtain ⟨t, rfl⟩ := h 0 a rfl
  obtain ⟨u, rfl⟩ := h 1 b rfl
  exact ⟨(t, u), rfl⟩

theorem off_zip : True := by
  k_with "OFF:zip" => skip
  trivial
end
section
theorem on_f10 : True := by
  w_top off
  trivial
section
variable {prog : Program} {w : World} {A : Around} {E : Value → Shared → Prop} {s : Shared}
/-- where a block takes its things from -/
structure CSrc (prog : Program) (w : World) (A : Around) (E : Value → Shared → Prop) (xv : Value) (s₁ : Shared) (o : Obj) (k : Nat) (P : Nat → Value → Prop) : Prop where
  start : ∀ R : Value → Shared → Prop, R (.ref s₁.heap.objs.size) { s₁ with heap := s₁.heap.push o } → wpAny (model prog w) A (pyIter xv) R E s₁
  walks : ∃ fp St, Walks prog w A s₁.heap.objs.size fp [s₁.heap.objs.size] k P St ∧ St 0 (s₁.heap.push o) ∧ (∀ c ∈ fp, @LE.le Nat _ c s₁.heap.objs.size) ∧ ∀ i h, St i h → ∃ o, h.get? s₁.heap.objs.size = some o
theorem CSrc.list {t : Addr} {its : Array Value} {k : Nat} (hh : A.handled = none) (hl : s.heap.IsList t its) (hk : its.size = k) : CSrc prog w A E (.ref t) s { cls := .type "list_iterator", data := .fields #[.ref t, .int 0 0] } k (fun i v => its[i]? = some v) := by
  subst hk
  have hlt : @LT.lt Nat _ t s.heap.objs.size := by obtain ⟨_, e, _⟩ := id hl; exact Heap.lt_size e
  refine ⟨fun R h => wpAny_pyIter_list hl h, _, _, Walks.list hh s.heap.objs.size t (Nat.ne_of_lt hlt) its, ⟨⟨_, Heap.get?_push_size _ rfl, rfl, rfl⟩, hl.at fun o e => Heap.get?_push_of_some _ e⟩, fun c hc => ?_, fun i h st => let ⟨o, ho, _⟩ := st.1; ⟨o, ho⟩⟩
  rcases List.mem_cons.mp hc with rfl | hc
  · exact Nat.le_refl _
  · rw [List.mem_singleton.mp hc]; exact Nat.le_of_lt hlt
theorem CSrc.range {r : Addr} {a b c : Int} {t u v : Tok} {n : Nat} (hh : A.handled = none) (hr : IsRange s.heap r a b c t u v) (hsm : Builtin.Range.small a b c = true) (hn : Builtin.Range.rangeSize a b c = ((n : Nat) : Int)) :
    CSrc prog w A E (.ref r) s { cls := .type "range_iterator", data := .fields #[rawInt a, rawInt (Builtin.Range.rangeSize a b c), rawInt c] } n (fun i v => ∃ t, v = .int (a + (i : Int) * c) t) := by
  refine ⟨fun R h => wpAny_pyIter_range hr hsm h, _, _, Walks.range hh s.heap.objs.size a c n, ?_, fun c hc => ?_, fun i h st => ⟨_, st⟩⟩
  · show IsRangeIter _ _ _ _ _
    rw [hn]
    simpa using Heap.get?_push_size _ rfl
  · rw [List.mem_singleton.mp hc]; exact Nat.le_refl _
/-- a block with a test (or none) over things of any number -/
theorem comp_gen {k : Nat} {env : Env} {elt iter : Expr} {ifs : List Expr} {x : Str} {px : Pos} {scope : Scope} {cl : List (Str × Addr)} {pos : Pos} {cpos : Pos} {use : Option (Value → Sem Unit)} {Q : Value → Shared → Prop} (b : Nat → Bool) (F : Nat → Value → List (Addr × Obj) → Prop)
    (hsz : k ≤ sizeLine)
    (hclos : closureFor scope env = pure cl) (hcell : ∀ y ∈ scope.names, y.2 ≠ .cell) (hkind : scope.kind = .function)
    (hnames : ∀ y ∈ scope.names, y.2 = .local → scope.names.lookup y.1 = some .local) (hx : scope.names.lookup x = some .local)
    (hiter : wpAny (model prog w) A (eval iter env) (fun xv s₁ => Stop (∃ o P, o.isFreed = false ∧ CSrc prog w A E xv s₁ o k P ∧
      (∀ i v C m h tk E', i < k → P i v → h.Ns C m → m x = some v → (∀ c o, s₁.heap.get? c = some o → h.get? c = some o) →
        wpAny (model prog w) A (forIn ifs true fun c r => if r = true then do let ok ← isTrue c (compEnvC scope cl C env) (eval c (compEnvC scope cl C env)); pure (ForInStep.yield ok) else pure (ForInStep.yield r)) (fun ok s' => Stop (ok = b i ∧ Keeps { s₁ with heap := h, toks := tk } s')) E' { s₁ with heap := h, toks := tk }) ∧
      (∀ i v C m h tk E', i < k → P i v → b i = true → h.Ns C m → m x = some v → (∀ c o, s₁.heap.get? c = some o → h.get? c = some o) →
        wpAny (model prog w) A (eval elt (compEnvC scope cl C env)) (fun v s' => Stop (∃ nw h' tk', s' = { s₁ with heap := h', toks := tk' } ∧ (∀ c o, h.get? c = some o → h'.get? c = some o) ∧ (∀ p ∈ nw, h'.get? p.1 = some p.2 ∧ h.get? p.1 = none) ∧ F i v nw)) E' { s₁ with heap := h, toks := tk }) ∧
      (∀ C D h tk vs m, (∀ c o, s₁.heap.get? c = some o → h.get? c = some o) → s₁.heap.get? C = none → s₁.heap.get? D = none → (@Ne Nat D C) → h.Ns C m → h.get? D = some (LCg.lst vs) → vs.length = ((List.range k).filter b).length → (∀ (j : Nat) v i, vs[j]? = some v → ((List.range k).filter b)[j]? = some i → ∃ nw, (∀ p ∈ nw, h.get? p.1 = some p.2 ∧ s₁.heap.get? p.1 = none ∧ (@Ne Nat p.1 C)) ∧ F i v nw) → compPost (model prog w) A E use Q (.ref D) C (.ok .next) { s₁ with heap := h, toks := tk }))) E s)
    (hs : ∀ x, foldedSetIterable iter env x = pure x := by intro _; rfl) :
    wpAny (model prog w) A (comprehension (.ListComp elt [⟨.Name x px, iter, ifs, 0⟩] scope pos) scope env cpos (newList []) false (eval iter env) use) Q E s := by
  refine wpAny_comprehension_free (use := use) rfl hs hclos hkind hnames (wpAny_mono hiter (fun xv s₁ h₁ => ?_) fun _ _ e => e)
  obtain ⟨o, P, ho, ⟨hstart, fp, St, W, hst, hfp, hocc⟩, htest, helt, hQ⟩ := h₁.run
  clear hiter
  obtain ⟨h0, gg, dd, tk0, os0⟩ := s₁
  dsimp only at htest helt hQ hstart W hst hfp hocc
  refine hstart _ ?_
  clear hstart
  refine wpAny_newObj_type (wpAny_newFunctionEnv hcell (by intro y hy; simp at hy) (fun h₁ hns₁ hsb₁ => ?_) hkind)
  dsimp only at hns₁ hsb₁ ⊢
  generalize hn : h0.objs.size = n at *
  generalize hH1 : h0.push o = H1 at *
  generalize hH2 : H1.push { cls := .type "list", dict := none, data := .seq ([] : List Value).toArray } = H2 at hns₁ hsb₁ ⊢
  have z1 : H1.objs.size = n + 1 := by rw [← hH1, Heap.size_push, hn]
  have z2 : H2.objs.size = n + 2 := by rw [← hH2, Heap.size_push, z1]
  rw [z1]
  rw [z2] at hns₁ hsb₁ ⊢
  have up1 : ∀ (c : Nat) o, H1.get? c = some o → h₁.get? c = some o := fun c o e => by
    have hlt : c < H1.objs.size := Heap.lt_size e
    exact hsb₁.extBut c o (show (@Ne Nat c (n + 2)) by omega) (Heap.get?_push_of_some _ (hH2 ▸ Heap.get?_push_of_some _ e))
  have up : ∀ (c : Nat) o, h0.get? c = some o → h₁.get? c = some o := fun c o e => up1 c o (hH1 ▸ Heap.get?_push_of_some _ e)
  have gD : h₁.get? (n + 1) = some (LCg.lst []) := hsb₁.extBut _ _ (show (@Ne Nat (n + 1) (n + 2)) by omega) (Heap.get?_push_of_some _ (hH2 ▸ (z1 ▸ Heap.get?_push_size _ rfl)))
  have gI : h₁.get? n = some o := up1 n o (hH1 ▸ hn ▸ Heap.get?_push_size _ ho)
  have gS : St 0 h₁ := W.frame _ _ _ hst fun c _ o e => up1 c o e
  have slt : ∀ (c : Nat) o, h0.get? c = some o → c < n := fun c o e => hn ▸ Heap.lt_size e
  have fresh : h0.get? (n + 1) = none := by
    cases q : h0.get? (n + 1) with
    | none => rfl
    | some o => have := slt _ _ q; omega
  have loop : ∀ s₃ : Shared, s₃ = (⟨h₁, gg, dd, tk0 + ([] : List (Str × Value)).length, os0⟩ : Shared) →
      codeAny (model prog w) A (.compLoop (.ListComp elt [⟨.Name x px, iter, ifs, 0⟩] scope pos) 0 (.ref n) (.ref (n + 1)) (compEnvC scope cl (n + 2) env))
        (compPost (model prog w) A E use Q (.ref (n + 1)) (n + 2)) s₃ := by
    rintro s₃ rfl
    refine codeAny_compLoop_tests (fun m s' => ∃ h tk i vs mm, s' = ⟨h, gg, dd, tk, os0⟩ ∧ i ≤ k ∧ m = k + 1 - i ∧ St i h ∧ (∃ o', h.get? n = some o') ∧ (∀ (c : Nat) o, h0.get? c = some o → h.get? c = some o) ∧ h.Ns (n + 2) mm ∧
      h.get? (n + 1) = some (LCg.lst vs) ∧ vs.length = ((List.range i).filter b).length ∧ ∀ (j : Nat) v i', vs[j]? = some v → ((List.range i).filter b)[j]? = some i' → ∃ nw, (∀ p ∈ nw, h.get? p.1 = some p.2 ∧ h0.get? p.1 = none ∧ (@Ne Nat p.1 n) ∧ (@Ne Nat p.1 (n + 1)) ∧ (@Ne Nat p.1 (n + 2))) ∧ F i' v nw) ?_ (k + 1) ⟨h₁, _, 0, [], _, rfl, Nat.zero_le _, rfl, gS, ⟨o, gI⟩, up, hns₁, gD, rfl, fun j v i' e => by simp at e⟩
    rintro m s' ⟨h, tk, i, vs, mm, rfl, hi, rfl, hS, ⟨oI, hI⟩, hks, hns, hD, hlen, hF⟩
    by_cases hlt : i < k
    · refine W.item i _ _ _ hlt hS fun v h2 tk2 hP hS2 hk2 => ?_
      have up2 : ∀ (c : Nat) o, c ≠ n → h.get? c = some o → h2.get? c = some o := fun c o c1 e => hk2 c o (by simpa using c1) e
      refine wpAny_assign_Name (wpAny_storeName_local (lookup_relabel_local hx) (hns.at' fun o e => up2 _ o (show (@Ne Nat (n + 2) n) by omega) e) (fun h3 hns3 hs3 => ?_) (by simp [compEnvC, relabel, hkind]))
      have up3 : ∀ (c : Nat) o, c ≠ n → c ≠ n + 2 → h.get? c = some o → h3.get? c = some o := fun c o c1 c2 e => hs3.extBut c o c2 (up2 c o c1 e)
      have hS3 : St (i + 1) h3 := W.frame _ _ _ hS2 fun c hc o e => hs3.extBut c o (show (@Ne Nat c (n + 2)) by have := hfp c hc; omega) e
      have ks3 : ∀ (c : Nat) o, h0.get? c = some o → h3.get? c = some o := fun c o e => by
        have := slt c o e
        exact up3 c o (by omega) (by omega) (hks c o e)
      have hI2 : ∃ oI, h2.get? n = some oI := hocc _ _ hS2
      have hD3 : h3.get? (n + 1) = some (LCg.lst vs) := up3 _ _ (show (@Ne Nat (n + 1) n) by omega) (show (@Ne Nat (n + 1) (n + 2)) by omega) hD
      refine wpAny_mono (htest i v (n + 2) _ h3 _ _ hlt hP hns3 (by simp) ks3) (fun ok s4 h4 => ?_) fun _ _ e => e
      replace h4 := h4.run
      obtain ⟨rfl, h4, tk4, rfl, hk4⟩ := h4
      have hS4 : St (i + 1) h4 := W.frame _ _ _ hS3 fun c _ o e => hk4 c o e
      have hns4 := hns3.at' (h' := h4) fun o e => hk4 _ o e
      have ks4 : ∀ (c : Nat) o, h0.get? c = some o → h4.get? c = some o := fun c o e => hk4 c o (ks3 c o e)
      obtain ⟨oI2, hI2⟩ := hI2
      have hI4 : h4.get? n = some oI2 := hk4 _ _ (hs3.extBut _ _ (show (@Ne Nat n (n + 2)) by omega) hI2)
      have hD4 := hk4 _ _ hD3
      have er : (List.range (i + 1)).filter b = if b i then (List.range i).filter b ++ [i] else (List.range i).filter b := by
        rw [List.range_succ, List.filter_append]
        cases hb : b i <;> simp [hb]
      have hF4 : ∀ (j : Nat) v i', vs[j]? = some v → ((List.range i).filter b)[j]? = some i' → ∃ nw, (∀ p ∈ nw, h4.get? p.1 = some p.2 ∧ h0.get? p.1 = none ∧ (@Ne Nat p.1 n) ∧ (@Ne Nat p.1 (n + 1)) ∧ (@Ne Nat p.1 (n + 2))) ∧ F i' v nw := by
        intro j v i' e1 e2
        obtain ⟨nw, h5, h6⟩ := hF j v i' e1 e2
        refine ⟨nw, fun p hp => ?_, h6⟩
        obtain ⟨g1, g2, g3, g4, g5⟩ := h5 p hp
        exact ⟨hk4 _ _ (up3 _ _ g3 g5 g1), g2, g3, g4, g5⟩
      split
      · rename_i hb
        rw [if_pos hb] at er
        refine wpAny_mono (helt i v (n + 2) _ h4 _ _ hlt hP hb hns4 (by simp) ks4) (fun v5 s5 h5 => ?_) fun _ _ e => e
        replace h5 := h5.run
        obtain ⟨nw, h5, tk5, rfl, hk5, hnw, hFi⟩ := h5
        refine append_at (hsz := ?hsz) (hk5 _ _ hD4) fun h6 hs6 hD6 => ?_
        case hsz =>
          show vs.toArray.size ≤ sizeLine
          have := List.length_filter_le b (List.range i)
          rw [List.length_range] at this
          rw [List.size_toArray, hlen]; omega
        have up6 : ∀ (c : Nat) o, (@Ne Nat c (n + 1)) → h4.get? c = some o → h6.get? c = some o := fun c o c1 e => hs6.extBut c o c1 (hk5 c o e)
        refine ⟨k + 1 - (i + 1), by omega, h6, tk5, i + 1, vs ++ [v5], _, rfl, hlt, rfl, W.frame _ _ _ hS4 fun c hc o e => ?_, ⟨oI2, up6 _ _ (show (@Ne Nat n (n + 1)) by omega) hI4⟩, fun c o e => ?_, hns4.at' fun o e => up6 _ o (show (@Ne Nat (n + 2) (n + 1)) by omega) e, hD6.trans (congrArg some (LCg.lst_snoc vs v5)), ?_, ?_⟩
        · have := hfp c hc
          exact up6 c o (show (@Ne Nat c (n + 1)) by omega) e
        · have := slt c o e
          exact up6 c o (show (@Ne Nat c (n + 1)) by omega) (ks4 c o e)
        · rw [er, List.length_append, List.length_append, hlen]; rfl
        · intro j v i' e1 e2
          rw [er] at e2
          rw [List.getElem?_append] at e1 e2
          rw [hlen] at e1
          split at e1
          · rename_i hj
            rw [if_pos hj] at e2
            obtain ⟨nw, h5, h6⟩ := hF4 j v i' e1 e2
            refine ⟨nw, fun p hp => ?_, h6⟩
            obtain ⟨g1, g2, g3, g4, g5⟩ := h5 p hp
            exact ⟨up6 _ _ g4 g1, g2, g3, g4, g5⟩
          · rename_i hj
            rw [if_neg hj] at e2
            have hj0 : j - ((List.range i).filter b).length = 0 := by
              cases hq : j - ((List.range i).filter b).length with
              | zero => rfl
              | succ q => rw [hq] at e1; simp at e1
            rw [hj0] at e1 e2
            simp at e1 e2
            subst e1
            subst e2
            refine ⟨nw, fun p hp => ?_, hFi⟩
            obtain ⟨g1, g2⟩ := hnw p hp
            have q1 : @Ne Nat p.1 n := fun e => by rw [e, hI4] at g2; cases g2
            have q2 : @Ne Nat p.1 (n + 1) := fun e => by rw [e, hD4] at g2; cases g2
            have q3 : @Ne Nat p.1 (n + 2) := fun e => by
              obtain ⟨oC, _, _, h9, _⟩ := hns4
              have h9' : h4.get? (n + 2) = some oC := h9
              rw [e, h9'] at g2; cases g2
            refine ⟨hs6.extBut _ _ q2 g1, ?_, q1, q2, q3⟩
            cases q : h0.get? p.1 with
            | none => rfl
            | some o => rw [ks4 _ _ q] at g2; cases g2
      · rename_i hb
        rw [if_neg hb] at er
        exact ⟨k + 1 - (i + 1), by omega, h4, tk4, i + 1, vs, _, rfl, hlt, rfl, hS4, ⟨oI2, hI4⟩, ks4, hns4, hD4, by rw [er]; exact hlen, fun j v i' e1 e2 => hF4 j v i' e1 (er ▸ e2)⟩
    · have hik : i = k := by omega
      subst hik
      refine W.done _ _ _ hS fun h2 tk2 hk2 => ?_
      have up2 : ∀ (c : Nat) o, c ≠ n → h.get? c = some o → h2.get? c = some o := fun c o c1 e => hk2 c o (by simpa using c1) e
      have freshC : h0.get? (n + 2) = none := by
        cases q : h0.get? (n + 2) with
        | none => rfl
        | some o => have := slt _ _ q; omega
      refine hQ (n + 2) (n + 1) h2 tk2 vs mm (fun c o e => ?_) freshC fresh (show (@Ne Nat (n + 1) (n + 2)) by omega) (hns.at' fun o e => up2 _ o (show (@Ne Nat (n + 2) n) by omega) e) (up2 _ _ (show (@Ne Nat (n + 1) n) by omega) hD) hlen (fun j v i' e1 e2 => ?_)
      · have hc : @LT.lt Nat _ c n := slt c o e
        exact up2 c o (show (@Ne Nat c n) by omega) (hks c o e)
      · obtain ⟨nw, h5, h6⟩ := hF j v i' e1 e2
        refine ⟨nw, fun p hp => ?_, h6⟩
        obtain ⟨g1, g2, g3, g4, g5⟩ := h5 p hp
        exact ⟨up2 _ _ g3 g1, g2, g5⟩
  refine codeAny_compStart_list (loop _ rfl) ?_
  exact W.self 0 (⟨h₁, gg, dd, _, os0⟩ : Shared) _ _ gS (loop _ rfl)
theorem comp_core {k : Nat} {env : Env} {elt iter : Expr} {ifs : List Expr} {x : Str} {px : Pos} {scope : Scope} {cl : List (Str × Addr)} {pos : Pos} {Q : Value → Shared → Prop} (b : Nat → Bool) (F : Nat → Value → List (Addr × Obj) → Prop)
    (hsz : k ≤ sizeLine)
    (hclos : closureFor scope env = pure cl) (hcell : ∀ y ∈ scope.names, y.2 ≠ .cell) (hkind : scope.kind = .function)
    (hnames : ∀ y ∈ scope.names, y.2 = .local → scope.names.lookup y.1 = some .local) (hx : scope.names.lookup x = some .local)
    (hiter : wpAny (model prog w) A (eval iter env) (fun xv s₁ => Stop (∃ o P, o.isFreed = false ∧ CSrc prog w A E xv s₁ o k P ∧
      (∀ i v C m h tk E', i < k → P i v → h.Ns C m → m x = some v → (∀ c o, s₁.heap.get? c = some o → h.get? c = some o) →
        wpAny (model prog w) A (forIn ifs true fun c r => if r = true then do let ok ← isTrue c (compEnvC scope cl C env) (eval c (compEnvC scope cl C env)); pure (ForInStep.yield ok) else pure (ForInStep.yield r)) (fun ok s' => Stop (ok = b i ∧ Keeps { s₁ with heap := h, toks := tk } s')) E' { s₁ with heap := h, toks := tk }) ∧
      (∀ i v C m h tk E', i < k → P i v → b i = true → h.Ns C m → m x = some v → (∀ c o, s₁.heap.get? c = some o → h.get? c = some o) →
        wpAny (model prog w) A (eval elt (compEnvC scope cl C env)) (fun v s' => Stop (∃ nw h' tk', s' = { s₁ with heap := h', toks := tk' } ∧ (∀ c o, h.get? c = some o → h'.get? c = some o) ∧ (∀ p ∈ nw, h'.get? p.1 = some p.2 ∧ h.get? p.1 = none) ∧ F i v nw)) E' { s₁ with heap := h, toks := tk }) ∧
      (∀ D h tk vs, (∀ c o, s₁.heap.get? c = some o → h.get? c = some o) → s₁.heap.get? D = none → h.get? D = some (LCg.lst vs) → vs.length = ((List.range k).filter b).length → (∀ (j : Nat) v i, vs[j]? = some v → ((List.range k).filter b)[j]? = some i → ∃ nw, (∀ p ∈ nw, h.get? p.1 = some p.2 ∧ s₁.heap.get? p.1 = none) ∧ F i v nw) → Q (.ref D) { s₁ with heap := h, toks := tk }))) E s)
    (hs : ∀ x, foldedSetIterable iter env x = pure x := by intro _; rfl) :
    wpAny (model prog w) A (eval (.ListComp elt [⟨.Name x px, iter, ifs, 0⟩] scope pos) env) Q E s := by
  rw [eval_ListComp]
  refine comp_gen b F hsz hclos hcell hkind hnames hx (wpAny_mono hiter (fun xv s₁ h => ?_) fun _ _ e => e) hs
  obtain ⟨o, P, h1, h2, h3, h4, h5⟩ := h.run
  refine Stop.mk ⟨o, P, h1, h2, h3, h4, fun C D h tk vs m a1 a2 a3 a4 a5 a6 a7 a8 => ⟨m, a5, fun h' hs' => h5 D h' tk vs (fun c o e => ?_) a3 (hs'.extBut _ _ a4 a6) a7 fun j v i e1 e2 => ?_⟩⟩
  · exact hs'.extBut c o (fun e2 => by rw [e2, a2] at e; cases e) (a1 c o e)
  · obtain ⟨nw, g1, g2⟩ := a8 j v i e1 e2
    exact ⟨nw, fun p hp => ⟨hs'.extBut _ _ (g1 p hp).2.2 (g1 p hp).1, (g1 p hp).2.1⟩, g2⟩
theorem assign_comp {k : Nat} {env : Env} {elt iter : Expr} {ifs : List Expr} {x : Str} {px : Pos} {scope : Scope} {cl : List (Str × Addr)} {pos : Pos} {Q : Flow → Shared → Prop} {y : Str} {py spos : Pos} (b : Nat → Bool) (F : Nat → Value → List (Addr × Obj) → Prop)
    (hsz : k ≤ sizeLine)
    (hsw : swapsWith (.ListComp elt [⟨.Name x px, iter, ifs, 0⟩] scope pos) (some (.Name y py)) spos.line env = pure true) (hy : env.kindOf y = some .local) (hp : (env.scope.kind == .class || (env.scope.kind == .module && env.locals != env.globals)) = false)
    (hclos : closureFor scope env = pure cl) (hcell : ∀ y ∈ scope.names, y.2 ≠ .cell) (hkind : scope.kind = .function)
    (hnames : ∀ y ∈ scope.names, y.2 = .local → scope.names.lookup y.1 = some .local) (hx : scope.names.lookup x = some .local)
    (hiter : wpAny (model prog w) A (eval iter env) (fun xv s₁ => Stop (∃ o P, o.isFreed = false ∧ CSrc prog w A E xv s₁ o k P ∧
      (∀ i v C m h tk E', i < k → P i v → h.Ns C m → m x = some v → (∀ c o, s₁.heap.get? c = some o → h.get? c = some o) →
        wpAny (model prog w) A (forIn ifs true fun c r => if r = true then do let ok ← isTrue c (compEnvC scope cl C env) (eval c (compEnvC scope cl C env)); pure (ForInStep.yield ok) else pure (ForInStep.yield r)) (fun ok s' => Stop (ok = b i ∧ Keeps { s₁ with heap := h, toks := tk } s')) E' { s₁ with heap := h, toks := tk }) ∧
      (∀ i v C m h tk E', i < k → P i v → b i = true → h.Ns C m → m x = some v → (∀ c o, s₁.heap.get? c = some o → h.get? c = some o) →
        wpAny (model prog w) A (eval elt (compEnvC scope cl C env)) (fun v s' => Stop (∃ nw h' tk', s' = { s₁ with heap := h', toks := tk' } ∧ (∀ c o, h.get? c = some o → h'.get? c = some o) ∧ (∀ p ∈ nw, h'.get? p.1 = some p.2 ∧ h.get? p.1 = none) ∧ F i v nw)) E' { s₁ with heap := h, toks := tk }) ∧
      (∃ h₀ m news, Fr h₀ env.locals s₁.heap m ∧ News h₀ env.locals s₁.heap news ∧ ∀ D h tk vs, Fr h₀ env.locals h (fun z => if z = y then some (.ref D) else m z) → News h₀ env.locals h ((D, LCg.lst vs) :: news) → AllNe D news → vs.length = ((List.range k).filter b).length → (∀ (j : Nat) v i, vs[j]? = some v → ((List.range k).filter b)[j]? = some i → ∃ nw, News h₀ env.locals h nw ∧ (∀ p ∈ nw, AllNe p.1 news) ∧ F i v nw) → Q .next { s₁ with heap := h, toks := tk }))) E s)
    (hs : ∀ x, foldedSetIterable iter env x = pure x := by intro _; rfl) :
    wpAny (model prog w) A (exec (.Assign [.Name y py] (.ListComp elt [⟨.Name x px, iter, ifs, 0⟩] scope pos) spos) env) Q E s := by
  rw [exec_Assign_Name_used _ _ _ _ hsw]
  refine wpAny_bind (wpAny_standAt (wpAny_bind ?_))
  show wpAny _ A (do let _ ← comprehension (.ListComp elt [⟨.Name x px, iter, ifs, 0⟩] scope pos) scope env _ (newList []) false (eval iter env) (some (assign (.Name y py) env))) _ _ s
  refine wpAny_bind (wpAny_mono (comp_gen (use := some (assign (.Name y py) env)) (Q := fun _ s' => Q .next s') b F hsz hclos hcell hkind hnames hx
    (wpAny_mono hiter (fun xv s₁ h => ?_) fun _ _ e => e) hs) (fun _ s' hq => wpAny_pure (wpAny_pure hq)) fun _ _ e => e)
  obtain ⟨o, P, h1, h2, h3, h4, h₀, m0, news, F0, N0, h5⟩ := h.run
  refine Stop.mk ⟨o, P, h1, h2, h3, h4, fun C D h tk vs m a1 a2 a3 a4 a5 a6 a7 a8 => ?_⟩
  have hL : ∃ o, s₁.heap.get? env.locals = some o := let ⟨o, _, _, ho, _⟩ := F0.ns; ⟨o, ho⟩
  obtain ⟨oL, hL⟩ := hL
  have hLC : env.locals ≠ C := fun e => by rw [← e, hL] at a2; cases a2
  have hLD : env.locals ≠ D := fun e => by rw [← e, hL] at a3; cases a3
  show wpAny _ A (assign (.Name y py) env (.ref D)) _ _ _
  refine wpAny_assign_Name (wpAny_storeName_local hy (F0.ns.at' fun o e => a1 _ _ e) (fun h₂ hn₂ hs₂ => ?_) hp)
  refine ⟨m, a5.sameBut hs₂ (Ne.symm hLC), fun h₃ hs₃ => ?_⟩
  have keep : ∀ c o, c ≠ env.locals → s₁.heap.get? c = some o → h₃.get? c = some o := fun c o hc e =>
    hs₃.extBut c o (fun e2 => by rw [e2, a2] at e; cases e) (hs₂.extBut c o hc (a1 c o e))
  have off0 : ∀ c, s₁.heap.get? c = none → h₀.get? c = none := fun c hc => by
    cases q : h₀.get? c with
    | none => rfl
    | some o => rw [F0.keep _ _ q] at hc; cases hc
  refine h5 D h₃ _ vs ⟨hn₂.sameBut hs₃ hLC, fun b o e => keep b o (Nat.ne_of_lt (Nat.lt_of_lt_of_le (Heap.lt_size e) F0.above)) (F0.keep b o e), F0.above⟩ (fun p hp => ?_) (allNe_of fun q hq e => by have := (N0 q hq).1; rw [← e, a3] at this; cases this) a7 fun j v i e1 e2 => ?_
  · rcases List.mem_cons.mp hp with rfl | hp
    · exact ⟨hs₃.extBut _ _ a4 (hs₂.extBut _ _ (Ne.symm hLD) a6), Ne.symm hLD, off0 _ a3⟩
    · exact ⟨keep _ _ (N0 p hp).2.1 (N0 p hp).1, (N0 p hp).2⟩
  · obtain ⟨nw, g1, g2⟩ := a8 j v i e1 e2
    refine ⟨nw, fun p hp => ?_, (fun p hp => allNe_of fun q hq e => by have := (N0 q hq).1; rw [← e, (g1 p hp).2.1] at this; cases this), g2⟩
    have hpL : p.1 ≠ env.locals := fun e => by have := (g1 p hp).2.1; rw [e, hL] at this; cases this
    exact ⟨hs₃.extBut _ _ (g1 p hp).2.2 (hs₂.extBut _ _ hpL (g1 p hp).1), hpL, off0 _ (g1 p hp).2.1⟩
end
section
variable {prog : Program} {w : World} {A : Around} {E : Value → Shared → Prop} {s : Shared}
/-- a block without a test -/
theorem comp_plain {k : Nat} {env : Env} {elt iter : Expr} {x : Str} {px : Pos} {scope : Scope} {cl : List (Str × Addr)} {pos : Pos} {Q : Value → Shared → Prop} (F : Nat → Value → List (Addr × Obj) → Prop)
    (hsz : k ≤ sizeLine)
    (hclos : closureFor scope env = pure cl) (hcell : ∀ y ∈ scope.names, y.2 ≠ .cell) (hkind : scope.kind = .function)
    (hnames : ∀ y ∈ scope.names, y.2 = .local → scope.names.lookup y.1 = some .local) (hx : scope.names.lookup x = some .local)
    (hiter : wpAny (model prog w) A (eval iter env) (fun xv s₁ => Stop (∃ o P, o.isFreed = false ∧ CSrc prog w A E xv s₁ o k P ∧
      (∀ i v C m h tk E', i < k → P i v → h.Ns C m → m x = some v → (∀ c o, s₁.heap.get? c = some o → h.get? c = some o) →
        wpAny (model prog w) A (eval elt (compEnvC scope cl C env)) (fun v s' => Stop (∃ nw h' tk', s' = { s₁ with heap := h', toks := tk' } ∧ (∀ c o, h.get? c = some o → h'.get? c = some o) ∧ (∀ p ∈ nw, h'.get? p.1 = some p.2 ∧ h.get? p.1 = none) ∧ F i v nw)) E' { s₁ with heap := h, toks := tk }) ∧
      (∀ D h tk vs, (∀ c o, s₁.heap.get? c = some o → h.get? c = some o) → s₁.heap.get? D = none → h.get? D = some (LCg.lst vs) → vs.length = k → (∀ (j : Nat) v, vs[j]? = some v → ∃ nw, (∀ p ∈ nw, h.get? p.1 = some p.2 ∧ s₁.heap.get? p.1 = none) ∧ F j v nw) → Q (.ref D) { s₁ with heap := h, toks := tk }))) E s)
    (hs : ∀ x, foldedSetIterable iter env x = pure x := by intro _; rfl) :
    wpAny (model prog w) A (eval (.ListComp elt [⟨.Name x px, iter, [], 0⟩] scope pos) env) Q E s := by
  refine comp_core (b := fun _ => true) F hsz hclos hcell hkind hnames hx (wpAny_mono hiter (fun xv s₁ h => ?_) fun _ _ e => e) hs
  obtain ⟨o, P, h1, h2, h3, h4⟩ := h.run
  refine Stop.mk ⟨o, P, h1, h2, fun i v C m h tk E' _ _ _ _ _ => ?_, fun i v C m h tk E' a b _ => h3 i v C m h tk E' a b, fun D h tk vs a b c d e => h4 D h tk vs a b c ?_ fun j v ev => ?_⟩
  · exact wpAny_pure ⟨rfl, h, tk, rfl, fun _ _ e => e⟩
  · rw [d, List.filter_eq_self.mpr (fun _ _ => rfl), List.length_range]
  · have hj : j < vs.length := (List.getElem?_eq_some_iff.mp ev).1
    refine e j v j ev ?_
    rw [List.filter_eq_self.mpr (fun _ _ => rfl)] at d ⊢
    rw [List.length_range] at d
    rw [List.getElem?_range (by omega)]
/-- a block without a test that is bound to a name -/
theorem assign_plain {k : Nat} {env : Env} {elt iter : Expr} {x : Str} {px : Pos} {scope : Scope} {cl : List (Str × Addr)} {pos : Pos} {Q : Flow → Shared → Prop} {y : Str} {py spos : Pos} (F : Nat → Value → List (Addr × Obj) → Prop)
    (hsz : k ≤ sizeLine)
    (hsw : swapsWith (.ListComp elt [⟨.Name x px, iter, [], 0⟩] scope pos) (some (.Name y py)) spos.line env = pure true) (hy : env.kindOf y = some .local) (hp : (env.scope.kind == .class || (env.scope.kind == .module && env.locals != env.globals)) = false)
    (hclos : closureFor scope env = pure cl) (hcell : ∀ y ∈ scope.names, y.2 ≠ .cell) (hkind : scope.kind = .function)
    (hnames : ∀ y ∈ scope.names, y.2 = .local → scope.names.lookup y.1 = some .local) (hx : scope.names.lookup x = some .local)
    (hiter : wpAny (model prog w) A (eval iter env) (fun xv s₁ => Stop (∃ o P, o.isFreed = false ∧ CSrc prog w A E xv s₁ o k P ∧
      (∀ i v C m h tk E', i < k → P i v → h.Ns C m → m x = some v → (∀ c o, s₁.heap.get? c = some o → h.get? c = some o) →
        wpAny (model prog w) A (eval elt (compEnvC scope cl C env)) (fun v s' => Stop (∃ nw h' tk', s' = { s₁ with heap := h', toks := tk' } ∧ (∀ c o, h.get? c = some o → h'.get? c = some o) ∧ (∀ p ∈ nw, h'.get? p.1 = some p.2 ∧ h.get? p.1 = none) ∧ F i v nw)) E' { s₁ with heap := h, toks := tk }) ∧
      (∃ h₀ m news, Fr h₀ env.locals s₁.heap m ∧ News h₀ env.locals s₁.heap news ∧ ∀ D h tk vs, Fr h₀ env.locals h (fun z => if z = y then some (.ref D) else m z) → News h₀ env.locals h ((D, LCg.lst vs) :: news) → AllNe D news → vs.length = k → (∀ (j : Nat) v, vs[j]? = some v → ∃ nw, News h₀ env.locals h nw ∧ (∀ p ∈ nw, AllNe p.1 news) ∧ F j v nw) → Q .next { s₁ with heap := h, toks := tk }))) E s)
    (hs : ∀ x, foldedSetIterable iter env x = pure x := by intro _; rfl) :
    wpAny (model prog w) A (exec (.Assign [.Name y py] (.ListComp elt [⟨.Name x px, iter, [], 0⟩] scope pos) spos) env) Q E s := by
  refine assign_comp (b := fun _ => true) F hsz hsw hy hp hclos hcell hkind hnames hx (wpAny_mono hiter (fun xv s₁ h => ?_) fun _ _ e => e) hs
  obtain ⟨o, P, h1, h2, h3, h₀, m0, news, F0, N0, h4⟩ := h.run
  refine Stop.mk ⟨o, P, h1, h2, fun i v C m h tk E' _ _ _ _ _ => ?_, fun i v C m h tk E' a b _ => h3 i v C m h tk E' a b, h₀, m0, news, F0, N0, fun D h tk vs a b c d e => h4 D h tk vs a b c ?_ fun j v ev => ?_⟩
  · exact wpAny_pure ⟨rfl, h, tk, rfl, fun _ _ e => e⟩
  · rw [d, List.filter_eq_self.mpr (fun _ _ => rfl), List.length_range]
  · have hj : j < vs.length := (List.getElem?_eq_some_iff.mp ev).1
    refine e j v j ev ?_
    rw [List.filter_eq_self.mpr (fun _ _ => rfl)] at d ⊢
    rw [List.length_range] at d
    rw [List.getElem?_range (by omega)]
/-- ints alone -/
theorem ints_of {vs : List Value} {f : Nat → Int} {h h₁ : Heap} (h : ∀ (j : Nat) v, vs[j]? = some v → ∃ nw : List (Addr × Obj), (∀ p ∈ nw, h.get? p.1 = some p.2 ∧ h₁.get? p.1 = none) ∧ ∃ t, v = Value.int (f j) t) : ∀ (j : Nat) v, vs[j]? = some v → ∃ t, v = Value.int (f j) t := fun j v e => let ⟨_, _, r⟩ := h j v e; r
theorem four_of {vs : List Value} (hl : vs.length = 4) : ∃ a b c d, vs = [a, b, c, d] := by
  obtain ⟨a, v1, rfl, h1⟩ := cons_of hl
  obtain ⟨b, v2, rfl, h2⟩ := cons_of h1
  obtain ⟨c, v3, rfl, h3⟩ := cons_of h2
  obtain ⟨d, v4, rfl, h4⟩ := cons_of h3
  rw [List.eq_nil_of_length_eq_zero h4]
  exact ⟨a, b, c, d, rfl⟩
theorem ints_ofN {vs : List Value} {f : Nat → Int} {h₀ h : Heap} {L : Addr} {news : List (Addr × Obj)} (h : ∀ (j : Nat) v, vs[j]? = some v → ∃ nw : List (Addr × Obj), News h₀ L h nw ∧ (∀ p ∈ nw, AllNe p.1 news) ∧ ∃ t, v = Value.int (f j) t) : ∀ (j : Nat) v, vs[j]? = some v → ∃ t, v = Value.int (f j) t := fun j v e => let ⟨_, _, _, r⟩ := h j v e; r
/-- things made new, as data -/
theorem dat_of {d : Nat → Dat} {h h₁ : Heap} : ∀ {vs : List Value} {i : Nat}, (∀ (j : Nat) v, vs[j]? = some v → ∃ nw, (∀ p ∈ nw, h.get? p.1 = some p.2 ∧ h₁.get? p.1 = none) ∧ DatIn nw v (d (i + j))) →
    ∃ nws, (∀ p ∈ nws, h.get? p.1 = some p.2 ∧ h₁.get? p.1 = none) ∧ DatAll nws vs ((List.range' i vs.length).map d)
  | [], i, _ => ⟨[], fun p hp => (nomatch hp), .nil⟩
  | v :: vs, i, hv => by
    obtain ⟨nw, h1, h2⟩ := hv 0 v rfl
    obtain ⟨nws, h3, h4⟩ := dat_of (vs := vs) (i := i + 1) fun j u e => by
      have := hv (j + 1) u e
      rw [show i + (j + 1) = i + 1 + j by omega] at this
      exact this
    refine ⟨nw ++ nws, fun p hp => (List.mem_append.mp hp).elim (h1 p) (h3 p), ?_⟩
    rw [List.length_cons, List.range'_succ, List.map_cons]
    exact .cons (h2.mono fun p hp => List.mem_append.mpr (.inl hp)) (h4.mono fun p hp => List.mem_append.mpr (.inr hp))
end
theorem cell_of {h₀ h : Heap} {L a : Addr} {news : List (Addr × Obj)} {o : Obj} {v : Option Value} (N : News h₀ L h news) (hm : (a, o) ∈ news) (d : o.data = .cell v) : h.IsCell a v := ⟨o, (N _ hm).1, d⟩
theorem cell_keeps {h h' : Heap} {a : Addr} {v : Option Value} (H : h.IsCell a v) (hk : ∀ c o, h.get? c = some o → h'.get? c = some o) : h'.IsCell a v := let ⟨o, e, d⟩ := H; ⟨o, hk _ _ e, d⟩
theorem allNe_new {h₀ h : Heap} {L D : Addr} {news : List (Addr × Obj)} (N : News h₀ L h news) (h0 : h.get? D = none) : AllNe D news :=
  allNe_of fun q hq e => by have := (N q hq).1; rw [← e, h0] at this; cases this
theorem sum_genN {prog : Program} {w : World} {A : Around} {E : Value → Shared → Prop} {s : Shared} {h₀ : Heap} {L : Addr} {m : Str → Option Value} {news : List (Addr × Obj)} {l : Addr} {vs : List Value} {ns : List Int} {Q : Value → Shared → Prop} (hh : A.handled = none) (F : Fr h₀ L s.heap m) (N : News h₀ L s.heap news) (hl : s.heap.IsList l vs.toArray) (hi : IntsAre vs ns)
    (h : ∀ h' tk t', Fr h₀ L h' m → News h₀ L h' news → Q (.int ns.sum t') { s with heap := h', toks := tk }) : wpAny (model prog w) A (call (.builtin "sum") [.ref l]) Q E s := by
  obtain ⟨xs, hx⟩ := hi.allInts.items
  have hl' : s.heap.IsList l (intItems xs) := hx ▸ hl
  refine sum_intListG hh hl' fun h' tk t' hk => ?_
  have e1 : ns = xs.toList.map (·.1) := by
    rw [← nums_intItems, ← hx]
    exact (show numsOf vs.toArray.toList = ns from hi.numsOf).symm
  have e2 : preSum (numAt xs) xs.size = ns.sum := by
    rw [preSum_eq, List.take_of_length_le (by simp), e1]
  rw [e2]
  exact h h' tk t' (F.keeps hk) (N.grown hk)

theorem off_comps : True := by
  k_with "OFF:comps" => skip
  trivial
end
section
-- EPS
local macro_rules | `(tactic| walk_at "call builtin:sum") => `(tactic| k_dflt (refine sum_keep rfl ⟨_, by assumption, rfl, _, rfl⟩ (ints4 (by assumption) (by assumption)) ?_; intro h5 tk5 t5 kp5))
theorem on_f11 : True := by
  w_top off
  k_with "MY:MY_EPS" => ((fail_if_success (k_extra "OFF:curve")); skip)
  k_with "MY:eval ListComp" => ((fail_if_success (k_extra "OFF:curve")); (refine stop_here ?_))
  k_with "MY:call type:zip" => ((fail_if_success (k_extra "OFF:curve")); (refine stop_here ?_))
  k_with "MY:eval Name" => ((fail_if_success (k_extra "OFF:curve")); (k_here; (with_reducible show wpAny _ _ (eval (Expr.Name _ _) (compEnvC _ _ _ _)) _ _ _); k_dflt (first | refine name_own (by assumption) (by assumption) ?_ | refine name_cell (by assumption) rfl ?_ | refine name_free (by assumption) rfl ?_)))
  trivial
def cv (a b c d k mn : Int) : Int := (mn - k) ^ Int.toNat 3 * a + (3 * k * (mn - k) ^ Int.toNat 2 * b + (3 * k * k * (mn - k) * c + (k ^ Int.toNat 3 * d + 0)))
theorem pt_bd {q : Quad} (h : QB 10000 q) (i : Nat) : Bd 14 (ptAt q i).1 ∧ Bd 14 (ptAt q i).2 := by
  have f : ∀ p : Pt, PB 10000 p → Bd 14 p.1 ∧ Bd 14 p.2 := fun p hp => ⟨Bd.of (by unfold PB at hp; omega), Bd.of (by unfold PB at hp; omega)⟩
  obtain ⟨h0, h1, h2, h3⟩ := h
  rcases i with _ | _ | _ | i
  · exact f _ h0
  · exact f _ h1
  · exact f _ h2
  · exact f _ h3
def wayAt (k mn : Int) : Nat → Int
  | 0 => (mn - k) ^ Int.toNat 3
  | 1 => 3 * k * (mn - k) ^ Int.toNat 2
  | 2 => 3 * k * k * (mn - k)
  | _ => k ^ Int.toNat 3
theorem way_of {k mn : Int} {t0 t1 t2 t3 : Tok} {i : Nat} {x : Value} (h : [Value.int ((mn - k) ^ Int.toNat 3) t0, Value.int (3 * k * (mn - k) ^ Int.toNat 2) t1, Value.int (3 * k * k * (mn - k)) t2, Value.int (k ^ Int.toNat 3) t3].toArray[i]? = some x) : ∃ t, x = .int (wayAt k mn i) t := by
  rcases i with _ | _ | _ | _ | i
  · exact ⟨_, (Option.some.inj h).symm⟩
  · exact ⟨_, (Option.some.inj h).symm⟩
  · exact ⟨_, (Option.some.inj h).symm⟩
  · exact ⟨_, (Option.some.inj h).symm⟩
  · simp at h
theorem way_bd {k mn : Int} (bk : Bd 4 k) (bm : Bd 4 mn) : ∀ i, Bd 40 (wayAt k mn i) := fun i => by
  have bs : Bd 5 (mn - k) := (Bd.sub bm bk).le (by decide)
  have b3 : Bd 2 (3 : Int) := Bd.of (by decide)
  rcases i with _ | _ | _ | i
  · exact (Bd.cube bs).le (by decide)
  · exact (Bd.mul (Bd.mul b3 bk) (Bd.sq bs)).le (by decide)
  · exact (Bd.mul (Bd.mul (Bd.mul b3 bk) bk) bs).le (by decide)
  · exact (Bd.cube bk).le (by decide)
theorem axis_of {t0 t1 : Tok} {i : Nat} {v : Value} (h : [Value.int 0 t0, Value.int 1 t1].toArray[i]? = some v) : (i = 0 ∧ ∃ t, v = .int 0 t) ∨ (i = 1 ∧ ∃ t, v = .int 1 t) := by
  rcases i with _ | _ | i
  · exact .inl ⟨rfl, _, (Option.some.inj h).symm⟩
  · exact .inr ⟨rfl, _, (Option.some.inj h).symm⟩
  · simp at h
set_option maxRecDepth 100000 in
set_option maxHeartbeats 20000000 in
theorem curve_con : ∀ (p0 p1 p2 p3 : Pt) (k mn : Int), PB 10000 p0 → PB 10000 p1 → PB 10000 p2 → PB 10000 p3 → (0 ≤ mn ∧ mn ≤ 8) → (0 ≤ k ∧ k ≤ mn) →
    Con 248 12 [.list [ptD p0, ptD p1, ptD p2, ptD p3], .int k, .int mn] (New (ptD (cv p0.1 p1.1 p2.1 p3.1 k mn, cv p0.2 p1.2 p2.2 p3.2 k mn))) := by
  intro p0 p1 p2 p3 k mn
  intro h0 h1 h2 h3 hm hkm
  walk_at "MY_CON"
  (refine ep_el (by walk_at "MY_INH") (all3T hD) ?_; generalize ep _ _ = x9; generalize x9.1 = v1, x9.2.1 = v2, x9.2.2 = v3; clear x9; intro hz161)
  (first | (refine ep_el (by walk_at "MY_INH") (hz161) ?_; generalize ep _ _ = hz162; intro hz163) | (refine and_el (hz161) ?_; intro hz162 hz163))
  clear hz161
  subst hz162
  (first | (refine ep_el (by walk_at "MY_INH") (hz163) ?_; generalize ep _ _ = hd1; intro hz164) | (refine and_el (hz163) ?_; intro hd1 hz164))
  clear hz163
  (first | (refine ep_el (by walk_at "MY_INH") (hz164) ?_; generalize ep _ _ = hd2; intro hd3) | (refine and_el (hz164) ?_; intro hd2 hd3))
  clear hz164
  (first | (refine ep_el (by walk_at "MY_INH") (int_of hd2) ?_; generalize ep _ _ = t0; intro hz165) | (refine and_el (int_of hd2) ?_; intro t0 hz165))
  subst hz165
  (first | (refine ep_el (by walk_at "MY_INH") (int_of hd3) ?_; generalize ep _ _ = t01; intro hz166) | (refine and_el (int_of hd3) ?_; intro t01 hz166))
  subst hz166
  (refine ep_el (by walk_at "MY_INH") (list_ofT hd1) ?_; generalize ep _ _ = x9; generalize x9.1 = al, x9.2.1 = vs, x9.2.2 = nl; clear x9; intro hz167)
  (first | (refine ep_el (by walk_at "MY_INH") (hz167) ?_; generalize ep _ _ = hz168; intro hz169) | (refine and_el (hz167) ?_; intro hz168 hz169))
  clear hz167
  subst hz168
  (first | (refine ep_el (by walk_at "MY_INH") (hz169) ?_; generalize ep _ _ = ml; intro hd) | (refine and_el (hz169) ?_; intro ml hd))
  clear hz169
  have hq : QB 10000 (p0, p1, p2, p3) := ⟨h0, h1, h2, h3⟩
  have bk : Bd 4 k := Bd.of (by clear hd; omega)
  have bm : Bd 4 mn := Bd.of (by clear hd; omega)
  clear hD hd1 hd2 hd3 h0 h1 h2 h3 hm hkm
  have b1 := hH.list ml
  k_dflt walk_at "MY_ENTERC"
  k_steps
  refine Stop.mk ?_
  refine' cell_comp (k := 2) ?F rfl ?h2 ?h3 ?h4 ?h5 ?h6 ?h7 ?h8 ?hiter
  case h3 => with_unfolding_all rfl
  case h4 => rfl
  case h5 => decide
  case h6 => intro h; rfl
  case h7 => intro n; rfl
  case h8 => intro C cl; rfl
  case h2 => exact Nat.le_of_ble_eq_true rfl
  case F => exact fun i v => ∃ t, v = .int (if i = 0 then cv p0.1 p1.1 p2.1 p3.1 k mn else cv p0.2 p1.2 p2.2 p3.2 k mn) t
  case hiter =>
    k_steps
    refine Stop.mk ?_
    rename_i F1 N1 l1
    refine ⟨_, _, rfl, News.isTup N1 (List.Mem.head _), rfl, ?_, ?_⟩
    · intro i v C2 X2 h2 tk2 E2
      intro hv hX2 kp2
      have F2 := F1.keeps kp2
      have N2 := N1.grown kp2
      clear F1 N1
      refine (axis_of hv).elim ?_ ?_
      · refine fun h9 => ?_
        (first | (refine ep_el (by walk_at "MY_INH") (h9) ?_; generalize ep _ _ = hi; intro hw) | (refine and_el (h9) ?_; intro hi hw))
        clear h9
        subst hi
        (first | (refine ep_el (by walk_at "MY_INH") (hw) ?_; generalize ep _ _ = tv; intro hz170) | (refine and_el (hw) ?_; intro tv hz170))
        clear hw
        subst hz170
        clear hv
        k_steps
        refine Stop.mk ?_
        refine' zip_comp (k := 4) (F := fun i v => ∃ t, v = .int (wayAt k mn i * (ptAt (p0, p1, p2, p3) i).1) t) rfl ?h1 ?h2 ?h3 ?h4 ?h5 ?h6 ?h7 ?h8 ?h9 ?h10 ?h11 ?h12 ?hiter ?helt ?hQ
        case hiter => (intro R; intro hR; k_steps; exact Stop.mk hR)
        case h11 => exact News.isTup N2 (by walk_at "MY_MEM")
        case h12 => exact Fr.lst F2 b1
        case h1 => rfl
        case h2 => exact hd.length
        case h3 => exact Nat.le_of_ble_eq_true rfl
        case h4 => with_unfolding_all rfl
        case h5 => decide
        case h6 => rfl
        case h7 => decide
        case h8 => rfl
        case h9 => rfl
        case h10 => decide
        case helt =>
          intro i x y C3 m3 h3 tk3 E3
          intro hx hy hns3 ma3 mb3 kp3
          have F3 := F2.keeps kp3
          have N3 := N2.grown kp3
          have hX3 := hX2.keeps kp3
          clear F2 N2 hX2
          (first | (refine ep_el (by walk_at "MY_INH") (way_of hx) ?_; generalize ep _ _ = tx; intro hz171) | (refine and_el (way_of hx) ?_; intro tx hz171))
          subst hz171
          (refine ep_el (by walk_at "MY_INH") (pts_atT (q := (p0, p1, p2, p3)) hd (show vs[i]? = some y from by simpa using hy)) ?_; generalize ep _ _ = x9; generalize x9.1 = ap, x9.2.1 = np, x9.2.2.1 = tp1, x9.2.2.2 = tp2; clear x9; intro hz172)
          (first | (refine ep_el (by walk_at "MY_INH") (hz172) ?_; generalize ep _ _ = hy1; intro hm1) | (refine and_el (hz172) ?_; intro hy1 hm1))
          clear hz172
          subst hy1
          have bb := (hH.tup hm1)
          have bw := way_bd bk bm i
          have bp := pt_bd hq i
          (first | (refine ep_el (by walk_at "MY_INH") (bp) ?_; generalize ep _ _ = bp1; intro bp2) | (refine and_el (bp) ?_; intro bp1 bp2))
          clear bp
          clear hx hy
          k_steps
          refine Stop.mk ?_
          exact ⟨⟨_, rfl⟩, h3, _, rfl, fun _ _ e => e⟩
        case hQ =>
          intro D4 h4 tk4 vs4
          intro kp4 hD0 hD4 hlen4 hF4
          k_steps
          rename_i kp5
          exact Stop.mk ⟨⟨_, rfl⟩, _, _, rfl, fun c o e => kp5 _ _ (kp4 _ _ e)⟩
      · refine fun h9 => ?_
        (first | (refine ep_el (by walk_at "MY_INH") (h9) ?_; generalize ep _ _ = hi; intro hw) | (refine and_el (h9) ?_; intro hi hw))
        clear h9
        subst hi
        (first | (refine ep_el (by walk_at "MY_INH") (hw) ?_; generalize ep _ _ = tv; intro hz173) | (refine and_el (hw) ?_; intro tv hz173))
        clear hw
        subst hz173
        clear hv
        k_steps
        refine Stop.mk ?_
        refine' zip_comp (k := 4) (F := fun i v => ∃ t, v = .int (wayAt k mn i * (ptAt (p0, p1, p2, p3) i).2) t) rfl ?h1 ?h2 ?h3 ?h4 ?h5 ?h6 ?h7 ?h8 ?h9 ?h10 ?h11 ?h12 ?hiter ?helt ?hQ
        case hiter => (intro R; intro hR; k_steps; exact Stop.mk hR)
        case h11 => exact News.isTup N2 (by walk_at "MY_MEM")
        case h12 => exact Fr.lst F2 b1
        case h1 => rfl
        case h2 => exact hd.length
        case h3 => exact Nat.le_of_ble_eq_true rfl
        case h4 => with_unfolding_all rfl
        case h5 => decide
        case h6 => rfl
        case h7 => decide
        case h8 => rfl
        case h9 => rfl
        case h10 => decide
        case helt =>
          intro i x y C3 m3 h3 tk3 E3
          intro hx hy hns3 ma3 mb3 kp3
          have F3 := F2.keeps kp3
          have N3 := N2.grown kp3
          have hX3 := hX2.keeps kp3
          clear F2 N2 hX2
          (first | (refine ep_el (by walk_at "MY_INH") (way_of hx) ?_; generalize ep _ _ = tx; intro hz174) | (refine and_el (way_of hx) ?_; intro tx hz174))
          subst hz174
          (refine ep_el (by walk_at "MY_INH") (pts_atT (q := (p0, p1, p2, p3)) hd (show vs[i]? = some y from by simpa using hy)) ?_; generalize ep _ _ = x9; generalize x9.1 = ap, x9.2.1 = np, x9.2.2.1 = tp1, x9.2.2.2 = tp2; clear x9; intro hz175)
          (first | (refine ep_el (by walk_at "MY_INH") (hz175) ?_; generalize ep _ _ = hy1; intro hm1) | (refine and_el (hz175) ?_; intro hy1 hm1))
          clear hz175
          subst hy1
          have bb := (hH.tup hm1)
          have bw := way_bd bk bm i
          have bp := pt_bd hq i
          (first | (refine ep_el (by walk_at "MY_INH") (bp) ?_; generalize ep _ _ = bp1; intro bp2) | (refine and_el (bp) ?_; intro bp1 bp2))
          clear bp
          clear hx hy
          k_steps
          refine Stop.mk ?_
          exact ⟨⟨_, rfl⟩, h3, _, rfl, fun _ _ e => e⟩
        case hQ =>
          intro D4 h4 tk4 vs4
          intro kp4 hD0 hD4 hlen4 hF4
          k_steps
          rename_i kp5
          exact Stop.mk ⟨⟨_, rfl⟩, _, _, rfl, fun c o e => kp5 _ _ (kp4 _ _ e)⟩
    · intro D6 h6 tk6 vs6
      intro kp6 hD0 hD6 hlen6 hF6
      (refine ep_el (by walk_at "MY_INH") (ints2T hlen6 hF6) ?_; generalize ep _ _ = x9; generalize x9.1 = t6, x9.2 = t7; clear x9; intro hz176)
      subst hz176
      rw [if_pos rfl, if_neg (by decide)] at hD6
      have F6 := F1.keeps kp6
      have N6 := news_add F1 N1 kp6 hD0 hD6
      clear F1 N1 kp6 hD6
      k_steps
      walk_at "MY_END"

theorem off_curve : True := by
  k_with "OFF:curve" => skip
  trivial
end
section
theorem on_f12 : True := by
  w_top off
  k_with "MY:MY_EPS" => ((fail_if_success (k_extra "OFF:most")); skip)
  trivial
-- EPS
def bentOf (a b c d : Int) : Int := imax (iabs (a - 2 * b + c)) (iabs (b - 2 * c + d))
/-- how far from flat, at most, after so many halvings -/
def farAt (q : Quad) : Nat → Int × Int
  | 0 => (farOf q.1.1 q.2.1.1 q.2.2.1.1 q.2.2.2.1, farOf q.1.2 q.2.1.2 q.2.2.1.2 q.2.2.2.2)
  | j + 1 => (3 * Int.fdiv (bentOf q.1.1 q.2.1.1 q.2.2.1.1 q.2.2.2.1) (4 ^ (j + 1)) + 8, 3 * Int.fdiv (bentOf q.1.2 q.2.1.2 q.2.2.1.2 q.2.2.2.2) (4 ^ (j + 1)) + 8)
def MostOut (q : Quad) (f : Int) : List (Addr × Obj) → List (Addr × Obj) → Value → Prop := fun _ _ r =>
  ∃ (j : Nat) (t : Tok), j ≤ 10 ∧ r = .int (2 ^ j) t ∧ (j = 10 ∨ (farAt q j).1 * (farAt q j).1 + ((farAt q j).2 * (farAt q j).2 + 0) ≤ 16 * f * f)
theorem pow4 {k : Nat} (h : k ≤ 10) : 0 < (4 : Int) ^ k ∧ (4 : Int) ^ k < 1073741824 := by
  have : ∀ k : Fin 11, 0 < (4 : Int) ^ k.1 ∧ (4 : Int) ^ k.1 < 1073741824 := by decide
  exact this ⟨k, by omega⟩
theorem Bd.fdiv {n : Nat} {x y : Int} (h : Bd n x) (hy : 0 < y) : Bd n (Int.fdiv x y) := by
  unfold Bd at *
  rw [Int.fdiv_eq_ediv_of_nonneg _ (by omega)]
  have := Int.natAbs_ediv_le_natAbs x y
  omega
structure WS where
  j : Nat
  a : Nat
  x : Int
  y : Int
  tx : Tok
  ty : Tok
  tj : Tok
  n : Nat
  o : Obj
def WS.led (lB cm : Nat) (oB : Obj) (c : WS) : List (Addr × Obj) := [(c.a, listOf [Value.int c.x c.tx, Value.int c.y c.ty].toArray c.n), (lB, oB), (cm, c.o)]
def WS.facts (cm : Nat) (c : WS) : Prop := c.o.data = .cell (some (.int (c.j : Int) c.tj)) ∧ (@Ne Nat c.a cm)
def WS.good (q : Quad) (c : WS) : Prop := c.j ≤ 10 ∧ farAt q c.j = (c.x, c.y) ∧ Bd 40 c.x ∧ Bd 40 c.y
theorem abs_gen {prog : Program} {w : World} {A : Around} {E : Value → Shared → Prop} {s : Shared} {a : Int} {t : Tok} {n : Nat} {Q : Value → Shared → Prop} (hb : Bd n a) (h : ∀ r u tk, r = iabs a → Bd n r → Q (.int r u) { s with toks := tk }) :
    wpAny (model prog w) A (call (.builtin "abs") [.int a t]) Q E s :=
  call_abs_int fun u tk => h _ u tk rfl ((hb.neg.ite hb).le (by omega))
theorem max_gen {prog : Program} {w : World} {A : Around} {E : Value → Shared → Prop} {s : Shared} {h₀ : Heap} {L : Addr} {m : Str → Option Value} {news : List (Addr × Obj)} {a b : Int} {t u : Tok} {n k : Nat} {Q : Value → Shared → Prop} (hh : A.handled = none) (F : Fr h₀ L s.heap m) (N : News h₀ L s.heap news) (ha : Bd n a) (hb : Bd k b)
    (h : ∀ r v h' tk, r = imax a b → Bd (max k n) r → Fr h₀ L h' m → News h₀ L h' news → Q (.int r v) { s with heap := h', toks := tk }) :
    wpAny (model prog w) A (call (.builtin "max") [.int a t, .int b u]) Q E s :=
  max_two_N hh F N fun h' tk F' N' => h _ _ h' tk rfl (hb.ite ha) F' N'
local macro_rules | `(tactic| walk_at "call builtin:abs") => `(tactic| (k_here; (refine abs_gen (by walk_at "MY_BD") ?_); intro r7 u7 tk7 e7 b7))
theorem on_f13 : True := by
  k_with "MY:MY_PMAX" => ((fail_if_success (k_extra "OFF:most")); (k_here; (with_reducible show wpAny _ _ (call (Value.builtin _) [Value.int _ _, Value.int _ _]) _ _ _); (refine max_gen rfl (by with_reducible assumption) (by with_reducible assumption) (by walk_at "MY_BD") (by walk_at "MY_BD") ?_)))
  trivial
local macro_rules | `(tactic| walk_at "call builtin:max") => `(tactic| (walk_at "MY_PMAX"; intro r7 u7 h7 tk7 e7 b7 F7 N7; (try k_sweep)))
theorem on_f14 : True := by
  k_with "MY:eval Name" => ((fail_if_success (k_extra "OFF:most")); (k_here; (with_reducible show wpAny _ _ (eval (Expr.Name _ _) (compEnvC _ _ _ _)) _ _ _); k_dflt (walk_at "MY_BLOCKNAME")))
  trivial
local macro_rules | `(tactic| walk_at "call builtin:sum") => `(tactic| k_dflt (refine sum_genN rfl (by with_reducible assumption) (by with_reducible assumption) (by assumption) (by assumption) ?_; intro h5 tk5 t5 F5 N5))
theorem on_f15 : True := by
  k_with "MY:binaryOp Pow int int" => ((fail_if_success (k_extra "OFF:most")); (refine pow_int_small (by omega) (by omega) (by decide) ?_))
  k_with "MY:binaryOp FloorDiv int int" => ((fail_if_success (k_extra "OFF:most")); (refine floordiv_int (by omega) ?_ (Or.inl (noPylong_small (by omega)))))
  k_with "MY:KswEnd" => ((fail_if_success (k_extra "OFF:most")); (refine stop_here ?_))
  k_with "MY:exec Assign cons ListComp" => ((fail_if_success (k_extra "OFF:most")); ((with_reducible show wpAny _ _ (exec (Stmt.Assign [Expr.Name _ _] _ _) _) _ _ _); refine stop_here ?_))
  k_with "MY:eval ListComp" => ((fail_if_success (k_extra "OFF:most")); (refine stop_here ?_))
  k_with "MY:exec While BoolOp" => ((fail_if_success (k_extra "OFF:most")); (refine stop_here ?_))
  trivial
theorem pb_bd {p : Pt} (hp : PB 10000 p) : Bd 14 p.1 ∧ Bd 14 p.2 := ⟨Bd.of (by unfold PB at hp; omega), Bd.of (by unfold PB at hp; omega)⟩
def twoAt (a b : Int) : Nat → Int
  | 0 => a
  | _ => b
theorem two_at {a b : Int} {t u : Tok} {n : Nat} {v : Value} (hv : [Value.int a t, Value.int b u].toArray[n]? = some v) : ∃ t, v = .int (twoAt a b n) t := by
  rcases n with _ | _ | n
  · exact ⟨_, (Option.some.inj hv).symm⟩
  · exact ⟨_, (Option.some.inj hv).symm⟩
  · simp at hv
theorem two_bd {a b : Int} {k : Nat} (ha : Bd k a) (hb : Bd k b) (n : Nat) : Bd k (twoAt a b n) := by
  rcases n with _ | n
  · exact ha
  · exact hb
theorem ints4tT {vs : List Value} {f : Nat → Int} (hl : vs.length = 4) (h : ∀ (i : Nat) (v : Value), vs[i]? = some v → ∃ t, v = Value.int (f i) t) : ∃ x : Tok × Tok × Tok × Tok, vs = [.int (f 0) x.1, .int (f 1) x.2.1, .int (f 2) x.2.2.1, .int (f 3) x.2.2.2] := by
  obtain ⟨a, b, c, d, rfl⟩ := four_of hl
  obtain ⟨t, rfl⟩ := h 0 a rfl
  obtain ⟨u, rfl⟩ := h 1 b rfl
  obtain ⟨v, rfl⟩ := h 2 c rfl
  obtain ⟨w, rfl⟩ := h 3 d rfl
  exact ⟨(t, u, v, w), rfl⟩
theorem ws_sub {h₀ h : Heap} {L lB cm : Addr} {oB : Obj} {c : WS} {news : List (Addr × Obj)} (N : News h₀ L h news) (m1 : (c.a, listOf [Value.int c.x c.tx, Value.int c.y c.ty].toArray c.n) ∈ news) (m2 : (lB, oB) ∈ news) (m3 : (cm, c.o) ∈ news) : News h₀ L h (WS.led lB cm oB c) := fun p hp => by
  simp only [WS.led, List.mem_cons, List.not_mem_nil, or_false] at hp
  rcases hp with rfl | rfl | rfl
  · exact N _ m1
  · exact N _ m2
  · exact N _ m3
theorem ws_in {lB cm : Addr} {oB : Obj} {c : WS} {news : List (Addr × Obj)} (m1 : (c.a, listOf [Value.int c.x c.tx, Value.int c.y c.ty].toArray c.n) ∈ news) (m2 : (lB, oB) ∈ news) (m3 : (cm, c.o) ∈ news) : ∀ p ∈ WS.led lB cm oB c, p ∈ news := fun p hp => by
  simp only [WS.led, List.mem_cons, List.not_mem_nil, or_false] at hp
  rcases hp with rfl | rfl | rfl
  · exact m1
  · exact m2
  · exact m3
theorem far_map {u m₀ : Str → Option Value} {x y : Value} : ∀ z, (∀ p ∈ [(Str.ofString "far", y)], z ≠ p.1) → ([] : List Str).contains z = false →
    (fun z => if z = Str.ofString "far" then some y else kstB (fun z => if ([] : List Str).contains z then u z else m₀ z) [(Str.ofString "far", x)] z) z = m₀ z := by
  intro z h2 h3
  have hz : z ≠ Str.ofString "far" := h2 _ (List.mem_singleton.mpr rfl)
  simp [kstB, hz]
theorem ws_next {p0 p1 p2 p3 : Pt} {y1 y2 : Int} {j a n : Nat} {t u v : Tok} {o : Obj} (g : j ≤ 10) (h : (j : Int) < 10) (hy1 : bentOf p0.1 p1.1 p2.1 p3.1 = y1) (hy2 : bentOf p0.2 p1.2 p2.2 p3.2 = y2) (b1 : Bd 34 y1) (b2 : Bd 34 y2) (hp5 : (0 : Int) < 4 ^ (j + 1)) :
    WS.good (p0, p1, p2, p3) ⟨j + 1, a, 3 * Int.fdiv y1 (4 ^ (j + 1)) + 8, 3 * Int.fdiv y2 (4 ^ (j + 1)) + 8, t, u, v, n, o⟩ := by
  refine ⟨show j + 1 ≤ 10 by omega, ?_, ?_, ?_⟩
  · show (3 * Int.fdiv (bentOf _ _ _ _) _ + 8, 3 * Int.fdiv (bentOf _ _ _ _) _ + 8) = _
    rw [hy1, hy2]
  · exact (((Bd.of (n := 2) (by decide)).mul (b1.fdiv hp5)).add (Bd.of (n := 4) (by decide))).le (by decide)
  · exact (((Bd.of (n := 2) (by decide)).mul (b2.fdiv hp5)).add (Bd.of (n := 4) (by decide))).le (by decide)
theorem ws_dec {j : Nat} (h : (j : Int) < 10) : 10 - (j + 1) < 10 - j := by omega
theorem inh_ws : Nonempty WS := ⟨⟨0, 0, 0, 0, 0, 0, 0, 0, { cls := .type "cell", data := .cell none }⟩⟩
theorem on_f16 : True := by
  k_with "MY:MY_INH" => ((fail_if_success (k_extra "OFF:most")); (exact inh_ws))
  trivial
set_option maxRecDepth 100000 in
set_option maxHeartbeats 20000000 in
theorem most_con : ∀ (p0 p1 p2 p3 : Pt) (flat : Int), PB 10000 p0 → PB 10000 p1 → PB 10000 p2 → PB 10000 p3 → (0 ≤ flat ∧ flat ≤ 100) →
    Con 265 12 [.list [ptD p0, ptD p1, ptD p2, ptD p3], .int flat] (MostOut (p0, p1, p2, p3) flat) := by
  intro p0 p1 p2 p3 flat
  intro h0 h1 h2 h3 hf
  walk_at "MY_CON"
  (refine ep_el (by walk_at "MY_INH") (all2T hD) ?_; generalize ep _ _ = x9; generalize x9.1 = v1, x9.2 = v2; clear x9; intro hz177)
  (first | (refine ep_el (by walk_at "MY_INH") (hz177) ?_; generalize ep _ _ = hz178; intro hz179) | (refine and_el (hz177) ?_; intro hz178 hz179))
  clear hz177
  subst hz178
  (first | (refine ep_el (by walk_at "MY_INH") (hz179) ?_; generalize ep _ _ = hd1; intro hd2) | (refine and_el (hz179) ?_; intro hd1 hd2))
  clear hz179
  (first | (refine ep_el (by walk_at "MY_INH") (int_of hd2) ?_; generalize ep _ _ = t0; intro hz180) | (refine and_el (int_of hd2) ?_; intro t0 hz180))
  subst hz180
  (refine ep_el (by walk_at "MY_INH") (list_ofT hd1) ?_; generalize ep _ _ = x9; generalize x9.1 = al, x9.2.1 = vs, x9.2.2 = nl; clear x9; intro hz181)
  (first | (refine ep_el (by walk_at "MY_INH") (hz181) ?_; generalize ep _ _ = hz182; intro hz183) | (refine and_el (hz181) ?_; intro hz182 hz183))
  clear hz181
  subst hz182
  (first | (refine ep_el (by walk_at "MY_INH") (hz183) ?_; generalize ep _ _ = ml; intro hd) | (refine and_el (hz183) ?_; intro ml hd))
  clear hz183
  clear hD hd1 hd2
  have bf : Bd 7 flat := Bd.of (by clear hd h0 h1 h2 h3; omega)
  (first | (refine ep_el (by walk_at "MY_INH") (pb_bd h0) ?_; generalize ep _ _ = z1; intro z2) | (refine and_el (pb_bd h0) ?_; intro z1 z2))
  (first | (refine ep_el (by walk_at "MY_INH") (pb_bd h1) ?_; generalize ep _ _ = z3; intro z4) | (refine and_el (pb_bd h1) ?_; intro z3 z4))
  (first | (refine ep_el (by walk_at "MY_INH") (pb_bd h2) ?_; generalize ep _ _ = z5; intro z6) | (refine and_el (pb_bd h2) ?_; intro z5 z6))
  (first | (refine ep_el (by walk_at "MY_INH") (pb_bd h3) ?_; generalize ep _ _ = z7; intro z8) | (refine and_el (pb_bd h3) ?_; intro z7 z8))
  clear h0 h1 h2 h3 hf
  have b1 := hH.list ml
  k_dflt (refine' enterCC3 [(Str.ofString "points", .ref al), (Str.ofString "flat", .int flat t0)] (fun y => if y = Str.ofString "flat" then some (.int flat t0) else if y = Str.ofString "points" then some (.ref al) else none) (fun _ => none) ?k1 ?k2 ?k3 ?k5 ?kK ?k6 ?k7 ?k8 ?k9 ?kB ?kD ?kM ?kC ?_ ?c2 ?c3 ?c4; walk_at "MY_ENTER3")
  k_steps
  refine Stop.mk ?_
  rename_i LL _ _ BB XX TT _ _ _ _ lF _ lf1 lB _ lf2 D1 _ _ _ _ _ _ D2 _ _ i9 _ _ _ _ _ _ _ _ oA FA NA dA
  refine comp_plain (k := 4) (F := fun i v _ => ∃ t, v = .int (ptAt (p0, p1, p2, p3) i).1 t) (Nat.le_of_ble_eq_true rfl) (by with_unfolding_all rfl) (by decide) (by rfl) (by decide) (by rfl) ?_
  k_steps
  refine Stop.mk ?_
  refine ⟨_, _, rfl, CSrc.list rfl (Fr.lst FA b1) hd.length, ?_, ?_⟩
  · intro i v C2 m2' h2 tk2 E2
    intro hik hP hns hm kp2
    have F2 := FA.keeps kp2
    have hX2 := cell_keeps (cell_of NA (o := oA) (by walk_at "MY_MEM") dA) kp2
    clear FA NA
    (refine ep_el (by walk_at "MY_INH") (pts_atT (q := (p0, p1, p2, p3)) hd (show vs[i]? = some v from by simpa using hP)) ?_; generalize ep _ _ = x9; generalize x9.1 = ap, x9.2.1 = np, x9.2.2.1 = tp1, x9.2.2.2 = tp2; clear x9; intro hz184)
    (first | (refine ep_el (by walk_at "MY_INH") (hz184) ?_; generalize ep _ _ = hy1; intro hm1) | (refine and_el (hz184) ?_; intro hy1 hm1))
    clear hz184
    subst hy1
    have bb := hH.tup hm1
    clear hP
    k_steps
    refine Stop.mk ?_
    exact ⟨[], _, _, rfl, fun _ _ e => e, fun p hp => (nomatch hp), _, rfl⟩
  · intro D6 h6 tk6 vs6
    intro kp6 hD0 hD6 hlen6 hF6
    (refine ep_el (by walk_at "MY_INH") (ints4tT hlen6 (ints_of hF6)) ?_; generalize ep _ _ = x9; generalize x9.1 = t60, x9.2.1 = t61, x9.2.2.1 = t62, x9.2.2.2 = t63; clear x9; intro hz185)
    subst hz185
    have F6 := FA.keeps kp6
    have N6 := news_add FA NA kp6 hD0 (o := listOf [Value.int p0.1 t60, Value.int p1.1 t61, Value.int p2.1 t62, Value.int p3.1 t63].toArray 4) hD6
    have l6 := allNe_new NA hD0
    simp only [AllNe, and_true] at l6
    clear FA NA hD6 hF6 hlen6
    k_steps
    refine Stop.mk ?_
    rename_i r1 _ _ e1 _ r2 _ _ e2 _ x1 ux1 _ _ ex1 bx1 _ _ r3 _ _ e3 _ r4 _ _ e4 _ y1 uy1 _ _ ey1 by1 _ _ _ _ _ _ _ _ _ oA FA NA dA
    refine comp_plain (k := 4) (F := fun i v _ => ∃ t, v = .int (ptAt (p0, p1, p2, p3) i).2 t) (Nat.le_of_ble_eq_true rfl) (by with_unfolding_all rfl) (by decide) (by rfl) (by decide) (by rfl) ?_
    k_steps
    refine Stop.mk ?_
    refine ⟨_, _, rfl, CSrc.list rfl (Fr.lst FA b1) hd.length, ?_, ?_⟩
    · intro i v C2 m2' h2 tk2 E2
      intro hik hP hns hm kp2
      have F2 := FA.keeps kp2
      have hX2 := cell_keeps (cell_of NA (o := oA) (by walk_at "MY_MEM") dA) kp2
      clear FA NA
      (refine ep_el (by walk_at "MY_INH") (pts_atT (q := (p0, p1, p2, p3)) hd (show vs[i]? = some v from by simpa using hP)) ?_; generalize ep _ _ = x9; generalize x9.1 = ap, x9.2.1 = np, x9.2.2.1 = tp1, x9.2.2.2 = tp2; clear x9; intro hz186)
      (first | (refine ep_el (by walk_at "MY_INH") (hz186) ?_; generalize ep _ _ = hy1; intro hm1) | (refine and_el (hz186) ?_; intro hy1 hm1))
      clear hz186
      subst hy1
      have bb := hH.tup hm1
      clear hP
      k_steps
      refine Stop.mk ?_
      exact ⟨[], _, _, rfl, fun _ _ e => e, fun p hp => (nomatch hp), _, rfl⟩
    · intro D6 h6 tk6 vs6
      intro kp6 hD0 hD6 hlen6 hF6
      (refine ep_el (by walk_at "MY_INH") (ints4tT hlen6 (ints_of hF6)) ?_; generalize ep _ _ = x9; generalize x9.1 = t60, x9.2.1 = t61, x9.2.2.1 = t62, x9.2.2.2 = t63; clear x9; intro hz187)
      subst hz187
      have F6 := FA.keeps kp6
      have N6 := news_add FA NA kp6 hD0 (o := listOf [Value.int p0.2 t60, Value.int p1.2 t61, Value.int p2.2 t62, Value.int p3.2 t63].toArray 4) hD6
      have l6 := allNe_new NA hD0
      simp only [AllNe, and_true] at l6
      clear FA NA hD6 hF6 hlen6
      k_steps
      refine Stop.mk ?_
      rename_i r5 _ _ e5 _ r6 _ _ e6 _ x2 ux2 _ _ ex2 bx2 _ _ r7 _ _ e7 _ r8 _ _ e8 _ y2 uy2 _ _ ey2 by2 _ _ _ _ _ _ oM FM NM dM
      have hx1 : farOf p0.1 p1.1 p2.1 p3.1 = x1 := by rw [ex1, e1, e2]; rfl
      have hx2 : farOf p0.2 p1.2 p2.2 p3.2 = x2 := by rw [ex2, e5, e6]; rfl
      have hy1 : bentOf p0.1 p1.1 p2.1 p3.1 = y1 := by rw [ey1, e3, e4]; rfl
      have hy2 : bentOf p0.2 p1.2 p2.2 p3.2 = y2 := by rw [ey2, e7, e8]; rfl
      have bx1' : Bd 40 x1 := bx1.le (by decide)
      have bx2' : Bd 40 x2 := bx2.le (by decide)
      have by1'' : Bd 34 y1 := by1.le (by decide)
      have by2'' : Bd 34 y2 := by2.le (by decide)
      have hlF : @LT.lt Nat _ (LL + 1 + 1) lF := lf1.1
      have hlB : @LT.lt Nat _ (LL + 1 + 1) lB := lf2.2.1
      refine ksw_while (σ := WS) (WS.led lB (LL + 1 + 1) (listOf [Value.int y1 uy1, Value.int y2 uy2].toArray 2)) (fun c => [(Str.ofString "far", .ref c.a)]) (WS.facts (LL + 1 + 1)) [] (WS.good (p0, p1, p2, p3)) (fun c => 10 - c.j) ⟨0, lF, x1, x2, ux1, ux2, _, 2, oM⟩ FM (ws_sub NM (by walk_at "MY_MEM") (by walk_at "MY_MEM") (by walk_at "MY_MEM")) ⟨dM, Nat.ne_of_gt hlF⟩ (fun p hp => by rw [List.mem_singleton.mp hp]; rfl) ⟨Nat.zero_le _, by show (farOf _ _ _ _, farOf _ _ _ _) = _; rw [hx1, hx2], bx1', bx2'⟩ ?_
      clear FM NM dM bx1 bx2 by1 by2 e1 e2 e3 e4 e5 e6 e7 e8 ex1 ex2 ey1 ey2 dA l6 hD0 kp6 lf1 lf2 z1 z2 z3 z4 z5 z6 z7 z8 hx1 hx2 bx1' bx2' hd ml b1
      intro c u hh tk9
      intro k1 g kF kN
      (first | (refine ep_el (by walk_at "MY_INH") (k1) ?_; generalize ep _ _ = k3; intro k2) | (refine and_el (k1) ?_; intro k3 k2))
      clear k1
      (first | (refine ep_el (by walk_at "MY_INH") (g) ?_; generalize ep _ _ = g1; intro hz188) | (refine and_el (g) ?_; intro g1 hz188))
      clear g
      (first | (refine ep_el (by walk_at "MY_INH") (hz188) ?_; generalize ep _ _ = g2; intro hz189) | (refine and_el (hz188) ?_; intro g2 hz189))
      clear hz188
      (first | (refine ep_el (by walk_at "MY_INH") (hz189) ?_; generalize ep _ _ = g3; intro g4) | (refine and_el (hz189) ?_; intro g3 g4))
      clear hz189
      dsimp only [WS.led] at kN
      k_steps
      · refine Stop.mk ?_
        rename_i hj10
        refine comp_plain (k := 2) (F := fun i v _ => ∃ t, v = .int (twoAt c.x c.y i * twoAt c.x c.y i) t) (Nat.le_of_ble_eq_true rfl) (by with_unfolding_all rfl) (by decide) (by rfl) (by decide) (by rfl) ?_
        k_steps
        refine Stop.mk ?_
        refine ⟨_, _, rfl, CSrc.list rfl (News.isList kN (by walk_at "MY_MEM")) rfl, ?_, ?_⟩
        · intro i v C2 m2' h2 tk2 E2
          intro hik hP hns hm kp2
          clear kF kN
          (first | (refine ep_el (by walk_at "MY_INH") (two_at hP) ?_; generalize ep _ _ = tz; intro hz190) | (refine and_el (two_at hP) ?_; intro tz hz190))
          subst hz190
          have bz := two_bd g3 g4 i
          clear hP
          k_steps
          refine Stop.mk ?_
          exact ⟨[], _, _, rfl, fun _ _ e => e, fun p hp => (nomatch hp), _, rfl⟩
        · intro D6 h6 tk6 vs6
          intro kp6 hD0 hD6 hlen6 hF6
          (refine ep_el (by walk_at "MY_INH") (ints2T hlen6 (ints_of hF6)) ?_; generalize ep _ _ = x9; generalize x9.1 = t60, x9.2 = t61; clear x9; intro hz191)
          subst hz191
          have F6 := kF.keeps kp6
          have N6 := kN.grown kp6
          have hl6 : h6.IsList D6 [Value.int (twoAt c.x c.y 0 * twoAt c.x c.y 0) t60, Value.int (twoAt c.x c.y 1 * twoAt c.x c.y 1) t61].toArray := ⟨_, hD6, rfl, _, rfl⟩
          have hi6 : IntsAre [Value.int (twoAt c.x c.y 0 * twoAt c.x c.y 0) t60, Value.int (twoAt c.x c.y 1 * twoAt c.x c.y 1) t61] [c.x * c.x, c.y * c.y] := .cons _ _ (.cons _ _ .nil)
          clear kF kN hD6 hF6 hlen6 kp6 hD0
          have hp4 := pow4 (k := c.j + 1) (by clear g2; omega)
          have hp5 := hp4.1
          rw [show (4 : Int) ^ (c.j + 1) = 4 ^ ((c.j : Int) + 1).toNat from rfl] at hp4
          k_steps
          · refine Stop.mk ?_
            rename_i oM' FA NA dA'
            refine assign_plain (k := 2) (F := fun i v _ => ∃ t, v = .int (3 * Int.fdiv (twoAt y1 y2 i) (4 ^ (c.j + 1)) + 8) t) (Nat.le_of_ble_eq_true rfl) (by with_unfolding_all rfl) (by rfl) (by rfl) (by with_unfolding_all rfl) (by decide) (by rfl) (by decide) (by rfl) ?_
            k_steps
            refine Stop.mk ?_
            refine ⟨_, _, rfl, CSrc.list rfl (News.isList NA (by walk_at "MY_MEM")) rfl, ?_, _, _, _, FA, NA, ?_⟩
            · intro i v C2 m2' h2 tk2 E2
              intro hik hP hns hm kp2
              have hX2 := cell_keeps (cell_of NA (o := oM') (by walk_at "MY_MEM") dA') kp2
              clear FA NA
              (first | (refine ep_el (by walk_at "MY_INH") (two_at hP) ?_; generalize ep _ _ = tz; intro hz192) | (refine and_el (two_at hP) ?_; intro tz hz192))
              subst hz192
              clear hP
              k_steps
              refine Stop.mk ?_
              exact ⟨[], _, _, rfl, fun _ _ e => e, fun p hp => (nomatch hp), _, rfl⟩
            · intro D7 h7 tk7 vs7
              intro F7 N7 l7 hlen7 hF7
              (refine ep_el (by walk_at "MY_INH") (ints2T hlen7 (ints_ofN hF7)) ?_; generalize ep _ _ = x9; generalize x9.1 = t70, x9.2 = t71; clear x9; intro hz193)
              subst hz193
              simp only [AllNe, and_true] at l7
              clear FA NA hF7 hlen7
              k_steps
              refine Stop.mk ?_
              exact ksw_end ⟨c.j + 1, D7, 3 * Int.fdiv y1 (4 ^ (c.j + 1)) + 8, 3 * Int.fdiv y2 (4 ^ (c.j + 1)) + 8, t70, t71, _, 2, oM'⟩ F7 N7 (ws_in (by walk_at "MY_MEM") (by walk_at "MY_MEM") (by walk_at "MY_MEM")) ⟨dA', Ne.symm l7.2.2⟩ (fun p hp => by rw [List.mem_singleton.mp hp]; rfl) far_map (ws_next g1 hj10 hy1 hy2 by1'' by2'' hp5) (ws_dec hj10)
          · rename_i hle
            (try dsimp only); (try k_unfold); (try dsimp only)
            refine con_end hret (by assumption) (by assumption) ⟨c.j, _, g1, rfl, .inr ?_⟩
            rw [g2]
            exact Int.not_lt.mp hle
      · rename_i hj10
        (try dsimp only); (try k_unfold); (try dsimp only)
        refine con_end hret (by assumption) (by assumption) ⟨c.j, _, g1, rfl, .inl (Nat.le_antisymm g1 (Int.ofNat_le.mp (Int.not_lt.mp hj10)))⟩

theorem off_most : True := by
  k_with "OFF:most" => skip
  trivial
end
section
theorem on_f17 : True := by
  w_top off
  trivial
def TurnEnd {σ : Type} (h₀ : Heap) (L : Addr) (s : Shared) (Led : σ → List (Addr × Obj)) (ps : σ → List (Str × Value)) (stored : List Str) (m₀ : Str → Option Value) (P : σ → Prop) (I : Addr) (oI : Obj) (s₂ : Shared) : Prop :=
  ∃ (c' : σ) (h' : Heap) (tk : Nat) (m' : Str → Option Value) (news' : List (Addr × Obj)), s₂ = { s with heap := h', toks := tk } ∧ Fr h₀ L h' m' ∧ News h₀ L h' news' ∧ (I, oI) ∈ news' ∧ (∀ p ∈ Led c', p ∈ news') ∧ (∀ p ∈ ps c', m' p.1 = some p.2) ∧ (∀ z, (∀ p ∈ ps c', z ≠ p.1) → stored.contains z = false → m' z = m₀ z) ∧ P c'
structure TurnPost {σ : Type} (h₀ : Heap) (L : Addr) (s : Shared) (Led : σ → List (Addr × Obj)) (ps : σ → List (Str × Value)) (stored : List Str) (m₀ : Str → Option Value) (P : σ → Prop) (I : Addr) (oI : Obj) (Q : Flow → Shared → Prop) (f : Flow) (s₂ : Shared) : Prop where
  run : match f with
    | .ret v => Q (.ret v) s₂
    | .brk => Q .next s₂
    | _ => TurnEnd h₀ L s Led ps stored m₀ P I oI s₂
section
variable {σ : Type} {h₀ : Heap} {L : Addr} {s : Shared} {Led : σ → List (Addr × Obj)} {ps : σ → List (Str × Value)} {stored : List Str} {m₀ : Str → Option Value} {P : σ → Prop} {I : Addr} {oI : Obj} {Q : Flow → Shared → Prop} {s₂ : Shared}
theorem TurnPost.next (h : Stop (TurnEnd h₀ L s Led ps stored m₀ P I oI s₂)) : TurnPost h₀ L s Led ps stored m₀ P I oI Q .next s₂ := ⟨h.run⟩
theorem TurnPost.cont (h : Stop (TurnEnd h₀ L s Led ps stored m₀ P I oI s₂)) : TurnPost h₀ L s Led ps stored m₀ P I oI Q .cont s₂ := ⟨h.run⟩
theorem TurnPost.ret {v : Value} (h : Q (.ret v) s₂) : TurnPost h₀ L s Led ps stored m₀ P I oI Q (.ret v) s₂ := ⟨h⟩
theorem turn_end {h' : Heap} {tk : Nat} {m' : Str → Option Value} {news' : List (Addr × Obj)} (c' : σ) (F : Fr h₀ L h' m') (N : News h₀ L h' news') (hI : (I, oI) ∈ news') (hn : ∀ p ∈ Led c', p ∈ news') (hk : ∀ p ∈ ps c', m' p.1 = some p.2)
    (hr : ∀ z, (∀ p ∈ ps c', z ≠ p.1) → stored.contains z = false → m' z = m₀ z) (hp : P c') : TurnEnd h₀ L s Led ps stored m₀ P I oI { s with heap := h', toks := tk } := ⟨c', h', tk, m', news', rfl, F, N, hI, hn, hk, hr, hp⟩
end
section
variable {prog : Program} {w : World} {A : Around} {E : Value → Shared → Prop} {s : Shared} {env : Env} {h₀ : Heap} {target : Expr} {body : List Stmt} {Q : Flow → Shared → Prop}
/-- a for over a list that the turns leave as it is -/
theorem turn_list {σ : Type} {l : Addr} {vs : List Value} {nn : Nat} {m₀ : Str → Option Value} (Led : σ → List (Addr × Obj)) (ps : σ → List (Str × Value)) (stored : List Str) (P : Nat → σ → Prop) (c₀ : σ)
    (hh : A.handled = none) (hl : s.heap.get? l = some (listOf vs.toArray nn)) (hlL : l ≠ env.locals) (F : Fr h₀ env.locals s.heap m₀) (N : News h₀ env.locals s.heap (Led c₀)) (hk : ∀ p ∈ ps c₀, m₀ p.1 = some p.2) (hp : P 0 c₀)
    (hit : ∀ i c, P i c → ∀ p ∈ Led c, p.2.cls ≠ .type "list_iterator" ∨ (@Ne Nat p.1 s.heap.objs.size))
    (hst : ∀ i c h m, P i c → Fr h₀ env.locals h m → News h₀ env.locals h (Led c) → h.get? l = some (listOf vs.toArray nn))
    (turn : ∀ i v (c : σ) (u : Str → Option Value) h tk I oI, vs[i]? = some v → P i c → oI.cls = .type "list_iterator" → Fr h₀ env.locals h (kstB (fun z => if stored.contains z then u z else m₀ z) (ps c)) → News h₀ env.locals h ((I, oI) :: Led c) →
      wpAny (model prog w) A (assign target env v) (fun _ s₃ => wpAny (model prog w) A (execs body env) (TurnPost h₀ env.locals { s with heap := h, toks := tk } Led ps stored m₀ (P (i + 1)) I oI Q) E s₃) E { s with heap := h, toks := tk })
    (done : ∀ (c : σ) (u : Str → Option Value) h tk, P vs.length c → Fr h₀ env.locals h (kstB (fun z => if stored.contains z then u z else m₀ z) (ps c)) → News h₀ env.locals h (Led c) → Q .next { s with heap := h, toks := tk }) :
    wpAny (model prog w) A (pyIter (.ref l)) (fun it s₂ => TurnsAt prog w A h₀ env target body Q E it s₂) E s := by
  have hls : s.heap.IsList l vs.toArray := ⟨_, hl, rfl, nn, rfl⟩
  have hlt : @LT.lt Nat _ l s.heap.objs.size := Heap.lt_size hl
  have hne : (@Ne Nat l s.heap.objs.size) := Nat.ne_of_lt hlt
  refine wpAny_pyIter_list hls ?_
  have W := Walks.list (prog := prog) (w := w) hh s.heap.objs.size l hne vs.toArray
  have hlen : vs.toArray.size = vs.length := by simp
  rw [hlen] at W
  refine ⟨s.heap.objs.size, _, _, vs.length, _, _, _, m₀, Led c₀, (fun i m nx => ∃ c, nx = Led c ∧ (∀ p ∈ ps c, m p.1 = some p.2) ∧ (∀ z, (∀ p ∈ ps c, z ≠ p.1) → stored.contains z = false → m z = m₀ z) ∧ P i c), rfl,
    KTurns.ofWalks W (fun i v s Q E st hQ => letGo_listiter st.1 hQ), ?_, ?_, ?_, ⟨⟨_, Heap.get?_push_size _ rfl, rfl, rfl⟩, hls.at fun o e => Heap.get?_push_of_some _ e⟩, F.push _, (fun p hp => ⟨Heap.get?_push_of_some _ (N p hp).1, (N p hp).2⟩), ⟨c₀, rfl, hk, fun _ _ _ => rfl, hp⟩, ?_, ?_⟩
  · intro hm
    rcases List.mem_cons.mp hm with e | hm
    · exact absurd F.ns.lt (e ▸ Nat.lt_irrefl _)
    · exact hlL (List.mem_singleton.mp hm).symm
  · intro b hb
    rw [List.mem_singleton.mp hb]
    exact next_is_new F
  · intro p hp hI
    exact absurd (Heap.lt_size (N p hp).1) ((List.mem_singleton.mp hI) ▸ Nat.lt_irrefl _)
  · rintro i v m₁ nx h tk own hin hP ⟨c, rfl, h1, h2, hp'⟩ hoff hown hget hfp hstt F₁ N₁
    have hP' : vs[i]? = some v := by simpa using hP
    have hI0 : h₀.get? s.heap.objs.size = none := next_is_new F
    obtain ⟨⟨oI, hoI, hcI, _⟩, _⟩ := id hstt
    have hIown : (s.heap.objs.size, oI) ∈ own := hfp _ (List.mem_cons.mpr (.inl rfl)) hI0 _ hoI
    have Nc : News h₀ env.locals h (Led c) := fun p hp => N₁ p (List.mem_append_right _ hp)
    have hlh : h.get? l = some (listOf vs.toArray nn) := hst i c h m₁ hp' F₁ Nc
    have N₂ : News h₀ env.locals h ((s.heap.objs.size, oI) :: Led c) := fun p hp => (List.mem_cons.mp hp).elim (fun e => e ▸ N₁ _ (List.mem_append_left _ hIown)) (Nc p)
    refine wpAny_mono (turn i v c m₁ h tk s.heap.objs.size oI hP' hp' hcI (ksw_fr h1 h2 F₁) N₂) (fun _ s₃ h₃ => wpAny_mono h₃ (fun f s₄ p => ?_) fun _ _ e => e) fun _ _ e => e
    have fin : TurnEnd h₀ env.locals { s with heap := h, toks := tk } Led ps stored m₀ (P (i + 1)) s.heap.objs.size oI s₄ →
        LoopStepU h₀ env.locals [s.heap.objs.size] own (fun m nx => ∃ c, nx = Led c ∧ (∀ p ∈ ps c, m p.1 = some p.2) ∧ (∀ z, (∀ p ∈ ps c, z ≠ p.1) → stored.contains z = false → m z = m₀ z) ∧ P (i + 1) c) { s with heap := h, toks := tk } .next s₄ := by
      rintro ⟨c', h', tk', m', news', e, F', N', hI', hn, hk', hr, hP2⟩
      have Nc' : News h₀ env.locals h' (Led c') := fun p hp => N' p (hn p hp)
      have hIh : h'.get? s.heap.objs.size = some oI := (N' _ hI').1
      refine ⟨rfl, h', tk', m', Led c', e, F', fun p hp => ?_, fun p hp hq => ?_, c', rfl, hk', hr, hP2⟩
      · rcases List.mem_append.mp hp with hp | hp
        · rcases List.mem_cons.mp (hown p hp) with h5 | h5
          · have h6 := hget p hp
            rw [h5, hoI] at h6
            have h7 : p = (s.heap.objs.size, oI) := Prod.ext h5 (Option.some.inj h6).symm
            rw [h7]
            exact N' _ hI'
          · have h5 := List.mem_singleton.mp h5
            have h6 := hget p hp
            rw [h5, hlh] at h6
            have h7 : p = (l, listOf vs.toArray nn) := Prod.ext h5 (Option.some.inj h6).symm
            refine ⟨?_, (N₁ p (List.mem_append_left _ hp)).2⟩
            rw [h7]
            exact hst (i + 1) c' h' m' hP2 F' Nc'
        · exact Nc' p hp
      · have h5 := (Nc' p hp).1
        rcases hit (i + 1) c' hP2 p hp with h6 | h6
        · rw [List.mem_singleton.mp hq, hIh] at h5
          exact h6 ((Option.some.inj h5) ▸ hcI)
        · exact h6 (List.mem_singleton.mp hq)
    cases f with
    | ret v => exact .ret p.run
    | brk => exact .brk p.run
    | next => exact .next (fin p.run)
    | cont => exact .cont (fin p.run)
  · rintro h' tk m' news' F' N' _ ⟨c, rfl, h1, h2, hp'⟩
    exact done c m' h' tk hp' (ksw_fr h1 h2 F') N'
end
/-- tuples and lists alone -/
def Seqs (tl : List (Addr × Obj)) : List (Addr × Obj) := tl.filter fun p => match p.2.cls with | .type "tuple" => true | .type "list" => true | _ => false
theorem seqs_sub {tl : List (Addr × Obj)} : ∀ p ∈ Seqs tl, p ∈ tl := fun _ hp => (List.mem_filter.mp hp).1
theorem seqs_cls {tl : List (Addr × Obj)} : ∀ p ∈ Seqs tl, p.2.cls ≠ .type "list_iterator" := fun p hp e => by
  have h := (List.mem_filter.mp hp).2
  rw [e] at h
  simp at h
theorem seqs_app {a b : List (Addr × Obj)} : Seqs (a ++ b) = Seqs a ++ Seqs b := List.filter_append ..
mutual
theorem DatIn.seqs {tl : List (Addr × Obj)} : ∀ {v : Value} {d : Dat}, DatIn tl v d → DatIn (Seqs tl) v d
  | _, _, .none => .none
  | _, _, .bool b => .bool b
  | _, _, .int i t => .int i t
  | _, _, .str x t => .str x t
  | _, _, .bytes b t => .bytes b t
  | _, _, .tuple h r => .tuple (List.mem_filter.mpr ⟨h, rfl⟩) (DatAll.seqs r)
  | _, _, .list h r => .list (List.mem_filter.mpr ⟨h, rfl⟩) (DatAll.seqs r)
theorem DatAll.seqs {tl : List (Addr × Obj)} : ∀ {vs : List Value} {ds : List Dat}, DatAll tl vs ds → DatAll (Seqs tl) vs ds
  | _, _, .nil => .nil
  | _, _, .cons h r => .cons (DatIn.seqs h) (DatAll.seqs r)
end
theorem DatIn.seqsL {tl big : List (Addr × Obj)} {v : Value} {d : Dat} (h : DatIn (tl ++ big) v d) : DatIn (Seqs tl ++ big) v d :=
  (DatIn.seqs h).mono fun q hq => by
    rw [seqs_app] at hq
    exact (List.mem_append.mp hq).elim (fun h => List.mem_append.mpr (.inl h)) fun h => List.mem_append.mpr (.inr (seqs_sub _ h))
theorem ne_locals {h₀ h : Heap} {L a : Addr} {m : Str → Option Value} {x : Array Value} {n : Nat} (F : Fr h₀ L h m) (e : h.get? a = some (listOf x n)) : a ≠ L := fun e2 => by
  obtain ⟨o, es, ep, ho, hd, _⟩ := F.ns
  rw [← e2, e] at ho
  rw [← Option.some.inj ho] at hd
  cases hd
/-- a contract in one world -/
def ConW (w : World) (f : Addr) (lv : Nat) (ins : List Dat) (Out : List (Addr × Obj) → List (Addr × Obj) → Value → Prop) : Prop :=
  ∀ (mean : ExcName → Option Value) (mg mb : Str → Option Value) (dp un : Nat) (gd : Option (List Code)) (cn : Str) (cs : Scope) (a : Addr) (ccd : Value) (cl : List (Str × Addr)) (outer : List Env) (A₀ : Around) (base h₀ : Heap) (L : Addr) (m : Str → Option Value) (olds : List (Addr × Obj)) (s : Shared) (vs : List Value) (Q E : Value → Shared → Prop),
    Below A₀ base outer h₀ → Fr h₀ L s.heap m → (Mine.hd.heap_39 w.params).In h₀ → Top Mine.hd.view_39 loose0 mean mg mb h₀ → cs.kind = .function → Has s.heap olds → DatAll olds vs ins → dp + lv < recursionLimit → un + 8 * lv < cLine →
    (∀ r tl h' tk', (∀ b o, s.heap.get? b = some o → h'.get? b = some o) → (∀ p ∈ tl, h'.get? p.1 = some p.2 ∧ s.heap.get? p.1 = none) → Out tl olds r → Q r { s with heap := h', toks := tk' }) →
    wpAny (model PySem.Challenge.rw_nt0495_01.row.prog w) (ktrTop dp un gd cn cs L a ccd cl outer) (call (.ref f) vs) Q E s
theorem conW_useG {w : World} {f : Addr} {lv : Nat} {ins : List Dat} {Out : List (Addr × Obj) → List (Addr × Obj) → Value → Prop} (C : ConW w f lv ins Out) {big : List (Addr × Obj)}
    {mean : ExcName → Option Value} {mg mb : Str → Option Value} {dp un : Nat} {gd : Option (List Code)} {cn : Str} {cs : Scope} {a : Addr} {ccd : Value} {cl : List (Str × Addr)} {outer : List Env} {A₀ : Around} {base h₀ : Heap} {L : Addr} {m : Str → Option Value} {news : List (Addr × Obj)} {s : Shared} {vs : List Value} {Q E : Value → Shared → Prop}
    (B : Below A₀ base outer h₀) (F : Fr h₀ L s.heap m) (X : (Mine.hd.heap_39 w.params).In h₀) (N : News h₀ L s.heap news) (T : Top Mine.hd.view_39 loose0 mean mg mb h₀) (hk : cs.kind = .function) (hb : Has s.heap big) (D : DatAll big vs ins) (hd : dp + lv < recursionLimit) (hu : un + 8 * lv < cLine)
    (ret : ∀ r tl h' tk', Fr h₀ L h' m → News h₀ L h' (tl ++ news) → (∀ q ∈ news, ∀ p ∈ tl, p.1 ≠ q.1) → Out tl big r → Q r { s with heap := h', toks := tk' }) :
    wpAny (model PySem.Challenge.rw_nt0495_01.row.prog w) (ktrTop dp un gd cn cs L a ccd cl outer) (call (.ref f) vs) Q E s := by
  refine C mean mg mb dp un gd cn cs a ccd cl outer A₀ base h₀ L m big s vs Q E B F X T hk hb D hd hu fun r tl h' tk' hkeep htl ho => ?_
  refine ret r tl h' tk' (F.keeps hkeep) (news_tl F N hkeep htl) (fun q hq p hp e => ?_) ho
  have h1 := (htl p hp).2
  have h2 := (N q hq).1
  rw [e, h2] at h1
  exact nomatch h1

theorem off_loops : True := by
  k_with "OFF:loops" => skip
  trivial
end
section
theorem on_f18 : True := by
  w_top off
  k_with "MY:MY_EPS" => ((fail_if_success (k_extra "OFF:flatten")); skip)
  trivial
-- EPS
inductive Row where
  | m (p : Pt)
  | l (p : Pt)
  | c (p q r : Pt)
  | z
def rowD : Row → Dat
  | .m p => .tuple [.str (Str.ofString "m"), .int p.1, .int p.2]
  | .l p => .tuple [.str (Str.ofString "l"), .int p.1, .int p.2]
  | .c p q r => .tuple [.str (Str.ofString "c"), .int p.1, .int p.2, .int q.1, .int q.2, .int r.1, .int r.2]
  | .z => .tuple [.str (Str.ofString "z")]
/-- what stands for the rows once they are flat -/
def flatFrom (f : Int) : Option Pt → List Row → List Row
  | _, [] => []
  | _, .m p :: t => .m p :: flatFrom f (some p) t
  | _, .l p :: t => .l p :: flatFrom f (some p) t
  | h, .c p q r :: t => (ends f 10 (h.getD (0, 0), p, q, r)).map .l ++ flatFrom f (some r) t
  | h, .z :: t => .z :: flatFrom f h t
def RowsOk : Option Pt → List Row → Prop
  | _, [] => True
  | _, .m p :: t => RowsOk (some p) t
  | _, .l p :: t => RowsOk (some p) t
  | h, .c p q r :: t => (∃ a, h = some a ∧ QB 1000000 (a, p, q, r)) ∧ RowsOk (some r) t
  | h, .z :: t => RowsOk h t
def hereD : Option Pt → Dat
  | none => .none
  | some p => ptD p
structure FS where
  fs : List Value
  n : Nat
  T : List (Addr × Obj)
  out : List Row
  hv : Value
  here : Option Pt
def FS.led (lf : Nat) (c : FS) : List (Addr × Obj) := (lf, listOf c.fs.toArray c.n) :: c.T
structure FS.good (f : Int) (olds : List (Addr × Obj)) (lf : Nat) (total rest : List Row) (c : FS) : Prop where
  data : DatAll (c.T ++ olds) c.fs (c.out.map rowD)
  hereIn : DatIn (c.T ++ olds) c.hv (hereD c.here)
  off : ∀ p ∈ c.T, (@Ne Nat p.1 lf)
  cls : ∀ p ∈ c.T, p.2.cls ≠ .type "list_iterator"
  eq : c.out ++ flatFrom f c.here rest = total
  ok : RowsOk c.here rest
theorem ne_iter {h₀ h : Heap} {L I lf : Addr} {oI : Obj} {a : Array Value} {n : Nat} {T : List (Addr × Obj)} (N : News h₀ L h ((I, oI) :: (lf, listOf a n) :: T)) (hc : oI.cls = .type "list_iterator") : (@Ne Nat I lf) := fun e => by
  have h1 := (N (I, oI) (List.Mem.head _)).1
  have h2 := (N (lf, listOf a n) (List.Mem.tail _ (List.Mem.head _))).1
  have h1' : h.get? lf = some oI := e ▸ h1
  rw [h2] at h1'
  rw [← Option.some.inj h1'] at hc
  simp at hc
theorem stored_ne {z : Str} : ∀ {l : List Str}, l.contains z = false → ∀ x ∈ l, z ≠ x
  | [], _, _, hx => nomatch hx
  | y :: l, h, x, hx => by
    rw [List.contains_cons, Bool.or_eq_false_iff, beq_eq_false_iff_ne] at h
    rcases List.mem_cons.mp hx with rfl | hx
    · exact h.1
    · exact stored_ne h.2 x hx
theorem on_f19 : True := by
  k_with "MY:exec For Name Name cons nil" => ((fail_if_success (k_extra "OFF:flatten")); (k_here; (with_unfolding_all refine' For_turns (by rename Fr _ _ _ _ => lF'; exact lF') ?_; k_whole)))
  k_with "MY:exec For Tuple Call cons nil" => ((fail_if_success (k_extra "OFF:flatten")); (k_here; (with_unfolding_all refine' For_turns (by rename Fr _ _ _ _ => lF'; exact lF') ?_; k_whole)))
  k_with "MY:pyIter ref" => ((fail_if_success (k_extra "OFF:flatten")); (refine stop_here ?_))
  k_with "MY:TurnPost" => ((fail_if_success (k_extra "OFF:flatten")); (first | refine TurnPost.next ?_ | refine TurnPost.cont ?_ | refine TurnPost.ret ?_))
  k_with "MY:call ref" => ((fail_if_success (k_extra "OFF:flatten")); (k_here; (with_reducible show wpAny _ _ (call (Value.ref 201) _) _ _ _); refine stop_here ?_))
  k_with "MY:call ref" => ((fail_if_success (k_extra "OFF:flatten")); (k_here; (with_reducible show wpAny _ _ (call (Value.ref 236) _) _ _ _); refine stop_here ?_))
  trivial
theorem inh_fs : Nonempty FS := ⟨⟨[], 0, [], [], .none, none⟩⟩
theorem on_f20 : True := by
  k_with "MY:MY_INH" => ((fail_if_success (k_extra "OFF:flatten")); (exact inh_fs))
  trivial
theorem inh_row : Nonempty Row := ⟨.z⟩
theorem on_f21 : True := by
  k_with "MY:MY_INH" => ((fail_if_success (k_extra "OFF:flatten")); (exact inh_row))
  trivial
theorem eq_strG {prog : Program} {w : World} {A : Around} {E : Value → Shared → Prop} {s : Shared} {a b : Str} {t u : Tok} {Q : Value → Shared → Prop} (e : (a == b) = false) (h : Q (.bool false) s) : wpAny (model prog w) A (compareOp .Eq (.str a t) (.str b u)) Q E s :=
  eq_str (by rw [e]; exact h)
theorem ne_strG {prog : Program} {w : World} {A : Around} {E : Value → Shared → Prop} {s : Shared} {a b : Str} {t u : Tok} {Q : Value → Shared → Prop} (e : (a == b) = false) (h : Q (.bool true) s) : wpAny (model prog w) A (compareOp .NotEq (.str a t) (.str b u)) Q E s :=
  ne_str (by unfold bne; rw [e]; exact h)
theorem row_at {olds : List (Addr × Obj)} {vs : List Value} {rows : List Row} {j : Nat} {v : Value} {r : Row} (hd : DatAll olds vs (rows.map rowD)) (hv : vs[j]? = some v) (hr : rows[j]? = some r) : DatIn olds v (rowD r) := by
  have hj := (List.getElem?_eq_some_iff.mp hr).1
  obtain ⟨v', hv', hd'⟩ := hd.get (k := j) (by rw [List.length_map]; exact hj)
  have ev : v' = v := by rw [hv] at hv'; exact (Option.some.inj hv').symm
  subst ev
  rw [List.getElem_map, (List.getElem?_eq_some_iff.mp hr).2] at hd'
  exact hd'
theorem row_is {olds : List (Addr × Obj)} {vs : List Value} {rows : List Row} {j : Nat} {v : Value} (hd : DatAll olds vs (rows.map rowD)) (hv : vs[j]? = some v) : ∃ row, rows[j]? = some row := by
  have h1 := (List.getElem?_eq_some_iff.mp hv).1
  have h2 := hd.length
  rw [List.length_map] at h2
  exact ⟨_, List.getElem?_eq_getElem (h2 ▸ h1)⟩
theorem drop_at {rows : List Row} {i : Nat} {row : Row} (h : rows[i]? = some row) : rows.drop i = row :: rows.drop (i + 1) := by
  obtain ⟨h1, h2⟩ := List.getElem?_eq_some_iff.mp h
  rw [List.drop_eq_getElem_cons h1, h2]
/-- a row that is a point's -/
structure RowP (f : Int) (row : Row) (s : Str) (p : Pt) : Prop where
  dat : rowD row = .tuple [.str s, .int p.1, .int p.2]
  noC : (s == Str.ofString "c") = false
  noZ : (s == Str.ofString "z") = false
  flat : ∀ h t, flatFrom f h (row :: t) = row :: flatFrom f (some p) t
  ok : ∀ h t, RowsOk h (row :: t) → RowsOk (some p) t
theorem row_cases (f : Int) (row : Row) : (∃ x : Str × Pt, RowP f row x.1 x.2) ∨ (∃ x : Pt × Pt × Pt, row = .c x.1 x.2.1 x.2.2) ∨ row = .z := by
  cases row with
  | m p => exact .inl ⟨(Str.ofString "m", p), ⟨rfl, show (Str.ofString "m" == _) = false by decide +kernel, show (Str.ofString "m" == _) = false by decide +kernel, fun _ _ => rfl, fun _ _ h => h⟩⟩
  | l p => exact .inl ⟨(Str.ofString "l", p), ⟨rfl, show (Str.ofString "l" == _) = false by decide +kernel, show (Str.ofString "l" == _) = false by decide +kernel, fun _ _ => rfl, fun _ _ h => h⟩⟩
  | c p q r => exact .inr (.inl ⟨(p, q, r), rfl⟩)
  | z => exact .inr (.inr rfl)
theorem row3T {olds : List (Addr × Obj)} {v : Value} {s : Str} {q : Pt} (h : DatIn olds v (.tuple [.str s, .int q.1, .int q.2])) : ∃ x : Addr × Nat × Tok × Tok × Tok, v = .ref x.1 ∧ (x.1, tupO [Value.str s x.2.2.1, Value.int q.1 x.2.2.2.1, Value.int q.2 x.2.2.2.2] x.2.1) ∈ olds := by
  obtain ⟨ar, vr, nr, rfl, mr, h9⟩ := tup_of h
  obtain ⟨x1, x2, x3, rfl, h1, h2, h3⟩ := all3 h9
  obtain ⟨t1, rfl⟩ := str_of h1
  obtain ⟨t2, rfl⟩ := int_of h2
  obtain ⟨t3, rfl⟩ := int_of h3
  exact ⟨⟨ar, nr, t1, t2, t3⟩, rfl, mr⟩
theorem row1T {olds : List (Addr × Obj)} {v : Value} {s : Str} (h : DatIn olds v (.tuple [.str s])) : ∃ x : Addr × Nat × Tok, v = .ref x.1 ∧ (x.1, tupO [Value.str s x.2.2] x.2.1) ∈ olds := by
  obtain ⟨ar, vr, nr, rfl, mr, h9⟩ := tup_of h
  obtain ⟨x1, rfl, h1⟩ := all1 h9
  obtain ⟨t1, rfl⟩ := str_of h1
  exact ⟨⟨ar, nr, t1⟩, rfl, mr⟩
theorem row7T {olds : List (Addr × Obj)} {v : Value} {s : Str} {p q r : Pt} (h : DatIn olds v (.tuple [.str s, .int p.1, .int p.2, .int q.1, .int q.2, .int r.1, .int r.2])) : ∃ x : Addr × Nat × Tok × List Value, v = .ref x.1 ∧ (x.1, tupO (Value.str s x.2.2.1 :: x.2.2.2) x.2.1) ∈ olds := by
  obtain ⟨ar, vr, nr, rfl, mr, h9⟩ := tup_of h
  obtain ⟨v, r, rfl, h1, h9⟩ := more_of h9
  obtain ⟨t1, rfl⟩ := str_of h1
  exact ⟨⟨ar, nr, t1, _⟩, rfl, mr⟩
theorem list1T {tl : List (Addr × Obj)} {r : Value} {d : Dat} (h : DatIn tl r (.list [d])) : ∃ x : Addr × Nat × Value, r = .ref x.1 ∧ (x.1, listOf [x.2.2].toArray x.2.1) ∈ tl ∧ DatIn tl x.2.2 d := by
  obtain ⟨a9, vs9, n9, rfl, m9, hd9⟩ := list_of h
  obtain ⟨x9, rfl, hx9⟩ := all1 hd9
  exact ⟨(a9, n9, x9), rfl, m9, hx9⟩
theorem list3T {tl : List (Addr × Obj)} {r : Value} {d e g : Dat} (h : DatIn tl r (.list [d, e, g])) : ∃ x : Addr × Nat × Value × Value × Value, r = .ref x.1 ∧ (x.1, listOf [x.2.2.1, x.2.2.2.1, x.2.2.2.2].toArray x.2.1) ∈ tl ∧ DatIn tl x.2.2.1 d ∧ DatIn tl x.2.2.2.1 e ∧ DatIn tl x.2.2.2.2 g := by
  obtain ⟨a9, vs9, n9, rfl, m9, hd9⟩ := list_of h
  obtain ⟨x1, x2, x3, rfl, hx1, hx2, hx3⟩ := all3 hd9
  exact ⟨(a9, n9, x1, x2, x3), rfl, m9, hx1, hx2, hx3⟩
theorem news_pts2 {h₀ h : Heap} {L : Addr} {x a b : Addr × Obj} {tl T : List (Addr × Obj)} (N : News h₀ L h (tl ++ (a :: b :: T))) (hx : x ∈ tl) : News h₀ L h (x :: a :: b :: (Seqs tl ++ T)) := fun q hq => N q (by
  rcases List.mem_cons.mp hq with rfl | hq
  · exact List.mem_append.mpr (.inl hx)
  rcases List.mem_cons.mp hq with rfl | hq
  · exact List.mem_append.mpr (.inr (List.Mem.head _))
  rcases List.mem_cons.mp hq with rfl | hq
  · exact List.mem_append.mpr (.inr (List.Mem.tail _ (List.Mem.head _)))
  exact (List.mem_append.mp hq).elim (fun h => List.mem_append.mpr (.inl (seqs_sub _ h))) fun h => List.mem_append.mpr (.inr (List.Mem.tail _ (List.Mem.tail _ h))))
theorem end_is {big : List (Addr × Obj)} {vs : List Value} {es : List Pt} {j : Nat} {v : Value} (hd : DatAll big vs (es.map ptD)) (hv : vs[j]? = some v) : ∃ e, es[j]? = some e := by
  have h1 := (List.getElem?_eq_some_iff.mp hv).1
  have h2 := hd.length
  rw [List.length_map] at h2
  exact ⟨_, List.getElem?_eq_getElem (h2 ▸ h1)⟩
theorem news_rest {h₀ h : Heap} {L : Addr} {a : Addr × Obj} {T : List (Addr × Obj)} (N : News h₀ L h (a :: T)) : News h₀ L h T := fun q hq => N q (List.mem_cons_of_mem _ hq)
theorem news_swap3 {h₀ h : Heap} {L : Addr} {x a b : Addr × Obj} {T : List (Addr × Obj)} (N : News h₀ L h (x :: a :: b :: T)) : News h₀ L h (x :: b :: a :: T) := fun q hq => N q (by
  simp only [List.mem_cons] at hq ⊢
  rcases hq with h | h | h | h <;> simp [h])
theorem seqs_off {tl T : List (Addr × Obj)} {lf : Nat} (h1 : ∀ p ∈ tl, (@Ne Nat p.1 lf)) (h2 : ∀ p ∈ T, (@Ne Nat p.1 lf)) : ∀ q ∈ Seqs tl ++ T, (@Ne Nat q.1 lf) := fun q hq => (List.mem_append.mp hq).elim (fun h => h1 q (seqs_sub _ h)) (h2 q)
theorem seqs_cls2 {tl T : List (Addr × Obj)} (h : ∀ q ∈ T, q.2.cls ≠ .type "list_iterator") : ∀ q ∈ Seqs tl ++ T, q.2.cls ≠ .type "list_iterator" := fun q hq => (List.mem_append.mp hq).elim (seqs_cls q) (h q)
theorem seqs_mono {tl T olds : List (Addr × Obj)} : ∀ q ∈ T ++ olds, q ∈ (Seqs tl ++ T) ++ olds := fun q hq => (List.mem_append.mp hq).elim (fun h => List.mem_append.mpr (.inl (List.mem_append.mpr (.inr h)))) fun h => List.mem_append.mpr (.inr h)
theorem seqs_new {tl T olds : List (Addr × Obj)} {v : Value} {d : Dat} (h : DatIn tl v d) : DatIn ((Seqs tl ++ T) ++ olds) v d := (DatIn.seqs h).mono fun q hq => List.mem_append.mpr (.inl (List.mem_append.mpr (.inl hq)))
theorem FS.good.len {f : Int} {olds : List (Addr × Obj)} {lf : Nat} {total rest : List Row} {c : FS} (g : c.good f olds lf total rest) (h : total.length ≤ 5000) : c.fs.length ≤ 5000 := by
  have h1 := g.data.length
  have h2 := congrArg List.length g.eq
  rw [List.length_map] at h1
  rw [List.length_append] at h2
  omega
theorem FS.good.nextP {f : Int} {olds : List (Addr × Obj)} {lf : Nat} {total rest : List Row} {c : FS} {row : Row} (g : c.good f olds lf total (row :: rest)) {s : Str} {p : Pt} (hr : RowP f row s p) {tl : List (Addr × Obj)} {v x : Value} (hv : DatIn olds v (rowD row)) (hx : DatIn tl x (ptD p)) (ho : ∀ q ∈ tl, (@Ne Nat q.1 lf)) {n : Nat} :
    FS.good f olds lf total rest ⟨c.fs ++ [v], n, Seqs tl ++ c.T, c.out ++ [row], x, some p⟩ := by
  refine ⟨?_, seqs_new hx, seqs_off ho g.off, seqs_cls2 g.cls, ?_, hr.ok _ _ g.ok⟩
  · show DatAll _ _ (List.map rowD (c.out ++ [row]))
    rw [List.map_append]
    exact (g.data.mono seqs_mono).append (.one (hv.mono fun q hq => List.mem_append.mpr (.inr hq)))
  · have := g.eq
    rw [hr.flat] at this
    show (c.out ++ [row]) ++ _ = _
    rw [List.append_assoc]
    exact this
theorem FS.good.nextZ {f : Int} {olds : List (Addr × Obj)} {lf : Nat} {total rest : List Row} {c : FS} (g : c.good f olds lf total (.z :: rest)) {v : Value} (hv : DatIn olds v (rowD .z)) {n : Nat} :
    FS.good f olds lf total rest ⟨c.fs ++ [v], n, c.T, c.out ++ [.z], c.hv, c.here⟩ := by
  refine ⟨?_, g.hereIn, g.off, g.cls, ?_, g.ok⟩
  · show DatAll _ _ (List.map rowD (c.out ++ [.z]))
    rw [List.map_append]
    exact g.data.append (.one (hv.mono fun q hq => List.mem_append.mpr (.inr hq)))
  · show (c.out ++ [.z]) ++ _ = _
    rw [List.append_assoc]
    exact g.eq
theorem fr_row4 {m₀ : Str → Option Value} {a b : Value} {ps : Str → Option Value} (hps : ∀ z, z ≠ Str.ofString "found" → z ≠ Str.ofString "here" → z ≠ Str.ofString "row" → z ≠ Str.ofString "points" → z ≠ Str.ofString "x" → z ≠ Str.ofString "y" → ps z = m₀ z) :
    ∀ z, (∀ p ∈ [(Str.ofString "found", a), (Str.ofString "here", b)], z ≠ p.1) → [Str.ofString "row", Str.ofString "points", Str.ofString "x", Str.ofString "y"].contains z = false → ps z = m₀ z := fun z h2 h3 =>
  hps z (h2 _ (List.Mem.head _)) (h2 _ (List.Mem.tail _ (List.Mem.head _))) (stored_ne h3 _ (by decide)) (stored_ne h3 _ (by decide)) (stored_ne h3 _ (by decide)) (stored_ne h3 _ (by decide))
theorem fr_two {α : Type} {P : α → Prop} {a b : α} (h1 : P a) (h2 : P b) : ∀ p ∈ [a, b], P p := fun p hp => by
  rcases List.mem_cons.mp hp with rfl | hp
  · exact h1
  · rw [List.mem_singleton.mp hp]; exact h2
theorem led_it {lf I : Addr} {f : Int} {olds : List (Addr × Obj)} {total rest : List Row} {c : FS} (hg : c.good f olds lf total rest) : ∀ p ∈ FS.led lf c, p.2.cls ≠ .type "list_iterator" ∨ (@Ne Nat p.1 I) := fun p hp => by
  rcases List.mem_cons.mp hp with rfl | hp
  · exact .inl (by simp)
  · exact .inl (hg.cls p hp)
theorem okC {h : Option Pt} {p q r : Pt} {t : List Row} (H : RowsOk h (.c p q r :: t)) : (∃ a, h = some a ∧ QB 1000000 (a, p, q, r)) ∧ RowsOk (some r) t := H
theorem news_pts3 {h₀ h : Heap} {L : Addr} {x a b c : Addr × Obj} {tl T : List (Addr × Obj)} (N : News h₀ L h (tl ++ (a :: b :: c :: T))) (hx : x ∈ tl) : News h₀ L h (x :: a :: b :: c :: (Seqs tl ++ T)) := fun q hq => N q (by
  rcases List.mem_cons.mp hq with rfl | hq
  · exact List.mem_append.mpr (.inl hx)
  rcases List.mem_cons.mp hq with rfl | hq
  · exact List.mem_append.mpr (.inr (List.Mem.head _))
  rcases List.mem_cons.mp hq with rfl | hq
  · exact List.mem_append.mpr (.inr (List.Mem.tail _ (List.Mem.head _)))
  rcases List.mem_cons.mp hq with rfl | hq
  · exact List.mem_append.mpr (.inr (List.Mem.tail _ (List.Mem.tail _ (List.Mem.head _))))
  exact (List.mem_append.mp hq).elim (fun h => List.mem_append.mpr (.inl (seqs_sub _ h))) fun h => List.mem_append.mpr (.inr (List.Mem.tail _ (List.Mem.tail _ (List.Mem.tail _ h)))))
theorem news_six {h₀ h : Heap} {L : Addr} {a b c d i l : Addr × Obj} {T : List (Addr × Obj)} (N : News h₀ L h (a :: b :: c :: d :: i :: l :: T)) : News h₀ L h (l :: i :: a :: T) := fun q hq => N q (by
  simp only [List.mem_cons] at hq ⊢
  rcases hq with h | h | h | h <;> simp [h])
theorem news_app2 {h₀ h : Heap} {L : Addr} {a b : Addr × Obj} {tl T : List (Addr × Obj)} (N : News h₀ L h (tl ++ (a :: b :: T))) : News h₀ L h (a :: b :: (Seqs tl ++ T)) := fun q hq => N q (by
  rcases List.mem_cons.mp hq with rfl | hq
  · exact List.mem_append.mpr (.inr (List.Mem.head _))
  rcases List.mem_cons.mp hq with rfl | hq
  · exact List.mem_append.mpr (.inr (List.Mem.tail _ (List.Mem.head _)))
  exact (List.mem_append.mp hq).elim (fun h => List.mem_append.mpr (.inl (seqs_sub _ h))) fun h => List.mem_append.mpr (.inr (List.Mem.tail _ (List.Mem.tail _ h))))
theorem cons_all {α : Type} {P : α → Prop} {a : α} {l : List α} (ha : P a) (hl : ∀ q ∈ l, P q) : ∀ q ∈ a :: l, P q := fun q hq => by
  rcases List.mem_cons.mp hq with rfl | hq
  · exact ha
  · exact hl q hq
/-- within a curve's own loop -/
structure FS.in2 (olds : List (Addr × Obj)) (lf : Nat) (T0 : List (Addr × Obj)) (out : List Row) (es : List Pt) (j : Nat) (c : FS) : Prop where
  data : DatAll (c.T ++ olds) c.fs (c.out.map rowD)
  out_ : c.out = out ++ (es.take j).map Row.l
  sub : ∀ q ∈ T0, q ∈ c.T
  off : ∀ q ∈ c.T, (@Ne Nat q.1 lf)
  cls : ∀ q ∈ c.T, q.2.cls ≠ .type "list_iterator"
theorem FS.in2.len {olds : List (Addr × Obj)} {lf : Nat} {T0 : List (Addr × Obj)} {out : List Row} {es : List Pt} {j : Nat} {c : FS} (g : c.in2 olds lf T0 out es j) (h1 : es.length ≤ 1024) (h2 : out.length ≤ 5000) : c.fs.length ≤ 7000 := by
  have h3 := g.data.length
  rw [List.length_map, g.out_, List.length_append, List.length_map, List.length_take] at h3
  omega
theorem FS.in2.next {olds : List (Addr × Obj)} {lf : Nat} {T0 : List (Addr × Obj)} {out : List Row} {es : List Pt} {j : Nat} {c : FS} (g : c.in2 olds lf T0 out es j) {D : Addr} {e : Pt} {t u v : Tok} {n nn : Nat} (he : es[j]? = some e) (hD : (@Ne Nat D lf)) :
    FS.in2 olds lf T0 out es (j + 1) ⟨c.fs ++ [.ref D], n, (D, tupO [Value.str (Str.ofString "l") t, Value.int e.1 u, Value.int e.2 v] nn) :: c.T, c.out ++ [Row.l e], .none, none⟩ := by
  refine ⟨?_, ?_, fun q hq => List.mem_cons_of_mem _ (g.sub q hq), cons_all hD g.off, cons_all (by simp) g.cls⟩
  · show DatAll _ _ (List.map rowD (c.out ++ [_]))
    rw [List.map_append]
    exact (g.data.mono fun q hq => List.mem_cons_of_mem _ hq).append (.one (.tuple (List.Mem.head _) (.cons (.str _ _) (.cons (.int _ _) (.cons (.int _ _) .nil)))))
  · show c.out ++ [Row.l e] = _
    rw [g.out_, List.take_add_one, he, List.append_assoc, List.map_append]
    rfl
theorem FS.in2.it {lf I J : Addr} {oI : Obj} {olds : List (Addr × Obj)} {T0 : List (Addr × Obj)} {out : List Row} {es : List Pt} {j : Nat} {c : FS} (g : c.in2 olds lf T0 out es j) (h : @Ne Nat I J) : ∀ p ∈ (lf, listOf c.fs.toArray c.n) :: (I, oI) :: c.T, p.2.cls ≠ .type "list_iterator" ∨ (@Ne Nat p.1 J) := fun p hp => by
  rcases List.mem_cons.mp hp with rfl | hp
  · exact .inl (by simp)
  rcases List.mem_cons.mp hp with rfl | hp
  · exact .inr h
  exact .inl (g.cls p hp)
theorem FS.in2.st {h₀ h : Heap} {L lf I a : Addr} {oI o : Obj} {m : Str → Option Value} {olds : List (Addr × Obj)} {T0 : List (Addr × Obj)} {out : List Row} {es : List Pt} {j : Nat} {c : FS} (g : c.in2 olds lf T0 out es j) (F : Fr h₀ L h m) (N : News h₀ L h ((lf, listOf c.fs.toArray c.n) :: (I, oI) :: c.T)) (hH : Has h₀ olds) (me : (a, o) ∈ T0 ++ olds) : h.get? a = some o := by
  rcases List.mem_append.mp me with h1 | h1
  · exact (N _ (List.mem_cons_of_mem _ (List.mem_cons_of_mem _ (g.sub _ h1)))).1
  · exact F.keep _ _ (hH _ h1)
theorem led2_in {lf I J D : Addr} {oI oJ oD : Obj} {l : List Value} {n : Nat} {T : List (Addr × Obj)} : ∀ q ∈ (lf, listOf l.toArray n) :: (I, oI) :: (D, oD) :: T, q ∈ (D, oD) :: (J, oJ) :: (lf, listOf l.toArray n) :: (I, oI) :: T := fun q hq => by
  simp only [List.mem_cons] at hq ⊢
  rcases hq with h | h | h | h <;> simp [h]
theorem fr_row2 {m₀ : Str → Option Value} {a : Value} {ps : Str → Option Value} (hps : ∀ z, z ≠ Str.ofString "found" → z ≠ Str.ofString "x" → z ≠ Str.ofString "y" → ps z = m₀ z) :
    ∀ z, (∀ p ∈ [(Str.ofString "found", a)], z ≠ p.1) → [Str.ofString "x", Str.ofString "y"].contains z = false → ps z = m₀ z := fun z h2 h3 =>
  hps z (h2 _ (List.Mem.head _)) (stored_ne h3 _ (by decide)) (stored_ne h3 _ (by decide))
theorem FS.good.nextC {f : Int} {olds : List (Addr × Obj)} {lf : Nat} {total rest : List Row} {c c2 : FS} {p q r pa : Pt} (g : c.good f olds lf total (.c p q r :: rest)) (hpa : c.here = some pa) {T0 : List (Addr × Obj)} (g2 : c2.in2 olds lf T0 c.out (ends f 10 (pa, p, q, r)) (ends f 10 (pa, p, q, r)).length) {tl : List (Addr × Obj)} {x : Value} (hx : DatIn tl x (ptD r)) (ho : ∀ q ∈ tl, (@Ne Nat q.1 lf)) :
    FS.good f olds lf total rest ⟨c2.fs, c2.n, Seqs tl ++ c2.T, c2.out, x, some r⟩ := by
  refine ⟨g2.data.mono seqs_mono, seqs_new hx, seqs_off ho g2.off, seqs_cls2 g2.cls, ?_, (okC g.ok).2⟩
  show c2.out ++ _ = _
  have h1 := g2.out_
  rw [List.take_length] at h1
  rw [h1, ← g.eq, hpa]
  simp [flatFrom]
theorem on_f22 : True := by
  k_with "MY:subscriptTail" => ((fail_if_success (k_extra "OFF:flatten")); (k_here; (with_reducible show wpAny _ _ (subscriptTail _ _ (Value.ref _) (Value.int 0 _)) _ _ _); k_dflt (refine' item_tup0 ?kzt ?_ ?kzs; (case kzt => walk_at "MY_TUP"); (case kzs => with_unfolding_all rfl); k_whole)))
  k_with "MY:compareOp Eq str str" => ((fail_if_success (k_extra "OFF:flatten")); (k_here; refine eq_strG (by assumption) ?_))
  k_with "MY:compareOp NotEq str str" => ((fail_if_success (k_extra "OFF:flatten")); (k_here; refine ne_strG (by assumption) ?_))
  trivial
set_option maxRecDepth 100000 in
set_option maxHeartbeats 20000000 in
theorem flattened_con : ∀ (rows : List Row) (f : Int), RowsOk none rows → (-1000000 ≤ f ∧ f ≤ 1000000) → (flatFrom f none rows).length ≤ 5000 →
    Con 243 14 [.list (rows.map rowD), .int f] (Mix (.list ((flatFrom f none rows).map rowD))) := by
  intro rows f
  intro hok hf htot
  walk_at "MY_CON"
  (refine ep_el (by walk_at "MY_INH") (all2T hD) ?_; generalize ep _ _ = x9; generalize x9.1 = v1, x9.2 = v2; clear x9; intro hz194)
  (first | (refine ep_el (by walk_at "MY_INH") (hz194) ?_; generalize ep _ _ = hz195; intro hz196) | (refine and_el (hz194) ?_; intro hz195 hz196))
  clear hz194
  subst hz195
  (first | (refine ep_el (by walk_at "MY_INH") (hz196) ?_; generalize ep _ _ = hd1; intro hd2) | (refine and_el (hz196) ?_; intro hd1 hd2))
  clear hz196
  (first | (refine ep_el (by walk_at "MY_INH") (int_of hd2) ?_; generalize ep _ _ = t0; intro hz197) | (refine and_el (int_of hd2) ?_; intro t0 hz197))
  subst hz197
  (refine ep_el (by walk_at "MY_INH") (list_ofT hd1) ?_; generalize ep _ _ = x9; generalize x9.1 = al, x9.2.1 = vs, x9.2.2 = nl; clear x9; intro hz198)
  (first | (refine ep_el (by walk_at "MY_INH") (hz198) ?_; generalize ep _ _ = hz199; intro hz200) | (refine and_el (hz198) ?_; intro hz199 hz200))
  clear hz198
  subst hz199
  (first | (refine ep_el (by walk_at "MY_INH") (hz200) ?_; generalize ep _ _ = ml; intro hd) | (refine and_el (hz200) ?_; intro ml hd))
  clear hz200
  clear hD hd1 hd2
  have bl : s.heap.get? al = some (listOf vs.toArray nl) := hH _ ml
  k_dflt (refine' enterC (binds := [(Str.ofString "rows", .ref al), (Str.ofString "flatness", .int f t0)]) ?k1 ?k2 ?k3 ?k5 ?kK ?k6 ?k7 ?k8 ?k9 ?kB ?_ ?c2 ?c3 ?c4 ?c5; walk_at "MY_ENTERB")
  k_steps
  refine Stop.mk ?_
  rename_i LL _ BB XX TT _ lf _ _ D0 _ l0 _ _ _ FF NN
  have hrows : vs.length = rows.length := by have := hd.length; rwa [List.length_map] at this
  refine turn_list (σ := FS) (FS.led lf) (fun c => [(Str.ofString "found", .ref lf), (Str.ofString "here", c.hv)]) [Str.ofString "row", Str.ofString "points", Str.ofString "x", Str.ofString "y"] (fun i c => c.good f olds lf (flatFrom f none rows) (rows.drop i)) ⟨[], 0, [], [], .none, none⟩ rfl (FF.keep _ _ bl) (Nat.ne_of_lt (Nat.lt_of_lt_of_le (Heap.lt_size bl) FF.above)) FF (fun p hp => NN p (by rw [List.mem_singleton.mp hp]; exact List.Mem.tail _ (List.Mem.head _))) (fr_two rfl rfl) ⟨.nil, .none, fun p hp => (nomatch hp), fun p hp => (nomatch hp), rfl, hok⟩ (fun i c hg => led_it hg) (fun i c h m hg F' N' => F'.keep _ _ bl) ?_ ?_
  · clear FF NN
    intro i v c u hh tk9
    intro I oI
    intro hvi hg hcI kF kN
    dsimp only [FS.led] at kN
    have hIf := ne_iter kN hcI
    have hlf := hg.len htot
    have goff := hg.off
    (first | (refine ep_el (by walk_at "MY_INH") (row_is hd hvi) ?_; generalize ep _ _ = row; intro hrow) | (refine and_el (row_is hd hvi) ?_; intro row hrow))
    have hdv := row_at hd hvi hrow
    rw [drop_at hrow] at hg
    refine (row_cases f row).elim ?_ fun h9 => h9.elim ?_ ?_
    · intro h9
      (first | (refine ep_el (by walk_at "MY_INH") (h9) ?_; generalize ep _ _ = x9; intro hP) | (refine and_el (h9) ?_; intro x9 hP))
      clear h9
      generalize x9.1 = sx, x9.2 = p at hP
      clear x9
      have hdp := hP.dat ▸ hdv
      (refine ep_el (by walk_at "MY_INH") (row3T hdp) ?_; generalize ep _ _ = x9; generalize x9.1 = ar, x9.2.1 = nr, x9.2.2.1 = t1, x9.2.2.2.1 = t2, x9.2.2.2.2 = t3; clear x9; intro hz201)
      (first | (refine ep_el (by walk_at "MY_INH") (hz201) ?_; generalize ep _ _ = hz202; intro mr) | (refine and_el (hz201) ?_; intro hz202 mr))
      clear hz201
      subst hz202
      have hc1 := hP.noC
      have hz1 := hP.noZ
      have b1 := hH.tup mr
      k_steps
      refine Stop.mk ?_
      rename_i F5 N5 _
      refine con_useG (points1_con sx p) BB F5 XX N5 TT rfl (has_keep F5 hH) (.cons hdp .nil) (by dsimp only [ktrTop, Around.deeper]; omega) (by dsimp only [ktrTop, Around.deeper]; omega) ?_
      intro r9 tl9 h9 tk9'
      intro F9 N9 hl9 ho9
      (refine ep_el (by walk_at "MY_INH") (list1T ho9) ?_; generalize ep _ _ = x9; generalize x9.1 = a9, x9.2.1 = n9, x9.2.2 = xx; clear x9; intro hz203)
      (first | (refine ep_el (by walk_at "MY_INH") (hz203) ?_; generalize ep _ _ = hz204; intro hz205) | (refine and_el (hz203) ?_; intro hz204 hz205))
      clear hz203
      subst hz204
      (first | (refine ep_el (by walk_at "MY_INH") (hz205) ?_; generalize ep _ _ = m9; intro hx9) | (refine and_el (hz205) ?_; intro m9 hx9))
      clear hz205
      have N9' := news_pts2 N9 m9
      have b9 : h9.IsList a9 [xx].toArray := ⟨_, (N9' _ (List.Mem.head _)).1, rfl, n9, rfl⟩
      clear F5 N5 N9 kF kN
      k_steps
      refine Stop.mk ?_
      rename_i F6 N6
      rw [List.push_toArray] at N6
      exact turn_end ⟨c.fs ++ [Value.ref ar], c.n + 1, Seqs tl9 ++ c.T, c.out ++ [row], xx, some p⟩ F6 N6 (List.Mem.tail _ (List.Mem.head _)) (fun q hq => List.Mem.tail _ (List.Mem.tail _ hq)) (fr_two rfl rfl) (fr_row4 fun z q1 q2 q3 q4 q5 q6 => by simp [kstB, q1, q2, q3, q4, q5, q6]) (hg.nextP hP hdv hx9 (hl9 _ (List.Mem.tail _ (List.Mem.head _))))
    · intro h9
      (first | (refine ep_el (by walk_at "MY_INH") (h9) ?_; generalize ep _ _ = x9; intro hrc) | (refine and_el (h9) ?_; intro x9 hrc))
      clear h9
      generalize x9.1 = p, x9.2.1 = q, x9.2.2 = r at hrc
      clear x9
      subst hrc
      (first | (refine ep_el (by walk_at "MY_INH") (okC hg.ok) ?_; generalize ep _ _ = hz206; intro g6) | (refine and_el (okC hg.ok) ?_; intro hz206 g6))
      (first | (refine ep_el (by walk_at "MY_INH") (hz206) ?_; generalize ep _ _ = pa; intro hz207) | (refine and_el (hz206) ?_; intro pa hz207))
      clear hz206
      (first | (refine ep_el (by walk_at "MY_INH") (hz207) ?_; generalize ep _ _ = hpa; intro hQ) | (refine and_el (hz207) ?_; intro hpa hQ))
      clear hz207
      have g2 : DatIn (c.T ++ olds) c.hv (ptD pa) := by have h := hg.hereIn; rw [hpa] at h; exact h
      (refine ep_el (by walk_at "MY_INH") (pt_ofT g2) ?_; generalize ep _ _ = x9; generalize x9.1 = ah, x9.2.1 = nh, x9.2.2.1 = th1, x9.2.2.2 = th2; clear x9; intro hz208)
      (first | (refine ep_el (by walk_at "MY_INH") (hz208) ?_; generalize ep _ _ = hhv; intro mh) | (refine and_el (hz208) ?_; intro hhv mh))
      clear hz208
      rw [hhv] at kF g2
      (refine ep_el (by walk_at "MY_INH") (row7T (s := Str.ofString "c") hdv) ?_; generalize ep _ _ = x9; generalize x9.1 = ar, x9.2.1 = nr, x9.2.2.1 = t1, x9.2.2.2 = rr; clear x9; intro hz209)
      (first | (refine ep_el (by walk_at "MY_INH") (hz209) ?_; generalize ep _ _ = hz210; intro mr) | (refine and_el (hz209) ?_; intro hz210 mr))
      clear hz209
      subst hz210
      have hdp : DatIn olds (.ref ar) (.tuple [.str (Str.ofString "c"), .int p.1, .int p.2, .int q.1, .int q.2, .int r.1, .int r.2]) := hdv
      have b1 := hH.tup mr
      k_steps
      refine Stop.mk ?_
      rename_i lh _ F5 N5 lh1
      refine con_useG (points3_con (Str.ofString "c") p q r) BB F5 XX N5 TT rfl (has_keep F5 hH) (.cons hdp .nil) (by dsimp only [ktrTop, Around.deeper]; omega) (by dsimp only [ktrTop, Around.deeper]; omega) ?_
      intro r9 tl9 h9 tk9'
      intro F9 N9 hl9 ho9
      (refine ep_el (by walk_at "MY_INH") (list3T ho9) ?_; generalize ep _ _ = x9; generalize x9.1 = a9, x9.2.1 = n9, x9.2.2.1 = x1, x9.2.2.2.1 = x2, x9.2.2.2.2 = x3; clear x9; intro hz211)
      (first | (refine ep_el (by walk_at "MY_INH") (hz211) ?_; generalize ep _ _ = hz212; intro hz213) | (refine and_el (hz211) ?_; intro hz212 hz213))
      clear hz211
      subst hz212
      (first | (refine ep_el (by walk_at "MY_INH") (hz213) ?_; generalize ep _ _ = m9; intro hz214) | (refine and_el (hz213) ?_; intro m9 hz214))
      clear hz213
      (first | (refine ep_el (by walk_at "MY_INH") (hz214) ?_; generalize ep _ _ = hx1; intro hz215) | (refine and_el (hz214) ?_; intro hx1 hz215))
      clear hz214
      (first | (refine ep_el (by walk_at "MY_INH") (hz215) ?_; generalize ep _ _ = hx2; intro hx3) | (refine and_el (hz215) ?_; intro hx2 hx3))
      clear hz215
      have N9' := news_pts3 N9 m9
      have hoff := seqs_off (hl9 _ (List.Mem.tail _ (List.Mem.tail _ (List.Mem.head _)))) hg.off
      have b9 : h9.IsList a9 [x1, x2, x3].toArray := ⟨_, (N9' _ (List.Mem.head _)).1, rfl, n9, rfl⟩
      have hcls := seqs_cls2 (tl := tl9) hg.cls
      have hy1 := seqs_new (T := c.T) (olds := olds) hx1
      have hy2 := seqs_new (T := c.T) (olds := olds) hx2
      have hy3 := seqs_new (T := c.T) (olds := olds) hx3
      have hy0 := DatIn.mono (seqs_mono (tl := tl9)) g2
      have g1' := hg.data.mono (seqs_mono (tl := tl9))
      generalize Seqs tl9 ++ c.T = T9 at *
      clear F5 N5 N9 kF kN hx1 hx2 hx3 hl9 ho9 m9 mh g2
      k_steps
      refine Stop.mk ?_
      rename_i D1 _ d1 _ DT _ F7 N7 d2
      have N8 := news_six N7
      have hm1 : ∀ q ∈ T9 ++ olds, q ∈ ((DT, tupO [Value.ref ah, x1, x2, x3] 0) :: T9) ++ olds := fun q hq => List.mem_cons_of_mem _ hq
      refine con_useG (ends_con (pa, p, q, r) f hQ hf) (big := ((DT, tupO [Value.ref ah, x1, x2, x3] 0) :: T9) ++ olds) BB F7 XX N8 TT rfl (has_app (has_sub N8 fun q hq => List.mem_cons_of_mem _ (List.mem_cons_of_mem _ hq)) (has_keep F7 hH))
        (.cons (.tuple (List.Mem.head _) (.cons (hy0.mono hm1) (.cons (hy1.mono hm1) (.cons (hy2.mono hm1) (.cons (hy3.mono hm1) .nil))))) (.cons (.int _ _) .nil)) (by dsimp only [ktrTop, Around.deeper]; omega) (by dsimp only [ktrTop, Around.deeper]; omega) ?_
      intro r9 tle h10 tk10
      intro F10 N10' hle ho10
      (refine ep_el (by walk_at "MY_INH") (list_ofT (DatIn.seqsL ho10)) ?_; generalize ep _ _ = x9; generalize x9.1 = ae, x9.2.1 = ws, x9.2.2 = ne; clear x9; intro hz216)
      (first | (refine ep_el (by walk_at "MY_INH") (hz216) ?_; generalize ep _ _ = hz217; intro hz218) | (refine and_el (hz216) ?_; intro hz217 hz218))
      clear hz216
      subst hz217
      (first | (refine ep_el (by walk_at "MY_INH") (hz218) ?_; generalize ep _ _ = me; intro hde) | (refine and_el (hz218) ?_; intro me hde))
      clear hz218
      have N10 := news_app2 N10'
      have hoff10 := seqs_off (hle _ (List.Mem.head _)) (cons_all (a := (DT, tupO [Value.ref ah, x1, x2, x3] 0)) (Nat.ne_of_gt d2.2.2.2.2.1) hoff)
      have hcls10 := seqs_cls2 (tl := tle) (cons_all (a := (DT, tupO [Value.ref ah, x1, x2, x3] 0)) (by simp) hcls)
      have g10 : DatAll ((Seqs tle ++ ((DT, tupO [Value.ref ah, x1, x2, x3] 0) :: T9)) ++ olds) c.fs (c.out.map rowD) := (g1'.mono hm1).mono seqs_mono
      rw [← List.append_assoc] at me hde
      have hlen10 := (ends_length f 10 (pa, p, q, r)).2
      have hwl := hde.length
      rw [List.length_map] at hwl
      generalize Seqs tle ++ ((DT, tupO [Value.ref ah, x1, x2, x3] 0) :: T9) = T10 at *
      have hae : h10.get? ae = some (listOf ws.toArray ne) := (has_app (has_sub N10 fun q hq => List.mem_cons_of_mem _ (List.mem_cons_of_mem _ hq)) (has_keep F10 hH)) _ me
      have hIlt : @LT.lt Nat _ I h10.objs.size := Heap.lt_size (N10 _ (List.Mem.tail _ (List.Mem.head _))).1
      clear N7 F7 N8 N10' hle ho10 d1 d2 hm1 hy0 hy1 hy2 hy3 hoff hcls g1' b9 lh1
      k_steps
      refine Stop.mk ?_
      refine turn_list (σ := FS) (fun c => (lf, listOf c.fs.toArray c.n) :: (I, oI) :: c.T) (fun c => [(Str.ofString "found", .ref lf)]) [Str.ofString "x", Str.ofString "y"] (fun j c2 => c2.in2 olds lf T10 c.out (ends f 10 (pa, p, q, r)) j)
        ⟨c.fs, c.n, T10, c.out, .none, none⟩ rfl hae (ne_locals F10 hae) F10 N10 (fun q hq => by rw [List.mem_singleton.mp hq]; rfl) ⟨g10, by simp, fun q hq => hq, hoff10, hcls10⟩ (fun j c2 g => g.it (Nat.ne_of_lt hIlt)) (fun j c2 h m' g F' N' => g.st F' N' hH me) ?_ ?_
      · clear F10 N10
        intro j v2 c2 u2 h12 tk12
        intro I2 oI2
        intro hvj gg hcI2 kF2 kN2
        have hIf2 := ne_iter kN2 hcI2
        (first | (refine ep_el (by walk_at "MY_INH") (end_is hde hvj) ?_; generalize ep _ _ = e; intro he) | (refine and_el (end_is hde hvj) ?_; intro e he))
        (first | (refine ep_el (by walk_at "MY_INH") (DatAll.getS hde (k := j) (d := ptD e) (by rw [List.getElem?_map, he]; rfl)) ?_; generalize ep _ _ = v3; intro hz219) | (refine and_el (DatAll.getS hde (k := j) (d := ptD e) (by rw [List.getElem?_map, he]; rfl)) ?_; intro v3 hz219))
        (first | (refine ep_el (by walk_at "MY_INH") (hz219) ?_; generalize ep _ _ = hv3; intro hd3) | (refine and_el (hz219) ?_; intro hv3 hd3))
        clear hz219
        have hev : v3 = v2 := by rw [hvj] at hv3; exact (Option.some.inj hv3).symm
        subst hev
        have goff2 := gg.off
        have hl2 := gg.len hlen10 (by have := hg.eq; rw [← this, List.length_append] at htot; omega)
        (refine ep_el (by walk_at "MY_INH") (pt_ofT hd3) ?_; generalize ep _ _ = x9; generalize x9.1 = av, x9.2.1 = nv, x9.2.2.1 = tv1, x9.2.2.2 = tv2; clear x9; intro hz220)
        (first | (refine ep_el (by walk_at "MY_INH") (hz220) ?_; generalize ep _ _ = hz221; intro mv) | (refine and_el (hz220) ?_; intro hz221 mv))
        clear hz220
        subst hz221
        have bt : IsTup h12 av [Value.int e.1 tv1, Value.int e.2 tv2].toArray := ⟨_, gg.st kF2 (news_rest kN2) hH mv, rfl, _, rfl⟩
        k_steps
        refine Stop.mk ?_
        rename_i tkl D2 _ d2 _ F6 N6
        rw [List.push_toArray] at N6
        exact turn_end ⟨c2.fs ++ [Value.ref D2], c2.n + 1, (D2, tupO [Value.str (Str.ofString "l") tkl, Value.int e.1 tv1, Value.int e.2 tv2] 0) :: c2.T, c2.out ++ [Row.l e], .none, none⟩ F6 N6 (List.Mem.tail _ (List.Mem.head _)) led2_in (fun q hq => by rw [List.mem_singleton.mp hq]; rfl) (fr_row2 fun z q1 q2 q3 => by simp [kstB, q1, q2, q3]) (gg.next he (Nat.ne_of_gt d2.2.1))
      · clear F10 N10
        intro c2 u2 h12 tk12
        intro gg kF2 kN2
        rw [hwl] at gg
        k_steps
        refine Stop.mk ?_
        refine con_useG (points3_con (Str.ofString "c") p q r) BB kF2 XX kN2 TT rfl (has_keep kF2 hH) (.cons hdp .nil) (by dsimp only [ktrTop, Around.deeper]; omega) (by dsimp only [ktrTop, Around.deeper]; omega) ?_
        intro r9 tl9 h9 tk9'
        intro F9 N9 hl9 ho9
        (refine ep_el (by walk_at "MY_INH") (list3T ho9) ?_; generalize ep _ _ = x9; generalize x9.1 = a9, x9.2.1 = n9, x9.2.2.1 = y1, x9.2.2.2.1 = y2, x9.2.2.2.2 = y3; clear x9; intro hz222)
        (first | (refine ep_el (by walk_at "MY_INH") (hz222) ?_; generalize ep _ _ = hz223; intro hz224) | (refine and_el (hz222) ?_; intro hz223 hz224))
        clear hz222
        subst hz223
        (first | (refine ep_el (by walk_at "MY_INH") (hz224) ?_; generalize ep _ _ = m9; intro hz225) | (refine and_el (hz224) ?_; intro m9 hz225))
        clear hz224
        (first | (refine ep_el (by walk_at "MY_INH") (hz225) ?_; generalize ep _ _ = hx1; intro hz226) | (refine and_el (hz225) ?_; intro hx1 hz226))
        clear hz225
        (first | (refine ep_el (by walk_at "MY_INH") (hz226) ?_; generalize ep _ _ = hx2; intro hx3) | (refine and_el (hz226) ?_; intro hx2 hx3))
        clear hz226
        have N9' := news_swap3 (news_pts2 N9 m9)
        have b9 : h9.IsList a9 [y1, y2, y3].toArray := ⟨_, (N9' _ (List.Mem.head _)).1, rfl, n9, rfl⟩
        clear N9 kF2 kN2
        k_steps
        refine Stop.mk ?_
        rename_i F6 N6
        exact turn_end ⟨c2.fs, c2.n, Seqs tl9 ++ c2.T, c2.out, y3, some r⟩ F6 N6 (List.Mem.tail _ (List.Mem.head _)) (fun q hq => List.Mem.tail _ (List.Mem.tail _ hq)) (fr_two rfl rfl) (fr_row4 fun z q1 q2 q3 q4 q5 q6 => by simp [kstB, q1, q2, q3, q4, q5, q6]) (hg.nextC hpa gg hx3 (hl9 _ (List.Mem.head _)))
    · intro h9
      subst h9
      (refine ep_el (by walk_at "MY_INH") (row1T hdv) ?_; generalize ep _ _ = x9; generalize x9.1 = ar, x9.2.1 = nr, x9.2.2 = t1; clear x9; intro hz227)
      (first | (refine ep_el (by walk_at "MY_INH") (hz227) ?_; generalize ep _ _ = hz228; intro mr) | (refine and_el (hz227) ?_; intro hz228 mr))
      clear hz227
      subst hz228
      have b1 := hH.tup mr
      k_steps
      refine Stop.mk ?_
      rename_i F6 N6 _
      rw [List.push_toArray] at N6
      exact turn_end ⟨c.fs ++ [Value.ref ar], c.n + 1, c.T, c.out ++ [Row.z], c.hv, c.here⟩ F6 N6 (List.Mem.head _) (fun q hq => List.Mem.tail _ hq) (fr_two rfl rfl) (fr_row4 fun z q1 q2 q3 q4 q5 q6 => by simp [kstB, q1, q2, q3, q4, q5, q6]) (hg.nextZ hdv)
  · intro c u hh tk9
    intro hg kF kN
    dsimp only [FS.led] at kN
    k_steps
    (try dsimp only); (try k_unfold); (try dsimp only)
    refine con_end hret kF kN ?_
    have g5 := hg.eq
    rw [hrows, List.drop_length] at g5
    simp only [flatFrom, List.append_nil] at g5
    rw [← g5]
    exact DatIn.list (List.mem_append.mpr (.inl (List.Mem.head _))) (hg.data.mono fun q hq => (List.mem_append.mp hq).elim (fun h => List.mem_append.mpr (.inl (List.Mem.tail _ h))) fun h => List.mem_append.mpr (.inr h))

theorem off_flatten : True := by
  k_with "OFF:flatten" => skip
  trivial
end
section
theorem on_f23 : True := by
  w_top off
  trivial
theorem binds_zip {s : Shared} {name qual : Str} {params : Arguments} {body : List Stmt} {scope : Scope} {dV kV doc pm cdv ct : Value} {an : Option Addr} {args : List Value}
    (h : bindArgs (fnOf name qual params body scope dV kV doc pm an cdv ct) ⟨args, []⟩ = pure (List.zip (params.args.map fun x => x.arg) args)) :
    BindsTo s (fnOf name qual params body scope dV kV doc pm an cdv ct) ⟨args, []⟩ (List.zip (params.args.map fun x => x.arg) args) := .of_eq h
theorem ne_cls {h : Heap} {a b : Addr} {x y : Obj} (ha : h.get? a = some x) (hb : h.get? b = some y) (hc : x.cls ≠ y.cls) : (@Ne Nat a b) := fun e => by
  have ha' : h.get? b = some x := e ▸ ha
  rw [hb] at ha'
  exact hc (by rw [Option.some.inj ha'])
/-- a path's own names -/
def pathD (w : World) (a1 a2 a3 a4 tm : Tok) (k : Addr) (b p : Value) : Obj :=
  dictOf [{ hash := PyData.keyHash w.params (Str.ofString "most"), key := Value.str (Str.ofString "most") a1, val := Value.int 1500 tm },
    { hash := PyData.keyHash w.params (Str.ofString "kept"), key := Value.str (Str.ofString "kept") a2, val := Value.ref k },
    { hash := PyData.keyHash w.params (Str.ofString "begun"), key := Value.str (Str.ofString "begun") a3, val := b },
    { hash := PyData.keyHash w.params (Str.ofString "point"), key := Value.str (Str.ofString "point") a4, val := p }] 4
theorem item_last {prog : Program} {w : World} {A : Around} {E : Value → Shared → Prop} {s : Shared} {value slice : Expr} {l : Addr} {xs : List Value} {y : Value} {u : Tok} {Q : Value → Shared → Prop} (hl : s.heap.IsList l (xs ++ [y]).toArray) (h : Q y s)
    (hs : subscripted slice false (.ref l) (.int (-1) u) = operate [.ref l, .int (-1) u] (getItem (.ref l) (.int (-1) u)) := by with_unfolding_all rfl) :
    wpAny (model prog w) A (subscriptTail value slice (.ref l) (.int (-1) u)) Q E s := by
  refine tail_any hl.typeIs slot_list_getitem.lookup (wpAny_getItem_list_neg hl (by decide) ?_ (by decide) (x := y) ?_ h) hs
  · simp; omega
  · rw [List.size_toArray, List.length_append, List.length_singleton]
    have e : ((-1 : Int) + ((xs.length + 1 : Nat) : Int)).toNat = xs.length := by omega
    rw [e]
    simp
theorem eq_strF {prog : Program} {w : World} {A : Around} {E : Value → Shared → Prop} {s : Shared} {a b : Str} {t u : Tok} {Q : Value → Shared → Prop} (e : (a == b) = false) (h : Q (.bool false) s) : wpAny (model prog w) A (compareOp .Eq (.str a t) (.str b u)) Q E s :=
  eq_str (by rw [e]; exact h)
def ConP (w : World) (f : Addr) (lv : Nat) (a1 a2 a3 a4 tm : Tok) (x d k : Nat) (T : List (Addr × Obj)) (fs : List Value) (n : Nat) (b p : Value) (vs : List Value) (Out : List (Addr × Obj) → List Value → Value → Value → Prop) : Prop :=
  ∀ (mean : ExcName → Option Value) (mg mb : Str → Option Value) (dp un : Nat) (gd : Option (List Code)) (cn : Str) (cs : Scope) (a : Addr) (ccd : Value) (cl : List (Str × Addr)) (outer : List Env) (A₀ : Around) (base h₀ : Heap) (L : Addr) (m : Str → Option Value) (s : Shared) (Q E : Value → Shared → Prop),
    Below A₀ base outer h₀ → Fr h₀ L s.heap m → (Mine.hd.heap_39 w.params).In h₀ → Top Mine.hd.view_39 loose0 mean mg mb h₀ → cs.kind = .function →
    News h₀ L s.heap ((k, listOf fs.toArray n) :: (x, instObj 184 d) :: (d, pathD w a1 a2 a3 a4 tm k b p) :: T) → (∀ q ∈ T, (@Ne Nat q.1 k) ∧ (@Ne Nat q.1 d)) → @LT.lt Nat _ d x → @LT.lt Nat _ x k → dp + lv < recursionLimit → un + 8 * lv < cLine →
    (∀ h' tk' tl fs' n' b' p', Fr h₀ L h' m → News h₀ L h' ((k, listOf fs'.toArray n') :: (x, instObj 184 d) :: (d, pathD w a1 a2 a3 a4 tm k b' p') :: (tl ++ T)) → (∀ q ∈ tl, (@Ne Nat q.1 k) ∧ (@Ne Nat q.1 d) ∧ (∀ r ∈ T, (@Ne Nat q.1 r.1)) ∧ q.2.cls = .type "tuple") → Out tl fs' b' p' → Q .none { s with heap := h', toks := tk' }) →
    wpAny (model PySem.Challenge.rw_nt0495_01.row.prog w) (ktrTop dp un gd cn cs L a ccd cl outer) (call (.ref f) vs) Q E s
theorem allLt_ne {d : Nat} : ∀ {l : List (Addr × Obj)}, AllLt d l → ∀ r ∈ l, (@Ne Nat d r.1)
  | [], _, _, hr => nomatch hr
  | p :: l, h, r, hr => by
    rcases List.mem_cons.mp hr with rfl | hr
    · exact Nat.ne_of_gt h.1
    · exact allLt_ne h.2 r hr
theorem conP_use {w : World} {f : Addr} {lv : Nat} {a1 a2 a3 a4 tm : Tok} {x d k : Nat} {T : List (Addr × Obj)} {fs : List Value} {n : Nat} {b p : Value} {vs : List Value} {Out : List (Addr × Obj) → List Value → Value → Value → Prop} (C : ConP w f lv a1 a2 a3 a4 tm x d k T fs n b p vs Out)
    {mean : ExcName → Option Value} {mg mb : Str → Option Value} {dp un : Nat} {gd : Option (List Code)} {cn : Str} {cs : Scope} {a : Addr} {ccd : Value} {cl : List (Str × Addr)} {outer : List Env} {A₀ : Around} {base h₀ : Heap} {L : Addr} {m : Str → Option Value} {s : Shared} {Q E : Value → Shared → Prop}
    (B : Below A₀ base outer h₀) (F : Fr h₀ L s.heap m) (X : (Mine.hd.heap_39 w.params).In h₀) (T9 : Top Mine.hd.view_39 loose0 mean mg mb h₀) (hk : cs.kind = .function)
    (N : News h₀ L s.heap ((k, listOf fs.toArray n) :: (x, instObj 184 d) :: (d, pathD w a1 a2 a3 a4 tm k b p) :: T)) (hT : ∀ q ∈ T, (@Ne Nat q.1 k) ∧ (@Ne Nat q.1 d)) (hdx : @LT.lt Nat _ d x) (hxk : @LT.lt Nat _ x k) (hd : dp + lv < recursionLimit) (hu : un + 8 * lv < cLine)
    (ret : ∀ h' tk' tl fs' n' b' p', Fr h₀ L h' m → News h₀ L h' ((k, listOf fs'.toArray n') :: (x, instObj 184 d) :: (d, pathD w a1 a2 a3 a4 tm k b' p') :: (tl ++ T)) → (∀ q ∈ tl ++ T, (@Ne Nat q.1 k) ∧ (@Ne Nat q.1 d)) → (∀ q ∈ tl, ∀ r ∈ T, (@Ne Nat q.1 r.1)) → Out tl fs' b' p' → Q .none { s with heap := h', toks := tk' }) :
    wpAny (model PySem.Challenge.rw_nt0495_01.row.prog w) (ktrTop dp un gd cn cs L a ccd cl outer) (call (.ref f) vs) Q E s :=
  C mean mg mb dp un gd cn cs a ccd cl outer A₀ base h₀ L m s Q E B F X T9 hk N hT hdx hxk hd hu fun h' tk' tl fs' n' b' p' F' N' h1 h2 => ret h' tk' tl fs' n' b' p' F' N' (fun q hq => (List.mem_append.mp hq).elim (fun h => ⟨(h1 q h).1, (h1 q h).2.1⟩) (hT q)) (fun q hq => (h1 q hq).2.2.1) h2
theorem conP_useC {w : World} {f : Addr} {lv : Nat} {a1 a2 a3 a4 tm : Tok} {x d k : Nat} {T : List (Addr × Obj)} {fs : List Value} {n : Nat} {b p : Value} {vs : List Value} {Out : List (Addr × Obj) → List Value → Value → Value → Prop} (C : ConP w f lv a1 a2 a3 a4 tm x d k T fs n b p vs Out)
    {mean : ExcName → Option Value} {mg mb : Str → Option Value} {dp un : Nat} {gd : Option (List Code)} {cn : Str} {cs : Scope} {a : Addr} {ccd : Value} {cl : List (Str × Addr)} {outer : List Env} {A₀ : Around} {base h₀ : Heap} {L : Addr} {m : Str → Option Value} {s : Shared} {Q E : Value → Shared → Prop}
    (B : Below A₀ base outer h₀) (F : Fr h₀ L s.heap m) (X : (Mine.hd.heap_39 w.params).In h₀) (T9 : Top Mine.hd.view_39 loose0 mean mg mb h₀) (hk : cs.kind = .function)
    (N : News h₀ L s.heap ((k, listOf fs.toArray n) :: (x, instObj 184 d) :: (d, pathD w a1 a2 a3 a4 tm k b p) :: T)) (hT : ∀ q ∈ T, (@Ne Nat q.1 k) ∧ (@Ne Nat q.1 d)) (hdx : @LT.lt Nat _ d x) (hxk : @LT.lt Nat _ x k) (hd : dp + lv < recursionLimit) (hu : un + 8 * lv < cLine)
    (ret : ∀ h' tk' tl fs' n' b' p', Fr h₀ L h' m → News h₀ L h' ((k, listOf fs'.toArray n') :: (x, instObj 184 d) :: (d, pathD w a1 a2 a3 a4 tm k b' p') :: (tl ++ T)) → (∀ q ∈ tl ++ T, (@Ne Nat q.1 k) ∧ (@Ne Nat q.1 d)) → (∀ q ∈ tl, q.2.cls = .type "tuple") → Out tl fs' b' p' → Q .none { s with heap := h', toks := tk' }) :
    wpAny (model PySem.Challenge.rw_nt0495_01.row.prog w) (ktrTop dp un gd cn cs L a ccd cl outer) (call (.ref f) vs) Q E s :=
  C mean mg mb dp un gd cn cs a ccd cl outer A₀ base h₀ L m s Q E B F X T9 hk N hT hdx hxk hd hu fun h' tk' tl fs' n' b' p' F' N' h1 h2 => ret h' tk' tl fs' n' b' p' F' N' (fun q hq => (List.mem_append.mp hq).elim (fun h => ⟨(h1 q h).1, (h1 q h).2.1⟩) (hT q)) (fun q hq => (h1 q hq).2.2.2) h2
theorem news_in2 {h₀ h : Heap} {L : Addr} {a b k x d : Addr × Obj} {T : List (Addr × Obj)} (N : News h₀ L h (a :: b :: k :: x :: d :: T)) : News h₀ L h (k :: x :: d :: a :: b :: T) := fun p hp => N p (by
  simp only [List.mem_cons] at hp ⊢
  rcases hp with h | h | h | h | h | h <;> simp [h])
theorem ne_in2 {k d D1 D2 : Nat} {o1 o2 : Obj} {T : List (Addr × Obj)} (h1 : (@Ne Nat D1 k) ∧ (@Ne Nat D1 d)) (h2 : (@Ne Nat D2 k) ∧ (@Ne Nat D2 d)) (hT : ∀ q ∈ T, (@Ne Nat q.1 k) ∧ (@Ne Nat q.1 d)) : ∀ q ∈ (D1, o1) :: (D2, o2) :: T, (@Ne Nat q.1 k) ∧ (@Ne Nat q.1 d) := fun q hq => by
  rcases List.mem_cons.mp hq with rfl | hq
  · exact h1
  rcases List.mem_cons.mp hq with rfl | hq
  · exact h2
  exact hT q hq
theorem all_two {P : Addr × Obj → Prop} {a b : Addr × Obj} (ha : P a) (hb : P b) : ∀ q ∈ [a, b], P q := fun q hq => by
  rcases List.mem_cons.mp hq with rfl | hq
  · exact ha
  rw [List.mem_singleton.mp hq]; exact hb
theorem all_three {P : Addr × Obj → Prop} {a b c : Addr × Obj} (ha : P a) (hb : P b) (hc : P c) : ∀ q ∈ [a, b, c], P q := fun q hq => by
  rcases List.mem_cons.mp hq with rfl | hq
  · exact ha
  exact all_two hb hc q hq
theorem ne_lt4 {D k x d : Nat} {T : List (Addr × Obj)} (h : @LT.lt Nat _ k D ∧ @LT.lt Nat _ x D ∧ @LT.lt Nat _ d D ∧ AllLt D T) : (@Ne Nat D k) ∧ (@Ne Nat D d) ∧ (∀ r ∈ T, (@Ne Nat D r.1)) ∧ (Value.type "tuple") = Value.type "tuple" := ⟨Nat.ne_of_gt h.1, Nat.ne_of_gt h.2.2.1, allLt_ne h.2.2.2, rfl⟩
theorem news_move {h₀ h : Heap} {L : Addr} {a b c i k x d : Addr × Obj} {T : List (Addr × Obj)} (N : News h₀ L h (a :: b :: c :: i :: k :: x :: d :: T)) : News h₀ L h (k :: x :: d :: ([a, b, c] ++ T)) := fun p hp => N p (by
  simp only [List.mem_cons, List.cons_append, List.nil_append] at hp ⊢
  rcases hp with h | h | h | h | h | h | h <;> simp [h])
theorem news_close {h₀ h : Heap} {L : Addr} {a k x d : Addr × Obj} {T : List (Addr × Obj)} (N : News h₀ L h (a :: k :: x :: d :: T)) : News h₀ L h (k :: x :: d :: ([a] ++ T)) := fun p hp => N p (by
  simp only [List.mem_cons, List.cons_append, List.nil_append] at hp ⊢
  rcases hp with h | h | h | h | h <;> simp [h])
theorem on_f24 : True := by
  k_with "MY:MY_PKE" => ((fail_if_success (k_extra "OFF:meth")); (refine' code_def ?k1 ?k2 ?k3 ?k4 ?k5 ?kA ?kF ?kK ?k6 ?k7 ?k8 ?k9 ?kB ?_ ?c2 ?c3 ?c4 ?c5; (case kA => exact rfl); (case kF => exact rfl); (case kK => first | exact rfl | assumption); (case k1 => k_asm); (case k2 => k_asm); (case k3 => k_asm); (case k4 => k_asm); (case k5 => k_asm); (case k6 => k_is); (case k7 => k_is); (case k8 => k_room); (case k9 => exact binds_zip (by with_unfolding_all rfl)); (case c5 => decide); (case kB => exact locs rfl); (case c2 => exact rfl); (case c3 => exact rfl); (case c4 => exact rfl); k_whole))
  trivial
local macro_rules | `(tactic| k_enter) => `(tactic| (walk_at "MY_PKE"; intro g' L' h' FG' F' N' B' X' T'; (try dsimp only [List.map_cons, List.map_nil, List.zip_cons_cons, List.zip_nil_left, List.zip_nil_right, List.reverse_cons, List.reverse_nil, List.nil_append, List.cons_append] at F'); (try dsimp only); (try k_lift B'); (try k_fold)))
theorem on_f25 : True := by
  k_with "MY:subscriptTail" => ((fail_if_success (k_extra "OFF:meth")); (k_here; (with_reducible show wpAny _ _ (subscriptTail _ _ (Value.ref _) (Value.int _ _)) _ _ _); k_dflt (refine' item_list ?kzl ?kza ?kzb ?kzc ?_ ?kzs ?kzg; (case kzl => walk_at "MY_LST"); (case kzc => assumption); (case kza => decide); (case kzb => decide); (case kzs => with_unfolding_all rfl); (case kzg => (intro _; with_unfolding_all rfl)); k_whole)))
  k_with "MY:compareOp NotEq ref ref" => ((fail_if_success (k_extra "OFF:meth")); (k_here; k_dflt (refine' ne_nil0 ?kzH ?kzma ?kzmb ?kzhu ?_; (case kzH => exact has_news (by with_reducible assumption)); (case kzma => walk_at "MY_MEM"); (case kzmb => exact List.Mem.head _); (case kzhu => ((try dsimp only [ktrTop, Around.deeper]); omega)); k_whole); (try dsimp only)))
  k_with "MY:subscriptTail" => ((fail_if_success (k_extra "OFF:meth")); (k_here; (with_reducible show wpAny _ _ (subscriptTail _ _ (Value.ref _) (Value.int (-1) _)) _ _ _); k_dflt (refine' item_last ?kzl ?_ ?kzs; (case kzl => walk_at "MY_LST"); (case kzs => with_unfolding_all rfl); k_whole)))
  k_with "MY:compareOp Eq str str" => ((fail_if_success (k_extra "OFF:meth")); (k_here; refine eq_strF (by assumption) ?_))
  k_with "MY:subscriptTail" => ((fail_if_success (k_extra "OFF:meth")); (k_here; (with_reducible show wpAny _ _ (subscriptTail _ _ (Value.ref _) (Value.int 0 _)) _ _ _); k_dflt (refine' item_tup0 ?kzt ?_ ?kzs; (case kzt => walk_at "MY_TUP"); (case kzs => with_unfolding_all rfl); k_whole)))
  trivial
set_option maxRecDepth 100000 in
set_option maxHeartbeats 4000000 in
theorem goon_m {w : World} {a1 a2 a3 a4 tm : Tok} {x d k : Nat} {T : List (Addr × Obj)} {n : Nat} {fs0 : List Value} {al nl : Nat} {c : Str} {tc : Tok} {rr : List Value} {b vr vp : Value} {ap : Nat}
    (hfl : fs0.length ≤ 1301) (hm : (al, tupO (Value.str c tc :: rr) nl) ∈ T) (hcz : (c == Str.ofString "z") = false) :
    ConP w 125 8 a1 a2 a3 a4 tm x d k T (fs0 ++ [.ref al]) n b (.ref ap) [.ref x, vr, vp] (fun tl fs' b' p' => tl = [] ∧ fs' = fs0 ++ [.ref al] ++ [vr] ∧ b' = b ∧ p' = vp) := by
  unfold ConP
  k_fill
  rintro mean mg mb dp un gd cn cs a ccd cl outer A₀ base h₀ L m s Q E B F X T9 hk N hT hdx hxk hroom hunits hret
  revert hfl hm hcz B F X T9 hk N hT hdx hxk hroom hunits hret
  revert w a1 a2 a3 a4 tm x d k T n fs0 al nl c tc rr b vr vp ap mean mg mb dp un gd cn cs a ccd cl outer A₀ base h₀ L m s Q E
  (apply cx_all32; (case i => walk_at "MY_INHP"); generalize cx _ _ = x9; generalize x9.1 = w, x9.2.1 = a1, x9.2.2.1 = a2, x9.2.2.2.1 = a3, x9.2.2.2.2.1 = a4, x9.2.2.2.2.2.1 = tm, x9.2.2.2.2.2.2.1 = x, x9.2.2.2.2.2.2.2.1 = d, x9.2.2.2.2.2.2.2.2.1 = k, x9.2.2.2.2.2.2.2.2.2.1 = T, x9.2.2.2.2.2.2.2.2.2.2.1 = n, x9.2.2.2.2.2.2.2.2.2.2.2.1 = fs0, x9.2.2.2.2.2.2.2.2.2.2.2.2.1 = al, x9.2.2.2.2.2.2.2.2.2.2.2.2.2.1 = nl, x9.2.2.2.2.2.2.2.2.2.2.2.2.2.2.1 = c, x9.2.2.2.2.2.2.2.2.2.2.2.2.2.2.2.1 = tc, x9.2.2.2.2.2.2.2.2.2.2.2.2.2.2.2.2.1 = rr, x9.2.2.2.2.2.2.2.2.2.2.2.2.2.2.2.2.2.1 = b, x9.2.2.2.2.2.2.2.2.2.2.2.2.2.2.2.2.2.2.1 = vr, x9.2.2.2.2.2.2.2.2.2.2.2.2.2.2.2.2.2.2.2.1 = vp, x9.2.2.2.2.2.2.2.2.2.2.2.2.2.2.2.2.2.2.2.2.1 = ap, x9.2.2.2.2.2.2.2.2.2.2.2.2.2.2.2.2.2.2.2.2.2.1 = mean, x9.2.2.2.2.2.2.2.2.2.2.2.2.2.2.2.2.2.2.2.2.2.2.1 = mg, x9.2.2.2.2.2.2.2.2.2.2.2.2.2.2.2.2.2.2.2.2.2.2.2.1 = mb, x9.2.2.2.2.2.2.2.2.2.2.2.2.2.2.2.2.2.2.2.2.2.2.2.2.1 = dp, x9.2.2.2.2.2.2.2.2.2.2.2.2.2.2.2.2.2.2.2.2.2.2.2.2.2.1 = un, x9.2.2.2.2.2.2.2.2.2.2.2.2.2.2.2.2.2.2.2.2.2.2.2.2.2.2.1 = gd, x9.2.2.2.2.2.2.2.2.2.2.2.2.2.2.2.2.2.2.2.2.2.2.2.2.2.2.2.1 = cn, x9.2.2.2.2.2.2.2.2.2.2.2.2.2.2.2.2.2.2.2.2.2.2.2.2.2.2.2.2.1 = cs, x9.2.2.2.2.2.2.2.2.2.2.2.2.2.2.2.2.2.2.2.2.2.2.2.2.2.2.2.2.2.1 = a, x9.2.2.2.2.2.2.2.2.2.2.2.2.2.2.2.2.2.2.2.2.2.2.2.2.2.2.2.2.2.2.1 = ccd, x9.2.2.2.2.2.2.2.2.2.2.2.2.2.2.2.2.2.2.2.2.2.2.2.2.2.2.2.2.2.2.2 = cl; clear x9)
  k_with "MY:MY_EPS" => (fail_if_success (k_extra "OFF:meth"))
  intro outer A₀ base h₀ L m s Q E
  intro hfl hm hcz B F X T9 hk N hT hdx hxk hroom hunits hret
  have hTk : ∀ q ∈ T, (@Ne Nat q.1 k) := fun q hq => (hT q hq).1
  have hTd : ∀ q ∈ T, (@Ne Nat q.1 d) := fun q hq => (hT q hq).2
  have hlen1 : (fs0 ++ [Value.ref al]).length ≤ 1302 := by rw [List.length_append, List.length_singleton]; omega
  unfold pathD at N
  k_steps
  refine hret _ _ [] (fs0 ++ [Value.ref al] ++ [vr]) (n + 1) b vp (by assumption) ?_ (fun q hq => nomatch hq) ⟨rfl, rfl, rfl, rfl⟩
  rw [← List.push_toArray]
  assumption
set_option maxRecDepth 100000 in
set_option maxHeartbeats 4000000 in
theorem move_m {w : World} {a1 a2 a3 a4 tm : Tok} {x d k : Nat} {T : List (Addr × Obj)} {n : Nat} {i j : Int} {ti tj : Tok}
:
    ConP w 118 14 a1 a2 a3 a4 tm x d k T [] n .none .none [.ref x, .int i ti, .int j tj] (fun tl fs' b' p' => ∃ D nD tD, fs' = [.ref D] ∧ (D, tupO [Value.str (Str.ofString "m") tD, Value.int i ti, Value.int j tj] nD) ∈ tl ∧ (∃ a, b' = .ref a) ∧ ∃ a, p' = .ref a) := by
  unfold ConP
  k_fill
  rintro mean mg mb dp un gd cn cs a ccd cl outer A₀ base h₀ L m s Q E B F X T9 hk N hT hdx hxk hroom hunits hret
  revert B F X T9 hk N hT hdx hxk hroom hunits hret
  revert w a1 a2 a3 a4 tm x d k T n i j ti tj mean mg mb dp un gd cn cs a ccd cl outer A₀ base h₀ L m s Q E
  (apply cx_all32; (case i => walk_at "MY_INHP"); generalize cx _ _ = x9; generalize x9.1 = w, x9.2.1 = a1, x9.2.2.1 = a2, x9.2.2.2.1 = a3, x9.2.2.2.2.1 = a4, x9.2.2.2.2.2.1 = tm, x9.2.2.2.2.2.2.1 = x, x9.2.2.2.2.2.2.2.1 = d, x9.2.2.2.2.2.2.2.2.1 = k, x9.2.2.2.2.2.2.2.2.2.1 = T, x9.2.2.2.2.2.2.2.2.2.2.1 = n, x9.2.2.2.2.2.2.2.2.2.2.2.1 = i, x9.2.2.2.2.2.2.2.2.2.2.2.2.1 = j, x9.2.2.2.2.2.2.2.2.2.2.2.2.2.1 = ti, x9.2.2.2.2.2.2.2.2.2.2.2.2.2.2.1 = tj, x9.2.2.2.2.2.2.2.2.2.2.2.2.2.2.2.1 = mean, x9.2.2.2.2.2.2.2.2.2.2.2.2.2.2.2.2.1 = mg, x9.2.2.2.2.2.2.2.2.2.2.2.2.2.2.2.2.2.1 = mb, x9.2.2.2.2.2.2.2.2.2.2.2.2.2.2.2.2.2.2.1 = dp, x9.2.2.2.2.2.2.2.2.2.2.2.2.2.2.2.2.2.2.2.1 = un, x9.2.2.2.2.2.2.2.2.2.2.2.2.2.2.2.2.2.2.2.2.1 = gd, x9.2.2.2.2.2.2.2.2.2.2.2.2.2.2.2.2.2.2.2.2.2.1 = cn, x9.2.2.2.2.2.2.2.2.2.2.2.2.2.2.2.2.2.2.2.2.2.2.1 = cs, x9.2.2.2.2.2.2.2.2.2.2.2.2.2.2.2.2.2.2.2.2.2.2.2.1 = a, x9.2.2.2.2.2.2.2.2.2.2.2.2.2.2.2.2.2.2.2.2.2.2.2.2.1 = ccd, x9.2.2.2.2.2.2.2.2.2.2.2.2.2.2.2.2.2.2.2.2.2.2.2.2.2.1 = cl, x9.2.2.2.2.2.2.2.2.2.2.2.2.2.2.2.2.2.2.2.2.2.2.2.2.2.2.1 = outer, x9.2.2.2.2.2.2.2.2.2.2.2.2.2.2.2.2.2.2.2.2.2.2.2.2.2.2.2.1 = A₀, x9.2.2.2.2.2.2.2.2.2.2.2.2.2.2.2.2.2.2.2.2.2.2.2.2.2.2.2.2.1 = base, x9.2.2.2.2.2.2.2.2.2.2.2.2.2.2.2.2.2.2.2.2.2.2.2.2.2.2.2.2.2.1 = h₀, x9.2.2.2.2.2.2.2.2.2.2.2.2.2.2.2.2.2.2.2.2.2.2.2.2.2.2.2.2.2.2.1 = L, x9.2.2.2.2.2.2.2.2.2.2.2.2.2.2.2.2.2.2.2.2.2.2.2.2.2.2.2.2.2.2.2 = m; clear x9)
  k_with "MY:MY_EPS" => (fail_if_success (k_extra "OFF:meth"))
  intro s Q E
  intro B F X T9 hk N hT hdx hxk hroom hunits hret
  have hTk : ∀ q ∈ T, (@Ne Nat q.1 k) := fun q hq => (hT q hq).1
  have hTd : ∀ q ∈ T, (@Ne Nat q.1 d) := fun q hq => (hT q hq).2
  unfold pathD at N
  k_steps
  rename_i tkm D3 _ e3 _ _ D2 _ e2 _ _ D1 _ e1 _ _ _ kF kN _ _
  exact hret _ _ [_, _, _] [.ref D3] (n + 1) (.ref D2) (.ref D1) kF (news_move kN) (all_three (ne_lt4 e1.2.2.2) (ne_lt4 e2.2.2) (ne_lt4 e3.2)) ⟨D3, 0, tkm + 1, rfl, List.Mem.tail _ (List.Mem.tail _ (List.Mem.head _)), ⟨_, rfl⟩, _, rfl⟩
theorem on_f26 : True := by
  k_with "MY:call ref" => ((fail_if_success (k_extra "OFF:meth")); (k_here; (with_reducible show wpAny _ _ (call (Value.ref 125) _) _ _ _); refine stop_here ?_))
  trivial
set_option maxRecDepth 100000 in
set_option maxHeartbeats 4000000 in
theorem line_m {w : World} {a1 a2 a3 a4 tm : Tok} {x d k : Nat} {T : List (Addr × Obj)} {n : Nat} {fs0 : List Value} {al nl : Nat} {c : Str} {tc : Tok} {rr : List Value} {ap ab : Nat} {i j : Int} {ti tj : Tok}
    (hfl : fs0.length ≤ 1301) (hm : (al, tupO (Value.str c tc :: rr) nl) ∈ T) (hcz : (c == Str.ofString "z") = false) :
    ConP w 132 14 a1 a2 a3 a4 tm x d k T (fs0 ++ [.ref al]) n (.ref ab) (.ref ap) [.ref x, .int i ti, .int j tj] (fun tl fs' b' p' => ∃ D nD tD, fs' = fs0 ++ [.ref al] ++ [.ref D] ∧ (D, tupO [Value.str (Str.ofString "l") tD, Value.int i ti, Value.int j tj] nD) ∈ tl ∧ b' = .ref ab ∧ ∃ a, p' = .ref a) := by
  unfold ConP
  k_fill
  rintro mean mg mb dp un gd cn cs a ccd cl outer A₀ base h₀ L m s Q E B F X T9 hk N hT hdx hxk hroom hunits hret
  revert hfl hm hcz B F X T9 hk N hT hdx hxk hroom hunits hret
  revert w a1 a2 a3 a4 tm x d k T n fs0 al nl c tc rr ap ab i j ti tj mean mg mb dp un gd cn cs a ccd cl outer A₀ base h₀ L m s Q E
  (apply cx_all32; (case i => walk_at "MY_INHP"); generalize cx _ _ = x9; generalize x9.1 = w, x9.2.1 = a1, x9.2.2.1 = a2, x9.2.2.2.1 = a3, x9.2.2.2.2.1 = a4, x9.2.2.2.2.2.1 = tm, x9.2.2.2.2.2.2.1 = x, x9.2.2.2.2.2.2.2.1 = d, x9.2.2.2.2.2.2.2.2.1 = k, x9.2.2.2.2.2.2.2.2.2.1 = T, x9.2.2.2.2.2.2.2.2.2.2.1 = n, x9.2.2.2.2.2.2.2.2.2.2.2.1 = fs0, x9.2.2.2.2.2.2.2.2.2.2.2.2.1 = al, x9.2.2.2.2.2.2.2.2.2.2.2.2.2.1 = nl, x9.2.2.2.2.2.2.2.2.2.2.2.2.2.2.1 = c, x9.2.2.2.2.2.2.2.2.2.2.2.2.2.2.2.1 = tc, x9.2.2.2.2.2.2.2.2.2.2.2.2.2.2.2.2.1 = rr, x9.2.2.2.2.2.2.2.2.2.2.2.2.2.2.2.2.2.1 = ap, x9.2.2.2.2.2.2.2.2.2.2.2.2.2.2.2.2.2.2.1 = ab, x9.2.2.2.2.2.2.2.2.2.2.2.2.2.2.2.2.2.2.2.1 = i, x9.2.2.2.2.2.2.2.2.2.2.2.2.2.2.2.2.2.2.2.2.1 = j, x9.2.2.2.2.2.2.2.2.2.2.2.2.2.2.2.2.2.2.2.2.2.1 = ti, x9.2.2.2.2.2.2.2.2.2.2.2.2.2.2.2.2.2.2.2.2.2.2.1 = tj, x9.2.2.2.2.2.2.2.2.2.2.2.2.2.2.2.2.2.2.2.2.2.2.2.1 = mean, x9.2.2.2.2.2.2.2.2.2.2.2.2.2.2.2.2.2.2.2.2.2.2.2.2.1 = mg, x9.2.2.2.2.2.2.2.2.2.2.2.2.2.2.2.2.2.2.2.2.2.2.2.2.2.1 = mb, x9.2.2.2.2.2.2.2.2.2.2.2.2.2.2.2.2.2.2.2.2.2.2.2.2.2.2.1 = dp, x9.2.2.2.2.2.2.2.2.2.2.2.2.2.2.2.2.2.2.2.2.2.2.2.2.2.2.2.1 = un, x9.2.2.2.2.2.2.2.2.2.2.2.2.2.2.2.2.2.2.2.2.2.2.2.2.2.2.2.2.1 = gd, x9.2.2.2.2.2.2.2.2.2.2.2.2.2.2.2.2.2.2.2.2.2.2.2.2.2.2.2.2.2.1 = cn, x9.2.2.2.2.2.2.2.2.2.2.2.2.2.2.2.2.2.2.2.2.2.2.2.2.2.2.2.2.2.2.1 = cs, x9.2.2.2.2.2.2.2.2.2.2.2.2.2.2.2.2.2.2.2.2.2.2.2.2.2.2.2.2.2.2.2 = a; clear x9)
  k_with "MY:MY_EPS" => (fail_if_success (k_extra "OFF:meth"))
  intro ccd cl outer A₀ base h₀ L m s Q E
  intro hfl hm hcz B F X T9 hk N hT hdx hxk hroom hunits hret
  have hTk : ∀ q ∈ T, (@Ne Nat q.1 k) := fun q hq => (hT q hq).1
  have hTd : ∀ q ∈ T, (@Ne Nat q.1 d) := fun q hq => (hT q hq).2
  unfold pathD at N
  k_steps
  refine Stop.mk ?_
  rename_i g9 L9 _ FG9 B9 X9 T9' D2 _ e2 D1 _ F1 N1 e1
  refine conP_use (goon_m hfl (List.Mem.tail _ (List.Mem.tail _ hm)) hcz) B9 F1 X9 T9' rfl (news_in2 N1) (ne_in2 ⟨Nat.ne_of_gt e1.2.1, Nat.ne_of_gt e1.2.2.2.1⟩ ⟨Nat.ne_of_gt e2.1, Nat.ne_of_gt e2.2.2.1⟩ hT) hdx hxk (by dsimp only [ktrTop, Around.deeper]; omega) (by dsimp only [ktrTop, Around.deeper]; omega) ?_
  intro h8 tk8 tl8 fs8 n8 b8 p8
  intro F8 N8 hT8 hne8 ho8
  (first | (refine ep_el (by walk_at "MY_INH") (ho8) ?_; generalize ep _ _ = hz229; intro hz230) | (refine and_el (ho8) ?_; intro hz229 hz230))
  clear ho8
  subst hz229
  (first | (refine ep_el (by walk_at "MY_INH") (hz230) ?_; generalize ep _ _ = hz231; intro hz232) | (refine and_el (hz230) ?_; intro hz231 hz232))
  clear hz230
  subst hz231
  (first | (refine ep_el (by walk_at "MY_INH") (hz232) ?_; generalize ep _ _ = hz233; intro hz234) | (refine and_el (hz232) ?_; intro hz233 hz234))
  clear hz232
  subst hz233
  subst hz234
  clear hT8 hne8 F1 N1 N
  k_steps
  rename_i kF kN _ _
  exact hret _ _ [_, _] _ _ _ _ kF kN (all_two (ne_lt4 e1.2) (ne_lt4 e2)) ⟨D2, 0, tk, rfl, List.Mem.tail _ (List.Mem.head _), rfl, _, rfl⟩
set_option maxRecDepth 100000 in
set_option maxHeartbeats 4000000 in
theorem curve_m {w : World} {a1 a2 a3 a4 tm : Tok} {x d k : Nat} {T : List (Addr × Obj)} {n : Nat} {fs0 : List Value} {al nl : Nat} {c : Str} {tc : Tok} {rr : List Value} {ap ab : Nat} {i1 j1 i2 j2 i3 j3 : Int} {ti1 tj1 ti2 tj2 ti3 tj3 : Tok}
    (hfl : fs0.length ≤ 1301) (hm : (al, tupO (Value.str c tc :: rr) nl) ∈ T) (hcz : (c == Str.ofString "z") = false) :
    ConP w 139 14 a1 a2 a3 a4 tm x d k T (fs0 ++ [.ref al]) n (.ref ab) (.ref ap) [.ref x, .int i1 ti1, .int j1 tj1, .int i2 ti2, .int j2 tj2, .int i3 ti3, .int j3 tj3] (fun tl fs' b' p' => ∃ D nD tD, fs' = fs0 ++ [.ref al] ++ [.ref D] ∧ (D, tupO [Value.str (Str.ofString "c") tD, Value.int i1 ti1, Value.int j1 tj1, Value.int i2 ti2, Value.int j2 tj2, Value.int i3 ti3, Value.int j3 tj3] nD) ∈ tl ∧ b' = .ref ab ∧ ∃ a, p' = .ref a) := by
  unfold ConP
  k_fill
  rintro mean mg mb dp un gd cn cs a ccd cl outer A₀ base h₀ L m s Q E B F X T9 hk N hT hdx hxk hroom hunits hret
  revert hfl hm hcz B F X T9 hk N hT hdx hxk hroom hunits hret
  revert w a1 a2 a3 a4 tm x d k T n fs0 al nl c tc rr ap ab i1 j1 i2 j2 i3 j3 ti1 tj1 ti2 tj2 ti3 tj3 mean mg mb dp un gd cn cs a ccd cl outer A₀ base h₀ L m s Q E
  (apply cx_all32; (case i => walk_at "MY_INHP"); generalize cx _ _ = x9; generalize x9.1 = w, x9.2.1 = a1, x9.2.2.1 = a2, x9.2.2.2.1 = a3, x9.2.2.2.2.1 = a4, x9.2.2.2.2.2.1 = tm, x9.2.2.2.2.2.2.1 = x, x9.2.2.2.2.2.2.2.1 = d, x9.2.2.2.2.2.2.2.2.1 = k, x9.2.2.2.2.2.2.2.2.2.1 = T, x9.2.2.2.2.2.2.2.2.2.2.1 = n, x9.2.2.2.2.2.2.2.2.2.2.2.1 = fs0, x9.2.2.2.2.2.2.2.2.2.2.2.2.1 = al, x9.2.2.2.2.2.2.2.2.2.2.2.2.2.1 = nl, x9.2.2.2.2.2.2.2.2.2.2.2.2.2.2.1 = c, x9.2.2.2.2.2.2.2.2.2.2.2.2.2.2.2.1 = tc, x9.2.2.2.2.2.2.2.2.2.2.2.2.2.2.2.2.1 = rr, x9.2.2.2.2.2.2.2.2.2.2.2.2.2.2.2.2.2.1 = ap, x9.2.2.2.2.2.2.2.2.2.2.2.2.2.2.2.2.2.2.1 = ab, x9.2.2.2.2.2.2.2.2.2.2.2.2.2.2.2.2.2.2.2.1 = i1, x9.2.2.2.2.2.2.2.2.2.2.2.2.2.2.2.2.2.2.2.2.1 = j1, x9.2.2.2.2.2.2.2.2.2.2.2.2.2.2.2.2.2.2.2.2.2.1 = i2, x9.2.2.2.2.2.2.2.2.2.2.2.2.2.2.2.2.2.2.2.2.2.2.1 = j2, x9.2.2.2.2.2.2.2.2.2.2.2.2.2.2.2.2.2.2.2.2.2.2.2.1 = i3, x9.2.2.2.2.2.2.2.2.2.2.2.2.2.2.2.2.2.2.2.2.2.2.2.2.1 = j3, x9.2.2.2.2.2.2.2.2.2.2.2.2.2.2.2.2.2.2.2.2.2.2.2.2.2.1 = ti1, x9.2.2.2.2.2.2.2.2.2.2.2.2.2.2.2.2.2.2.2.2.2.2.2.2.2.2.1 = tj1, x9.2.2.2.2.2.2.2.2.2.2.2.2.2.2.2.2.2.2.2.2.2.2.2.2.2.2.2.1 = ti2, x9.2.2.2.2.2.2.2.2.2.2.2.2.2.2.2.2.2.2.2.2.2.2.2.2.2.2.2.2.1 = tj2, x9.2.2.2.2.2.2.2.2.2.2.2.2.2.2.2.2.2.2.2.2.2.2.2.2.2.2.2.2.2.1 = ti3, x9.2.2.2.2.2.2.2.2.2.2.2.2.2.2.2.2.2.2.2.2.2.2.2.2.2.2.2.2.2.2.1 = tj3, x9.2.2.2.2.2.2.2.2.2.2.2.2.2.2.2.2.2.2.2.2.2.2.2.2.2.2.2.2.2.2.2 = mean; clear x9)
  k_with "MY:MY_EPS" => (fail_if_success (k_extra "OFF:meth"))
  intro mg mb dp un gd cn cs a ccd cl outer A₀ base h₀ L m s Q E
  intro hfl hm hcz B F X T9 hk N hT hdx hxk hroom hunits hret
  have hTk : ∀ q ∈ T, (@Ne Nat q.1 k) := fun q hq => (hT q hq).1
  have hTd : ∀ q ∈ T, (@Ne Nat q.1 d) := fun q hq => (hT q hq).2
  unfold pathD at N
  k_steps
  refine Stop.mk ?_
  rename_i g9 L9 _ FG9 B9 X9 T9' D2 _ e2 D1 _ F1 N1 e1
  refine conP_use (goon_m hfl (List.Mem.tail _ (List.Mem.tail _ hm)) hcz) B9 F1 X9 T9' rfl (news_in2 N1) (ne_in2 ⟨Nat.ne_of_gt e1.2.1, Nat.ne_of_gt e1.2.2.2.1⟩ ⟨Nat.ne_of_gt e2.1, Nat.ne_of_gt e2.2.2.1⟩ hT) hdx hxk (by dsimp only [ktrTop, Around.deeper]; omega) (by dsimp only [ktrTop, Around.deeper]; omega) ?_
  intro h8 tk8 tl8 fs8 n8 b8 p8
  intro F8 N8 hT8 hne8 ho8
  (first | (refine ep_el (by walk_at "MY_INH") (ho8) ?_; generalize ep _ _ = hz235; intro hz236) | (refine and_el (ho8) ?_; intro hz235 hz236))
  clear ho8
  subst hz235
  (first | (refine ep_el (by walk_at "MY_INH") (hz236) ?_; generalize ep _ _ = hz237; intro hz238) | (refine and_el (hz236) ?_; intro hz237 hz238))
  clear hz236
  subst hz237
  (first | (refine ep_el (by walk_at "MY_INH") (hz238) ?_; generalize ep _ _ = hz239; intro hz240) | (refine and_el (hz238) ?_; intro hz239 hz240))
  clear hz238
  subst hz239
  subst hz240
  clear hT8 hne8 F1 N1 N
  k_steps
  rename_i kF kN _ _
  exact hret _ _ [_, _] _ _ _ _ kF kN (all_two (ne_lt4 e1.2) (ne_lt4 e2)) ⟨D2, 0, tk, rfl, List.Mem.tail _ (List.Mem.head _), rfl, _, rfl⟩
set_option maxRecDepth 100000 in
set_option maxHeartbeats 4000000 in
theorem close_m {w : World} {a1 a2 a3 a4 tm : Tok} {x d k : Nat} {T : List (Addr × Obj)} {n : Nat} {fs0 : List Value} {al nl : Nat} {c : Str} {tc : Tok} {rr : List Value} {ap ab : Nat}
    (hfl : fs0.length ≤ 1301) (hm : (al, tupO (Value.str c tc :: rr) nl) ∈ T) (hcz : (c == Str.ofString "z") = false) :
    ConP w 146 14 a1 a2 a3 a4 tm x d k T (fs0 ++ [.ref al]) n (.ref ab) (.ref ap) [.ref x] (fun tl fs' b' p' => ∃ D nD tD, fs' = fs0 ++ [.ref al] ++ [.ref D] ∧ (D, tupO [Value.str (Str.ofString "z") tD] nD) ∈ tl ∧ b' = .ref ab ∧ p' = .ref ab) := by
  unfold ConP
  k_fill
  rintro mean mg mb dp un gd cn cs a ccd cl outer A₀ base h₀ L m s Q E B F X T9 hk N hT hdx hxk hroom hunits hret
  revert hfl hm hcz B F X T9 hk N hT hdx hxk hroom hunits hret
  revert w a1 a2 a3 a4 tm x d k T n fs0 al nl c tc rr ap ab mean mg mb dp un gd cn cs a ccd cl outer A₀ base h₀ L m s Q E
  (apply cx_all32; (case i => walk_at "MY_INHP"); generalize cx _ _ = x9; generalize x9.1 = w, x9.2.1 = a1, x9.2.2.1 = a2, x9.2.2.2.1 = a3, x9.2.2.2.2.1 = a4, x9.2.2.2.2.2.1 = tm, x9.2.2.2.2.2.2.1 = x, x9.2.2.2.2.2.2.2.1 = d, x9.2.2.2.2.2.2.2.2.1 = k, x9.2.2.2.2.2.2.2.2.2.1 = T, x9.2.2.2.2.2.2.2.2.2.2.1 = n, x9.2.2.2.2.2.2.2.2.2.2.2.1 = fs0, x9.2.2.2.2.2.2.2.2.2.2.2.2.1 = al, x9.2.2.2.2.2.2.2.2.2.2.2.2.2.1 = nl, x9.2.2.2.2.2.2.2.2.2.2.2.2.2.2.1 = c, x9.2.2.2.2.2.2.2.2.2.2.2.2.2.2.2.1 = tc, x9.2.2.2.2.2.2.2.2.2.2.2.2.2.2.2.2.1 = rr, x9.2.2.2.2.2.2.2.2.2.2.2.2.2.2.2.2.2.1 = ap, x9.2.2.2.2.2.2.2.2.2.2.2.2.2.2.2.2.2.2.1 = ab, x9.2.2.2.2.2.2.2.2.2.2.2.2.2.2.2.2.2.2.2.1 = mean, x9.2.2.2.2.2.2.2.2.2.2.2.2.2.2.2.2.2.2.2.2.1 = mg, x9.2.2.2.2.2.2.2.2.2.2.2.2.2.2.2.2.2.2.2.2.2.1 = mb, x9.2.2.2.2.2.2.2.2.2.2.2.2.2.2.2.2.2.2.2.2.2.2.1 = dp, x9.2.2.2.2.2.2.2.2.2.2.2.2.2.2.2.2.2.2.2.2.2.2.2.1 = un, x9.2.2.2.2.2.2.2.2.2.2.2.2.2.2.2.2.2.2.2.2.2.2.2.2.1 = gd, x9.2.2.2.2.2.2.2.2.2.2.2.2.2.2.2.2.2.2.2.2.2.2.2.2.2.1 = cn, x9.2.2.2.2.2.2.2.2.2.2.2.2.2.2.2.2.2.2.2.2.2.2.2.2.2.2.1 = cs, x9.2.2.2.2.2.2.2.2.2.2.2.2.2.2.2.2.2.2.2.2.2.2.2.2.2.2.2.1 = a, x9.2.2.2.2.2.2.2.2.2.2.2.2.2.2.2.2.2.2.2.2.2.2.2.2.2.2.2.2.1 = ccd, x9.2.2.2.2.2.2.2.2.2.2.2.2.2.2.2.2.2.2.2.2.2.2.2.2.2.2.2.2.2.1 = cl, x9.2.2.2.2.2.2.2.2.2.2.2.2.2.2.2.2.2.2.2.2.2.2.2.2.2.2.2.2.2.2.1 = outer, x9.2.2.2.2.2.2.2.2.2.2.2.2.2.2.2.2.2.2.2.2.2.2.2.2.2.2.2.2.2.2.2 = A₀; clear x9)
  k_with "MY:MY_EPS" => (fail_if_success (k_extra "OFF:meth"))
  intro base h₀ L m s Q E
  intro hfl hm hcz B F X T9 hk N hT hdx hxk hroom hunits hret
  have hTk : ∀ q ∈ T, (@Ne Nat q.1 k) := fun q hq => (hT q hq).1
  have hTd : ∀ q ∈ T, (@Ne Nat q.1 d) := fun q hq => (hT q hq).2
  have hlen1 : (fs0 ++ [Value.ref al]).length ≤ 1302 := by rw [List.length_append, List.length_singleton]; omega
  unfold pathD at N
  k_steps
  rename_i tkz _ _ D2 _ e2 _ _ _ _ kF kN _ _
  refine hret _ _ [(D2, tupO [Value.str (Str.ofString "z") (tkz + 1)] 0)] (fs0 ++ [.ref al] ++ [.ref D2]) (n + 1) (.ref ab) (.ref ab) kF ?_ (fun q hq => by rw [List.mem_singleton.mp hq]; exact ne_lt4 e2) ⟨D2, 0, _, rfl, List.Mem.head _, rfl, rfl⟩
  rw [← List.push_toArray]
  exact news_close kN

theorem off_meth : True := by
  k_with "OFF:meth" => skip
  trivial
end
section
local macro_rules | `(tactic| k_enter) => `(tactic| (walk_at "MY_PKE"; intro g' L' h' FG' F' N' B' X' T'; (try dsimp only [List.map_cons, List.map_nil, List.zip_cons_cons, List.zip_nil_left, List.zip_nil_right, List.reverse_cons, List.reverse_nil, List.nil_append, List.cons_append] at F'); (try have hH9 := has_keep FG' (by with_reducible assumption)); (try dsimp only); (try k_lift B'); (try k_fold)))
theorem on_f27 : True := by
  w_top off
  k_with "MY:MY_PKE" => ((fail_if_success (k_extra "OFF:pathof")); (refine' code_def ?k1 ?k2 ?k3 ?k4 ?k5 ?kA ?kF ?kK ?k6 ?k7 ?k8 ?k9 ?kB ?_ ?c2 ?c3 ?c4 ?c5; (case kA => exact rfl); (case kF => exact rfl); (case kK => exact rfl); (case k1 => k_asm); (case k2 => k_asm); (case k3 => k_asm); (case k4 => k_asm); (case k5 => k_asm); (case k6 => k_is); (case k7 => k_is); (case k8 => k_room); (case k9 => exact binds_zip (by with_unfolding_all rfl)); (case c5 => decide); (case kB => exact locs rfl); (case c2 => exact rfl); (case c3 => exact rfl); (case c4 => exact rfl); k_whole))
  trivial
/-- a path of these rows, all of it new but the rows -/
def PathOut (w : World) (rows : List Row) : List (Addr × Obj) → List (Addr × Obj) → Value → Prop := fun tl olds r =>
  ∃ x d k a1 a2 a3 a4 tm b p fs n, r = .ref x ∧ (x, instObj 184 d) ∈ tl ∧ (d, pathD w a1 a2 a3 a4 tm k b p) ∈ tl ∧ (k, listOf fs.toArray n) ∈ tl ∧ DatAll (tl ++ olds) fs (rows.map rowD)
structure PS where
  fs : List Value
  n : Nat
  T : List (Addr × Obj)
  out : List Row
  b : Value
  p : Value
def PS.led (w : World) (a1 a2 a3 a4 tm : Tok) (x d k : Addr) (c : PS) : List (Addr × Obj) := (k, listOf c.fs.toArray c.n) :: (x, instObj 184 d) :: (d, pathD w a1 a2 a3 a4 tm k c.b c.p) :: c.T
structure PS.good (d k : Addr) (all : List Row) (i : Nat) (c : PS) : Prop where
  data : DatAll c.T c.fs (c.out.map rowD)
  out_ : c.out = all.take i
  b_ : (i = 0 ∧ c.b = .none) ∨ (i ≠ 0 ∧ ∃ a, c.b = .ref a)
  p_ : (i = 0 ∧ c.p = .none) ∨ (i ≠ 0 ∧ ∃ a, c.p = .ref a)
  off : ∀ q ∈ c.T, (@Ne Nat q.1 k) ∧ (@Ne Nat q.1 d)
  cls : ∀ q ∈ c.T, q.2.cls ≠ .type "list_iterator"
theorem PS.good.next {d k : Addr} {all : List Row} {i : Nat} {c : PS} (g : c.good d k all i) {tl : List (Addr × Obj)} {fs' : List Value} {n' : Nat} {b' p' : Value} {r : Row} {I : Addr} {oI : Obj}
    (hT : ∀ q ∈ tl ++ ((I, oI) :: c.T), (@Ne Nat q.1 k) ∧ (@Ne Nat q.1 d)) (hc : ∀ q ∈ tl, q.2.cls = .type "tuple") (hr : all[i]? = some r) (hd : ∃ v, fs' = c.fs ++ [v] ∧ DatIn tl v (rowD r)) (hb : ∃ a, b' = .ref a) (hp : ∃ a, p' = .ref a) :
    PS.good d k all (i + 1) ⟨fs', n', tl ++ c.T, c.out ++ [r], b', p'⟩ := by
  obtain ⟨v, rfl, hv⟩ := hd
  refine ⟨?_, ?_, .inr ⟨Nat.succ_ne_zero _, hb⟩, .inr ⟨Nat.succ_ne_zero _, hp⟩, fun q hq => ?_, fun q hq => ?_⟩
  · show DatAll _ _ (List.map rowD (c.out ++ [r]))
    rw [List.map_append]
    exact (g.data.mono fun q hq => List.mem_append.mpr (.inr hq)).append (.one (hv.mono fun q hq => List.mem_append.mpr (.inl hq)))
  · show c.out ++ [r] = _
    rw [List.take_add_one, hr, g.out_]
    rfl
  · rcases List.mem_append.mp hq with hq | hq
    · exact hT q (List.mem_append.mpr (.inl hq))
    · exact g.off q hq
  · rcases List.mem_append.mp hq with hq | hq
    · rw [hc q hq]; simp
    · exact g.cls q hq
theorem PS.led_in {w : World} {a1 a2 a3 a4 tm : Tok} {x d k I : Addr} {oI : Obj} {tl T : List (Addr × Obj)} {fs' : List Value} {n' : Nat} {b' p' : Value} {out : List Row} :
    ∀ q ∈ PS.led w a1 a2 a3 a4 tm x d k ⟨fs', n', tl ++ T, out, b', p'⟩, q ∈ (k, listOf fs'.toArray n') :: (x, instObj 184 d) :: (d, pathD w a1 a2 a3 a4 tm k b' p') :: (tl ++ ((I, oI) :: T)) := fun q hq => by
  simp only [PS.led, List.mem_cons, List.mem_append] at hq ⊢
  rcases hq with h | h | h | h | h
  · exact .inl h
  · exact .inr (.inl h)
  · exact .inr (.inr (.inl h))
  · exact .inr (.inr (.inr (.inl h)))
  · exact .inr (.inr (.inr (.inr (.inr h))))
theorem PS.good.first {d k : Addr} {all : List Row} {c : PS} (g : c.good d k all 0) : c.fs = [] ∧ c.b = .none ∧ c.p = .none := by
  refine ⟨?_, ?_, ?_⟩
  · have h := g.data
    rw [g.out_] at h
    exact List.eq_nil_of_length_eq_zero h.length
  · rcases g.b_ with h | h
    · exact h.2
    · exact absurd rfl h.1
  · rcases g.p_ with h | h
    · exact h.2
    · exact absurd rfl h.1
theorem led_cls {w : World} {a1 a2 a3 a4 tm : Tok} {x d k z : Addr} {all : List Row} {i : Nat} {c : PS} (hg : c.good d k all i) : ∀ q ∈ PS.led w a1 a2 a3 a4 tm x d k c, q.2.cls ≠ .type "list_iterator" ∨ (@Ne Nat q.1 z) := fun q hq => by
  simp only [PS.led, List.mem_cons] at hq
  rcases hq with rfl | rfl | rfl | hq
  · exact .inl (by simp)
  · exact .inl (by simp [instObj])
  · exact .inl (by simp [pathD, dictOf])
  · exact .inl (hg.cls q hq)
theorem all_cons {α : Type} {P : α → Prop} {a : α} {l : List α} (ha : P a) (hl : ∀ q ∈ l, P q) : ∀ q ∈ a :: l, P q := fun q hq => by
  rcases List.mem_cons.mp hq with rfl | hq
  · exact ha
  · exact hl q hq
theorem inh_ps : Nonempty PS := ⟨⟨[], 0, [], [], .none, .none⟩⟩
theorem on_f28 : True := by
  k_with "MY:MY_INH" => ((fail_if_success (k_extra "OFF:pathof")); (exact inh_ps))
  trivial
theorem news_in1 {h₀ h : Heap} {L : Addr} {a k x d : Addr × Obj} {T : List (Addr × Obj)} (N : News h₀ L h (a :: k :: x :: d :: T)) : News h₀ L h (k :: x :: d :: a :: T) := fun p hp => N p (by
  simp only [List.mem_cons] at hp ⊢
  rcases hp with h | h | h | h | h <;> simp [h])
open Classical in
theorem ne_nilL {prog : Program} {w : World} {A : Around} {E : Value → Shared → Prop} {s : Shared} {a b : Addr} {big : List (Addr × Obj)} {xs : List Value} {ka kb : Nat} {ds : List Dat} {Q : Value → Shared → Prop}
    (H : Has s.heap big) (ma : (a, listOf xs.toArray ka) ∈ big) (mb : (b, listOf ([] : List Value).toArray kb) ∈ big) (Da : DatAll big xs ds) (hds : ds ≠ []) (ha : ∀ d ∈ ds, kqdOk 8 d = true) (hu : A.units + 64 < cLine) (h : Q (.bool true) s) :
    wpAny (model prog w) A (compareOp .NotEq (.ref a) (.ref b)) Q E s := by
  refine kqd_ne H.news ma rfl rfl Da (fun _ h => h) mb rfl rfl DatAll.nil (fun _ h => h) ha (fun _ h => nomatch h) hu ?_
  rw [decide_eq_false hds]
  exact h
theorem rowsD_ok (rows : List Row) : ∀ d ∈ rows.map rowD, kqdOk 8 d = true := by
  intro d hd
  obtain ⟨x, _, rfl⟩ := List.mem_map.mp hd
  cases x <;> (simp [rowD, kqdOk]; decide +kernel)
theorem on_f29 : True := by
  k_with "MY:subscriptTail" => ((fail_if_success (k_extra "OFF:pathof")); (k_here; (with_reducible show wpAny _ _ (subscriptTail _ _ (Value.ref _) (Value.int _ _)) _ _ _); k_dflt (refine' item_list ?kzl ?kza ?kzb ?kzc ?_ ?kzs ?kzg; (case kzl => walk_at "MY_LST"); (case kzc => assumption); (case kza => decide); (case kzb => decide); (case kzs => with_unfolding_all rfl); (case kzg => (intro _; with_unfolding_all rfl)); k_whole)))
  k_with "MY:compareOp NotEq ref ref" => ((fail_if_success (k_extra "OFF:pathof")); (k_here; k_dflt (refine' ne_nilL ?kzH ?kzma ?kzmb ?kzDa ?kzhds ?kzha ?kzhu ?_; (case kzH => exact has_app (has_news (by with_reducible assumption)) (has_keep (by with_reducible assumption) (by with_reducible assumption))); (case kzma => walk_at "MY_MEM"); (case kzmb => walk_at "MY_MEM"); (case kzDa => walk_at "MY_ALL"); (case kzhds => assumption); (case kzha => assumption); (case kzhu => ((try dsimp only [ktrTop, Around.deeper]); omega)); k_whole); (try dsimp only)))
  k_with "MY:compareOp NotEq ref ref" => ((fail_if_success (k_extra "OFF:pathof")); (k_here; k_dflt (refine' ne_nil0 ?kzH ?kzma ?kzmb ?kzhu ?_; (case kzH => exact has_news (by with_reducible assumption)); (case kzma => walk_at "MY_MEM"); (case kzmb => exact List.Mem.head _); (case kzhu => ((try dsimp only [ktrTop, Around.deeper]); omega)); k_whole); (try dsimp only)))
  k_with "MY:subscriptTail" => ((fail_if_success (k_extra "OFF:pathof")); (k_here; (with_reducible show wpAny _ _ (subscriptTail _ _ (Value.ref _) (Value.int (-1) _)) _ _ _); k_dflt (refine' item_last ?kzl ?_ ?kzs; (case kzl => walk_at "MY_LST"); (case kzs => with_unfolding_all rfl); k_whole)))
  k_with "MY:compareOp Eq str str" => ((fail_if_success (k_extra "OFF:pathof")); (k_here; refine eq_strF (by assumption) ?_))
  k_with "MY:exec For Name Name cons nil" => ((fail_if_success (k_extra "OFF:pathof")); (k_here; (with_unfolding_all refine' For_turns (by rename Fr _ _ _ _ => lF'; exact lF') ?_; k_whole)))
  k_with "MY:pyIter ref" => ((fail_if_success (k_extra "OFF:pathof")); (refine stop_here ?_))
  k_with "MY:TurnPost" => ((fail_if_success (k_extra "OFF:pathof")); (first | refine TurnPost.next ?_ | refine TurnPost.cont ?_ | refine TurnPost.ret ?_))
  k_with "MY:call ref" => ((fail_if_success (k_extra "OFF:pathof")); (k_here; (with_reducible show wpAny _ _ (call (Value.ref 118) _) _ _ _); refine stop_here ?_))
  k_with "MY:call ref" => ((fail_if_success (k_extra "OFF:pathof")); (k_here; (with_reducible show wpAny _ _ (call (Value.ref 132) _) _ _ _); refine stop_here ?_))
  k_with "MY:call ref" => ((fail_if_success (k_extra "OFF:pathof")); (k_here; (with_reducible show wpAny _ _ (call (Value.ref 146) _) _ _ _); refine stop_here ?_))
  trivial
def pathRows (p : Pt) (ls : List Pt) (cl : Bool) : List Row := Row.m p :: (ls.map Row.l ++ if cl then [Row.z] else [])
theorem rows_kind (ls : List Pt) (cz : Bool) (hlen : ls.length ≤ 1300) : (ls.map Row.l ++ if cz then [Row.z] else []).length ≤ 1301 ∧
    ∀ j, j < (ls.map Row.l ++ if cz then [Row.z] else []).length → (∃ q, (ls.map Row.l ++ if cz then [Row.z] else [])[j]? = some (.l q)) ∨ ((ls.map Row.l ++ if cz then [Row.z] else [])[j]? = some .z ∧ j + 1 = (ls.map Row.l ++ if cz then [Row.z] else []).length) := by
  refine ⟨by rw [List.length_append, List.length_map]; split <;> simp <;> omega, fun j h => ?_⟩
  rw [List.getElem?_eq_getElem h, List.getElem_append]
  split
  · exact .inl ⟨_, by rw [List.getElem_map]⟩
  · rename_i h2
    cases cz with
    | false => simp at h h2; omega
    | true =>
      simp only [List.length_append, if_true, List.length_cons, List.length_nil] at h ⊢
      refine .inr ⟨?_, by omega⟩
      have : j - (List.map Row.l ls).length = 0 := by omega
      simp [this]
theorem rows_firstT {olds : List (Addr × Obj)} {vs : List Value} {p : Pt} {rows : List Row} (hd : DatAll olds vs ((Row.m p :: rows).map rowD)) :
    ∃ x : Addr × List Value × Nat × Tok × Tok × Tok, vs = Value.ref x.1 :: x.2.1 ∧ (x.1, tupO [Value.str (Str.ofString "m") x.2.2.2.1, Value.int p.1 x.2.2.2.2.1, Value.int p.2 x.2.2.2.2.2] x.2.2.1) ∈ olds ∧ DatAll olds x.2.1 (rows.map rowD) := by
  obtain ⟨v0, vs1, rfl, hd0, hd1⟩ := more_of hd
  obtain ⟨x, rfl, m⟩ := row3T (s := Str.ofString "m") (q := p) hd0
  exact ⟨⟨x.1, vs1, x.2.1, x.2.2⟩, rfl, m, hd1⟩
theorem PS.good.bp {d k : Addr} {all : List Row} {c : PS} {j : Nat} (g : c.good d k all (j + 1)) : (∃ a, c.b = .ref a) ∧ ∃ a, c.p = .ref a := by
  refine ⟨?_, ?_⟩
  · rcases g.b_ with h | h
    · exact absurd h.1 (Nat.succ_ne_zero _)
    · exact h.2
  · rcases g.p_ with h | h
    · exact absurd h.1 (Nat.succ_ne_zero _)
    · exact h.2
theorem kept_lastT {d k : Addr} {p : Pt} {rows : List Row} {c : PS} {j : Nat} (g : c.good d k (Row.m p :: rows) (j + 1)) (hj : j < rows.length) (hrl0 : rows.length ≤ 1301)
    (hkind : ∀ j, j < rows.length → (∃ q, rows[j]? = some (.l q)) ∨ (rows[j]? = some .z ∧ j + 1 = rows.length)) :
    ∃ x : List Value × Nat × Nat × Str × Tok × List Value, c.fs = x.1 ++ [.ref x.2.1] ∧ (x.2.1, tupO (Value.str x.2.2.2.1 x.2.2.2.2.1 :: x.2.2.2.2.2) x.2.2.1) ∈ c.T ∧ (x.2.2.2.1 == Str.ofString "z") = false ∧ x.1.length ≤ 1301 := by
  have hil : j < (Row.m p :: rows).length := by rw [List.length_cons]; omega
  have hlast : ∃ c x y, (c == Str.ofString "z") = false ∧ rowD (Row.m p :: rows)[j] = .tuple [.str c, .int x, .int y] := by
    rcases j with _ | j
    · exact ⟨_, _, _, by decide +kernel, rfl⟩
    · rcases hkind j (by omega) with ⟨q, hq⟩ | ⟨_, hq⟩
      · exact ⟨Str.ofString "l", q.1, q.2, by decide +kernel, by rw [List.getElem_cons_succ, (List.getElem?_eq_some_iff.mp hq).2]; rfl⟩
      · omega
  obtain ⟨cc, cx, cy, hcz, hce⟩ := hlast
  have hout : c.out = (Row.m p :: rows).take j ++ [(Row.m p :: rows)[j]] := by rw [g.out_, List.take_add_one, List.getElem?_eq_getElem hil]; rfl
  have g1c := g.data
  rw [hout, List.map_append, List.map_singleton, hce] at g1c
  obtain ⟨fs0, vl, hfs, gl0, gl1⟩ := datAll_concat g1c
  obtain ⟨al1, _, nl1, rfl, ml1, gl2⟩ := tup_of gl1
  obtain ⟨y1, y2, y3, rfl, h1, h2, h3⟩ := all3 gl2
  obtain ⟨ty1, rfl⟩ := str_of h1
  refine ⟨⟨fs0, al1, nl1, cc, ty1, [y2, y3]⟩, hfs, ml1, hcz, ?_⟩
  have h5 := gl0.length
  rw [List.length_map] at h5
  have h3 := List.length_take_le j (Row.m p :: rows)
  show fs0.length ≤ 1301
  omega
theorem hr_row {u m₀ : Str → Option Value} {v : Value} : ∀ z, (∀ p ∈ ([] : List (Str × Value)), z ≠ p.1) → [Str.ofString "row"].contains z = false →
    (fun y => if y = Str.ofString "row" then some v else kstB (fun z => if [Str.ofString "row"].contains z then u z else m₀ z) [] y) z = m₀ z := by
  intro z _ h3
  have q3 : z ≠ Str.ofString "row" := stored_ne h3 _ (by decide)
  simp [kstB, q3]
theorem row_new {tl : List (Addr × Obj)} {fs fs' : List Value} {s : String} {q : Pt} {t1 t2 : Tok} {P : Prop} (h : ∃ D nD tD, fs' = fs ++ [.ref D] ∧ (D, tupO [Value.str (Str.ofString s) tD, Value.int q.1 t1, Value.int q.2 t2] nD) ∈ tl ∧ P) : ∃ v, fs' = fs ++ [v] ∧ DatIn tl v (.tuple [.str (Str.ofString s), .int q.1, .int q.2]) := by
  obtain ⟨D, nD, tD, rfl, m, _⟩ := h
  exact ⟨_, rfl, .tuple m (.cons (.str _ _) (.cons (.int _ _) (.cons (.int _ _) .nil)))⟩
theorem row_newz {tl : List (Addr × Obj)} {fs fs' : List Value} {P : Prop} (h : ∃ D nD tD, fs' = fs ++ [.ref D] ∧ (D, tupO [Value.str (Str.ofString "z") tD] nD) ∈ tl ∧ P) : ∃ v, fs' = fs ++ [v] ∧ DatIn tl v (.tuple [.str (Str.ofString "z")]) := by
  obtain ⟨D, nD, tD, rfl, m, _⟩ := h
  exact ⟨_, rfl, .tuple m (.cons (.str _ _) .nil)⟩
theorem row_b {A B : Nat → Nat → Tok → Prop} {P R : Prop} (h : ∃ D nD tD, A D nD tD ∧ B D nD tD ∧ P ∧ R) : P ∧ R := by
  obtain ⟨_, _, _, _, _, h⟩ := h
  exact h
set_option maxRecDepth 100000 in
set_option maxHeartbeats 20000000 in
theorem pathof_con : ∀ (w : World) (p : Pt) (ls : List Pt) (cz : Bool), ls.length ≤ 1300 →
    ConW w 196 24 [.list ((pathRows p ls cz).map rowD), .int 1500] (PathOut w (pathRows p ls cz)) := by
  unfold ConW
  k_fill
  rintro w p ls cz hlen mean mg mb dp un gd cn cs a ccd cl outer A₀ base h₀ L m olds s vs Q E B F X T hk hH hD hroom hunits hret
  revert hlen B F X T hk hH hD hroom hunits hret
  revert w p ls cz mean mg mb dp un gd cn cs a ccd cl outer A₀ base h₀ L m olds s vs Q E
  (apply cx_all20; (case i => walk_at "MY_INHP"); generalize cx _ _ = x9; generalize x9.1 = w, x9.2.1 = p, x9.2.2.1 = ls, x9.2.2.2.1 = cz, x9.2.2.2.2.1 = mean, x9.2.2.2.2.2.1 = mg, x9.2.2.2.2.2.2.1 = mb, x9.2.2.2.2.2.2.2.1 = dp, x9.2.2.2.2.2.2.2.2.1 = un, x9.2.2.2.2.2.2.2.2.2.1 = gd, x9.2.2.2.2.2.2.2.2.2.2.1 = cn, x9.2.2.2.2.2.2.2.2.2.2.2.1 = cs, x9.2.2.2.2.2.2.2.2.2.2.2.2.1 = a, x9.2.2.2.2.2.2.2.2.2.2.2.2.2.1 = ccd, x9.2.2.2.2.2.2.2.2.2.2.2.2.2.2.1 = cl, x9.2.2.2.2.2.2.2.2.2.2.2.2.2.2.2.1 = outer, x9.2.2.2.2.2.2.2.2.2.2.2.2.2.2.2.2.1 = A₀, x9.2.2.2.2.2.2.2.2.2.2.2.2.2.2.2.2.2.1 = base, x9.2.2.2.2.2.2.2.2.2.2.2.2.2.2.2.2.2.2.1 = h₀, x9.2.2.2.2.2.2.2.2.2.2.2.2.2.2.2.2.2.2.2 = L; clear x9)
  k_with "MY:MY_EPS" => (fail_if_success (k_extra "OFF:pathof"))
  intro m olds s vs Q E
  intro hlen B F X T hk hH hD hroom hunits hret
  (refine ep_el (by walk_at "MY_INH") (all2T hD) ?_; generalize ep _ _ = x9; generalize x9.1 = v1, x9.2 = v2; clear x9; intro hz241)
  (first | (refine ep_el (by walk_at "MY_INH") (hz241) ?_; generalize ep _ _ = hz242; intro hz243) | (refine and_el (hz241) ?_; intro hz242 hz243))
  clear hz241
  subst hz242
  (first | (refine ep_el (by walk_at "MY_INH") (hz243) ?_; generalize ep _ _ = hd1; intro hd2) | (refine and_el (hz243) ?_; intro hd1 hd2))
  clear hz243
  (first | (refine ep_el (by walk_at "MY_INH") (int_of hd2) ?_; generalize ep _ _ = t0; intro hz244) | (refine and_el (int_of hd2) ?_; intro t0 hz244))
  subst hz244
  (refine ep_el (by walk_at "MY_INH") (list_ofT hd1) ?_; generalize ep _ _ = x9; generalize x9.1 = al, x9.2.1 = vs, x9.2.2 = nl; clear x9; intro hz245)
  (first | (refine ep_el (by walk_at "MY_INH") (hz245) ?_; generalize ep _ _ = hz246; intro hz247) | (refine and_el (hz245) ?_; intro hz246 hz247))
  clear hz245
  subst hz246
  (first | (refine ep_el (by walk_at "MY_INH") (hz247) ?_; generalize ep _ _ = ml; intro hd) | (refine and_el (hz247) ?_; intro ml hd))
  clear hz247
  clear hD hd1 hd2
  have hrows : pathRows p ls cz = Row.m p :: (ls.map Row.l ++ if cz then [Row.z] else []) := rfl
  (first | (refine ep_el (by walk_at "MY_INH") (rows_kind ls cz hlen) ?_; generalize ep _ _ = hrl0; intro hkind) | (refine and_el (rows_kind ls cz hlen) ?_; intro hrl0 hkind))
  generalize (ls.map Row.l ++ if cz then [Row.z] else []) = rows at *
  rw [hrows] at hd
  (refine ep_el (by walk_at "MY_INH") (rows_firstT hd) ?_; generalize ep _ _ = x9; generalize x9.1 = ar, x9.2.1 = vs1, x9.2.2.1 = nr, x9.2.2.2.1 = t1, x9.2.2.2.2.1 = t2, x9.2.2.2.2.2 = t3; clear x9; intro hz248)
  (first | (refine ep_el (by walk_at "MY_INH") (hz248) ?_; generalize ep _ _ = hz249; intro hz250) | (refine and_el (hz248) ?_; intro hz249 hz250))
  clear hz248
  subst hz249
  (first | (refine ep_el (by walk_at "MY_INH") (hz250) ?_; generalize ep _ _ = mr; intro hd1) | (refine and_el (hz250) ?_; intro mr hd1))
  clear hz250
  have hx0 : (Value.ref ar :: vs1).toArray[Int.toNat 0]? = some (.ref ar) := rfl
  have hok := rowsD_ok (Row.m p :: rows)
  have hne : (Row.m p :: rows).map rowD ≠ [] := by simp
  have hrl : vs1.length = rows.length := by have := hd1.length; rwa [List.length_map] at this
  have bl : s.heap.get? al = some (listOf (Value.ref ar :: vs1).toArray nl) := hH _ ml
  k_dflt (refine' enterC (binds := [(Str.ofString "rows", .ref al), (Str.ofString "most", .int 1500 t0)]) ?k1 ?k2 ?k3 ?k5 ?kK ?k6 ?k7 ?k8 ?k9 ?kB ?_ ?c2 ?c3 ?c4 ?c5; walk_at "MY_ENTERB")
  k_steps
  refine Stop.mk ?_
  rename_i xo dd _ _ lxd _ _ _ _ _ _ tka _ lk _ lkk _ tkb _ _ _ _ _ _ _ _ _ _ g1 L1 _ FG1 B1 X1 T1 H1 _ _ _ _ _ _ _ _ _ _ _ _ _ _ _ _ _ FF NN _
  have NK : News g1 L1 _ [(lk, listOf ([] : List Value).toArray 0), (xo, instObj 184 dd), (dd, pathD w (tka + 1) (tka + 2 + 1) (tkb + 1) (tkb + 2 + 1) t0 lk .none .none)] :=
    kst_newsOf NN fun q hq => by
      simp only [List.mem_cons, List.not_mem_nil, or_false] at hq
      rcases hq with rfl | rfl | rfl
      · walk_at "MY_MEM"
      · walk_at "MY_MEM"
      · walk_at "MY_MEM"
  generalize tka + 1 = a1, tka + 2 + 1 = a2, tkb + 1 = a3, tkb + 2 + 1 = a4 at NK
  clear NN
  have bl1 : g1.get? al = some (listOf (Value.ref ar :: vs1).toArray nl) := H1 _ ml
  have hxk : @LT.lt Nat _ xo lk := lkk.1
  have hdx : @LT.lt Nat _ dd xo := lxd
  refine turn_list (σ := PS) (PS.led w a1 a2 a3 a4 t0 xo dd lk) (fun c => []) [Str.ofString "row"] (fun i c => c.good dd lk (Row.m p :: rows) i) ⟨[], 0, [], [], .none, .none⟩ rfl (FF.keep _ _ bl1) (ne_locals FF (FF.keep _ _ bl1)) FF NK ?_ ?_ ?_ ?_ ?_ ?_
  · exact fun q hq => nomatch hq
  · exact ⟨.nil, rfl, .inl ⟨rfl, rfl⟩, .inl ⟨rfl, rfl⟩, fun q hq => (nomatch hq), fun q hq => (nomatch hq)⟩
  · exact fun i c hg => led_cls hg
  · exact fun i c h m' hg F' N' => F'.keep _ _ bl1
  · clear FF NK
    intro i v c u hh tk9
    intro I oI
    intro hvi hg hcI kF kN
    have hI1 : (@Ne Nat I lk) := ne_iter kN hcI
    have hI2 : (@Ne Nat I dd) := ne_cls (kN _ (List.Mem.head _)).1 (kN _ (List.Mem.tail _ (List.Mem.tail _ (List.Mem.tail _ (List.Mem.head _))))).1 (by rw [hcI]; simp [pathD, dictOf])
    have hTI : ∀ q ∈ (I, oI) :: c.T, (@Ne Nat q.1 lk) ∧ (@Ne Nat q.1 dd) := all_cons ⟨hI1, hI2⟩ hg.off
    have kN1 := news_in1 kN
    by_cases hi : i = 0
    · subst hi
      have hv : v = Value.ref ar := (Option.some.inj hvi).symm
      subst hv
      rw [hg.first.1, hg.first.2.1, hg.first.2.2] at kN1
      have kF1 := kF
      clear kN kF
      k_steps
      refine Stop.mk ?_
      rename Fr _ _ _ _ => F9
      rename News _ _ _ _ => N9
      refine conP_useC (T := (I, oI) :: c.T) move_m B1 F9 X1 T1 rfl N9 hTI hdx hxk (by dsimp only [ktrTop, Around.deeper]; omega) (by dsimp only [ktrTop, Around.deeper]; omega) ?_
      intro h8 tk8 tl8 fs8 n8 b8 p8
      intro F8 N8 hT8 hc8 ho8
      clear F9 N9
      k_steps
      refine Stop.mk ?_
      exact turn_end ⟨fs8, n8, tl8 ++ c.T, c.out ++ [Row.m p], b8, p8⟩ F8 N8 (List.Mem.tail _ (List.Mem.tail _ (List.Mem.tail _ (List.mem_append.mpr (.inr (List.Mem.head _)))))) PS.led_in (fun q hq => nomatch hq) hr_row (hg.next hT8 hc8 rfl (row_new (by rw [hg.first.1]; exact ho8)) (row_b ho8).1 (row_b ho8).2)
    · (first | (refine ep_el (by walk_at "MY_INH") (Nat.exists_eq_succ_of_ne_zero hi) ?_; generalize ep _ _ = j; intro hj9) | (refine and_el (Nat.exists_eq_succ_of_ne_zero hi) ?_; intro j hj9))
      subst hj9
      have hvj : vs1[j]? = some v := hvi
      have hjr : j < rows.length := by rw [← hrl]; exact (List.getElem?_eq_some_iff.mp hvj).1
      (refine ep_el (by walk_at "MY_INH") (kept_lastT hg hjr hrl0 hkind) ?_; generalize ep _ _ = x9; generalize x9.1 = fs0, x9.2.1 = al1, x9.2.2.1 = nl1, x9.2.2.2.1 = cc, x9.2.2.2.2.1 = tc, x9.2.2.2.2.2 = rr; clear x9; intro hz251)
      (first | (refine ep_el (by walk_at "MY_INH") (hz251) ?_; generalize ep _ _ = hfs; intro hz252) | (refine and_el (hz251) ?_; intro hfs hz252))
      clear hz251
      (first | (refine ep_el (by walk_at "MY_INH") (hz252) ?_; generalize ep _ _ = ml1; intro hz253) | (refine and_el (hz252) ?_; intro ml1 hz253))
      clear hz252
      (first | (refine ep_el (by walk_at "MY_INH") (hz253) ?_; generalize ep _ _ = hcz; intro hfl) | (refine and_el (hz253) ?_; intro hcz hfl))
      clear hz253
      (first | (refine ep_el (by walk_at "MY_INH") (hg.bp) ?_; generalize ep _ _ = hz254; intro hz255) | (refine and_el (hg.bp) ?_; intro hz254 hz255))
      (first | (refine ep_el (by walk_at "MY_INH") (hz254) ?_; generalize ep _ _ = ab; intro hb) | (refine and_el (hz254) ?_; intro ab hb))
      clear hz254
      (first | (refine ep_el (by walk_at "MY_INH") (hz255) ?_; generalize ep _ _ = ap; intro hp) | (refine and_el (hz255) ?_; intro ap hp))
      clear hz255
      rw [hfs, hb, hp] at kN1
      have kF1 := kF
      have ml2 := List.Mem.tail (I, oI) ml1
      have hlen1 : (fs0 ++ [Value.ref al1]).length ≤ 1302 := by rw [List.length_append, List.length_singleton]; omega
      clear kN kF
      refine (hkind j hjr).elim ?_ ?_
      · intro hq
        (first | (refine ep_el (by walk_at "MY_INH") (hq) ?_; generalize ep _ _ = q; intro hq1) | (refine and_el (hq) ?_; intro q hq1))
        clear hq
        (refine ep_el (by walk_at "MY_INH") (row3T (s := Str.ofString "l") (row_at hd1 hvj hq1)) ?_; generalize ep _ _ = x9; generalize x9.1 = av, x9.2.1 = nv, x9.2.2.1 = tv1, x9.2.2.2.1 = tv2, x9.2.2.2.2 = tv3; clear x9; intro hz256)
        (first | (refine ep_el (by walk_at "MY_INH") (hz256) ?_; generalize ep _ _ = hv; intro mv) | (refine and_el (hz256) ?_; intro hv mv))
        clear hz256
        subst hv
        k_steps
        refine Stop.mk ?_
        rename Fr _ _ _ _ => F9
        rename News _ _ _ _ => N9
        refine conP_useC (T := (I, oI) :: c.T) (line_m hfl ml2 hcz) B1 F9 X1 T1 rfl N9 hTI hdx hxk (by dsimp only [ktrTop, Around.deeper]; omega) (by dsimp only [ktrTop, Around.deeper]; omega) ?_
        intro h8 tk8 tl8 fs8 n8 b8 p8
        intro F8 N8 hT8 hc8 ho8
        clear F9 N9
        k_steps
        refine Stop.mk ?_
        exact turn_end ⟨fs8, n8, tl8 ++ c.T, c.out ++ [Row.l q], b8, p8⟩ F8 N8 (List.Mem.tail _ (List.Mem.tail _ (List.Mem.tail _ (List.mem_append.mpr (.inr (List.Mem.head _)))))) PS.led_in (fun q hq => nomatch hq) hr_row (hg.next hT8 hc8 hq1 (row_new (by rw [hfs]; exact ho8)) ⟨_, (row_b ho8).1⟩ (row_b ho8).2)
      · intro hq
        (first | (refine ep_el (by walk_at "MY_INH") (hq) ?_; generalize ep _ _ = hq1; intro hq2) | (refine and_el (hq) ?_; intro hq1 hq2))
        clear hq
        (refine ep_el (by walk_at "MY_INH") (row1T (s := Str.ofString "z") (row_at hd1 hvj hq1)) ?_; generalize ep _ _ = x9; generalize x9.1 = av, x9.2.1 = nv, x9.2.2 = tv1; clear x9; intro hz257)
        (first | (refine ep_el (by walk_at "MY_INH") (hz257) ?_; generalize ep _ _ = hv; intro mv) | (refine and_el (hz257) ?_; intro hv mv))
        clear hz257
        subst hv
        k_steps
        refine Stop.mk ?_
        rename Fr _ _ _ _ => F9
        rename News _ _ _ _ => N9
        refine conP_useC (T := (I, oI) :: c.T) (close_m hfl ml2 hcz) B1 F9 X1 T1 rfl N9 hTI hdx hxk (by dsimp only [ktrTop, Around.deeper]; omega) (by dsimp only [ktrTop, Around.deeper]; omega) ?_
        intro h8 tk8 tl8 fs8 n8 b8 p8
        intro F8 N8 hT8 hc8 ho8
        clear F9 N9
        k_steps
        refine Stop.mk ?_
        exact turn_end ⟨fs8, n8, tl8 ++ c.T, c.out ++ [Row.z], b8, p8⟩ F8 N8 (List.Mem.tail _ (List.Mem.tail _ (List.Mem.tail _ (List.mem_append.mpr (.inr (List.Mem.head _)))))) PS.led_in (fun q hq => nomatch hq) hr_row (hg.next hT8 hc8 hq1 (row_newz (by rw [hfs]; exact ho8)) ⟨_, (row_b ho8).1⟩ ⟨_, (row_b ho8).2⟩)
  · intro c u hh tk9 hg kF kN
    clear FF NK
    dsimp only [PS.led] at kF kN
    k_steps
    (try dsimp only); (try k_unfold); (try dsimp only)
    refine con_end hret (by assumption) (by assumption) ⟨xo, dd, lk, a1, a2, a3, a4, t0, c.b, c.p, c.fs, c.n, rfl, ?_, ?_, ?_, ?_⟩
    · walk_at "MY_MEM"
    · walk_at "MY_MEM"
    · walk_at "MY_MEM"
    · have ho : c.out = pathRows p ls cz := by
        rw [hg.out_, hrows, List.take_of_length_le (by rw [List.length_cons, List.length_cons, hrl]; exact Nat.le_refl _)]
      rw [← ho]
      exact hg.data.mono fun q hq => List.mem_append.mpr (.inl (List.Mem.tail _ (List.Mem.tail _ (List.Mem.tail _ hq))))

theorem off_pathof : True := by
  k_with "OFF:pathof" => skip
  trivial
end
section
theorem on_f30 : True := by
  w_top off
  trivial
/-! the plain mathematics: no program in sight -/
theorem fd2 (x : Int) : Int.fdiv x 2 = x / 2 := Int.fdiv_eq_ediv_of_nonneg _ (by decide)
theorem sq2 (x : Int) : x ^ Int.toNat 2 = x * x := by show x ^ 2 = _; rw [Int.pow_succ, Int.pow_succ, Int.pow_zero, Int.one_mul]
theorem sq_nonneg (x : Int) : 0 ≤ x * x := by
  rcases Int.le_total 0 x with h | h
  · exact Int.mul_nonneg h h
  · exact Int.mul_nonneg_of_nonpos_of_nonpos h h
theorem sq_le {x m : Int} (h1 : -m ≤ x) (h2 : x ≤ m) : x * x ≤ m * m := by
  have h : 0 ≤ (m - x) * (m + x) := Int.mul_nonneg (by omega) (by omega)
  have e : (m - x) * (m + x) = m * m - x * x := by grind
  omega
theorem le_of_mul_sq {d x y : Int} (hd : 0 < d) (h : d * d * x ≤ d * d * y) : x ≤ y := Int.le_of_mul_le_mul_left h (Int.mul_pos hd hd)
/-- a point of the stretch that is near makes it near -/
theorem near_core {p1 p2 e1 e2 n d R : Int} (hd : 0 < d) (hn : 0 ≤ n) (hnd : n ≤ d) (h : (d * p1 - n * e1) * (d * p1 - n * e1) + (d * p2 - n * e2) * (d * p2 - n * e2) ≤ d * d * (R * R)) :
    (e1 * e1 + e2 * e2 = 0 ∨ p1 * e1 + p2 * e2 ≤ 0 → p1 * p1 + p2 * p2 ≤ R * R) ∧
    (p1 * e1 + p2 * e2 ≥ e1 * e1 + e2 * e2 → (p1 - e1) * (p1 - e1) + (p2 - e2) * (p2 - e2) ≤ R * R) ∧
    (0 < e1 * e1 + e2 * e2 → (p1 * e2 - p2 * e1) * (p1 * e2 - p2 * e1) ≤ R * R * (e1 * e1 + e2 * e2)) := by
  have i1 : (d * p1 - n * e1) * (d * p1 - n * e1) + (d * p2 - n * e2) * (d * p2 - n * e2) = d * d * (p1 * p1 + p2 * p2) - 2 * (d * n * (p1 * e1 + p2 * e2)) + n * n * (e1 * e1 + e2 * e2) := by grind
  have i2 : (d * p1 - n * e1) * (d * p1 - n * e1) + (d * p2 - n * e2) * (d * p2 - n * e2) = d * d * ((p1 - e1) * (p1 - e1) + (p2 - e2) * (p2 - e2)) + 2 * (d * (d - n) * (p1 * e1 + p2 * e2 - (e1 * e1 + e2 * e2))) + (d - n) * (d - n) * (e1 * e1 + e2 * e2) := by grind
  have i3 : d * d * ((p1 * e2 - p2 * e1) * (p1 * e2 - p2 * e1)) = ((d * p1 - n * e1) * (d * p1 - n * e1) + (d * p2 - n * e2) * (d * p2 - n * e2)) * (e1 * e1 + e2 * e2) - ((d * p1 - n * e1) * e1 + (d * p2 - n * e2) * e2) * ((d * p1 - n * e1) * e1 + (d * p2 - n * e2) * e2) := by grind
  have q1 := sq_nonneg e1
  have q2 := sq_nonneg e2
  refine ⟨fun hc => ?_, fun hc => ?_, fun hc => ?_⟩
  · refine le_of_mul_sq hd ?_
    have h1 : d * n * (p1 * e1 + p2 * e2) ≤ 0 := by
      refine Int.mul_nonpos_of_nonneg_of_nonpos (Int.mul_nonneg (by omega) hn) ?_
      rcases hc with hc | hc
      · have z1 : e1 = 0 := by
          have : e1 * e1 = 0 := by omega
          exact (Int.mul_eq_zero.mp this).elim id id
        have z2 : e2 = 0 := by
          have : e2 * e2 = 0 := by omega
          exact (Int.mul_eq_zero.mp this).elim id id
        rw [z1, z2]; omega
      · exact hc
    have h2 : 0 ≤ n * n * (e1 * e1 + e2 * e2) := Int.mul_nonneg (sq_nonneg n) (by omega)
    omega
  · refine le_of_mul_sq hd ?_
    have h1 : 0 ≤ d * (d - n) * (p1 * e1 + p2 * e2 - (e1 * e1 + e2 * e2)) := Int.mul_nonneg (Int.mul_nonneg (by omega) (by omega)) (by omega)
    have h2 : 0 ≤ (d - n) * (d - n) * (e1 * e1 + e2 * e2) := Int.mul_nonneg (sq_nonneg _) (by omega)
    omega
  · refine le_of_mul_sq hd ?_
    have h1 := Int.mul_le_mul_of_nonneg_right h (show (0 : Int) ≤ e1 * e1 + e2 * e2 by omega)
    have h2 := sq_nonneg ((d * p1 - n * e1) * e1 + (d * p2 - n * e2) * e2)
    have h3 : d * d * (R * R) * (e1 * e1 + e2 * e2) = d * d * (R * R * (e1 * e1 + e2 * e2)) := by grind
    omega
theorem near_ok {p b e : Pt} {most times : Int} (n d : Int) (hd : 0 < d) (hn : 0 ≤ n) (hnd : n ≤ d)
    (h : (d * (p.1 - times * b.1) - n * (times * (e.1 - b.1))) * (d * (p.1 - times * b.1) - n * (times * (e.1 - b.1))) + (d * (p.2 - times * b.2) - n * (times * (e.2 - b.2))) * (d * (p.2 - times * b.2) - n * (times * (e.2 - b.2))) ≤ d * d * ((times * most) * (times * most))) : isNear p b e most times = true := by
  obtain ⟨h1, h2, h3⟩ := near_core hd hn hnd h
  have q1 := sq_nonneg (times * (e.1 - b.1))
  have q2 := sq_nonneg (times * (e.2 - b.2))
  unfold isNear
  simp only [sq2]
  split
  · rename_i hc; exact decide_eq_true (h1 hc)
  · split
    · rename_i hc; exact decide_eq_true (h2 hc)
    · exact decide_eq_true (h3 (by omega))
theorem pow2n (x : Int) : x ^ 2 = x * x := by rw [Int.pow_succ, Int.pow_succ, Int.pow_zero, Int.one_mul]
theorem toNat2 : Int.toNat 2 = 2 := rfl
theorem toNat3 : Int.toNat 3 = 3 := rfl
/-- the sum of two short ways is short -/
theorem minkowski {x1 x2 y1 y2 M N : Int} (hM : 0 ≤ M) (hN : 0 ≤ N) (hx : x1 * x1 + x2 * x2 ≤ M * M) (hy : y1 * y1 + y2 * y2 ≤ N * N) : (x1 + y1) * (x1 + y1) + (x2 + y2) * (x2 + y2) ≤ (M + N) * (M + N) := by
  have key : x1 * y1 + x2 * y2 ≤ M * N := by
    rcases Int.lt_or_eq_of_le hM with hM | hM
    · rcases Int.lt_or_eq_of_le hN with hN | hN
      · have a1 := sq_nonneg (N * x1 - M * y1)
        have a2 := sq_nonneg (N * x2 - M * y2)
        have a3 := Int.mul_le_mul_of_nonneg_left hx (sq_nonneg N)
        have a4 := Int.mul_le_mul_of_nonneg_left hy (sq_nonneg M)
        have e : (N * x1 - M * y1) * (N * x1 - M * y1) + (N * x2 - M * y2) * (N * x2 - M * y2) = N * N * (x1 * x1 + x2 * x2) + M * M * (y1 * y1 + y2 * y2) - 2 * (M * N * (x1 * y1 + x2 * y2)) := by grind
        have e2 : N * N * (M * M) = M * N * (M * N) := by grind
        have e3 : M * M * (N * N) = M * N * (M * N) := by grind
        exact Int.le_of_mul_le_mul_left (by omega) (Int.mul_pos hM hN)
      · subst hN
        have s1 := sq_nonneg y1
        have s2 := sq_nonneg y2
        have z1 : y1 = 0 := by
          have : y1 * y1 = 0 := by omega
          exact (Int.mul_eq_zero.mp this).elim id id
        have z2 : y2 = 0 := by
          have : y2 * y2 = 0 := by omega
          exact (Int.mul_eq_zero.mp this).elim id id
        subst z1 z2
        simp
    · subst hM
      have s1 := sq_nonneg x1
      have s2 := sq_nonneg x2
      have z1 : x1 = 0 := by
        have : x1 * x1 = 0 := by omega
        exact (Int.mul_eq_zero.mp this).elim id id
      have z2 : x2 = 0 := by
        have : x2 * x2 = 0 := by omega
        exact (Int.mul_eq_zero.mp this).elim id id
      subst z1 z2
      simp
  have e : (x1 + y1) * (x1 + y1) + (x2 + y2) * (x2 + y2) = x1 * x1 + x2 * x2 + 2 * (x1 * y1 + x2 * y2) + (y1 * y1 + y2 * y2) := by grind
  have e2 : (M + N) * (M + N) = M * M + 2 * (M * N) + N * N := by grind
  omega

/-- second differences of one axis are so small -/
def SD (B a b c d : Int) : Prop := -B ≤ a - 2 * b + c ∧ a - 2 * b + c ≤ B ∧ -B ≤ b - 2 * c + d ∧ b - 2 * c + d ≤ B
def SQ (Bx By : Int) (q : Quad) : Prop := SD Bx q.1.1 q.2.1.1 q.2.2.1.1 q.2.2.2.1 ∧ SD By q.1.2 q.2.1.2 q.2.2.1.2 q.2.2.2.2
abbrev hv (x y : Int) : Int := Int.fdiv (x + y) 2
theorem SD.half1 {B a b c d : Int} (h : SD B a b c d) : SD ((B + 4) / 4) a (hv a b) (hv (hv a b) (hv b c)) (hv (hv (hv a b) (hv b c)) (hv (hv b c) (hv c d))) := by
  unfold SD at *
  simp only [hv, fd2]
  omega
theorem SD.turn {B a b c d : Int} (h : SD B a b c d) : SD B d c b a := by
  unfold SD at *
  omega
theorem hvc (a b : Int) : hv a b = hv b a := by
  unfold hv
  rw [Int.add_comm]
theorem SD.half2 {B a b c d : Int} (h : SD B a b c d) : SD ((B + 4) / 4) (hv (hv (hv a b) (hv b c)) (hv (hv b c) (hv c d))) (hv (hv b c) (hv c d)) (hv c d) d := by
  have := h.turn.half1.turn
  rwa [hvc d c, hvc c b, hvc b a, hvc (hv c d) (hv b c), hvc (hv b c) (hv a b), hvc (hv (hv b c) (hv c d)) (hv (hv a b) (hv b c))] at this
theorem SQ.half1 {Bx By : Int} {q : Quad} (h : SQ Bx By q) : SQ ((Bx + 4) / 4) ((By + 4) / 4) (half1 q) := ⟨h.1.half1, h.2.half1⟩
theorem SQ.half2 {Bx By : Int} {q : Quad} (h : SQ Bx By q) : SQ ((Bx + 4) / 4) ((By + 4) / 4) (half2 q) := ⟨h.1.half2, h.2.half2⟩
theorem far_SD {B a b c d : Int} (h : SD B a b c d) : 0 ≤ farOf a b c d ∧ farOf a b c d ≤ 3 * B := by
  unfold SD at h
  unfold farOf imax iabs
  split <;> split <;> split <;> omega
theorem flat_iff {q : Quad} {f : Int} : isFlat q f = true ↔ farOf q.1.1 q.2.1.1 q.2.2.1.1 q.2.2.2.1 * farOf q.1.1 q.2.1.1 q.2.2.1.1 q.2.2.2.1 + farOf q.1.2 q.2.1.2 q.2.2.1.2 q.2.2.2.2 * farOf q.1.2 q.2.1.2 q.2.2.1.2 q.2.2.2.2 ≤ 16 * (f * f) := by
  unfold isFlat
  rw [decide_eq_true_iff]
  simp only [sq2]
  omega
theorem flat_SQ {Bx By f : Int} {q : Quad} (h : SQ Bx By q) (hf : 3 * Bx * (3 * Bx) + 3 * By * (3 * By) ≤ 16 * (f * f)) : isFlat q f = true := by
  rw [flat_iff]
  have h1 := far_SD h.1
  have h2 := far_SD h.2
  have a1 := sq_le (x := farOf q.1.1 q.2.1.1 q.2.2.1.1 q.2.2.2.1) (m := 3 * Bx) (by omega) (by omega)
  have a2 := sq_le (x := farOf q.1.2 q.2.1.2 q.2.2.1.2 q.2.2.2.2) (m := 3 * By) (by omega) (by omega)
  omega
/-- so many halvings do -/
def deep (f : Int) : Nat → Quad → Prop
  | 0, q => isFlat q f = true
  | n + 1, q => isFlat q f = true ∨ (deep f n (half1 q) ∧ deep f n (half2 q))
def sdAt (B : Int) : Nat → Int
  | 0 => B
  | n + 1 => sdAt ((B + 4) / 4) n
theorem deep_SQ (f : Int) : ∀ (n : Nat) (Bx By : Int) (q : Quad), SQ Bx By q → 3 * sdAt Bx n * (3 * sdAt Bx n) + 3 * sdAt By n * (3 * sdAt By n) ≤ 16 * (f * f) → deep f n q
  | 0, _, _, _, h, hf => flat_SQ h hf
  | n + 1, _, _, _, h, hf => .inr ⟨deep_SQ f n _ _ _ h.half1 hf, deep_SQ f n _ _ _ h.half2 hf⟩
theorem ends_deep (f : Int) : ∀ (n N : Nat) (q : Quad), deep f n q → (ends f N q).length ≤ 2 ^ n
  | _, 0, _, _ => by simp only [ends, List.length_singleton]; exact Nat.one_le_two_pow
  | 0, N + 1, q, h => by rw [ends_flat h]; simp
  | n + 1, N + 1, q, h => by
    rw [ends]
    split
    · simp only [List.length_singleton]; exact Nat.one_le_two_pow
    · rename_i hf
      rcases h with h | ⟨h1, h2⟩
      · exact absurd h hf
      · have a := ends_deep f n N _ h1
        have b := ends_deep f n N _ h2
        rw [List.length_append, Nat.pow_succ]
        omega
theorem ends_last (f : Int) : ∀ (n : Nat) (q : Quad), ∃ l, ends f n q = l ++ [q.2.2.2]
  | 0, q => ⟨[], rfl⟩
  | n + 1, q => by
    rw [ends]
    split
    · exact ⟨[], rfl⟩
    · obtain ⟨l, e⟩ := ends_last f n (half2 q)
      exact ⟨ends f n (half1 q) ++ l, by rw [e, List.append_assoc]; rfl⟩
/-- a coordinate between two -/
def Btw (lo hi : Int) (x : Int) : Prop := lo ≤ x ∧ x ≤ hi
theorem Btw.hv {lo hi x y : Int} (h : Btw lo hi x) (k : Btw lo hi y) : Btw lo hi (hv x y) := by
  unfold Btw at *
  simp only [Mine.hv, fd2]
  omega
theorem ends_box (f : Int) {lx hx ly hy : Int} : ∀ (n : Nat) (q : Quad), (Btw lx hx q.1.1 ∧ Btw lx hx q.2.1.1 ∧ Btw lx hx q.2.2.1.1 ∧ Btw lx hx q.2.2.2.1) → (Btw ly hy q.1.2 ∧ Btw ly hy q.2.1.2 ∧ Btw ly hy q.2.2.1.2 ∧ Btw ly hy q.2.2.2.2) →
    ∀ e ∈ ends f n q, Btw lx hx e.1 ∧ Btw ly hy e.2
  | 0, q, h1, h2, e, he => by rw [ends, List.mem_singleton] at he; rw [he]; exact ⟨h1.2.2.2, h2.2.2.2⟩
  | n + 1, q, ⟨a1, a2, a3, a4⟩, ⟨b1, b2, b3, b4⟩, e, he => by
    rw [ends] at he
    split at he
    · rw [List.mem_singleton] at he; rw [he]; exact ⟨a4, b4⟩
    · rcases List.mem_append.mp he with he | he
      · exact ends_box f n (half1 q) ⟨a1, a1.hv a2, (a1.hv a2).hv (a2.hv a3), ((a1.hv a2).hv (a2.hv a3)).hv ((a2.hv a3).hv (a3.hv a4))⟩ ⟨b1, b1.hv b2, (b1.hv b2).hv (b2.hv b3), ((b1.hv b2).hv (b2.hv b3)).hv ((b2.hv b3).hv (b3.hv b4))⟩ e he
      · exact ends_box f n (half2 q) ⟨((a1.hv a2).hv (a2.hv a3)).hv ((a2.hv a3).hv (a3.hv a4)), (a2.hv a3).hv (a3.hv a4), a3.hv a4, a4⟩ ⟨((b1.hv b2).hv (b2.hv b3)).hv ((b2.hv b3).hv (b3.hv b4)), (b2.hv b3).hv (b3.hv b4), b3.hv b4, b4⟩ e he
theorem pow3n' (x : Int) : x ^ Int.toNat 3 = x * x * x := by show x ^ 3 = _; rw [Int.pow_succ, Int.pow_succ, Int.pow_succ, Int.pow_zero, Int.one_mul]
theorem pow2n' (x : Int) : x ^ Int.toNat 2 = x * x := by show x ^ 2 = _; rw [Int.pow_succ, Int.pow_succ, Int.pow_zero, Int.one_mul]
theorem rest_mul {r A : Int} (h : 0 ≤ r ∧ r ≤ 1) (hA : 0 ≤ A) : 0 ≤ r * A ∧ r * A ≤ A := by
  refine ⟨Int.mul_nonneg h.1 hA, ?_⟩
  have := Int.mul_le_mul_of_nonneg_right h.2 hA
  rwa [Int.one_mul] at this
theorem hv_rest (x y : Int) : 0 ≤ x + y - 2 * hv x y ∧ x + y - 2 * hv x y ≤ 1 := by
  unfold hv
  rw [Int.fdiv_eq_ediv_of_nonneg _ (by decide)]
  omega
theorem step_id (a b c d ab bc cd abc bcd mm j n : Int) : cv a b c d j n - cv a ab abc mm (2 * j) n =
    3 * ((a + b - 2 * ab) * ((n - 2 * j) * (n - 2 * j) * j)) + 3 * ((a + b - 2 * ab) * ((n - 2 * j) * j * j)) + 3 * ((b + c - 2 * bc) * ((n - 2 * j) * j * j)) + 6 * ((ab + bc - 2 * abc) * ((n - 2 * j) * j * j)) +
    (a + b - 2 * ab) * (j * j * j) + 2 * ((b + c - 2 * bc) * (j * j * j)) + (c + d - 2 * cd) * (j * j * j) + 2 * ((ab + bc - 2 * abc) * (j * j * j)) + 2 * ((bc + cd - 2 * bcd) * (j * j * j)) + 4 * ((abc + bcd - 2 * mm) * (j * j * j)) := by
  simp only [cv, pow2n', pow3n']
  grind


theorem stepN {a b c d j n : Int} (h0 : 0 ≤ j) (h7 : 2 * j ≤ n) : 0 ≤ cv a b c d j n - cv a (hv a b) (hv (hv a b) (hv b c)) (hv (hv (hv a b) (hv b c)) (hv (hv b c) (hv c d))) (2 * j) n ∧ cv a b c d j n - cv a (hv a b) (hv (hv a b) (hv b c)) (hv (hv (hv a b) (hv b c)) (hv (hv b c) (hv c d))) (2 * j) n ≤ 3 * (n * n) * j := by
  rw [step_id a b c d (hv a b) (hv b c) (hv c d) (hv (hv a b) (hv b c)) (hv (hv b c) (hv c d)) (hv (hv (hv a b) (hv b c)) (hv (hv b c) (hv c d))) j n]
  have hP : 0 ≤ n - 2 * j := by omega
  have hA : 0 ≤ (n - 2 * j) * (n - 2 * j) * j := Int.mul_nonneg (Int.mul_nonneg hP hP) h0
  have hB : 0 ≤ (n - 2 * j) * j * j := Int.mul_nonneg (Int.mul_nonneg hP h0) h0
  have hC : 0 ≤ j * j * j := Int.mul_nonneg (Int.mul_nonneg h0 h0) h0
  have e : 3 * (n * n) * j = 3 * ((n - 2 * j) * (n - 2 * j) * j) + 12 * ((n - 2 * j) * j * j) + 12 * (j * j * j) := by grind
  rw [e]
  have r1 := hv_rest a b
  have r2 := hv_rest b c
  have r3 := hv_rest c d
  have r4 := hv_rest (hv a b) (hv b c)
  have r5 := hv_rest (hv b c) (hv c d)
  have r6 := hv_rest (hv (hv a b) (hv b c)) (hv (hv b c) (hv c d))
  have x1 := rest_mul r1 hA
  have x2 := rest_mul r1 hB
  have x3 := rest_mul r2 hB
  have x4 := rest_mul r4 hB
  have x5 := rest_mul r1 hC
  have x6 := rest_mul r2 hC
  have x7 := rest_mul r3 hC
  have x8 := rest_mul r4 hC
  have x9 := rest_mul r5 hC
  have x10 := rest_mul r6 hC
  clear r1 r2 r3 r4 r5 r6 hA hB hC e hP
  generalize (n - 2 * j) * (n - 2 * j) * j = A at *
  generalize (n - 2 * j) * j * j = B at *
  generalize j * j * j = C at *
  omega
theorem cv_turn (a b c d k n : Int) : cv a b c d k n = cv d c b a (n - k) n := by
  simp only [cv, pow2n', pow3n']
  grind
theorem hv_comm (a b : Int) : hv a b = hv b a := by
  unfold hv
  rw [Int.add_comm]
theorem stepN2 {a b c d j n : Int} (h0 : j ≤ n) (h7 : n ≤ 2 * j) : 0 ≤ cv a b c d j n - cv (hv (hv (hv a b) (hv b c)) (hv (hv b c) (hv c d))) (hv (hv b c) (hv c d)) (hv c d) d (2 * j - n) n ∧ cv a b c d j n - cv (hv (hv (hv a b) (hv b c)) (hv (hv b c) (hv c d))) (hv (hv b c) (hv c d)) (hv c d) d (2 * j - n) n ≤ 3 * (n * n) * (n - j) := by
  have h := stepN (a := d) (b := c) (c := b) (d := a) (j := n - j) (n := n) (by omega) (by omega)
  rw [cv_turn a, cv_turn (hv (hv (hv a b) (hv b c)) (hv (hv b c) (hv c d))), hv_comm a b, hv_comm b c, hv_comm c d, hv_comm (hv b a), hv_comm (hv c b) (hv d c), hv_comm (hv (hv c b) (hv b a)), show n - (2 * j - n) = 2 * (n - j) from by omega]
  exact h
theorem step7 (a b c d k : Int) (h0 : 0 ≤ k) (h7 : k ≤ 7) :
    (2 * k ≤ 7 → 0 ≤ cv a b c d k 7 - cv a (hv a b) (hv (hv a b) (hv b c)) (hv (hv (hv a b) (hv b c)) (hv (hv b c) (hv c d))) (2 * k) 7 ∧ cv a b c d k 7 - cv a (hv a b) (hv (hv a b) (hv b c)) (hv (hv (hv a b) (hv b c)) (hv (hv b c) (hv c d))) (2 * k) 7 ≤ 147 * k) ∧
    (7 < 2 * k → 0 ≤ cv a b c d k 7 - cv (hv (hv (hv a b) (hv b c)) (hv (hv b c) (hv c d))) (hv (hv b c) (hv c d)) (hv c d) d (2 * k - 7) 7 ∧ cv a b c d k 7 - cv (hv (hv (hv a b) (hv b c)) (hv (hv b c) (hv c d))) (hv (hv b c) (hv c d)) (hv c d) d (2 * k - 7) 7 ≤ 147 * (7 - k)) := by
  refine ⟨fun h => ?_, fun h => ?_⟩
  · have x := stepN (a := a) (b := b) (c := c) (d := d) h0 h
    simp only [Int.reduceMul] at x
    exact x
  · have x := stepN2 (a := a) (b := b) (c := c) (d := d) (j := k) (n := 7) h7 (by omega)
    simp only [Int.reduceMul] at x
    exact x
abbrev mn7 (k : Int) : Int := if 2 * k ≤ 7 then k else 7 - k
structure Err7 (n : Nat) (q r : Quad) (k k' : Int) : Prop where
  x0 : 0 ≤ cv q.1.1 q.2.1.1 q.2.2.1.1 q.2.2.2.1 k 7 - cv r.1.1 r.2.1.1 r.2.2.1.1 r.2.2.2.1 k' 7
  x1 : cv q.1.1 q.2.1.1 q.2.2.1.1 q.2.2.2.1 k 7 - cv r.1.1 r.2.1.1 r.2.2.1.1 r.2.2.2.1 k' 7 ≤ 343 * (n : Int) + 49 * mn7 k
  y0 : 0 ≤ cv q.1.2 q.2.1.2 q.2.2.1.2 q.2.2.2.2 k 7 - cv r.1.2 r.2.1.2 r.2.2.1.2 r.2.2.2.2 k' 7
  y1 : cv q.1.2 q.2.1.2 q.2.2.1.2 q.2.2.2.2 k 7 - cv r.1.2 r.2.1.2 r.2.2.1.2 r.2.2.2.2 k' 7 ≤ 343 * (n : Int) + 49 * mn7 k
/-- where the piece lies that a place of the curve falls on -/
theorem err_ge {X Y Z : Int} (h1 : 0 ≤ X - Y) (h2 : 0 ≤ Y - Z) : 0 ≤ X - Z := by omega
theorem err_le {X Y Z s u v K : Int} {n : Nat} (h1 : X - Y ≤ s) (h3 : Y - Z ≤ K * (n : Int) + u) (hm : s + u ≤ K + v) : X - Z ≤ K * ((n + 1 : Nat) : Int) + v := by
  rw [Int.natCast_add, Int.mul_add]
  omega
theorem piece7 (f : Int) : ∀ (n N : Nat) (q : Quad) (k : Int), n ≤ N → deep f n q → 0 ≤ k → k ≤ 7 →
    ∃ (r : Quad) (k' : Int) (l1 l2 : List Pt), q.1 :: ends f N q = l1 ++ r.1 :: r.2.2.2 :: l2 ∧ isFlat r f = true ∧ 0 ≤ k' ∧ k' ≤ 7 ∧ Err7 n q r k k' := by
  have base : ∀ (n N : Nat) (q : Quad) (k : Int), isFlat q f = true → 0 ≤ k → k ≤ 7 → ∃ (r : Quad) (k' : Int) (l1 l2 : List Pt), q.1 :: ends f N q = l1 ++ r.1 :: r.2.2.2 :: l2 ∧ isFlat r f = true ∧ 0 ≤ k' ∧ k' ≤ 7 ∧ Err7 n q r k k' := by
    intro n N q k hf h0 h7
    refine ⟨q, k, [], [], by rw [ends_flat hf]; rfl, hf, h0, h7, ?_⟩
    have : 0 ≤ mn7 k := by unfold mn7; split <;> omega
    constructor <;> omega
  intro n
  induction n with
  | zero => intro N q k _ hd h0 h7; exact base 0 N q k hd h0 h7
  | succ n ih =>
    intro N q k hN hd h0 h7
    obtain ⟨M, rfl⟩ : ∃ M, N = M + 1 := ⟨N - 1, by omega⟩
    by_cases hf : isFlat q f = true
    · exact base (n + 1) (M + 1) q k hf h0 h7
    · rcases hd with hd | ⟨hd1, hd2⟩
      · exact absurd hd hf
      · have hf' : isFlat q f = false := by simpa using hf
        rw [ends_halves hf']
        have sx := step7 q.1.1 q.2.1.1 q.2.2.1.1 q.2.2.2.1 k h0 h7
        have sy := step7 q.1.2 q.2.1.2 q.2.2.1.2 q.2.2.2.2 k h0 h7
        by_cases hk : 2 * k ≤ 7
        · obtain ⟨r, k', l1, l2, e, hr, hk0, hk7, hE⟩ := ih M (half1 q) (2 * k) (by omega) hd1 (by omega) (by omega)
          refine ⟨r, k', l1, l2 ++ ends f M (half2 q), ?_, hr, hk0, hk7, ?_⟩
          · rw [show q.1 :: (ends f M (half1 q) ++ ends f M (half2 q)) = ((half1 q).1 :: ends f M (half1 q)) ++ ends f M (half2 q) from rfl, e]
            simp
          · have sx1 := sx.1 hk
            have sy1 := sy.1 hk
            have hm : 147 * k + 49 * mn7 (2 * k) ≤ 343 + 49 * mn7 k := by clear sx sy sx1 sy1 hE e ih; unfold mn7; rw [if_pos hk]; split <;> omega
            exact ⟨err_ge sx1.1 hE.x0, err_le sx1.2 hE.x1 hm, err_ge sy1.1 hE.y0, err_le sy1.2 hE.y1 hm⟩
        · obtain ⟨r, k', l1, l2, e, hr, hk0, hk7, hE⟩ := ih M (half2 q) (2 * k - 7) (by omega) hd2 (by omega) (by omega)
          obtain ⟨l, hl⟩ := ends_last f M (half1 q)
          refine ⟨r, k', q.1 :: (l ++ l1), l2, ?_, hr, hk0, hk7, ?_⟩
          · rw [hl, List.append_assoc, show [(half1 q).2.2.2] ++ ends f M (half2 q) = (half2 q).1 :: ends f M (half2 q) from rfl, e]
            simp
          · have sx1 := sx.2 (by omega)
            have sy1 := sy.2 (by omega)
            have hm : 147 * (7 - k) + 49 * mn7 (2 * k - 7) ≤ 343 + 49 * mn7 k := by clear sx sy sx1 sy1 hE e ih; unfold mn7; rw [if_neg hk]; split <;> omega
            exact ⟨err_ge sx1.1 hE.x0, err_le sx1.2 hE.x1 hm, err_ge sy1.1 hE.y0, err_le sy1.2 hE.y1 hm⟩
/-- on a flat piece the curve keeps so near to the chord -/
theorem imax_le {x y B : Int} : imax x y ≤ B ↔ x ≤ B ∧ y ≤ B := by
  unfold imax
  split <;> omega
theorem iabs_le {x B : Int} : iabs x ≤ B ↔ -B ≤ x ∧ x ≤ B := by
  unfold iabs
  split <;> omega
theorem chord_id (a b c d k : Int) : 7 * (cv a b c d k 7 - 343 * a) - k * (343 * (d - a)) = 7 * (k * (7 - k) * ((7 - k) * (3 * b - 2 * a - d) + k * (3 * c - 2 * d - a))) := by
  simp only [cv, pow2n', pow3n']
  grind
theorem mul_box {x k B : Int} (hk : 0 ≤ k) (h : -B ≤ x ∧ x ≤ B) : -(k * B) ≤ k * x ∧ k * x ≤ k * B := by
  refine ⟨?_, Int.mul_le_mul_of_nonneg_left h.2 hk⟩
  have := Int.mul_le_mul_of_nonneg_left h.1 hk
  rwa [Int.mul_neg] at this
theorem chord7 {a b c d k B : Int} (h0 : 0 ≤ k) (h7 : k ≤ 7) (hB : farOf a b c d ≤ B) : -(588 * B) ≤ 7 * (cv a b c d k 7 - 343 * a) - k * (343 * (d - a)) ∧ 7 * (cv a b c d k 7 - 343 * a) - k * (343 * (d - a)) ≤ 588 * B := by
  unfold farOf at hB
  rw [imax_le, iabs_le, iabs_le] at hB
  rw [chord_id]
  have m : 0 ≤ k * (7 - k) ∧ k * (7 - k) ≤ 12 := by
    have hk : k = 0 ∨ k = 1 ∨ k = 2 ∨ k = 3 ∨ k = 4 ∨ k = 5 ∨ k = 6 ∨ k = 7 := by omega
    rcases hk with rfl | rfl | rfl | rfl | rfl | rfl | rfl | rfl <;> decide
  have hB0 : 0 ≤ B := by omega
  have u := mul_box (k := 7 - k) (by omega) hB.1
  have v := mul_box (k := k) h0 hB.2
  have e : (7 - k) * B + k * B = 7 * B := by rw [← Int.add_mul]; congr 1; omega
  have w := mul_box (x := (7 - k) * (3 * b - 2 * a - d) + k * (3 * c - 2 * d - a)) (B := 7 * B) m.1 (by omega)
  have z := Int.mul_le_mul_of_nonneg_right m.2 (show 0 ≤ 7 * B by omega)
  clear u v e hB
  generalize k * (7 - k) * (7 * B) = x1 at *
  generalize k * (7 - k) * _ = x2 at *
  omega
theorem cv_bd {a b c d k n B : Int} (h0 : 0 ≤ k) (h7 : k ≤ n) (ha : -B ≤ a ∧ a ≤ B) (hb : -B ≤ b ∧ b ≤ B) (hc : -B ≤ c ∧ c ≤ B) (hd : -B ≤ d ∧ d ≤ B) : -(n * n * n * B) ≤ cv a b c d k n ∧ cv a b c d k n ≤ n * n * n * B := by
  have e : cv a b c d k n = (n - k) * (n - k) * (n - k) * a + 3 * (k * ((n - k) * (n - k)) * b) + 3 * (k * k * (n - k) * c) + k * k * k * d := by
    simp only [cv, pow2n', pow3n']
    grind
  have f : n * n * n * B = (n - k) * (n - k) * (n - k) * B + 3 * (k * ((n - k) * (n - k)) * B) + 3 * (k * k * (n - k) * B) + k * k * k * B := by grind
  rw [e, f]
  have hP : 0 ≤ n - k := by omega
  have u1 := mul_box (Int.mul_nonneg (Int.mul_nonneg hP hP) hP) ha
  have u2 := mul_box (Int.mul_nonneg h0 (Int.mul_nonneg hP hP)) hb
  have u3 := mul_box (Int.mul_nonneg (Int.mul_nonneg h0 h0) hP) hc
  have u4 := mul_box (Int.mul_nonneg (Int.mul_nonneg h0 h0) h0) hd
  clear ha hb hc hd e f
  generalize (n - k) * (n - k) * (n - k) * a = x1 at *
  generalize k * ((n - k) * (n - k)) * b = x2 at *
  generalize k * k * (n - k) * c = x3 at *
  generalize k * k * k * d = x4 at *
  generalize (n - k) * (n - k) * (n - k) * B = y1 at *
  generalize k * ((n - k) * (n - k)) * B = y2 at *
  generalize k * k * (n - k) * B = y3 at *
  generalize k * k * k * B = y4 at *
  omega
theorem near7 {f : Int} {q r : Quad} {k k' : Int} (hf : 0 ≤ f) (hr : isFlat r f = true) (h0 : 0 ≤ k') (h7 : k' ≤ 7) (hE : Err7 5 q r k k') (hk : 0 ≤ k ∧ k ≤ 7) :
    isNear (cv q.1.1 q.2.1.1 q.2.2.1.1 q.2.2.2.1 k 7, cv q.1.2 q.2.1.2 q.2.2.1.2 q.2.2.2.2 k 7) r.1 r.2.2.2 (f + 9) 343 = true := by
  obtain ⟨x0, x1, y0, y1⟩ := hE
  have hm : mn7 k ≤ 3 := by unfold mn7; split <;> omega
  generalize cv q.1.1 q.2.1.1 q.2.2.1.1 q.2.2.2.1 k 7 = X at *
  generalize cv q.1.2 q.2.1.2 q.2.2.1.2 q.2.2.2.2 k 7 = Y at *
  rw [flat_iff] at hr
  have cx := chord7 (a := r.1.1) (b := r.2.1.1) (c := r.2.2.1.1) (d := r.2.2.2.1) h0 h7 (Int.le_refl _)
  have cy := chord7 (a := r.1.2) (b := r.2.1.2) (c := r.2.2.1.2) (d := r.2.2.2.2) h0 h7 (Int.le_refl _)
  generalize cv r.1.1 r.2.1.1 r.2.2.1.1 r.2.2.2.1 k' 7 = U at *
  generalize cv r.1.2 r.2.1.2 r.2.2.1.2 r.2.2.2.2 k' 7 = V at *
  generalize farOf r.1.1 r.2.1.1 r.2.2.1.1 r.2.2.2.1 = A at *
  generalize farOf r.1.2 r.2.1.2 r.2.2.1.2 r.2.2.2.2 = B at *
  refine near_ok k' 7 (by decide) h0 h7 ?_
  dsimp only
  have e1 : 7 * (X - 343 * r.1.1) - k' * (343 * (r.2.2.2.1 - r.1.1)) = (7 * (U - 343 * r.1.1) - k' * (343 * (r.2.2.2.1 - r.1.1))) + 7 * (X - U) := by omega
  have e2 : 7 * (Y - 343 * r.1.2) - k' * (343 * (r.2.2.2.2 - r.1.2)) = (7 * (V - 343 * r.1.2) - k' * (343 * (r.2.2.2.2 - r.1.2))) + 7 * (Y - V) := by omega
  rw [e1, e2]
  generalize 7 * (U - 343 * r.1.1) - k' * (343 * (r.2.2.2.1 - r.1.1)) = D1 at *
  generalize 7 * (V - 343 * r.1.2) - k' * (343 * (r.2.2.2.2 - r.1.2)) = D2 at *
  have s1 := sq_le cx.1 cx.2
  have s2 := sq_le cy.1 cy.2
  have s3 := sq_le (x := 7 * (X - U)) (m := 13034) (by omega) (by omega)
  have s4 := sq_le (x := 7 * (Y - V)) (m := 13034) (by omega) (by omega)
  have m1 := minkowski (x1 := D1) (x2 := D2) (y1 := 7 * (X - U)) (y2 := 7 * (Y - V)) (M := 2352 * f) (N := 21609) (by omega) (by decide) ?_ (by omega)
  · refine Int.le_trans m1 ?_
    have m2 := sq_le (x := 2352 * f + 21609) (m := 7 * (343 * (f + 9))) (by omega) (by omega)
    have e3 : 7 * (343 * (f + 9)) * (7 * (343 * (f + 9))) = 7 * 7 * (343 * (f + 9) * (343 * (f + 9))) := by grind
    omega
  · have e4 : 588 * A * (588 * A) = 345744 * (A * A) := by grind
    have e5 : 588 * B * (588 * B) = 345744 * (B * B) := by grind
    have e6 : 2352 * f * (2352 * f) = 5531904 * (f * f) := by grind
    omega
theorem filter_ne_nil {p : Nat → Bool} {n k : Nat} (hk : k < n) (h : p k = true) : (((List.range n).filter p).map Int.ofNat) ≠ [] := by
  intro e
  have : k ∈ (List.range n).filter p := List.mem_filter.mpr ⟨List.mem_range.mpr hk, h⟩
  rw [List.map_eq_nil_iff.mp e] at this
  exact absurd this List.not_mem_nil
theorem isOn_of {p : Pt} {es l1 l2 : List Pt} {a b : Pt} {most times : Int} (e : es = l1 ++ a :: b :: l2) (h : isNear p a b most times = true) : isOn p es most times = true := by
  unfold isOn
  rw [decide_eq_false (filter_ne_nil (k := l1.length) (by subst e; simp) ?_)]
  · rfl
  · subst e
    unfold nearAt
    rw [List.getD_eq_getElem?_getD, List.getD_eq_getElem?_getD, List.getElem?_append_right (Nat.le_refl _), List.getElem?_append_right (Nat.le_succ _)]
    simpa using h
theorem on7 {f : Int} {q : Quad} {k : Int} (hf : 0 ≤ f) (hd : deep f 5 q) (hk : 0 ≤ k ∧ k ≤ 7) :
    isOn (cv q.1.1 q.2.1.1 q.2.2.1.1 q.2.2.2.1 k 7, cv q.1.2 q.2.1.2 q.2.2.1.2 q.2.2.2.2 k 7) (q.1 :: ends f 10 q) (f + 9) 343 = true := by
  obtain ⟨r, k', l1, l2, e, hr, h0, h7, hE⟩ := piece7 f 5 10 q k (by decide) hd hk.1 hk.2
  exact isOn_of e (near7 hf hr h0 h7 hE hk)
set_option linter.unusedSimpArgs false
theorem step32 (a b c d j : Int) (h0 : 0 ≤ j) (h7 : j ≤ 32) :
    (j ≤ 16 → 0 ≤ cv a b c d j 32 - cv a (hv a b) (hv (hv a b) (hv b c)) (hv (hv (hv a b) (hv b c)) (hv (hv b c) (hv c d))) (2 * j) 32 ∧ cv a b c d j 32 - cv a (hv a b) (hv (hv a b) (hv b c)) (hv (hv (hv a b) (hv b c)) (hv (hv b c) (hv c d))) (2 * j) 32 ≤ 3072 * j) ∧
    (16 ≤ j → 0 ≤ cv a b c d j 32 - cv (hv (hv (hv a b) (hv b c)) (hv (hv b c) (hv c d))) (hv (hv b c) (hv c d)) (hv c d) d (2 * j - 32) 32 ∧ cv a b c d j 32 - cv (hv (hv (hv a b) (hv b c)) (hv (hv b c) (hv c d))) (hv (hv b c) (hv c d)) (hv c d) d (2 * j - 32) 32 ≤ 3072 * (32 - j)) := by
  refine ⟨fun h => ?_, fun h => ?_⟩
  · have x := stepN (a := a) (b := b) (c := c) (d := d) (j := j) (n := 32) h0 (by omega)
    simp only [Int.reduceMul] at x
    exact x
  · have x := stepN2 (a := a) (b := b) (c := c) (d := d) (j := j) (n := 32) h7 (by omega)
    simp only [Int.reduceMul] at x
    exact x
def chI (j : Int) : Int := if j = 32 then 7 else j / 4
def chN (j : Int) : Int := [0, 9, 17, 25, 0, 9, 17, 25, 0, 9, 17, 25, 0, 9, 17, 25, 0, 7, 15, 23, 0, 7, 15, 23, 0, 7, 15, 23, 0, 7, 15, 23, 32].getD j.toNat 0
abbrev mn32 (j : Int) : Int := if j ≤ 16 then j else 32 - j
theorem below33 {P : Int → Prop} (h : ∀ k : Nat, k < 33 → P k) {j : Int} (h0 : 0 ≤ j) (h7 : j ≤ 32) : P j := by
  have := h j.toNat (by omega)
  rwa [Int.toNat_of_nonneg h0] at this
theorem ch_ok {j : Int} (h0 : 0 ≤ j) (h7 : j ≤ 32) : 0 ≤ chI j ∧ chI j ≤ 7 ∧ 0 ≤ chN j ∧ chN j ≤ 32 :=
  below33 (P := fun j => 0 ≤ chI j ∧ chI j ≤ 7 ∧ 0 ≤ chN j ∧ chN j ≤ 32) (by decide +kernel) h0 h7
def ab1 (k : Int) : Int := if 0 ≤ k then k else -k
theorem lin_le (k : Int) {x : Int} (hx : -300 ≤ x ∧ x ≤ 300) : -(300 * ab1 k) ≤ k * x ∧ k * x ≤ 300 * ab1 k := by
  unfold ab1
  split
  · rename_i h
    have h1 := Int.mul_le_mul_of_nonneg_left hx.1 h
    have h2 := Int.mul_le_mul_of_nonneg_left hx.2 h
    omega
  · rename_i h
    have h1 := Int.mul_le_mul_of_nonneg_left hx.1 (show 0 ≤ -k by omega)
    have h2 := Int.mul_le_mul_of_nonneg_left hx.2 (show 0 ≤ -k by omega)
    rw [Int.neg_mul, Int.neg_mul] at h1 h2
    omega
def al32 (j i n : Int) : Int := (32 - j) * (32 - j) * (32 - j) - 64 * ((8 - i) * (8 - i) * (8 - i)) - 2 * n * ((7 - i) * (7 - i) * (7 - i) - (8 - i) * (8 - i) * (8 - i))
def be32 (j i n : Int) : Int := 3 * (j * ((32 - j) * (32 - j)) - 64 * (i * ((8 - i) * (8 - i))) - 2 * n * ((i + 1) * ((7 - i) * (7 - i)) - i * ((8 - i) * (8 - i))))
def ga32 (j i n : Int) : Int := 3 * (j * j * (32 - j) - 64 * (i * i * (8 - i)) - 2 * n * ((i + 1) * (i + 1) * (7 - i) - i * i * (8 - i)))
def de32 (j i n : Int) : Int := j * j * j - 64 * (i * i * i) - 2 * n * ((i + 1) * (i + 1) * (i + 1) - i * i * i)
theorem axis_id (a b c d e j i n : Int) : 2 * (32 * (512 * e - cv a b c d i 8) - n * (cv a b c d (i + 1) 8 - cv a b c d i 8)) =
    al32 j i n * a + be32 j i n * b + ga32 j i n * c + de32 j i n * d - (cv a b c d j 32 - 32768 * e) := by
  simp only [cv, pow2n', pow3n', al32, be32, ga32, de32]
  grind
theorem axis_ok {j : Int} (h0 : 0 ≤ j) (h7 : j ≤ 32) : 300 * ab1 (al32 j (chI j) (chN j)) + 300 * ab1 (be32 j (chI j) (chN j)) + 300 * ab1 (ga32 j (chI j) (chN j)) + 300 * ab1 (de32 j (chI j) (chN j)) + (163840 + 1024 * mn32 j) ≤ 458752 :=
  below33 (P := fun j => 300 * ab1 (al32 j (chI j) (chN j)) + 300 * ab1 (be32 j (chI j) (chN j)) + 300 * ab1 (ga32 j (chI j) (chN j)) + 300 * ab1 (de32 j (chI j) (chN j)) + (163840 + 1024 * mn32 j) ≤ 458752) (by decide +kernel) h0 h7
theorem axis32 {a b c d e j : Int} (h0 : 0 ≤ j) (h7 : j ≤ 32) (ha : -300 ≤ a ∧ a ≤ 300) (hb : -300 ≤ b ∧ b ≤ 300) (hc : -300 ≤ c ∧ c ≤ 300) (hd : -300 ≤ d ∧ d ≤ 300)
    (h1 : 0 ≤ cv a b c d j 32 - 32768 * e) (h2 : cv a b c d j 32 - 32768 * e ≤ 163840 + 1024 * mn32 j) :
    -229376 ≤ 32 * (512 * e - cv a b c d (chI j) 8) - chN j * (cv a b c d (chI j + 1) 8 - cv a b c d (chI j) 8) ∧ 32 * (512 * e - cv a b c d (chI j) 8) - chN j * (cv a b c d (chI j + 1) 8 - cv a b c d (chI j) 8) ≤ 229376 := by
  have e := axis_id a b c d e j (chI j) (chN j)
  have k0 := axis_ok h0 h7
  have ka := lin_le (al32 j (chI j) (chN j)) ha
  have kb := lin_le (be32 j (chI j) (chN j)) hb
  have kc := lin_le (ga32 j (chI j) (chN j)) hc
  have kd := lin_le (de32 j (chI j) (chN j)) hd
  have m0 : 0 ≤ mn32 j := by unfold mn32; split <;> omega
  clear ha hb hc hd h0 h7
  generalize al32 j (chI j) (chN j) * a = xa at *
  generalize be32 j (chI j) (chN j) * b = xb at *
  generalize ga32 j (chI j) (chN j) * c = xc at *
  generalize de32 j (chI j) (chN j) * d = xd at *
  generalize cv a b c d j 32 - 32768 * _ = X at *
  generalize 32 * (512 * _ - cv a b c d (chI j) 8) - chN j * (cv a b c d (chI j + 1) 8 - cv a b c d (chI j) 8) = Y at *
  generalize mn32 j = mn at *
  generalize ab1 (al32 j (chI j) (chN j)) = ua at *
  generalize ab1 (be32 j (chI j) (chN j)) = ub at *
  generalize ab1 (ga32 j (chI j) (chN j)) = uc at *
  generalize ab1 (de32 j (chI j) (chN j)) = ud at *
  omega
structure Err32 (n : Nat) (q : Quad) (e : Pt) (j : Int) : Prop where
  x0 : 0 ≤ cv q.1.1 q.2.1.1 q.2.2.1.1 q.2.2.2.1 j 32 - 32768 * e.1
  x1 : cv q.1.1 q.2.1.1 q.2.2.1.1 q.2.2.2.1 j 32 - 32768 * e.1 ≤ 32768 * (n : Int) + 1024 * mn32 j
  y0 : 0 ≤ cv q.1.2 q.2.1.2 q.2.2.1.2 q.2.2.2.2 j 32 - 32768 * e.2
  y1 : cv q.1.2 q.2.1.2 q.2.2.1.2 q.2.2.2.2 j 32 - 32768 * e.2 ≤ 32768 * (n : Int) + 1024 * mn32 j
theorem cv_end (a b c d : Int) : cv a b c d 32 32 = 32768 * d ∧ cv a b c d 0 8 = 512 * a ∧ cv a b c d 8 8 = 512 * d := by
  simp only [cv, toNat2, toNat3, Int.reduceMul, Int.reduceSub, Int.reducePow]
  omega
/-- where on the curve an end lies -/
theorem place32 (f : Int) : ∀ (n N : Nat) (q : Quad) (e : Pt), n ≤ 5 → n ≤ N → deep f n q → e ∈ ends f N q → ∃ (j i : Int), 0 ≤ j ∧ j ≤ 32 ∧ j * 2 ^ n = 32 * i ∧ Err32 n q e j := by
  have base : ∀ (n N : Nat) (q : Quad) (e : Pt), isFlat q f = true → e ∈ ends f N q → ∃ (j i : Int), 0 ≤ j ∧ j ≤ 32 ∧ j * 2 ^ n = 32 * i ∧ Err32 n q e j := by
    intro n N q e hf he
    rw [ends_flat hf, List.mem_singleton] at he
    subst he
    refine ⟨32, 2 ^ n, by decide, by decide, rfl, ?_⟩
    have : mn32 32 = 0 := by decide
    constructor <;> simp only [cv_end] <;> omega
  intro n
  induction n with
  | zero => intro N q e _ _ hd he; exact base 0 N q e hd he
  | succ n ih =>
    intro N q e h5 hN hd he
    obtain ⟨M, rfl⟩ : ∃ M, N = M + 1 := ⟨N - 1, by omega⟩
    by_cases hf : isFlat q f = true
    · exact base (n + 1) (M + 1) q e hf he
    · rcases hd with hd | ⟨hd1, hd2⟩
      · exact absurd hd hf
      · have hf' : isFlat q f = false := by simpa using hf
        rw [ends_halves hf'] at he
        have even : ∀ j i : Int, j * 2 ^ n = 32 * i → ∃ t, j = 2 * t ∧ t * 2 ^ (n + 1) = 32 * i := by
          intro j i hj
          have hn : n = 0 ∨ n = 1 ∨ n = 2 ∨ n = 3 ∨ n = 4 := by omega
          rcases hn with rfl | rfl | rfl | rfl | rfl <;> simp only [Nat.zero_add, Nat.reduceAdd, Int.reducePow] at * <;> exact ⟨j / 2, by omega, by omega⟩
        rcases List.mem_append.mp he with he | he
        · obtain ⟨j, i, hj0, hj32, hji, hE⟩ := ih M (half1 q) e (by omega) (by omega) hd1 he
          obtain ⟨t, rfl, ht⟩ := even j i hji
          have sx := (step32 q.1.1 q.2.1.1 q.2.2.1.1 q.2.2.2.1 t (by omega) (by omega)).1 (by omega)
          have sy := (step32 q.1.2 q.2.1.2 q.2.2.1.2 q.2.2.2.2 t (by omega) (by omega)).1 (by omega)
          refine ⟨t, i, by omega, by omega, ht, ?_⟩
          have hm : 3072 * t + 1024 * mn32 (2 * t) ≤ 32768 + 1024 * mn32 t := by clear sx sy hE ih; unfold mn32; rw [if_pos (show t ≤ 16 by omega)]; split <;> omega
          exact ⟨err_ge sx.1 hE.x0, err_le sx.2 hE.x1 hm, err_ge sy.1 hE.y0, err_le sy.2 hE.y1 hm⟩
        · obtain ⟨j, i, hj0, hj32, hji, hE⟩ := ih M (half2 q) e (by omega) (by omega) hd2 he
          obtain ⟨t, rfl, ht⟩ := even j i hji
          have sx := (step32 q.1.1 q.2.1.1 q.2.2.1.1 q.2.2.2.1 (t + 16) (by omega) (by omega)).2 (by omega)
          have sy := (step32 q.1.2 q.2.1.2 q.2.2.1.2 q.2.2.2.2 (t + 16) (by omega) (by omega)).2 (by omega)
          rw [show 2 * (t + 16) - 32 = 2 * t by omega] at sx sy
          refine ⟨t + 16, i + 2 ^ n, by omega, by omega, ?_, ?_⟩
          · rw [Int.add_mul, ht, Int.pow_succ, Int.mul_add]; omega
          have hm : 3072 * (32 - (t + 16)) + 1024 * mn32 (2 * t) ≤ 32768 + 1024 * mn32 (t + 16) := by clear sx sy hE ih; unfold mn32; split <;> split <;> omega
          exact ⟨err_ge sx.1 hE.x0, err_le sx.2 hE.x1 hm, err_ge sy.1 hE.y0, err_le sy.2 hE.y1 hm⟩
theorem isOn_at {p : Pt} {es : List Pt} {most times : Int} {k : Nat} (hk : k < es.length - 1) (h : isNear p (es.getD k (0, 0)) (es.getD (k + 1) (0, 0)) most times = true) : isOn p es most times = true := by
  unfold isOn
  rw [decide_eq_false (filter_ne_nil (k := k) hk h)]
  rfl
/-- nine points of the curve -/
def chordsOf (q : Quad) : List Pt := (List.range 9).map fun k : Nat => (cv q.1.1 q.2.1.1 q.2.2.1.1 q.2.2.2.1 k 8, cv q.1.2 q.2.1.2 q.2.2.1.2 q.2.2.2.2 k 8)
theorem chords_at (q : Quad) {k : Nat} (hk : k < 9) : (chordsOf q).getD k (0, 0) = (cv q.1.1 q.2.1.1 q.2.2.1.1 q.2.2.2.1 k 8, cv q.1.2 q.2.1.2 q.2.2.1.2 q.2.2.2.2 k 8) := by
  unfold chordsOf
  rw [List.getD_eq_getElem?_getD, List.getElem?_map, List.getElem?_range hk]
  rfl
theorem on8_chord {q : Quad} {p : Pt} (i : Nat) (n d : Int) (hi : i < 8) (hd : 0 < d) (hn : 0 ≤ n) (hnd : n ≤ d)
    (h : (d * (p.1 - cv q.1.1 q.2.1.1 q.2.2.1.1 q.2.2.2.1 i 8) - n * (cv q.1.1 q.2.1.1 q.2.2.1.1 q.2.2.2.1 ((i : Int) + 1) 8 - cv q.1.1 q.2.1.1 q.2.2.1.1 q.2.2.2.1 i 8)) * (d * (p.1 - cv q.1.1 q.2.1.1 q.2.2.1.1 q.2.2.2.1 i 8) - n * (cv q.1.1 q.2.1.1 q.2.2.1.1 q.2.2.2.1 ((i : Int) + 1) 8 - cv q.1.1 q.2.1.1 q.2.2.1.1 q.2.2.2.1 i 8))
      + (d * (p.2 - cv q.1.2 q.2.1.2 q.2.2.1.2 q.2.2.2.2 i 8) - n * (cv q.1.2 q.2.1.2 q.2.2.1.2 q.2.2.2.2 ((i : Int) + 1) 8 - cv q.1.2 q.2.1.2 q.2.2.1.2 q.2.2.2.2 i 8)) * (d * (p.2 - cv q.1.2 q.2.1.2 q.2.2.1.2 q.2.2.2.2 i 8) - n * (cv q.1.2 q.2.1.2 q.2.2.1.2 q.2.2.2.2 ((i : Int) + 1) 8 - cv q.1.2 q.2.1.2 q.2.2.1.2 q.2.2.2.2 i 8)) ≤ d * d * 104857600) :
    isOn p (chordsOf q) 10240 1 = true := by
  refine isOn_at (k := i) (by simp [chordsOf]; omega) ?_
  rw [chords_at q (by omega), chords_at q (by omega)]
  refine near_ok n d hd hn hnd ?_
  simp only [Int.one_mul, Int.natCast_add, Int.natCast_one]
  exact h
theorem on8_first (q : Quad) : isOn (512 * q.1.1, 512 * q.1.2) (chordsOf q) 10240 1 = true := by
  refine on8_chord 0 0 1 (by decide) (by decide) (by decide) (by decide) ?_
  rw [show ((0 : Nat) : Int) = 0 from rfl, (cv_end q.1.1 q.2.1.1 q.2.2.1.1 q.2.2.2.1).2.1, (cv_end q.1.2 q.2.1.2 q.2.2.1.2 q.2.2.2.2).2.1]
  simp
theorem on8_last (q : Quad) : isOn (512 * q.2.2.2.1, 512 * q.2.2.2.2) (chordsOf q) 10240 1 = true := by
  refine on8_chord 7 1 1 (by decide) (by decide) (by decide) (by decide) ?_
  rw [show ((7 : Nat) : Int) + 1 = 8 from rfl, (cv_end q.1.1 q.2.1.1 q.2.2.1.1 q.2.2.2.1).2.2, (cv_end q.1.2 q.2.1.2 q.2.2.1.2 q.2.2.2.2).2.2]
  dsimp only
  rw [Int.one_mul, Int.one_mul, Int.one_mul, Int.one_mul, Int.sub_self, Int.sub_self]
  decide
theorem on8 {f : Int} {q : Quad} {e : Pt} (hq : QB 300 q) (hd : deep f 5 q) (he : e ∈ ends f 10 q) : isOn (512 * e.1, 512 * e.2) (chordsOf q) 10240 1 = true := by
  obtain ⟨j, _, h0, h32, _, x0, x1, y0, y1⟩ := place32 f 5 10 q e (by decide) (by decide) hd he
  obtain ⟨c1, c2, c3, c4⟩ := ch_ok h0 h32
  obtain ⟨⟨q1, q2, q3, q4⟩, ⟨q5, q6, q7, q8⟩, ⟨q9, q10, q11, q12⟩, ⟨q13, q14, q15, q16⟩⟩ := hq
  have ax := axis32 (e := e.1) h0 h32 ⟨q1, q2⟩ ⟨q5, q6⟩ ⟨q9, q10⟩ ⟨q13, q14⟩ x0 (by omega)
  have ay := axis32 (e := e.2) h0 h32 ⟨q3, q4⟩ ⟨q7, q8⟩ ⟨q11, q12⟩ ⟨q15, q16⟩ y0 (by omega)
  have sx := sq_le ax.1 ax.2
  have sy := sq_le ay.1 ay.2
  refine on8_chord (chI j).toNat (chN j) 32 (by omega) (by decide) c3 c4 ?_
  rw [Int.toNat_of_nonneg c1]
  dsimp only
  omega
theorem sdAt_le : ∀ (n : Nat) (B Y : Int), 0 ≤ B → 0 ≤ Y → B ≤ Y + 2 → 0 ≤ sdAt B n ∧ sdAt B n ≤ Y / 4 ^ n + 2
  | 0, B, Y, h, hY, hB => by simp only [sdAt, Int.pow_zero, Int.ediv_one]; omega
  | n + 1, B, Y, h, hY, hB => by
    obtain ⟨h1, h2⟩ := sdAt_le n ((B + 4) / 4) (Y / 4) (by omega) (by omega) (by omega)
    rw [sdAt]
    refine ⟨h1, ?_⟩
    rw [Int.ediv_ediv_of_nonneg (by decide)] at h2
    rw [Int.pow_succ, Int.mul_comm (4 ^ n) 4]
    exact h2
theorem SD_bent (a b c d : Int) : 0 ≤ bentOf a b c d ∧ SD (bentOf a b c d) a b c d := by
  unfold SD bentOf imax iabs
  split <;> split <;> split <;> omega
theorem ends_most {q : Quad} {f : Int} {j : Nat} (hj : j ≤ 10) (h : j = 10 ∨ (farAt q j).1 * (farAt q j).1 + ((farAt q j).2 * (farAt q j).2 + 0) ≤ 16 * f * f) : (ends f 10 q).length ≤ 2 ^ j := by
  rcases h with rfl | h
  · exact (ends_length f 10 q).2
  · refine ends_deep f j 10 q ?_
    rw [Int.mul_assoc] at h
    cases j with
    | zero =>
      show isFlat q f = true
      rw [flat_iff]
      simp only [farAt] at h
      omega
    | succ n =>
      obtain ⟨bx, sx⟩ := SD_bent q.1.1 q.2.1.1 q.2.2.1.1 q.2.2.2.1
      obtain ⟨by_, sy⟩ := SD_bent q.1.2 q.2.1.2 q.2.2.1.2 q.2.2.2.2
      refine deep_SQ f (n + 1) _ _ q ⟨sx, sy⟩ ?_
      simp only [farAt] at h
      obtain ⟨x0, x1⟩ := sdAt_le (n + 1) _ _ bx bx (by omega)
      obtain ⟨y0, y1⟩ := sdAt_le (n + 1) _ _ by_ by_ (by omega)
      have p : (0 : Int) ≤ 4 ^ (n + 1) := Int.le_of_lt (Int.pow_pos (by decide))
      rw [Int.fdiv_eq_ediv_of_nonneg _ p, Int.fdiv_eq_ediv_of_nonneg _ p] at h
      have s1 := sq_le (x := 3 * sdAt (bentOf q.1.1 q.2.1.1 q.2.2.1.1 q.2.2.2.1) (n + 1)) (m := 3 * (bentOf q.1.1 q.2.1.1 q.2.2.1.1 q.2.2.2.1 / 4 ^ (n + 1)) + 8) (by omega) (by omega)
      have s2 := sq_le (x := 3 * sdAt (bentOf q.1.2 q.2.1.2 q.2.2.1.2 q.2.2.2.2) (n + 1)) (m := 3 * (bentOf q.1.2 q.2.1.2 q.2.2.1.2 q.2.2.2.2 / 4 ^ (n + 1)) + 8) (by omega) (by omega)
      omega
theorem deep5 {q : Quad} {f : Int} (hq : QB 300 q) (hf : 4 ≤ f) : deep f 5 q := by
  obtain ⟨⟨q1, q2, q3, q4⟩, ⟨q5, q6, q7, q8⟩, ⟨q9, q10, q11, q12⟩, ⟨q13, q14, q15, q16⟩⟩ := hq
  refine deep_SQ f 5 1200 1200 q ⟨by unfold SD; omega, by unfold SD; omega⟩ ?_
  have e : sdAt 1200 5 = 2 := by decide
  rw [e]
  have s := sq_le (x := 4) (m := f) (by omega) (by omega)
  omega
theorem deep_mono {f : Int} {q : Quad} (h : isFlat q f = true) : ∀ n, deep f n q
  | 0 => h
  | _ + 1 => .inl h
/-- straight points: one line does -/
theorem flat_line {x y r s f : Int} : isFlat ((x, y), (x + r, y + s), (x + 2 * r, y + 2 * s), (x + 3 * r, y + 3 * s)) f = true := by
  rw [flat_iff]
  have h : ∀ x r : Int, farOf x (x + r) (x + 2 * r) (x + 3 * r) = 0 := by
    intro x r
    unfold farOf imax iabs
    split <;> split <;> split <;> omega
  dsimp only
  rw [h, h]
  have := sq_nonneg f
  omega
/-- the whole of what law asks of the ends -/
structure Fine (q : Quad) (f : Int) (st : Bool) : Prop where
  len : 1 ≤ (ends f 10 q).length ∧ (ends f 10 q).length ≤ 1024
  last : ∃ l, ends f 10 q = l ++ [q.2.2.2]
  one : st = true → ends f 10 q = [q.2.2.2]
  most : ∀ j, j ≤ 10 → (j = 10 ∨ (farAt q j).1 * (farAt q j).1 + ((farAt q j).2 * (farAt q j).2 + 0) ≤ 16 * f * f) → (ends f 10 q).length ≤ 2 ^ j
  box : ∀ lx hx ly hy, (Btw lx hx q.1.1 ∧ Btw lx hx q.2.1.1 ∧ Btw lx hx q.2.2.1.1 ∧ Btw lx hx q.2.2.2.1) → (Btw ly hy q.1.2 ∧ Btw ly hy q.2.1.2 ∧ Btw ly hy q.2.2.1.2 ∧ Btw ly hy q.2.2.2.2) →
    ∀ e ∈ q.1 :: ends f 10 q, Btw lx hx e.1 ∧ Btw ly hy e.2
  seven : ∀ k : Int, 0 ≤ k ∧ k ≤ 7 → isOn (cv q.1.1 q.2.1.1 q.2.2.1.1 q.2.2.2.1 k 7, cv q.1.2 q.2.1.2 q.2.2.1.2 q.2.2.2.2 k 7) (q.1 :: ends f 10 q) (f + 9) 343 = true
  eight : ∀ e ∈ q.1 :: ends f 10 q, isOn (512 * e.1, 512 * e.2) (chordsOf q) 10240 1 = true
theorem fine_of {q : Quad} {f : Int} {st : Bool} (hf : 4 ≤ f) (h : (st = false ∧ QB 300 q) ∨ isFlat q f = true) : Fine q f st := by
  have hd : deep f 5 q := by
    rcases h with ⟨_, h⟩ | h
    · exact deep5 h hf
    · exact deep_mono h 5
  refine ⟨⟨(ends_length f 10 q).1, (ends_length f 10 q).2⟩, ends_last f 10 q, fun hs => ?_, fun j h1 h2 => ends_most h1 h2, fun lx hx ly hy h1 h2 e he => ?_, fun k hk => on7 (by omega) hd hk, fun e he => ?_⟩
  · rcases h with ⟨h, _⟩ | h
    · rw [h] at hs; cases hs
    · exact ends_flat h 10
  · rcases List.mem_cons.mp he with rfl | he
    · exact ⟨h1.1, h2.1⟩
    · exact ends_box f 10 q h1 h2 e he
  · rcases List.mem_cons.mp he with rfl | he
    · exact on8_first q
    · rcases h with ⟨_, h⟩ | h
      · exact on8 h hd he
      · rw [ends_flat h, List.mem_singleton] at he
        subst he
        exact on8_last q


theorem off_math : True := by
  k_with "OFF:math" => skip
  trivial
end
section
theorem on_f31 : True := by
  w_top off
  trivial
/-- the names that are known, the rest let go -/
theorem fr_kst {h₀ h : Heap} {L : Addr} {m : Str → Option Value} {ps : List (Str × Value)} (F : Fr h₀ L h m) (hk : ∀ p ∈ ps, m p.1 = some p.2) : Fr h₀ L h (kstB m ps) := by
  have e : kstB m ps = m := by
    funext y
    exact kstB_eq hk fun _ => rfl
  rw [e]
  exact F
/-- one statement, then the rest by a word of its own -/
theorem cut_one {M : Model} {A : Around} {E : Value → Shared → Prop} {s : Shared} {st : Stmt} {rest : List Stmt} {env : Env} {Q : Flow → Shared → Prop}
    (h1 : wpAny M A (exec st env) (fun f s' => Stop (f = .next ∧ wpAny M A (execs rest env) Q E s')) E s) : wpAny M A (execs (st :: rest) env) Q E s := by
  refine wpAny_execs_cons (wpAny_mono h1 (fun f s' h => ?_) fun _ _ e => e)
  obtain ⟨rfl, hR⟩ := h.run
  exact hR
/-- things that lie off law's cells -/
def Off (L : Nat) (T : List (Addr × Obj)) : Prop := ∀ p ∈ T, (@Ne Nat p.1 (L + 1 + 1)) ∧ (@Ne Nat p.1 (L + 1 + 1 + 1)) ∧ (@Ne Nat p.1 (L + 1 + 1 + 1 + 1)) ∧ (@Ne Nat p.1 (L + 1 + 1 + 1 + 1 + 1))
theorem Off.nil {L : Nat} : Off L [] := fun _ hp => nomatch hp
theorem Off.cons {L : Nat} {p : Addr × Obj} {T : List (Addr × Obj)} (h : (@Ne Nat p.1 (L + 1 + 1)) ∧ (@Ne Nat p.1 (L + 1 + 1 + 1)) ∧ (@Ne Nat p.1 (L + 1 + 1 + 1 + 1)) ∧ (@Ne Nat p.1 (L + 1 + 1 + 1 + 1 + 1))) (hT : Off L T) : Off L (p :: T) := fun q hq => by
  rcases List.mem_cons.mp hq with rfl | hq
  · exact h
  · exact hT q hq
theorem Off.app {L : Nat} {S T : List (Addr × Obj)} (hS : Off L S) (hT : Off L T) : Off L (S ++ T) := fun q hq => (List.mem_append.mp hq).elim (hS q) (hT q)
/-- what is new lies off the cells that stand -/
theorem off_new {h₀ h : Heap} {L : Nat} {a5 a4 a3 a2 : Obj} {rest : List (Addr × Obj)} {D : Addr} (N : News h₀ L h ((L + 1 + 1 + 1 + 1 + 1, a5) :: (L + 1 + 1 + 1 + 1, a4) :: (L + 1 + 1 + 1, a3) :: (L + 1 + 1, a2) :: rest)) (h0 : h.get? D = none) :
    (@Ne Nat D (L + 1 + 1)) ∧ (@Ne Nat D (L + 1 + 1 + 1)) ∧ (@Ne Nat D (L + 1 + 1 + 1 + 1)) ∧ (@Ne Nat D (L + 1 + 1 + 1 + 1 + 1)) := by
  have hl := allNe_new N h0
  simp only [AllNe] at hl
  obtain ⟨x5, x4, x3, x2, _⟩ := hl
  exact ⟨Ne.symm x2, Ne.symm x3, Ne.symm x4, Ne.symm x5⟩
theorem execs_app {M : Model} {A : Around} {E : Value → Shared → Prop} {env : Env} {Q : Flow → Shared → Prop} (l1 l2 : List Stmt) {s : Shared}
    (h : wpAny M A (execs l1 env) (fun f s' => match f with | .next => wpAny M A (execs l2 env) Q E s' | f => Q f s') E s) : wpAny M A (execs (l1 ++ l2) env) Q E s := fun Γ p hΓ => by
  have h' := h Γ p hΓ
  clear h
  induction l1 generalizing p s with
  | nil => exact h' Γ p hΓ
  | cons a l ih =>
    rw [List.cons_append, execs_cons, Sem.wp_bind']
    rw [execs_cons, Sem.wp_bind'] at h'
    refine Sem.wp_mono M Γ _ (fun f p' s' h2 => ?_) (fun _ _ _ h2 => h2) _ _ h'
    cases f with
    | next => exact ih p' h2
    | _ => exact h2
theorem cut_app {M : Model} {A : Around} {E : Value → Shared → Prop} {s : Shared} {l1 l2 : List Stmt} {env : Env} {Q : Flow → Shared → Prop}
    (h1 : wpAny M A (execs l1 env) (fun f s' => Stop (f = .next ∧ wpAny M A (execs l2 env) Q E s')) E s) : wpAny M A (execs (l1 ++ l2) env) Q E s := by
  refine execs_app l1 l2 (wpAny_mono h1 (fun f s' h => ?_) fun _ _ e => e)
  obtain ⟨rfl, hR⟩ := h.run
  exact hR
/-- the rows of the path that law builds -/
def lawRows (q : Quad) (ah cz : Bool) : List Row := (if ah then [Row.m (7, -7), Row.l q.1] else [Row.m q.1]) ++ Row.c q.2.1 q.2.2.1 q.2.2.2 :: (if cz then [Row.z] else [])
/-- off the cells, since they stand in the ledger -/
theorem off_of {L : Nat} {a5 a4 a3 a2 : Obj} {tl T : List (Addr × Obj)} (h : ∀ q ∈ tl, ∀ r ∈ T, (@Ne Nat q.1 r.1)) (m5 : (L + 1 + 1 + 1 + 1 + 1, a5) ∈ T) (m4 : (L + 1 + 1 + 1 + 1, a4) ∈ T) (m3 : (L + 1 + 1 + 1, a3) ∈ T) (m2 : (L + 1 + 1, a2) ∈ T) : Off L tl :=
  fun q hq => ⟨h q hq _ m2, h q hq _ m3, h q hq _ m4, h q hq _ m5⟩
def isSeqO (o : Obj) : Bool := match o.data with | .seq _ _ => true | _ => false
mutual
theorem DatIn.monoS {news news' : List (Addr × Obj)} (hs : ∀ p ∈ news, isSeqO p.2 = true → p ∈ news') : ∀ {v : Value} {d : Dat}, DatIn news v d → DatIn news' v d
  | _, _, .none => .none
  | _, _, .bool b => .bool b
  | _, _, .int i t => .int i t
  | _, _, .str x t => .str x t
  | _, _, .bytes b t => .bytes b t
  | _, _, .tuple h r => .tuple (hs _ h rfl) (DatAll.monoS hs r)
  | _, _, .list h r => .list (hs _ h rfl) (DatAll.monoS hs r)
theorem DatAll.monoS {news news' : List (Addr × Obj)} (hs : ∀ p ∈ news, isSeqO p.2 = true → p ∈ news') : ∀ {vs : List Value} {ds : List Dat}, DatAll news vs ds → DatAll news' vs ds
  | _, _, .nil => .nil
  | _, _, .cons h r => .cons (DatIn.monoS hs h) (DatAll.monoS hs r)
end
theorem cell_noSeq {o : Obj} {v : Option Value} (h : o.data = .cell v) : isSeqO o = false := by unfold isSeqO; rw [h]
theorem ne_two {k d : Nat} {l : List (Addr × Obj)} (h1 : AllLt k l) (h2 : AllLt d l) : ∀ q ∈ l, (@Ne Nat q.1 k) ∧ (@Ne Nat q.1 d) := fun q hq => ⟨Ne.symm (allLt_ne h1 q hq), Ne.symm (allLt_ne h2 q hq)⟩
theorem flat_ahead (x : Int) : (4 ≤ 4 + Int.fmod (Int.fdiv x 5) 30 ∧ 4 + Int.fmod (Int.fdiv x 5) 30 ≤ 33) ∧ (Int.fmod (Int.fdiv x 150) 2 = 0 ∨ Int.fmod (Int.fdiv x 150) 2 = 1) := by
  rw [Int.fmod_eq_emod_of_nonneg _ (by decide : (0 : Int) ≤ 30), Int.fmod_eq_emod_of_nonneg _ (by decide : (0 : Int) ≤ 2)]; omega
/-- things of a list by their place -/
theorem item_at {T : List (Addr × Obj)} {vs : List Value} {ds : List Dat} {k : Nat} {d : Dat} (h : DatAll T vs ds) (e : ds[k]? = some d) : ∃ v, vs.toArray[k]? = some v ∧ DatIn T v d := by
  obtain ⟨v, h1, h2⟩ := DatAll.getS h e
  exact ⟨v, by rw [List.getElem?_toArray]; exact h1, h2⟩
theorem int_at {T : List (Addr × Obj)} {vs : List Value} {ds : List Dat} {k : Nat} {x : Int} (h : DatAll T vs ds) (e : ds[k]? = some (.int x)) : ∃ t, vs.toArray[k]? = some (.int x t) := by
  obtain ⟨v, h1, h2⟩ := item_at h e
  obtain ⟨t, rfl⟩ := int_of h2
  exact ⟨t, h1⟩
theorem pt_atT {T : List (Addr × Obj)} {vs : List Value} {ds : List Dat} {k : Nat} {p : Pt} (h : DatAll T vs ds) (e : ds[k]? = some (ptD p)) : ∃ x : Addr × Nat × Tok × Tok, vs.toArray[k]? = some (.ref x.1) ∧ (x.1, tupO [Value.int p.1 x.2.2.1, Value.int p.2 x.2.2.2] x.2.1) ∈ T := by
  obtain ⟨v, h1, h2⟩ := item_at h e
  obtain ⟨a, n, t, u, rfl, m⟩ := pt_of h2
  exact ⟨(a, n, t, u), h1, m⟩
theorem nil_all {α : Type} {P : α → Prop} : ∀ q ∈ ([] : List α), P q := fun _ h => nomatch h
/-- the body of law and its names, taken from the def that the top leaves -/
def pickB {X : Option Obj} {oc : Value} {od : Option Addr} {name qual : Str} {params : Arguments} {body : List Stmt} {scope : Scope} {dV kV doc pm cdv ct : Value} {an : Option Addr} {osl : Array (Option Value)} (_ : X = some ⟨oc, od, .func (fnOf name qual params body scope dV kV doc pm an cdv ct), osl⟩) : List Stmt := body
def pickE {X : Option Obj} {oc : Value} {od : Option Addr} {name qual : Str} {params : Arguments} {body : List Stmt} {scope : Scope} {dV kV doc pm cdv ct : Value} {an : Option Addr} {osl : Array (Option Value)} (_ : X = some ⟨oc, od, .func (fnOf name qual params body scope dV kV doc pm an cdv ct), osl⟩) (L fa : Addr) (cdw : Value) : Env := envOfC qual scope L fa cdw
set_option maxRecDepth 100000 in
noncomputable def lawB (P : Params) : List Stmt := by
  have h : PySem.Challenge.rw_nt0495_01 = PySem.Challenge.rw_nt0495_01 ∧ (Mine.hd.heap_39 P).lookup 270 = (Mine.hd.heap_39 P).lookup 270 := by k_fill; exact ⟨rfl, rfl⟩
  clear h
  exact pickB (show (Mine.hd.heap_39 P).lookup 270 = some _ from by k_is)
set_option maxRecDepth 100000 in
noncomputable def lawE (P : Params) : Addr → Addr → Value → Env := by
  exact pickE (show (Mine.hd.heap_39 P).lookup 270 = some _ from by k_is)
/-- one statement to what holds behind it, then the rest once -/
theorem cut_exec {M : Model} {A : Around} {E : Value → Shared → Prop} {s : Shared} {st : Stmt} {rest : List Stmt} {env : Env} {Q : Flow → Shared → Prop} (R : Shared → Prop)
    (h1 : wpAny M A (exec st env) (fun f s' => Stop (f = .next ∧ R s')) E s) (h2 : ∀ s', R s' → wpAny M A (execs rest env) Q E s') : wpAny M A (execs (st :: rest) env) Q E s := by
  refine wpAny_execs_cons (wpAny_mono h1 (fun f s' h => ?_) fun _ _ e => e)
  obtain ⟨rfl, hR⟩ := h.run
  exact h2 s' hR
/-- a path under way: its heap, what was made for it, its rows -/
structure PM where
  h : Heap
  tk : Nat
  tl : List (Addr × Obj)
  fs : List Value
  n : Nat
  b : Value
  p : Value
theorem inh_pm : Nonempty PM := ⟨⟨default, 0, [], [], 0, .none, .none⟩⟩
structure PM.ok (w : World) (h₀ : Heap) (L : Addr) (m : Str → Option Value) (a1 a2 a3 a4 tm : Tok) (x d k : Nat) (CT : List (Addr × Obj)) (rows : List Row) (c : PM) : Prop where
  F : Fr h₀ L c.h m
  N : News h₀ L c.h ((k, listOf c.fs.toArray c.n) :: (x, instObj 184 d) :: (d, pathD w a1 a2 a3 a4 tm k c.b c.p) :: (c.tl ++ CT))
  ne : ∀ q ∈ c.tl ++ CT, (@Ne Nat q.1 k) ∧ (@Ne Nat q.1 d)
  off : ∀ q ∈ c.tl, ∀ r ∈ CT, (@Ne Nat q.1 r.1)
  data : DatAll c.tl c.fs (rows.map rowD)
  b0 : rows = [] → c.b = .none ∧ c.p = .none
  b1 : rows ≠ [] → (∃ a, c.b = .ref a) ∧ ∃ a, c.p = .ref a
theorem last_ofT {tl : List (Addr × Obj)} {fs : List Value} {rows : List Row} {r : Row} (h : DatAll tl fs ((rows ++ [r]).map rowD)) (hr : r ≠ .z) :
    ∃ x : List Value × Nat × Nat × Str × Tok × List Value, fs = x.1 ++ [.ref x.2.1] ∧ (x.2.1, tupO (Value.str x.2.2.2.1 x.2.2.2.2.1 :: x.2.2.2.2.2) x.2.2.1) ∈ tl ∧ (x.2.2.2.1 == Str.ofString "z") = false ∧ x.1.length = rows.length := by
  rw [List.map_append, List.map_singleton] at h
  obtain ⟨fs0, vl, hfs, g0, g1⟩ := datAll_concat h
  have hl : fs0.length = rows.length := by have := g0.length; rwa [List.length_map] at this
  have key : ∀ (s : String) (ds : List Dat), rowD r = .tuple (.str (Str.ofString s) :: ds) → (Str.ofString s == Str.ofString "z") = false → ∃ x : List Value × Nat × Nat × Str × Tok × List Value, fs = x.1 ++ [.ref x.2.1] ∧ (x.2.1, tupO (Value.str x.2.2.2.1 x.2.2.2.2.1 :: x.2.2.2.2.2) x.2.2.1) ∈ tl ∧ (x.2.2.2.1 == Str.ofString "z") = false ∧ x.1.length = rows.length := fun s ds e hz => by
    rw [e] at g1
    cases g1 with | @tuple al _ nl _ ml g2 =>
    cases g2 with | cons h1 g2 =>
    obtain ⟨t, rfl⟩ := str_of h1
    exact ⟨⟨fs0, al, nl, _, t, _⟩, hfs, ml, hz, hl⟩
  cases r with
  | m p => exact key "m" _ rfl (by decide +kernel)
  | l p => exact key "l" _ rfl (by decide +kernel)
  | c p q r => exact key "c" _ rfl (by decide +kernel)
  | z => exact absurd rfl hr
section
variable {w : World} {h₀ : Heap} {L : Addr} {m : Str → Option Value} {a1 a2 a3 a4 tm : Tok} {x d k : Nat} {CT : List (Addr × Obj)} {rows : List Row} {c : PM}
theorem PM.ok.step (g : c.ok w h₀ L m a1 a2 a3 a4 tm x d k CT rows) {h' : Heap} {tk' : Nat} {tl fs' : _} {n' : Nat} {b' p' : Value} {r : Row}
    (F : Fr h₀ L h' m) (N : News h₀ L h' ((k, listOf (fs' : List Value).toArray n') :: (x, instObj 184 d) :: (d, pathD w a1 a2 a3 a4 tm k b' p') :: (tl ++ (c.tl ++ CT)))) (hT : ∀ q ∈ tl ++ (c.tl ++ CT), (@Ne Nat q.1 k) ∧ (@Ne Nat q.1 d)) (hne : ∀ q ∈ tl, ∀ r ∈ c.tl ++ CT, (@Ne Nat q.1 r.1))
    (hd : ∃ v, fs' = c.fs ++ [v] ∧ DatIn tl v (rowD r)) (hb : (∃ a, b' = .ref a) ∧ ∃ a, p' = .ref a) : PM.ok w h₀ L m a1 a2 a3 a4 tm x d k CT (rows ++ [r]) ⟨h', tk', tl ++ c.tl, fs', n', b', p'⟩ := by
  obtain ⟨v, rfl, hv⟩ := hd
  refine ⟨F, ?_, ?_, fun q hq r hr => ?_, ?_, fun e => absurd e (by simp), fun _ => hb⟩
  · show News _ _ _ (_ :: _ :: _ :: ((tl ++ c.tl) ++ CT))
    rw [List.append_assoc]; exact N
  · show ∀ q ∈ (tl ++ c.tl) ++ CT, _
    rw [List.append_assoc]; exact hT
  · rcases List.mem_append.mp hq with hq | hq
    · exact hne q hq r (List.mem_append.mpr (.inr hr))
    · exact g.off q hq r hr
  · show DatAll (tl ++ c.tl) (c.fs ++ [v]) _
    rw [List.map_append]
    exact (g.data.mono fun q hq => List.mem_append.mpr (.inr hq)).append (.one (hv.mono fun q hq => List.mem_append.mpr (.inl hq)))
variable {mean : ExcName → Option Value} {mg mb : Str → Option Value} {dp un : Nat} {gd : Option (List Code)} {cn : Str} {cs : Scope} {a : Addr} {ccd : Value} {cl : List (Str × Addr)} {outer : List Env} {A₀ : Around} {base : Heap} {s : Shared} {Q E : Value → Shared → Prop}
theorem pm_move {i j : Int} {ti tj : Tok} (g : c.ok w h₀ L m a1 a2 a3 a4 tm x d k CT []) (e : s.heap = c.h)
    (B : Below A₀ base outer h₀) (X : (Mine.hd.heap_39 w.params).In h₀) (T9 : Top Mine.hd.view_39 loose0 mean mg mb h₀) (hk : cs.kind = .function) (hdx : @LT.lt Nat _ d x) (hxk : @LT.lt Nat _ x k) (hd : dp + 14 < recursionLimit) (hu : un + 8 * 14 < cLine)
    (ret : ∀ c' : PM, c'.ok w h₀ L m a1 a2 a3 a4 tm x d k CT [.m (i, j)] → Q .none { s with heap := c'.h, toks := c'.tk }) :
    wpAny (model PySem.Challenge.rw_nt0495_01.row.prog w) (ktrTop dp un gd cn cs L a ccd cl outer) (call (.ref 118) [.ref x, .int i ti, .int j tj]) Q E s := by
  have hf : c.fs = [] := List.eq_nil_of_length_eq_zero g.data.length
  obtain ⟨hb, hp⟩ := g.b0 rfl
  have N := g.N
  rw [hf, hb, hp] at N
  refine conP_use move_m B (e ▸ g.F) X T9 hk (e ▸ N) g.ne hdx hxk hd hu fun h' tk' tl fs' n' b' p' F' N' hT hne ho => ?_
  exact ret ⟨h', tk', tl ++ c.tl, fs', n', b', p'⟩ (g.step (r := .m (i, j)) F' N' hT hne (row_new (by rw [hf]; exact ho)) (row_b ho))
theorem row_newc {tl : List (Addr × Obj)} {fs fs' : List Value} {i1 j1 i2 j2 i3 j3 : Int} {u1 v1 u2 v2 u3 v3 : Tok} {P : Prop} (h : ∃ D nD tD, fs' = fs ++ [.ref D] ∧ (D, tupO [Value.str (Str.ofString "c") tD, Value.int i1 u1, Value.int j1 v1, Value.int i2 u2, Value.int j2 v2, Value.int i3 u3, Value.int j3 v3] nD) ∈ tl ∧ P) : ∃ v, fs' = fs ++ [v] ∧ DatIn tl v (rowD (.c (i1, j1) (i2, j2) (i3, j3))) := by
  obtain ⟨D, nD, tD, rfl, m, _⟩ := h
  exact ⟨_, rfl, .tuple m (.cons (.str _ _) (.cons (.int _ _) (.cons (.int _ _) (.cons (.int _ _) (.cons (.int _ _) (.cons (.int _ _) (.cons (.int _ _) .nil)))))))⟩
theorem pm_line {r : Row} {i j : Int} {ti tj : Tok} (g : c.ok w h₀ L m a1 a2 a3 a4 tm x d k CT (rows ++ [r])) (hr : r ≠ .z) (hl : rows.length ≤ 5) (e : s.heap = c.h)
    (B : Below A₀ base outer h₀) (X : (Mine.hd.heap_39 w.params).In h₀) (T9 : Top Mine.hd.view_39 loose0 mean mg mb h₀) (hk : cs.kind = .function) (hdx : @LT.lt Nat _ d x) (hxk : @LT.lt Nat _ x k) (hd : dp + 14 < recursionLimit) (hu : un + 8 * 14 < cLine)
    (ret : ∀ c' : PM, c'.ok w h₀ L m a1 a2 a3 a4 tm x d k CT (rows ++ [r] ++ [.l (i, j)]) → Q .none { s with heap := c'.h, toks := c'.tk }) :
    wpAny (model PySem.Challenge.rw_nt0495_01.row.prog w) (ktrTop dp un gd cn cs L a ccd cl outer) (call (.ref 132) [.ref x, .int i ti, .int j tj]) Q E s := by
  obtain ⟨y, hf, hm, hz, hyl⟩ := last_ofT g.data hr
  obtain ⟨⟨ab, hb⟩, ⟨ap, hp⟩⟩ := g.b1 (by simp)
  have N := g.N
  rw [hf, hb, hp] at N
  refine conP_use (line_m (by omega) (List.mem_append.mpr (.inl hm)) hz) B (e ▸ g.F) X T9 hk (e ▸ N) g.ne hdx hxk hd hu fun h' tk' tl fs' n' b' p' F' N' hT hne ho => ?_
  exact ret ⟨h', tk', tl ++ c.tl, fs', n', b', p'⟩ (g.step (r := .l (i, j)) F' N' hT hne (row_new (q := (i, j)) (by rw [hf]; exact ho)) ⟨⟨_, (row_b ho).1⟩, (row_b ho).2⟩)
theorem pm_curve {r : Row} {i1 j1 i2 j2 i3 j3 : Int} {u1 v1 u2 v2 u3 v3 : Tok} (g : c.ok w h₀ L m a1 a2 a3 a4 tm x d k CT (rows ++ [r])) (hr : r ≠ .z) (hl : rows.length ≤ 5) (e : s.heap = c.h)
    (B : Below A₀ base outer h₀) (X : (Mine.hd.heap_39 w.params).In h₀) (T9 : Top Mine.hd.view_39 loose0 mean mg mb h₀) (hk : cs.kind = .function) (hdx : @LT.lt Nat _ d x) (hxk : @LT.lt Nat _ x k) (hd : dp + 14 < recursionLimit) (hu : un + 8 * 14 < cLine)
    (ret : ∀ c' : PM, c'.ok w h₀ L m a1 a2 a3 a4 tm x d k CT (rows ++ [r] ++ [.c (i1, j1) (i2, j2) (i3, j3)]) → Q .none { s with heap := c'.h, toks := c'.tk }) :
    wpAny (model PySem.Challenge.rw_nt0495_01.row.prog w) (ktrTop dp un gd cn cs L a ccd cl outer) (call (.ref 139) [.ref x, .int i1 u1, .int j1 v1, .int i2 u2, .int j2 v2, .int i3 u3, .int j3 v3]) Q E s := by
  obtain ⟨y, hf, hm, hz, hyl⟩ := last_ofT g.data hr
  obtain ⟨⟨ab, hb⟩, ⟨ap, hp⟩⟩ := g.b1 (by simp)
  have N := g.N
  rw [hf, hb, hp] at N
  refine conP_use (curve_m (by omega) (List.mem_append.mpr (.inl hm)) hz) B (e ▸ g.F) X T9 hk (e ▸ N) g.ne hdx hxk hd hu fun h' tk' tl fs' n' b' p' F' N' hT hne ho => ?_
  exact ret ⟨h', tk', tl ++ c.tl, fs', n', b', p'⟩ (g.step (r := .c (i1, j1) (i2, j2) (i3, j3)) F' N' hT hne (by rw [hf]; exact row_newc ho) ⟨⟨_, (row_b ho).1⟩, (row_b ho).2⟩)
theorem pm_close {r : Row} (g : c.ok w h₀ L m a1 a2 a3 a4 tm x d k CT (rows ++ [r])) (hr : r ≠ .z) (hl : rows.length ≤ 5) (e : s.heap = c.h)
    (B : Below A₀ base outer h₀) (X : (Mine.hd.heap_39 w.params).In h₀) (T9 : Top Mine.hd.view_39 loose0 mean mg mb h₀) (hk : cs.kind = .function) (hdx : @LT.lt Nat _ d x) (hxk : @LT.lt Nat _ x k) (hd : dp + 14 < recursionLimit) (hu : un + 8 * 14 < cLine)
    (ret : ∀ c' : PM, c'.ok w h₀ L m a1 a2 a3 a4 tm x d k CT (rows ++ [r] ++ [.z]) → Q .none { s with heap := c'.h, toks := c'.tk }) :
    wpAny (model PySem.Challenge.rw_nt0495_01.row.prog w) (ktrTop dp un gd cn cs L a ccd cl outer) (call (.ref 146) [.ref x]) Q E s := by
  obtain ⟨y, hf, hm, hz, hyl⟩ := last_ofT g.data hr
  obtain ⟨⟨ab, hb⟩, ⟨ap, hp⟩⟩ := g.b1 (by simp)
  have N := g.N
  rw [hf, hb, hp] at N
  refine conP_use (close_m (by omega) (List.mem_append.mpr (.inl hm)) hz) B (e ▸ g.F) X T9 hk (e ▸ N) g.ne hdx hxk hd hu fun h' tk' tl fs' n' b' p' F' N' hT hne ho => ?_
  exact ret ⟨h', tk', tl ++ c.tl, fs', n', b', p'⟩ (g.step (r := .z) F' N' hT hne (row_newz (by rw [hf]; exact ho)) ⟨⟨_, (row_b ho).1⟩, ⟨_, (row_b ho).2⟩⟩)
end
theorem list_rT {T : List (Addr × Obj)} {a : Addr} {ds : List Dat} (h : DatIn T (.ref a) (.list ds)) : ∃ x : List Value × Nat, (a, listOf x.1.toArray x.2) ∈ T ∧ DatAll T x.1 ds := by
  obtain ⟨a', vs, n, e, m, d⟩ := list_of h
  cases e
  exact ⟨(vs, n), m, d⟩
def midRows (p0 : Pt) (ah : Int) : List Row := if ah = 1 then [.m (7, -7), .l p0] else [.m p0]
theorem mid_rowsT (p0 : Pt) (ah : Int) : ∃ x : List Row × Row, midRows p0 ah = x.1 ++ [x.2] ∧ x.2 ≠ .z ∧ x.1.length ≤ 4 := by
  unfold midRows
  split
  · exact ⟨([.m (7, -7)], .l p0), rfl, by simp, by simp⟩
  · exact ⟨([], .m p0), rfl, by simp, by simp⟩
theorem law_rows {q : Quad} {ah : Int} {cz : Bool} {rows0 : List Row} {r : Row} (e : midRows q.1 ah = rows0 ++ [r]) : lawRows q (decide (ah = 1)) cz = rows0 ++ [r] ++ [.c q.2.1 q.2.2.1 q.2.2.2] ++ (if cz then [.z] else []) := by
  rw [← e]
  unfold midRows lawRows
  by_cases h : ah = 1 <;> simp [h]
theorem pm_news {h₀ h : Heap} {L : Addr} {k x d c5 c4 c3 c2 : Addr × Obj} {tl T : List (Addr × Obj)} (N : News h₀ L h (k :: x :: d :: (tl ++ (c5 :: c4 :: c3 :: c2 :: T)))) : News h₀ L h (c5 :: c4 :: c3 :: c2 :: k :: x :: d :: (tl ++ T)) := fun p hp => N p (by
  simp only [List.mem_cons, List.mem_append] at hp ⊢
  rcases hp with h | h | h | h | h | h | h | h | h <;> simp [h])
theorem pm_off {L k x d : Nat} {ok ox od o5 o4 o3 o2 : Obj} {tl T : List (Addr × Obj)} (h : ∀ q ∈ tl, ∀ r ∈ (L + 1 + 1 + 1 + 1 + 1, o5) :: (L + 1 + 1 + 1 + 1, o4) :: (L + 1 + 1 + 1, o3) :: (L + 1 + 1, o2) :: T, (@Ne Nat q.1 r.1)) (hlt : @LT.lt Nat _ d x ∧ @LT.lt Nat _ x k ∧ @LT.lt Nat _ (L + 1 + 1 + 1 + 1 + 1) d) (hO : Off L T) : Off L ((k, ok) :: (x, ox) :: (d, od) :: (tl ++ T)) :=
  Off.cons (by dsimp only; omega) (Off.cons (by dsimp only; omega) (Off.cons (by dsimp only; omega) (Off.app (off_of h (List.Mem.head _) (List.Mem.tail _ (List.Mem.head _)) (List.Mem.tail _ (List.Mem.tail _ (List.Mem.head _))) (List.Mem.tail _ (List.Mem.tail _ (List.Mem.tail _ (List.Mem.head _))))) hO)))
theorem mem_three {α : Type} {a b c : α} {tl T : List α} : ∀ q ∈ T, q ∈ a :: b :: c :: (tl ++ T) := fun q hq => List.Mem.tail _ (List.Mem.tail _ (List.Mem.tail _ (List.mem_append.mpr (.inr hq))))
theorem mem_threeL {α : Type} {a b c : α} {tl T : List α} : ∀ q ∈ tl, q ∈ a :: b :: c :: (tl ++ T) := fun q hq => List.Mem.tail _ (List.Mem.tail _ (List.Mem.tail _ (List.mem_append.mpr (.inl hq))))
theorem pm_start {w : World} {h₀ h : Heap} {L : Addr} {m : Str → Option Value} {a1 a2 a3 a4 tm : Tok} {x d k tk : Nat} {CT : List (Addr × Obj)} (F : Fr h₀ L h m) (N : News h₀ L h ((k, listOf ([] : List Value).toArray 0) :: (x, instObj 184 d) :: (d, pathD w a1 a2 a3 a4 tm k .none .none) :: CT)) (ne : ∀ q ∈ CT, (@Ne Nat q.1 k) ∧ (@Ne Nat q.1 d)) : PM.ok w h₀ L m a1 a2 a3 a4 tm x d k CT [] ⟨h, tk, [], [], 0, .none, .none⟩ :=
  { F := F, N := N, ne := ne, off := (fun _ h => nomatch h), data := .nil, b0 := fun _ => ⟨rfl, rfl⟩, b1 := fun h => absurd rfl h }
theorem inh_rr : Nonempty (List Row × Row) := ⟨([], .z)⟩
theorem comp_dat {h₀ h₁ h : Heap} {L D : Addr} {m : Str → Option Value} {news : List (Addr × Obj)} {vs : List Value} {n : Nat} {d : Nat → Dat} (F : Fr h₀ L h₁ m) (N : News h₀ L h₁ news) (kp : ∀ c o, h₁.get? c = some o → h.get? c = some o) (hD0 : h₁.get? D = none) (hD : h.get? D = some (LCg.lst vs)) (hlen : vs.length = n)
    (hF : ∀ (j : Nat) v, vs[j]? = some v → ∃ nw, (∀ p ∈ nw, h.get? p.1 = some p.2 ∧ h₁.get? p.1 = none) ∧ DatIn nw v (d j)) :
    ∃ T, News h₀ L h (T ++ news) ∧ (∀ p ∈ T, h₁.get? p.1 = none) ∧ DatIn T (.ref D) (.list ((List.range' 0 n).map d)) := by
  obtain ⟨nws, hn1, hn2⟩ := dat_of (i := 0) (d := d) (fun j v e => by rw [Nat.zero_add]; exact hF j v e)
  rw [hlen] at hn2
  refine ⟨(D, LCg.lst vs) :: nws, news_tl (s := { heap := h₁ }) F N kp (tl := (D, LCg.lst vs) :: nws) (fun p hp => (List.mem_cons.mp hp).elim (fun e => e ▸ ⟨hD, hD0⟩) (hn1 p)), fun p hp => (List.mem_cons.mp hp).elim (fun e => e ▸ hD0) (fun hp => (hn1 p hp).2), ?_⟩
  exact .list (List.Mem.head _) (hn2.mono fun p hp => List.mem_cons_of_mem _ hp)
theorem cells_app {h₀ h : Heap} {L : Addr} {a b c d : Addr × Obj} {tl T : List (Addr × Obj)} (N : News h₀ L h (tl ++ (a :: b :: c :: d :: T))) : News h₀ L h (a :: b :: c :: d :: tl) := fun p hp => N p (by
  simp only [List.mem_cons, List.mem_append] at hp ⊢
  rcases hp with h | h | h | h | h <;> simp [h])
theorem cells_sub {h₀ h : Heap} {L : Addr} {a b c d : Addr × Obj} {T T' : List (Addr × Obj)} (N : News h₀ L h (a :: b :: c :: d :: T)) (hs : ∀ p ∈ T', p ∈ T) : News h₀ L h (a :: b :: c :: d :: T') := fun p hp => N p (by
  simp only [List.mem_cons] at hp ⊢
  rcases hp with h | h | h | h | h
  · exact .inl h
  · exact .inr (.inl h)
  · exact .inr (.inr (.inl h))
  · exact .inr (.inr (.inr (.inl h)))
  · exact .inr (.inr (.inr (.inr (hs p h)))))
def lp (r0 r1 r3 r5 : Int) (i : Nat) : Pt := (r0 + 3 * ((0 : Int) + (i : Int) * 1) * r3, r1 + 3 * ((0 : Int) + (i : Int) * 1) * r5)
theorem lp_qb {r0 r1 r3 r5 : Int} (b0 : -300 ≤ r0 ∧ r0 ≤ 300) (b1 : -300 ≤ r1 ∧ r1 ≤ 300) (b3 : -300 ≤ r3 ∧ r3 ≤ 300) (b5 : -300 ≤ r5 ∧ r5 ≤ 300) : QB 3000 (lp r0 r1 r3 r5 0, lp r0 r1 r3 r5 1, lp r0 r1 r3 r5 2, lp r0 r1 r3 r5 3) := by
  have f : ∀ i : Nat, i ≤ 3 → PB 3000 (lp r0 r1 r3 r5 i) := fun i hi => by
    have h : i = 0 ∨ i = 1 ∨ i = 2 ∨ i = 3 := by omega
    rcases h with rfl | rfl | rfl | rfl <;> (simp only [PB, lp]; omega)
  exact ⟨f 0 (by decide), f 1 (by decide), f 2 (by decide), f 3 (by decide)⟩
theorem lp_line {r0 r1 r3 r5 : Int} : ∃ r s : Int, lp r0 r1 r3 r5 1 = ((lp r0 r1 r3 r5 0).1 + r, (lp r0 r1 r3 r5 0).2 + s) ∧ lp r0 r1 r3 r5 2 = ((lp r0 r1 r3 r5 0).1 + 2 * r, (lp r0 r1 r3 r5 0).2 + 2 * s) ∧ lp r0 r1 r3 r5 3 = ((lp r0 r1 r3 r5 0).1 + 3 * r, (lp r0 r1 r3 r5 0).2 + 3 * s) :=
  ⟨3 * r3, 3 * r5, Prod.ext (by simp only [lp]; omega) (by simp only [lp]; omega), Prod.ext (by simp only [lp]; omega) (by simp only [lp]; omega), Prod.ext (by simp only [lp]; omega) (by simp only [lp]; omega)⟩
theorem qb_le {r0 r1 r2 r3 r4 r5 r6 r7 : Int} (b0 : -300 ≤ r0 ∧ r0 ≤ 300) (b1 : -300 ≤ r1 ∧ r1 ≤ 300) (b2 : -300 ≤ r2 ∧ r2 ≤ 300) (b3 : -300 ≤ r3 ∧ r3 ≤ 300) (b4 : -300 ≤ r4 ∧ r4 ≤ 300) (b5 : -300 ≤ r5 ∧ r5 ≤ 300) (b6 : -300 ≤ r6 ∧ r6 ≤ 300) (b7 : -300 ≤ r7 ∧ r7 ≤ 300) :
    QB 3000 ((r0, r1), (r2, r3), (r4, r5), (r6, r7)) ∧ QB 300 ((r0, r1), (r2, r3), (r4, r5), (r6, r7)) := by
  have f : ∀ B x y : Int, 300 ≤ B → (-300 ≤ x ∧ x ≤ 300) → (-300 ≤ y ∧ y ≤ 300) → PB B (x, y) := fun B x y hB hx hy => by simp only [PB]; omega
  exact ⟨⟨f _ _ _ (by decide) b0 b1, f _ _ _ (by decide) b2 b3, f _ _ _ (by decide) b4 b5, f _ _ _ (by decide) b6 b7⟩, ⟨f _ _ _ (by decide) b0 b1, f _ _ _ (by decide) b2 b3, f _ _ _ (by decide) b4 b5, f _ _ _ (by decide) b6 b7⟩⟩

theorem off_stage : True := by
  k_with "OFF:stage" => skip
  trivial
end
section
local macro_rules | `(tactic| k_enter) => `(tactic| (walk_at "MY_PKE"; intro g' L' h' FG' F' N' B' X' T'; (try dsimp only [List.map_cons, List.map_nil, List.zip_cons_cons, List.zip_nil_left, List.zip_nil_right, List.reverse_cons, List.reverse_nil, List.nil_append, List.cons_append] at F'); (try dsimp only); (try k_lift B'); (try k_fold)))
theorem on_f32 : True := by
  w_top off
  k_with "MY:MY_PKE" => ((fail_if_success (k_extra "OFF:reads")); (refine' code_def ?k1 ?k2 ?k3 ?k4 ?k5 ?kA ?kF ?kK ?k6 ?k7 ?k8 ?k9 ?kB ?_ ?c2 ?c3 ?c4 ?c5; (case kA => exact rfl); (case kF => exact rfl); (case kK => first | exact rfl | assumption); (case k1 => k_asm); (case k2 => k_asm); (case k3 => k_asm); (case k4 => k_asm); (case k5 => k_asm); (case k6 => k_is); (case k7 => k_is); (case k8 => k_room); (case k9 => exact binds_zip (by with_unfolding_all rfl)); (case c5 => decide); (case kB => exact locs rfl); (case c2 => exact rfl); (case c3 => exact rfl); (case c4 => exact rfl); k_whole))
  k_with "MY:call ref" => ((fail_if_success (k_extra "OFF:reads")); (k_here; (with_reducible show wpAny _ _ (call (Value.ref 243) _) _ _ _); refine stop_here ?_))
  k_with "MY:call ref" => ((fail_if_success (k_extra "OFF:reads")); (k_here; (with_reducible show wpAny _ _ (call (Value.ref 196) _) _ _ _); refine stop_here ?_))
  trivial
/-- a method of a path that reads alone -/
def ConR (w : World) (f : Addr) (lv : Nat) (a1 a2 a3 a4 tm : Tok) (x d k : Nat) (T : List (Addr × Obj)) (fs : List Value) (n : Nat) (b p : Value) (vs : List Value) (Out : List (Addr × Obj) → Value → Prop) : Prop :=
  ∀ (mean : ExcName → Option Value) (mg mb : Str → Option Value) (dp un : Nat) (gd : Option (List Code)) (cn : Str) (cs : Scope) (a : Addr) (ccd : Value) (cl : List (Str × Addr)) (outer : List Env) (A₀ : Around) (base h₀ : Heap) (L : Addr) (m : Str → Option Value) (s : Shared) (Q E : Value → Shared → Prop),
    Below A₀ base outer h₀ → Fr h₀ L s.heap m → (Mine.hd.heap_39 w.params).In h₀ → Top Mine.hd.view_39 loose0 mean mg mb h₀ → cs.kind = .function →
    News h₀ L s.heap T → (x, instObj 184 d) ∈ T → (d, pathD w a1 a2 a3 a4 tm k b p) ∈ T → (k, listOf fs.toArray n) ∈ T → dp + lv < recursionLimit → un + 8 * lv < cLine →
    (∀ h' tk' tl r, Fr h₀ L h' m → News h₀ L h' (tl ++ T) → (∀ q ∈ tl, ∀ r ∈ T, (@Ne Nat q.1 r.1)) → Out tl r → Q r { s with heap := h', toks := tk' }) →
    wpAny (model PySem.Challenge.rw_nt0495_01.row.prog w) (ktrTop dp un gd cn cs L a ccd cl outer) (call (.ref f) vs) Q E s
theorem on_f33 : True := by
  k_with "MY:MY_PLST" => ((fail_if_success (k_extra "OFF:reads")); (k_here; (with_reducible show wpAny _ _ (call (Value.type _) [Value.ref _]) _ _ _); k_dflt (refine' list_copyK ?k1 ?k2 ?k3 ?_ ?kzz; (case k1 => with_reducible assumption); (case k2 => with_reducible assumption); (case k3 => exact News.isList (by with_reducible assumption) (by assumption)); (case kzz => (rw [sizeLine_eq, List.size_toArray]; omega)); k_whole)))
  trivial
local macro_rules | `(tactic| walk_at "call type:list") => `(tactic| (walk_at "MY_PLST"; intro D' c' h' F' N' l1; (try k_sweep)))
set_option maxRecDepth 100000 in
set_option maxHeartbeats 4000000 in
theorem rows_m {w : World} {a1 a2 a3 a4 tm : Tok} {x d k : Nat} {T : List (Addr × Obj)} {fs : List Value} {n : Nat} {b p : Value} (hfl : fs.length ≤ 3000) :
    ConR w 76 14 a1 a2 a3 a4 tm x d k T fs n b p [.ref x] (fun tl r => ∃ D nD, r = .ref D ∧ (D, listOf fs.toArray nD) ∈ tl) := by
  unfold ConR
  k_fill
  intro mean mg mb dp un gd cn cs a ccd cl outer A₀ base h₀ L m s Q E B F X T9 hk N mx md mk hroom hunits hret
  unfold pathD at md
  k_steps
  rename_i D c _ _ _ l1 kF kN _ _
  exact hret _ _ [(D, listOf fs.toArray c)] _ kF kN (fun q hq r hr => by rw [List.mem_singleton.mp hq]; exact Nat.ne_of_gt (l1 r hr)) ⟨D, c, rfl, List.Mem.head _⟩
set_option maxRecDepth 100000 in
set_option maxHeartbeats 4000000 in
theorem flat_m {w : World} {a1 a2 a3 a4 tm : Tok} {x d k : Nat} {T : List (Addr × Obj)} {fs : List Value} {n : Nat} {b p : Value} {f : Int} {tf : Tok} (rows : List Row) {pp : Pt} {ls : List Pt} {cz : Bool} (hD : DatAll T fs (rows.map rowD)) (hok : RowsOk none rows) (hf : 0 ≤ f ∧ f ≤ 100)
    (hflat : flatFrom f none rows = pathRows pp ls cz) (hls : ls.length ≤ 1300) :
    ConR w 167 40 a1 a2 a3 a4 tm x d k T fs n b p [.ref x, .int f tf] (fun tl r => PathOut w (pathRows pp ls cz) tl T r) := by
  unfold ConR
  k_fill
  intro mean mg mb dp un gd cn cs a ccd cl outer A₀ base h₀ L m s Q E B F X T9 hk N mx md mk hroom hunits hret
  unfold pathD at md
  k_steps
  refine Stop.mk ?_
  have htot : (flatFrom f none rows).length ≤ 5000 := by
    rw [hflat, pathRows, List.length_cons, List.length_append, List.length_map]
    split <;> simp <;> omega
  refine' con_useG (flattened_con rows f hok ⟨by omega, by omega⟩ htot) (big := T) ?k1 ?k2 ?k3 ?k4 ?k5 ?kK ?kb ?kD ?kd ?ku ?_
  case k1 => k_asm
  case k2 => k_asm
  case k3 => k_asm
  case k4 => k_asm
  case k5 => k_asm
  case kK => exact rfl
  case kb => exact has_news (by with_reducible assumption)
  case kD => exact .cons (.list mk hD) (.cons (.int _ _) .nil)
  case kd => (try dsimp only [ktrTop, Around.deeper]); omega
  case ku => (try dsimp only [ktrTop, Around.deeper]); omega
  intro r1 tl1 h1 tk1 F1 N1 hl1 ho1
  have ho2 : DatIn (tl1 ++ T) r1 (.list ((pathRows pp ls cz).map rowD)) := hflat ▸ ho1
  clear ho1
  have mx1 : (x, instObj 184 d) ∈ tl1 ++ T := List.mem_append.mpr (.inr mx)
  have md1 := List.mem_append_right tl1 md
  have mk1 := List.mem_append_right tl1 mk
  clear mx md mk hD
  k_steps
  refine Stop.mk ?_
  refine' conW_useG (pathof_con w pp ls cz hls) (big := tl1 ++ T) ?k1 ?k2 ?k3 ?k4 ?k5 ?kK ?kb ?kD ?kd ?ku ?_
  case k1 => k_asm
  case k2 => k_asm
  case k3 => k_asm
  case k4 => k_asm
  case k5 => k_asm
  case kK => exact rfl
  case kb => exact has_news (by with_reducible assumption)
  case kD => exact .cons ho2 (.cons (.int _ _) .nil)
  case kd => (try dsimp only [ktrTop, Around.deeper]); omega
  case ku => (try dsimp only [ktrTop, Around.deeper]); omega
  intro r2 tl2 h2 tk2 F2 N2 hl2 ho3
  k_steps
  rename_i kF kN _ _
  obtain ⟨x2, d2, k2, c1, c2, c3, c4, tm2, b2, p2, fs2, n2, rfl, m1, m2, m3, hd⟩ := ho3
  refine hret _ _ (tl2 ++ tl1) _ kF (by rw [List.append_assoc]; exact kN) (fun q hq r hr => ?_) ⟨x2, d2, k2, c1, c2, c3, c4, tm2, b2, p2, fs2, n2, rfl, List.mem_append.mpr (.inl m1), List.mem_append.mpr (.inl m2), List.mem_append.mpr (.inl m3), by rw [List.append_assoc]; exact hd⟩
  rcases List.mem_append.mp hq with hq | hq
  · exact hl2 r (List.mem_append.mpr (.inr hr)) q hq
  · exact hl1 r hr q hq
theorem conR_use {w : World} {f : Addr} {lv : Nat} {a1 a2 a3 a4 tm : Tok} {x d k : Nat} {T : List (Addr × Obj)} {fs : List Value} {n : Nat} {b p : Value} {vs : List Value} {Out : List (Addr × Obj) → Value → Prop} (C : ConR w f lv a1 a2 a3 a4 tm x d k T fs n b p vs Out)
    {mean : ExcName → Option Value} {mg mb : Str → Option Value} {dp un : Nat} {gd : Option (List Code)} {cn : Str} {cs : Scope} {a : Addr} {ccd : Value} {cl : List (Str × Addr)} {outer : List Env} {A₀ : Around} {base h₀ : Heap} {L : Addr} {m : Str → Option Value} {s : Shared} {Q E : Value → Shared → Prop}
    (B : Below A₀ base outer h₀) (F : Fr h₀ L s.heap m) (X : (Mine.hd.heap_39 w.params).In h₀) (T9 : Top Mine.hd.view_39 loose0 mean mg mb h₀) (hk : cs.kind = .function)
    (N : News h₀ L s.heap T) (mx : (x, instObj 184 d) ∈ T) (md : (d, pathD w a1 a2 a3 a4 tm k b p) ∈ T) (mk : (k, listOf fs.toArray n) ∈ T) (hd : dp + lv < recursionLimit) (hu : un + 8 * lv < cLine)
    (ret : ∀ h' tk' tl r, Fr h₀ L h' m → News h₀ L h' (tl ++ T) → (∀ q ∈ tl, ∀ r ∈ T, (@Ne Nat q.1 r.1)) → Out tl r → Q r { s with heap := h', toks := tk' }) :
    wpAny (model PySem.Challenge.rw_nt0495_01.row.prog w) (ktrTop dp un gd cn cs L a ccd cl outer) (call (.ref f) vs) Q E s :=
  C mean mg mb dp un gd cn cs a ccd cl outer A₀ base h₀ L m s Q E B F X T9 hk N mx md mk hd hu ret

theorem off_reads : True := by
  k_with "OFF:reads" => skip
  trivial
end
section
theorem on_f34 : True := by
  w_top off
  trivial
section
variable {prog : Program} {w : World} {A : Around} {E : Value → Shared → Prop} {s : Shared} {h₀ : Heap} {L : Addr} {m : Str → Option Value} {news : List (Addr × Obj)}
theorem ne_dat {a b : Value} {d e : Dat} {Q : Value → Shared → Prop} (N : News h₀ L s.heap news) (Da : DatIn news a d) (Db : DatIn news b e) (ha : kqdOk 9 d = true) (hb : kqdOk 9 e = true) (hu : A.units + 64 < cLine)
    (c : Bool) (hc : c = true ↔ d ≠ e) (h : Q (.bool c) s) : wpAny (model prog w) A (compareOp .NotEq a b) Q E s := by
  obtain ⟨as, ra⟩ := kqd_in N 9 Da ha
  obtain ⟨bs, rb⟩ := kqd_in N 9 Db hb
  have la := kqd_lay 9 d ha
  have lb := kqd_lay 9 e hb
  have q := kqd_eqv 9 d e 9 ha hb
  refine ne_dataH ra rb ?_ ?_ hu ?_
  · unfold SeqAt.shaped; rw [la.1, Bool.true_and]; exact decide_eq_true (Nat.le_trans la.2 (by decide))
  · unfold SeqAt.shaped; rw [lb.1, Bool.true_and]; exact decide_eq_true (Nat.le_trans lb.2 (by decide))
  · have e2 : (!PyData.eqv (kqdP d) (kqdP e)) = c := by
      cases hx : PyData.eqv (kqdP d) (kqdP e) with
      | true =>
        have hd := q.mp hx
        cases c with
        | true => exact absurd hd (hc.mp rfl)
        | false => rfl
      | false =>
        cases c with
        | true => rfl
        | false =>
          have hd : d = e := Classical.byContradiction fun x => by simpa using hc.mpr x
          rw [q.mpr hd] at hx
          cases hx
    rw [e2]
    exact h
theorem eq_dat {a b : Value} {d e : Dat} {Q : Value → Shared → Prop} (N : News h₀ L s.heap news) (Da : DatIn news a d) (Db : DatIn news b e) (ha : kqdOk 9 d = true) (hb : kqdOk 9 e = true) (hu : A.units + 64 < cLine)
    (c : Bool) (hc : c = true ↔ d = e) (h : Q (.bool c) s) : wpAny (model prog w) A (compareOp .Eq a b) Q E s := by
  obtain ⟨as, ra⟩ := kqd_in N 9 Da ha
  obtain ⟨bs, rb⟩ := kqd_in N 9 Db hb
  have la := kqd_lay 9 d ha
  have lb := kqd_lay 9 e hb
  have q := kqd_eqv 9 d e 9 ha hb
  refine eq_dataH ra rb ?_ ?_ hu ?_
  · unfold SeqAt.shaped; rw [la.1, Bool.true_and]; exact decide_eq_true (Nat.le_trans la.2 (by decide))
  · unfold SeqAt.shaped; rw [lb.1, Bool.true_and]; exact decide_eq_true (Nat.le_trans lb.2 (by decide))
  · have e2 : PyData.eqv (kqdP d) (kqdP e) = c := by
      cases hx : PyData.eqv (kqdP d) (kqdP e) with
      | true =>
        cases c with
        | true => rfl
        | false => exact absurd (hc.mpr (q.mp hx)) Bool.false_ne_true
      | false =>
        cases c with
        | false => rfl
        | true =>
          rw [q.mpr (hc.mp rfl)] at hx
          cases hx
    rw [e2]
    exact h
theorem cut_upto {value slice : Expr} {l : Addr} {vs : List Value} {n : Int} {u : Tok} {k : Nat} {Q : Value → Shared → Prop} (hn : n = (k : Int)) (F : Fr h₀ L s.heap m) (N : News h₀ L s.heap news) (hl : s.heap.IsList l vs.toArray)
    (h : ∀ D h', Fr h₀ L h' m → News h₀ L h' ((D, listOf (vs.take k).toArray 0) :: news) → (∀ p ∈ news, p.1 < D) → Q (.ref D) { s with heap := h' })
    (hs : subscripted slice false (.ref l) (.ref s.heap.objs.size) = operate [.ref s.heap.objs.size, .ref l] (getItem (.ref l) (.ref s.heap.objs.size))) (ht : ∀ r, letTemporaryGo value (.ref l) r = pure ()) (hz : vs.length ≤ sizeLine) :
    wpAny (model prog w) A (subscriptTail value slice (.ref l) (.ref s.heap.objs.size)) Q E { s with heap := s.heap.push { cls := .type "slice", data := .fields #[.none, .int n u, .none] } } := by
  subst hn
  refine kmk_slice F N hl .none (.int _ _) (fun D h' F' N' l1 => h D h' F' ?_ l1) hs ht (by simpa using hz)
  rw [slicePick_upto'] at N'
  exact N'
theorem cut_from {value slice : Expr} {l : Addr} {vs : List Value} {n : Int} {u : Tok} {k : Nat} {Q : Value → Shared → Prop} (hn : n = (k : Int)) (F : Fr h₀ L s.heap m) (N : News h₀ L s.heap news) (hl : s.heap.IsList l vs.toArray)
    (h : ∀ D h', Fr h₀ L h' m → News h₀ L h' ((D, listOf (vs.drop k).toArray 0) :: news) → (∀ p ∈ news, p.1 < D) → Q (.ref D) { s with heap := h' })
    (hs : subscripted slice false (.ref l) (.ref s.heap.objs.size) = operate [.ref s.heap.objs.size, .ref l] (getItem (.ref l) (.ref s.heap.objs.size))) (ht : ∀ r, letTemporaryGo value (.ref l) r = pure ()) (hz : vs.length ≤ sizeLine) :
    wpAny (model prog w) A (subscriptTail value slice (.ref l) (.ref s.heap.objs.size)) Q E { s with heap := s.heap.push { cls := .type "slice", data := .fields #[.int n u, .none, .none] } } := by
  subst hn
  refine kmk_slice F N hl (.int _ _) .none (fun D h' F' N' l1 => h D h' F' ?_ l1) hs ht (by simpa using hz)
  rw [slicePick_from'] at N'
  exact N'
end
theorem DatAll.take {T : List (Addr × Obj)} : ∀ {vs : List Value} {ds : List Dat}, DatAll T vs ds → ∀ k, DatAll T (vs.take k) (ds.take k)
  | _, _, .nil, k => by simp; exact .nil
  | _, _, .cons h r, 0 => .nil
  | _, _, .cons h r, k + 1 => .cons h (DatAll.take r k)
theorem DatAll.drop {T : List (Addr × Obj)} : ∀ {vs : List Value} {ds : List Dat}, DatAll T vs ds → ∀ k, DatAll T (vs.drop k) (ds.drop k)
  | _, _, .nil, k => by simp; exact .nil
  | _, _, .cons h r, 0 => .cons h r
  | _, _, .cons h r, k + 1 => DatAll.drop r k
theorem listD_ok {rows : List Row} : kqdOk 9 (.list (rows.map rowD)) = true := by
  have h := rowsD_ok rows
  unfold kqdOk
  exact List.all_eq_true.mpr h
def lawP (q : Quad) (ah : Bool) : Pt := if ah then (7, -7) else q.1
def lawLs (q : Quad) (f : Int) (ah : Bool) : List Pt := (if ah then [q.1] else []) ++ ends f 10 q
theorem flat_law (q : Quad) (f : Int) (ah cz : Bool) : flatFrom f none (lawRows q ah cz) = pathRows (lawP q ah) (lawLs q f ah) cz := by
  cases ah <;> cases cz <;> simp [lawRows, flatFrom, pathRows, lawP, lawLs]
theorem rowsOk_law {q : Quad} (hq : QB 3000 q) (ah cz : Bool) : RowsOk none (lawRows q ah cz) := by
  have h : QB 1000000 (q.1, q.2.1, q.2.2.1, q.2.2.2) := by
    simp only [QB, PB] at hq ⊢
    omega
  cases ah <;> cases cz <;> exact ⟨⟨_, rfl, h⟩, trivial⟩
theorem lawLs_length (q : Quad) (f : Int) (ah : Bool) : (lawLs q f ah).length ≤ 1300 := by
  have h := (ends_length f 10 q).2
  unfold lawLs
  rw [List.length_append]
  cases ah <;> simp <;> omega
theorem lawLs_ne (q : Quad) (f : Int) (ah : Bool) : lawLs q f ah ≠ [] := by
  have h := (ends_length f 10 q).1
  intro e
  have h2 := congrArg List.length e
  unfold lawLs at h2
  rw [List.length_append, List.length_nil] at h2
  omega
theorem pathRows_last {p : Pt} {ls : List Pt} (h : ls ≠ []) : ∃ rows0 pt, pathRows p ls false = rows0 ++ [Row.l pt] := by
  rcases nil_or_snoc ls with e | ⟨l', x, e⟩
  · exact absurd e h
  · exact ⟨Row.m p :: l'.map Row.l, x, by rw [e]; simp [pathRows]⟩
theorem list_last {T : List (Addr × Obj)} {l : Nat} {rows : List Row} {r : Row} (D : DatIn T (.ref l) (.list ((rows ++ [r]).map rowD))) : ∃ vs v n, (l, listOf (vs ++ [v]).toArray n) ∈ T ∧ DatIn T v (rowD r) ∧ vs.length = rows.length := by
  obtain ⟨a, vs, n, e, h1, h2⟩ := list_of D
  cases e
  rw [List.map_append, List.map_singleton] at h2
  obtain ⟨vs0, v, rfl, g1, g2⟩ := datAll_concat h2
  exact ⟨vs0, v, n, h1, g2, by have := g1.length; rwa [List.length_map] at this⟩
/-- one test alone -/
theorem forIn_one {M : Model} {A : Around} {E : Value → Shared → Prop} {s : Shared} {c : Expr} {env : Env} {P : Bool → Shared → Prop} (h : wpAny M A (isTrue c env (eval c env)) (fun ok s' => P ok s') E s) :
    wpAny M A (forIn [c] true fun c r => if r = true then do let ok ← isTrue c env (eval c env); pure (ForInStep.yield ok) else pure (ForInStep.yield r)) (fun ok s' => P ok s') E s := by
  simp only [List.forIn_cons, List.forIn_nil, if_true]
  refine wpAny_bind (wpAny_bind (wpAny_mono h (fun ok s' hp => ?_) fun _ _ e => e))
  exact wpAny_pure (wpAny_pure hp)
theorem filter_lt : ∀ (k n : Nat), n ≤ k → (List.range k).filter (fun i => decide (i < n)) = List.range n
  | 0, n, h => by
    have : n = 0 := by omega
    subst this; rfl
  | k + 1, n, h => by
    rw [List.range_succ, List.filter_append]
    by_cases e : n = k + 1
    · subst e
      rw [List.filter_eq_self.mpr (by intro i hi; exact decide_eq_true (by have := List.mem_range.mp hi; omega)), List.filter_eq_self.mpr (by intro i hi; rw [List.mem_singleton.mp hi]; exact decide_eq_true (by omega)), List.range_succ]
    · rw [filter_lt k n (by omega), List.filter_eq_nil_iff.mpr (by intro i hi; rw [List.mem_singleton.mp hi]; simp; omega), List.append_nil]
/-- the rows behind the first ones -/
theorem rows_drop (q : Quad) (f : Int) (ah : Int) (h : ah = 0 ∨ ah = 1) (cz : Bool) : (pathRows (lawP q (decide (ah = 1))) (lawLs q f (decide (ah = 1))) cz).drop (1 + ah).toNat = (ends f 10 q).map Row.l ++ (if cz then [Row.z] else []) := by
  rcases h with rfl | rfl
  · rfl
  · rfl
/-- the first part of a list -/
theorem datAll_first {T : List (Addr × Obj)} {vs ws : List Value} {ds es : List Dat} (h : DatAll T vs (ds ++ es)) (hl : ws.length = ds.length) (hw : ∀ (j : Nat) v, ws[j]? = some v → vs[j]? = some v) : DatAll T ws ds := by
  have e : ws = vs.take ds.length := by
    have hv := h.length
    rw [List.length_append] at hv
    apply List.ext_getElem?
    intro j
    by_cases hj : j < ds.length
    · rw [List.getElem?_take, if_pos hj, hw j (ws[j]'(by omega)) (List.getElem?_eq_getElem (by omega))]
      exact List.getElem?_eq_getElem (by omega)
    · rw [List.getElem?_eq_none (by omega), List.getElem?_take, if_neg hj]
  have h2 := Mine.DatAll.take h ds.length
  rw [List.take_left'  rfl] at h2
  rw [e]
  exact h2
theorem rowD_ok9 (r : Row) : kqdOk 9 (rowD r) = true := by
  cases r <;> (simp [rowD, kqdOk]; decide +kernel)
theorem list_last2 {T : List (Addr × Obj)} {l : Nat} {rows : List Row} {r : Row} (D : DatIn T (.ref l) (.list ((rows ++ [r]).map rowD))) : ∃ vs v n, (l, listOf (vs ++ [v]).toArray n) ∈ T ∧ DatIn T v (rowD r) ∧ vs.length = rows.length ∧ DatAll T (vs ++ [v]) ((rows ++ [r]).map rowD) := by
  obtain ⟨a, vs, n, e, h1, h2⟩ := list_of D
  cases e
  have h3 := h2
  rw [List.map_append, List.map_singleton] at h2
  obtain ⟨vs0, v, rfl, g1, g2⟩ := datAll_concat h2
  exact ⟨vs0, v, n, h1, g2, by have := g1.length; rwa [List.length_map] at this, h3⟩
/-- the row of a line -/
theorem lrow_of {T : List (Addr × Obj)} {v : Value} {p : Pt} (h : DatIn T v (rowD (.l p))) : ∃ a n t0 t1 t2, v = .ref a ∧ (a, tupO [Value.str (Str.ofString "l") t0, Value.int p.1 t1, Value.int p.2 t2] n) ∈ T := by
  have h : DatIn T v (.tuple [.str (Str.ofString "l"), .int p.1, .int p.2]) := h
  cases h with
  | tuple hm hd =>
    obtain ⟨x, y, z, rfl, h1, h2, h3⟩ := all3 hd
    obtain ⟨t0, rfl⟩ := str_of h1
    obtain ⟨t1, rfl⟩ := int_of h2
    obtain ⟨t2, rfl⟩ := int_of h3
    exact ⟨_, _, _, _, _, rfl, hm⟩
section
variable {prog : Program} {w : World} {A : Around} {E : Value → Shared → Prop} {s : Shared}
/-- a tuple's end, laid on top of the heap -/
theorem cut_tup {value slice : Expr} {t : Addr} {items : Array Value} {a : Nat} {u : Tok} {Q : Value → Shared → Prop} (ht : IsTup s.heap t items) (h1 : 1 ≤ a) (ha : a ≤ items.size)
    (h : Q (.ref (s.heap.objs.size + 1)) { s with heap := (s.heap.push { cls := .type "slice", data := .fields #[.int a u, .none, .none] }).push { cls := .type "tuple", data := .seq (items.toList.drop a).toArray } })
    (hs : subscripted slice false (.ref t) (.ref s.heap.objs.size) = operate [.ref s.heap.objs.size, .ref t] (getItem (.ref t) (.ref s.heap.objs.size)))
    (hg : ∀ r, letTemporaryGo value (.ref t) r = pure ()) (hsz : items.size ≤ sizeLine) :
    wpAny (model prog w) A (subscriptTail value slice (.ref t) (.ref s.heap.objs.size)) Q E { s with heap := s.heap.push { cls := .type "slice", data := .fields #[.int a u, .none, .none] } } := by
  refine subscriptTail_ops (s := { s with heap := s.heap.push { cls := .type "slice", data := .fields #[.int a u, .none, .none] } }) (ht.keeps fun _ _ e => Heap.get?_push_of_some _ e).typeIs slot_tuple_getitem.lookup
    (getItem_tuple_from (ht.keeps fun _ _ e => Heap.get?_push_of_some _ e) (Heap.IsSliceOf.new ..) h1 ha ?_ hsz) hs hg
  show Q (.ref (s.heap.push _).objs.size) _
  rw [Heap.size_push]
  exact h
end
theorem map_getD {α β : Type} (g : α → β) (d : α) (l : List α) {n : Nat} (hn : n = l.length) : (List.range' 0 n).map (fun i => g (l.getD i d)) = l.map g := by
  subst hn
  apply List.ext_getElem
  · simp
  · intro i h1 h2
    rw [List.length_map] at h2
    simp [List.getD_eq_getElem?_getD, List.getElem?_eq_getElem h2]
/-- what lies on top of the heap is off all that stands -/
theorem off_top {h₀ h : Heap} {L : Nat} {a5 a4 a3 a2 : Obj} {news : List (Addr × Obj)} (N : News h₀ L h news) (m5 : (L + 1 + 1 + 1 + 1 + 1, a5) ∈ news) (m4 : (L + 1 + 1 + 1 + 1, a4) ∈ news) (m3 : (L + 1 + 1 + 1, a3) ∈ news) (m2 : (L + 1 + 1, a2) ∈ news) :
    (@Ne Nat h.objs.size (L + 1 + 1)) ∧ (@Ne Nat h.objs.size (L + 1 + 1 + 1)) ∧ (@Ne Nat h.objs.size (L + 1 + 1 + 1 + 1)) ∧ (@Ne Nat h.objs.size (L + 1 + 1 + 1 + 1 + 1)) :=
  ⟨Nat.ne_of_gt (Heap.lt_size (N _ m2).1), Nat.ne_of_gt (Heap.lt_size (N _ m3).1), Nat.ne_of_gt (Heap.lt_size (N _ m4).1), Nat.ne_of_gt (Heap.lt_size (N _ m5).1)⟩
/-- a row of those that the filter walks over -/
theorem row_filterT {T : List (Addr × Obj)} {vs : List Value} {q : Quad} {f : Int} {cz : Bool} {i : Nat} {v : Value} (dD : DatAll T vs (((ends f 10 q).map Row.l ++ (if cz then [Row.z] else [])).map rowD)) (hv : vs[i]? = some v) :
    ∃ x : Row × Addr, v = .ref x.2 ∧ DatIn T v (rowD x.1) ∧ (decide (i < (ends f 10 q).length) = true ↔ rowD x.1 ≠ rowD .z) := by
  obtain ⟨row, hr⟩ := row_is dD hv
  have dv := row_at dD hv hr
  have hrz : decide (i < (ends f 10 q).length) = true ↔ rowD row ≠ rowD .z := by
    rw [decide_eq_true_iff]
    by_cases hlt : i < (ends f 10 q).length
    · rw [List.getElem?_append_left (by rw [List.length_map]; exact hlt), List.getElem?_map, List.getElem?_eq_getElem hlt] at hr
      obtain rfl := Option.some.inj hr
      exact ⟨fun _ h => by simp [rowD] at h, fun _ => hlt⟩
    · rw [List.getElem?_append_right (by rw [List.length_map]; omega)] at hr
      cases cz with
      | false => simp at hr
      | true =>
        have hrow : row = .z := List.mem_singleton.mp (List.mem_of_getElem? hr)
        exact ⟨fun h => absurd h hlt, fun h => absurd (congrArg rowD hrow) h⟩
  have hx : ∃ a, v = .ref a := by cases row <;> (cases dv; exact ⟨_, rfl⟩)
  obtain ⟨a, rfl⟩ := hx
  exact ⟨(row, a), rfl, dv, hrz⟩
theorem rows_len {T : List (Addr × Obj)} {vs : List Value} {q : Quad} {f : Int} {ab cz : Bool} (dR : DatAll T vs ((pathRows (lawP q ab) (lawLs q f ab) cz).map rowD)) : vs.length ≤ 2000 := by
  have h1 := dR.length
  have h4 := lawLs_length q f ab
  rw [List.length_map, pathRows, List.length_cons, List.length_append, List.length_map] at h1
  have h3 : (if cz then [Row.z] else []).length ≤ 1 := by split <;> simp
  omega
theorem rows_lines {T : List (Addr × Obj)} {vsD vs : List Value} {q : Quad} {f : Int} {cz : Bool} {P : List (Addr × Obj) → Prop} {R : List (Addr × Obj) → Prop} (dD : DatAll T vsD (((ends f 10 q).map Row.l ++ (if cz then [Row.z] else [])).map rowD))
    (hlen : vs.length = ((List.range vsD.length).filter fun i => decide (i < (ends f 10 q).length)).length) (hF : ∀ (j : Nat) v i, vs[j]? = some v → ((List.range vsD.length).filter fun i => decide (i < (ends f 10 q).length))[j]? = some i → ∃ nw, P nw ∧ R nw ∧ vsD[i]? = some v) :
    DatAll T vs (((ends f 10 q).map Row.l).map rowD) := by
  have hkl := dD.length
  rw [List.length_map, List.length_append, List.length_map] at hkl
  have hn : (ends f 10 q).length ≤ vsD.length := by omega
  rw [filter_lt _ _ hn] at hlen hF
  rw [List.length_range] at hlen
  rw [List.map_append] at dD
  refine datAll_first dD (by rw [List.length_map, List.length_map]; exact hlen) fun j v hj => ?_
  have hjl := (List.getElem?_eq_some_iff.mp hj).1
  obtain ⟨nw, _, _, h5⟩ := hF j v j hj (by rw [List.getElem?_range (by omega)])
  exact h5
theorem cells_put {h₀ h : Heap} {L : Addr} {x a b c d : Addr × Obj} {y : Addr × Obj} {T : List (Addr × Obj)} (N : News h₀ L h (x :: y :: a :: b :: c :: d :: T)) : News h₀ L h (a :: b :: c :: d :: x :: T) := fun p hp => N p (by
  simp only [List.mem_cons] at hp ⊢
  rcases hp with h | h | h | h | h | h <;> simp [h])
theorem lrow_atT {T : List (Addr × Obj)} {vs : List Value} {es : List Pt} {i : Nat} {v : Value} (hd : DatAll T vs ((es.map Row.l).map rowD)) (hv : vs[i]? = some v) : ∃ x : Addr × Nat × Tok × Tok × Tok, v = .ref x.1 ∧ (x.1, tupO [Value.str (Str.ofString "l") x.2.2.1, Value.int (es.getD i (0, 0)).1 x.2.2.2.1, Value.int (es.getD i (0, 0)).2 x.2.2.2.2] x.2.1) ∈ T := by
  obtain ⟨row, hr⟩ := row_is hd hv
  have dv := row_at hd hv hr
  rw [List.getElem?_map] at hr
  cases he : es[i]? with
  | none => rw [he] at hr; cases hr
  | some e =>
    rw [he] at hr
    obtain rfl := Option.some.inj hr
    have hg : es.getD i (0, 0) = e := by rw [List.getD_eq_getElem?_getD, he]; rfl
    rw [hg]
    exact row3T (s := Str.ofString "l") dv
theorem ref_of {T : List (Addr × Obj)} {v : Value} {p : Pt} (h : DatIn T v (ptD p)) : ∃ a, v = .ref a := by cases h; exact ⟨_, rfl⟩
theorem inh_ra : Nonempty (Row × Addr) := ⟨(.z, 0)⟩
theorem push2_new {h : Heap} {x o : Obj} (e : o.isFreed = false := by rfl) : ∀ p ∈ [(h.objs.size + 1, o)], ((h.push x).push o).get? p.1 = some p.2 ∧ h.get? p.1 = none := fun p hp => by
  rw [List.mem_singleton.mp hp]
  exact ⟨(congrArg (fun a => Heap.get? _ a) (Heap.size_push ..).symm).trans (Heap.get?_push_size _ e), Heap.get?_none_of_le (Nat.le_succ _)⟩
theorem comp_nws {h₀ h₁ h : Heap} {L D : Addr} {m : Str → Option Value} {news : List (Addr × Obj)} {vs : List Value} {n : Nat} {d : Nat → Dat} (F : Fr h₀ L h₁ m) (N : News h₀ L h₁ news) (kp : ∀ c o, h₁.get? c = some o → h.get? c = some o) (hD0 : h₁.get? D = none) (hD : h.get? D = some (LCg.lst vs)) (hlen : vs.length = n)
    (hF : ∀ (j : Nat) v, vs[j]? = some v → ∃ nw, (∀ p ∈ nw, h.get? p.1 = some p.2 ∧ h₁.get? p.1 = none) ∧ DatIn nw v (d j)) :
    ∃ nws, News h₀ L h ((D, listOf vs.toArray vs.length) :: nws ++ news) ∧ (∀ p ∈ (D, listOf vs.toArray vs.length) :: nws, h₁.get? p.1 = none) ∧ DatAll nws vs ((List.range' 0 n).map d) := by
  obtain ⟨nws, hn1, hn2⟩ := dat_of (i := 0) (d := d) (fun j v e => by rw [Nat.zero_add]; exact hF j v e)
  rw [hlen] at hn2
  exact ⟨nws, news_tl (s := { heap := h₁ }) F N kp (tl := (D, LCg.lst vs) :: nws) (fun p hp => (List.mem_cons.mp hp).elim (fun e => e ▸ ⟨hD, hD0⟩) (hn1 p)), fun p hp => (List.mem_cons.mp hp).elim (fun e => e ▸ hD0) (fun hp => (hn1 p hp).2), hn2⟩
theorem off_newT {h₀ h : Heap} {L : Nat} {a5 a4 a3 a2 : Obj} {news : List (Addr × Obj)} {D : Addr} (N : News h₀ L h news) (m5 : (L + 1 + 1 + 1 + 1 + 1, a5) ∈ news) (m4 : (L + 1 + 1 + 1 + 1, a4) ∈ news) (m3 : (L + 1 + 1 + 1, a3) ∈ news) (m2 : (L + 1 + 1, a2) ∈ news) (h0 : h.get? D = none) :
    (@Ne Nat D (L + 1 + 1)) ∧ (@Ne Nat D (L + 1 + 1 + 1)) ∧ (@Ne Nat D (L + 1 + 1 + 1 + 1)) ∧ (@Ne Nat D (L + 1 + 1 + 1 + 1 + 1)) := by
  have f : ∀ {a : Nat} {o : Obj}, (a, o) ∈ news → (@Ne Nat D a) := fun {a o} hm e => by have := (N _ hm).1; rw [← e, h0] at this; cases this
  exact ⟨f m2, f m3, f m4, f m5⟩
theorem cells_up {h₀ h : Heap} {L : Addr} {x y a b c d : Addr × Obj} {S T : List (Addr × Obj)} (N : News h₀ L h (x :: (S ++ y :: a :: b :: c :: d :: T))) : News h₀ L h (a :: b :: c :: d :: x :: (S ++ T)) := fun p hp => N p (by
  simp only [List.mem_cons, List.mem_append] at hp ⊢
  rcases hp with h | h | h | h | h | h | h <;> simp [h])
theorem chain_ends {T nws : List (Addr × Obj)} {x : Addr × Obj} {a q0 : Nat} {q : Quad} {E0 : List Pt} {vs3 : List Value} {n : Nat} (hx : x = (a, listOf ([Value.ref q0] ++ vs3).toArray n)) (d0 : DatIn T (.ref q0) (ptD q.1)) (hn : DatAll nws vs3 ((List.range' 0 vs3.length).map fun i => ptD (E0.getD i (0, 0)))) (hl : vs3.length = E0.length) {y : Addr × Obj} :
    DatIn (x :: (y :: nws ++ T)) (.ref a) (.list ((q.1 :: E0).map ptD)) := by
  have em : (List.range' 0 vs3.length).map (fun i => ptD (E0.getD i (0, 0))) = E0.map ptD := map_getD ptD _ _ hl
  rw [em] at hn
  subst hx
  exact .list (List.Mem.head _) (.cons (d0.mono fun q hq => List.Mem.tail _ (List.mem_append.mpr (.inr hq))) (hn.mono fun q hq => List.Mem.tail _ (List.mem_append.mpr (.inl (List.Mem.tail _ hq)))))
theorem lrow2T {T : List (Addr × Obj)} {vs : List Value} {es : List Pt} {p : Pt} {i : Nat} {v : Value} (hd : DatAll T vs ((es.map Row.l ++ [Row.l p]).map rowD)) (hv : vs[i]? = some v) : ∃ x : Pt × Addr × Nat × Tok × Tok × Tok, v = .ref x.2.1 ∧ (x.2.1, tupO [Value.str (Str.ofString "l") x.2.2.2.1, Value.int x.1.1 x.2.2.2.2.1, Value.int x.1.2 x.2.2.2.2.2] x.2.2.1) ∈ T := by
  obtain ⟨row, hr⟩ := row_is hd hv
  have dv := row_at hd hv hr
  have hl : ∃ q, row = .l q := by
    have hm := List.mem_of_getElem? hr
    rcases List.mem_append.mp hm with hm | hm
    · obtain ⟨q, _, e⟩ := List.mem_map.mp hm
      exact ⟨q, e.symm⟩
    · exact ⟨p, List.mem_singleton.mp hm⟩
  obtain ⟨q, rfl⟩ := hl
  obtain ⟨x, e, m⟩ := row3T (s := Str.ofString "l") dv
  exact ⟨(q, x), e, m⟩
theorem none_of {vs : List Value} {n : Nat} (h : vs.length = ((List.range n).filter fun _ => false).length) : vs = [] := by
  have h0 : (List.range n).filter (fun _ => false) = [] := by
    rw [List.filter_eq_nil_iff]
    intro a _ h
    cases h
  rw [h0] at h
  exact List.length_eq_zero_iff.mp h
/-- the last row, a line's -/
theorem last_lineT {T : List (Addr × Obj)} {l : Nat} {es : List Pt} {p : Pt} (D : DatIn T (.ref l) (.list (((es ++ [p]).map Row.l).map rowD))) : ∃ x : List Value × Nat × Nat × Nat × Tok × Tok × Tok, (l, listOf (x.1 ++ [Value.ref x.2.1]).toArray x.2.2.1) ∈ T ∧ (x.2.1, tupO [Value.str (Str.ofString "l") x.2.2.2.2.1, Value.int p.1 x.2.2.2.2.2.1, Value.int p.2 x.2.2.2.2.2.2] x.2.2.2.1) ∈ T ∧ x.1.length = es.length ∧ DatAll T (x.1 ++ [Value.ref x.2.1]) ((es.map Row.l ++ [Row.l p]).map rowD) := by
  have DL2 : DatIn T (.ref l) (.list ((es.map Row.l ++ [Row.l p]).map rowD)) := by rw [List.map_append] at D; exact D
  obtain ⟨vs, v, n, mL, dv, hl, dvs⟩ := list_last2 DL2
  rw [List.length_map] at hl
  obtain ⟨x, rfl, m⟩ := row3T (s := Str.ofString "l") dv
  exact ⟨(vs, x.1, n, x.2.1, x.2.2.1, x.2.2.2.1, x.2.2.2.2), mL, m, hl, dvs⟩
theorem law_len {T : List (Addr × Obj)} {fs : List Value} {q : Quad} {ab cz : Bool} (h : DatAll T fs ((lawRows q ab cz).map rowD)) : fs.length ≤ 3000 := by
  have h1 := h.length
  rw [List.length_map, lawRows, List.length_append, List.length_cons] at h1
  have h2 : (if ab then [Row.m (7, -7), Row.l q.1] else [Row.m q.1]).length ≤ 2 := by split <;> simp
  have h3 : (if cz then [Row.z] else []).length ≤ 1 := by split <;> simp
  omega
theorem flat_len {T : List (Addr × Obj)} {fs : List Value} {q : Quad} {f : Int} {ab cz : Bool} (h : DatAll T fs ((pathRows (lawP q ab) (lawLs q f ab) cz).map rowD)) : fs.length ≤ 3000 := by
  have h1 := h.length
  have h4 := lawLs_length q f ab
  rw [List.length_map, pathRows, List.length_cons, List.length_append, List.length_map] at h1
  have h3 : (if cz then [Row.z] else []).length ≤ 1 := by split <;> simp
  omega
theorem rows_same {q : Quad} {f : Int} {ah : Int} {ab cz : Bool} (hab : decide (ah = 1) = ab) (h : ah = 0 ∨ ah = 1) : (pathRows (lawP q ab) (lawLs q f ab) cz).take (1 + ah).toNat = (lawRows q ab cz).take (1 + ah).toNat := by
  subst hab
  rcases h with rfl | rfl
  · rfl
  · rfl
theorem take_in {T : List (Addr × Obj)} {vs : List Value} {rows : List Row} {k : Nat} (h : DatAll T vs (rows.map rowD)) : DatAll T (vs.take k) ((rows.take k).map rowD) := by
  rw [List.map_take]; exact Mine.DatAll.take h _
theorem last_zT {T : List (Addr × Obj)} {l : Nat} {rows : List Row} (D : DatIn T (.ref l) (.list ((rows ++ [Row.z]).map rowD))) : ∃ x : List Value × Nat × Nat, (l, listOf (x.1 ++ [Value.ref x.2.1]).toArray x.2.2) ∈ T ∧ DatIn T (.ref x.2.1) (rowD .z) := by
  obtain ⟨vs, v, n, mR, dv, hl⟩ := list_last D
  have h0 : ∃ a, v = .ref a := by cases dv; exact ⟨_, rfl⟩
  obtain ⟨a, rfl⟩ := h0
  exact ⟨(vs, a, n), mR, dv⟩
theorem last_pT {T : List (Addr × Obj)} {l : Nat} {pp : Pt} {ls : List Pt} (hls : ls ≠ []) (D : DatIn T (.ref l) (.list ((pathRows pp ls false).map rowD))) : ∃ x : List Value × Nat × Nat × Nat × Tok × List Value, (l, listOf (x.1 ++ [Value.ref x.2.1]).toArray x.2.2.1) ∈ T ∧ (x.2.1, tupO (Value.str (Str.ofString "l") x.2.2.2.2.1 :: x.2.2.2.2.2) x.2.2.2.1) ∈ T := by
  obtain ⟨rows0, pt, e⟩ := pathRows_last (p := pp) hls
  rw [e] at D
  obtain ⟨vs, v, n, mR, dv, hl⟩ := list_last D
  obtain ⟨x, rfl, m⟩ := row3T (s := Str.ofString "l") dv
  exact ⟨(vs, x.1, n, x.2.1, x.2.2.1, _), mR, m⟩

theorem off_cmp : True := by
  k_with "OFF:cmp" => skip
  trivial
end
section
theorem on_f35 : True := by
  w_top off
  trivial
section
variable {prog : Program} {w : World} {A : Around} {E : Value → Shared → Prop} {s : Shared} {env : Env} {h₀ : Heap} {target : Expr} {body : List Stmt} {Q : Flow → Shared → Prop}
/-- a for over what a new iterator walks; what it reads stays -/
theorem turn_gen {σ : Type} {cn : String} {io : Obj} {kp : List (Addr × Obj)} {nn : Nat} {P0 : Nat → Value → Prop} {St : Nat → Heap → Prop} {m₀ : Str → Option Value} (Led : σ → List (Addr × Obj)) (ps : σ → List (Str × Value)) (stored : List Str) (P : Nat → σ → Prop) (c₀ : σ)
    (W : Walks prog w A s.heap.objs.size (s.heap.objs.size :: kp.map (·.1)) [s.heap.objs.size] nn P0 St)
    (hlet : ∀ i v (s' : Shared) (Q : Unit → Shared → Prop) (E : Value → Shared → Prop), St i s'.heap → Q () s' → wpAny (model prog w) A (letOwnedTupleGo target (.ref s.heap.objs.size) v) Q E s')
    (hcls : ∀ i h, St i h → ∃ o, h.get? s.heap.objs.size = some o ∧ o.cls = .type cn) (h0 : St 0 (s.heap.push io))
    (hkp : ∀ p ∈ kp, s.heap.get? p.1 = some p.2) (hkL : ∀ p ∈ kp, p.1 ≠ env.locals)
    (F : Fr h₀ env.locals s.heap m₀) (N : News h₀ env.locals s.heap (Led c₀)) (hk : ∀ p ∈ ps c₀, m₀ p.1 = some p.2) (hp : P 0 c₀)
    (hit : ∀ i c, P i c → ∀ p ∈ Led c, p.2.cls ≠ .type cn ∨ (@Ne Nat p.1 s.heap.objs.size))
    (hst : ∀ i c h m, P i c → Fr h₀ env.locals h m → News h₀ env.locals h (Led c) → ∀ p ∈ kp, h.get? p.1 = some p.2)
    (turn : ∀ i v (c : σ) (u : Str → Option Value) h tk oI, P0 i v → P i c → oI.cls = .type cn → i < nn → Fr h₀ env.locals h (kstB (fun z => if stored.contains z then u z else m₀ z) (ps c)) → News h₀ env.locals h ((s.heap.objs.size, oI) :: Led c) →
      wpAny (model prog w) A (assign target env v) (fun _ s₃ => wpAny (model prog w) A (execs body env) (TurnPost h₀ env.locals { s with heap := h, toks := tk } Led ps stored m₀ (P (i + 1)) s.heap.objs.size oI Q) E s₃) E { s with heap := h, toks := tk })
    (done : ∀ (c : σ) (u : Str → Option Value) h tk, P nn c → Fr h₀ env.locals h (kstB (fun z => if stored.contains z then u z else m₀ z) (ps c)) → News h₀ env.locals h (Led c) → Q .next { s with heap := h, toks := tk }) :
    TurnsAt prog w A h₀ env target body Q E (.ref s.heap.objs.size) { s with heap := s.heap.push io } := by
  refine ⟨s.heap.objs.size, _, _, nn, _, _, _, m₀, Led c₀, (fun i m nx => ∃ c, nx = Led c ∧ (∀ p ∈ ps c, m p.1 = some p.2) ∧ (∀ z, (∀ p ∈ ps c, z ≠ p.1) → stored.contains z = false → m z = m₀ z) ∧ P i c), rfl,
    KTurns.ofWalks W (fun i v s Q E st hQ => hlet i v s Q E st hQ), ?_, ?_, ?_, h0, F.push _, (fun p hp => ⟨Heap.get?_push_of_some _ (N p hp).1, (N p hp).2⟩), ⟨c₀, rfl, hk, fun _ _ _ => rfl, hp⟩, ?_, ?_⟩
  · intro hm
    rcases List.mem_cons.mp hm with e | hm
    · exact absurd F.ns.lt (e ▸ Nat.lt_irrefl _)
    · obtain ⟨p, hp1, hp2⟩ := List.mem_map.mp hm
      exact hkL p hp1 hp2
  · intro b hb
    rw [List.mem_singleton.mp hb]
    exact next_is_new F
  · intro p hp hI
    exact absurd (Heap.lt_size (N p hp).1) ((List.mem_singleton.mp hI) ▸ Nat.lt_irrefl _)
  · rintro i v m₁ nx h tk own hin hP ⟨c, rfl, h1, h2, hp'⟩ hoff hown hget hfp hstt F₁ N₁
    have hI0 : h₀.get? s.heap.objs.size = none := next_is_new F
    obtain ⟨oI, hoI, hcI⟩ := hcls _ _ hstt
    have hIown : (s.heap.objs.size, oI) ∈ own := hfp _ (List.mem_cons.mpr (.inl rfl)) hI0 _ hoI
    have Nc : News h₀ env.locals h (Led c) := fun p hp => N₁ p (List.mem_append_right _ hp)
    have hkh : ∀ p ∈ kp, h.get? p.1 = some p.2 := hst i c h m₁ hp' F₁ Nc
    have N₂ : News h₀ env.locals h ((s.heap.objs.size, oI) :: Led c) := fun p hp => (List.mem_cons.mp hp).elim (fun e => e ▸ N₁ _ (List.mem_append_left _ hIown)) (Nc p)
    refine wpAny_mono (turn i v c m₁ h tk oI hP hp' hcI hin (ksw_fr h1 h2 F₁) N₂) (fun _ s₃ h₃ => wpAny_mono h₃ (fun f s₄ p => ?_) fun _ _ e => e) fun _ _ e => e
    have fin : TurnEnd h₀ env.locals { s with heap := h, toks := tk } Led ps stored m₀ (P (i + 1)) s.heap.objs.size oI s₄ →
        LoopStepU h₀ env.locals [s.heap.objs.size] own (fun m nx => ∃ c, nx = Led c ∧ (∀ p ∈ ps c, m p.1 = some p.2) ∧ (∀ z, (∀ p ∈ ps c, z ≠ p.1) → stored.contains z = false → m z = m₀ z) ∧ P (i + 1) c) { s with heap := h, toks := tk } .next s₄ := by
      rintro ⟨c', h', tk', m', news', e, F', N', hI', hn, hk', hr, hP2⟩
      have Nc' : News h₀ env.locals h' (Led c') := fun p hp => N' p (hn p hp)
      have hIh : h'.get? s.heap.objs.size = some oI := (N' _ hI').1
      refine ⟨rfl, h', tk', m', Led c', e, F', fun p hp => ?_, fun p hp hq => ?_, c', rfl, hk', hr, hP2⟩
      · rcases List.mem_append.mp hp with hp | hp
        · rcases List.mem_cons.mp (hown p hp) with h5 | h5
          · have h6 := hget p hp
            rw [h5, hoI] at h6
            have h7 : p = (s.heap.objs.size, oI) := Prod.ext h5 (Option.some.inj h6).symm
            rw [h7]
            exact N' _ hI'
          · obtain ⟨r, hr1, hr2⟩ := List.mem_map.mp h5
            have h6 := hget p hp
            rw [← hr2, hkh r hr1] at h6
            have h7 : p = r := Prod.ext hr2.symm (Option.some.inj h6).symm
            refine ⟨?_, (N₁ p (List.mem_append_left _ hp)).2⟩
            rw [h7]
            exact hst (i + 1) c' h' m' hP2 F' Nc' r hr1
        · exact Nc' p hp
      · have h5 := (Nc' p hp).1
        rcases hit (i + 1) c' hP2 p hp with h6 | h6
        · rw [List.mem_singleton.mp hq, hIh] at h5
          exact h6 ((Option.some.inj h5) ▸ hcI)
        · exact h6 (List.mem_singleton.mp hq)
    cases f with
    | ret v => exact .ret p.run
    | brk => exact .brk p.run
    | next => exact .next (fin p.run)
    | cont => exact .cont (fin p.run)
  · rintro h' tk m' news' F' N' _ ⟨c, rfl, h1, h2, hp'⟩
    exact done c m' h' tk hp' (ksw_fr h1 h2 F') N'
/-- a for over a tuple -/
theorem turn_tup {σ : Type} {l : Addr} {vs : List Value} {n : Nat} {m₀ : Str → Option Value} (Led : σ → List (Addr × Obj)) (ps : σ → List (Str × Value)) (stored : List Str) (P : Nat → σ → Prop) (c₀ : σ)
    (hh : A.handled = none) (hl : s.heap.get? l = some (tupO vs n)) (hlL : l ≠ env.locals) (F : Fr h₀ env.locals s.heap m₀) (N : News h₀ env.locals s.heap (Led c₀)) (hk : ∀ p ∈ ps c₀, m₀ p.1 = some p.2) (hp : P 0 c₀)
    (hit : ∀ i c, P i c → ∀ p ∈ Led c, p.2.cls ≠ .type "tuple_iterator" ∨ (@Ne Nat p.1 s.heap.objs.size))
    (hst : ∀ i c h m, P i c → Fr h₀ env.locals h m → News h₀ env.locals h (Led c) → h.get? l = some (tupO vs n))
    (turn : ∀ i v (c : σ) (u : Str → Option Value) h tk oI, vs[i]? = some v → P i c → oI.cls = .type "tuple_iterator" → Fr h₀ env.locals h (kstB (fun z => if stored.contains z then u z else m₀ z) (ps c)) → News h₀ env.locals h ((s.heap.objs.size, oI) :: Led c) →
      wpAny (model prog w) A (assign target env v) (fun _ s₃ => wpAny (model prog w) A (execs body env) (TurnPost h₀ env.locals { s with heap := h, toks := tk } Led ps stored m₀ (P (i + 1)) s.heap.objs.size oI Q) E s₃) E { s with heap := h, toks := tk })
    (done : ∀ (c : σ) (u : Str → Option Value) h tk, P vs.length c → Fr h₀ env.locals h (kstB (fun z => if stored.contains z then u z else m₀ z) (ps c)) → News h₀ env.locals h (Led c) → Q .next { s with heap := h, toks := tk }) :
    wpAny (model prog w) A (pyIter (.ref l)) (fun it s₂ => TurnsAt prog w A h₀ env target body Q E it s₂) E s := by
  have hls : s.heap.IsTuple l vs.toArray := ⟨_, hl, rfl, n, rfl⟩
  have hlt : @LT.lt Nat _ l s.heap.objs.size := Heap.lt_size hl
  have hne : (@Ne Nat l s.heap.objs.size) := Nat.ne_of_lt hlt
  refine wpAny_pyIter_tuple hls ?_
  have W := Walks.tuple (prog := prog) (w := w) hh s.heap.objs.size l hne vs.toArray
  have hlen : vs.toArray.size = vs.length := by simp
  rw [hlen] at W
  refine turn_gen (kp := [(l, tupO vs n)]) Led ps stored P c₀ W (fun i v s' Q E st hQ => letGo_tupleiter st.1 hQ) (fun i h st => let ⟨o, ho, hc, _⟩ := st.1; ⟨o, ho, hc⟩) ⟨⟨_, Heap.get?_push_size _ rfl, rfl, rfl⟩, ⟨_, Heap.get?_push_of_some _ hl, rfl, n, rfl⟩⟩
    (fun p hp => by rw [List.mem_singleton.mp hp]; exact hl) (fun p hp => by rw [List.mem_singleton.mp hp]; exact hlL) F N hk hp hit (fun i c h m a b d p hp => by rw [List.mem_singleton.mp hp]; exact hst i c h m a b d)
    (fun i v c u h tk oI a b d _ => turn i v c u h tk oI (by simpa using a) b d) done
/-- a for over a range -/
theorem turn_range {σ : Type} {r : Addr} {a b c : Int} {t u v : Tok} {nn : Nat} {m₀ : Str → Option Value} (Led : σ → List (Addr × Obj)) (ps : σ → List (Str × Value)) (stored : List Str) (P : Nat → σ → Prop) (c₀ : σ)
    (hh : A.handled = none) (hr : IsRange s.heap r a b c t u v) (hsm : Builtin.Range.small a b c = true) (hn : Builtin.Range.rangeSize a b c = ((nn : Nat) : Int)) (F : Fr h₀ env.locals s.heap m₀) (N : News h₀ env.locals s.heap (Led c₀)) (hk : ∀ p ∈ ps c₀, m₀ p.1 = some p.2) (hp : P 0 c₀)
    (hit : ∀ i c, P i c → ∀ p ∈ Led c, p.2.cls ≠ .type "range_iterator" ∨ (@Ne Nat p.1 s.heap.objs.size))
    (hlet : ∀ (v : Value) (s' : Shared) (Q : Unit → Shared → Prop) (E : Value → Shared → Prop), (∃ o, s'.heap.get? s.heap.objs.size = some o ∧ o.cls = .type "range_iterator") → Q () s' → wpAny (model prog w) A (letOwnedTupleGo target (.ref s.heap.objs.size) v) Q E s')
    (turn : ∀ i x (k : σ) (u : Str → Option Value) h tk oI, (∃ t, x = .int (a + (i : Int) * c) t) → P i k → oI.cls = .type "range_iterator" → i < nn → Fr h₀ env.locals h (kstB (fun z => if stored.contains z then u z else m₀ z) (ps k)) → News h₀ env.locals h ((s.heap.objs.size, oI) :: Led k) →
      wpAny (model prog w) A (assign target env x) (fun _ s₃ => wpAny (model prog w) A (execs body env) (TurnPost h₀ env.locals { s with heap := h, toks := tk } Led ps stored m₀ (P (i + 1)) s.heap.objs.size oI Q) E s₃) E { s with heap := h, toks := tk })
    (done : ∀ (k : σ) (u : Str → Option Value) h tk, P nn k → Fr h₀ env.locals h (kstB (fun z => if stored.contains z then u z else m₀ z) (ps k)) → News h₀ env.locals h (Led k) → Q .next { s with heap := h, toks := tk }) :
    wpAny (model prog w) A (pyIter (.ref r)) (fun it s₂ => TurnsAt prog w A h₀ env target body Q E it s₂) E s := by
  refine wpAny_pyIter_range hr hsm ?_
  refine turn_gen (kp := []) (cn := "range_iterator") Led ps stored P c₀ (Walks.range hh s.heap.objs.size a c nn) (fun i v s' Q E st hQ => hlet v s' Q E ⟨_, st, rfl⟩ hQ) (fun i h st => ⟨_, st, rfl⟩) ?_ (fun p hp => nomatch hp) (fun p hp => nomatch hp) F N hk hp hit (fun _ _ _ _ _ _ _ p hp => nomatch hp) turn done
  show IsRangeIter _ _ _ _ _
  rw [hn]
  simpa using Heap.get?_push_size _ rfl
end
theorem letGo_name {prog : Program} {w : World} {A : Around} {x : Str} {px : Pos} {I v : Value} {s : Shared} {Q : Unit → Shared → Prop} {E : Value → Shared → Prop} (h : Q () s) : wpAny (model prog w) A (letOwnedTupleGo (.Name x px) I v) Q E s := by
  unfold letOwnedTupleGo
  exact wpAny_pure h
theorem dat_newsN {d : Nat → Dat} {h₀ h : Heap} {L : Addr} : ∀ {vs : List Value} {i : Nat}, (∀ (j : Nat) v, vs[j]? = some v → ∃ nw, News h₀ L h nw ∧ DatIn nw v (d (i + j))) →
    ∃ nws, News h₀ L h nws ∧ DatAll nws vs ((List.range' i vs.length).map d)
  | [], i, _ => ⟨[], News.nil, .nil⟩
  | v :: vs, i, hv => by
    obtain ⟨nw, h1, h2⟩ := hv 0 v rfl
    obtain ⟨nws, h3, h4⟩ := dat_newsN (vs := vs) (i := i + 1) fun j u e => by
      have := hv (j + 1) u e
      rw [show i + (j + 1) = i + 1 + j by omega] at this
      exact this
    refine ⟨nw ++ nws, fun p hp => (List.mem_append.mp hp).elim (h1 p) (h3 p), ?_⟩
    rw [List.length_cons, List.range'_succ, List.map_cons]
    exact .cons (h2.mono fun p hp => List.mem_append.mpr (.inl hp)) (h4.mono fun p hp => List.mem_append.mpr (.inr hp))
theorem item_ax {prog : Program} {w : World} {A : Around} {E : Value → Shared → Prop} {s : Shared} {value slice : Expr} {t : Addr} {a b : Int} {t1 t2 u : Tok} {j : Nat} {Q : Value → Shared → Prop} (ht : IsTup s.heap t [Value.int a t1, Value.int b t2].toArray) (hj : j < 2) (h : ∀ v, Q (.int (twoAt a b j) v) s)
    (hs : subscripted slice false (.ref t) (.int (j : Int) u) = operate [.ref t, .int (j : Int) u] (getItem (.ref t) (.int (j : Int) u)) := by with_unfolding_all rfl) :
    wpAny (model prog w) A (subscriptTail value slice (.ref t) (.int (j : Int) u)) Q E s := by
  have hj2 : j = 0 ∨ j = 1 := by omega
  rcases hj2 with rfl | rfl
  · exact item_tupleT ht (by decide) (by decide) (j := 0) rfl rfl (h _) hs
  · exact item_tupleT ht (by decide) (by decide) (j := 1) rfl rfl (h _) hs
theorem ax_of {t : Tok} {i : Nat} {v : Value} (h : [Value.int 0 t, Value.int 1 (t + 1)][i]? = some v) : i < 2 ∧ ∃ u, v = .int (i : Int) u := by
  rcases i with _ | _ | i
  · exact ⟨by decide, _, (Option.some.inj h).symm⟩
  · exact ⟨by decide, _, (Option.some.inj h).symm⟩
  · simp at h
abbrev axAt (i : Nat) (p : Pt) : Int := twoAt p.1 p.2 i
theorem box_ax {q : Quad} {E0 : List Pt} {i : Nat} {lo hi : Int} (hq : QB 3000 q) (hbox : ∀ lx hx ly hy, (Btw lx hx q.1.1 ∧ Btw lx hx q.2.1.1 ∧ Btw lx hx q.2.2.1.1 ∧ Btw lx hx q.2.2.2.1) → (Btw ly hy q.1.2 ∧ Btw ly hy q.2.1.2 ∧ Btw ly hy q.2.2.1.2 ∧ Btw ly hy q.2.2.2.2) → ∀ e ∈ E0, Btw lx hx e.1 ∧ Btw ly hy e.2)
    (hb : ∀ a ∈ [axAt i q.1, axAt i q.2.1, axAt i q.2.2.1, axAt i q.2.2.2], lo ≤ a) (hc : ∀ a ∈ [axAt i q.1, axAt i q.2.1, axAt i q.2.2.1, axAt i q.2.2.2], a ≤ hi) : ∀ e ∈ E0, lo ≤ axAt i e ∧ axAt i e ≤ hi := fun e he => by
  obtain ⟨⟨a1, a2, a3, a4⟩, ⟨b1, b2, b3, b4⟩, ⟨c1, c2, c3, c4⟩, ⟨d1, d2, d3, d4⟩⟩ := hq
  simp only [List.mem_cons, List.not_mem_nil, or_false, forall_eq_or_imp, forall_eq] at hb hc
  rcases i with _ | i
  · exact (hbox lo hi (-3000) 3000 ⟨⟨hb.1, hc.1⟩, ⟨hb.2.1, hc.2.1⟩, ⟨hb.2.2.1, hc.2.2.1⟩, ⟨hb.2.2.2, hc.2.2.2⟩⟩ ⟨⟨a3, a4⟩, ⟨b3, b4⟩, ⟨c3, c4⟩, ⟨d3, d4⟩⟩ e he).1
  · exact (hbox (-3000) 3000 lo hi ⟨⟨a1, a2⟩, ⟨b1, b2⟩, ⟨c1, c2⟩, ⟨d1, d2⟩⟩ ⟨⟨hb.1, hc.1⟩, ⟨hb.2.1, hc.2.1⟩, ⟨hb.2.2.1, hc.2.2.1⟩, ⟨hb.2.2.2, hc.2.2.2⟩⟩ e he).2
/-- a point of a list, by its place -/
theorem pt_inT {big : List (Addr × Obj)} {vs : List Value} {es : List Pt} {j : Nat} {v : Value} (hd : DatAll big vs (es.map ptD)) (hv : vs[j]? = some v) : ∃ x : Pt × Addr × Nat × Tok × Tok, es[j]? = some x.1 ∧ v = .ref x.2.1 ∧ (x.2.1, tupO [Value.int x.1.1 x.2.2.2.1, Value.int x.1.2 x.2.2.2.2] x.2.2.1) ∈ big := by
  obtain ⟨e, he⟩ := end_is hd hv
  obtain ⟨v2, hv2, d2⟩ := DatAll.getS hd (k := j) (d := ptD e) (by rw [List.getElem?_map, he]; rfl)
  rw [hv] at hv2
  obtain rfl := Option.some.inj hv2
  obtain ⟨a, n, t1, t2, rfl, m⟩ := pt_of d2
  exact ⟨⟨e, a, n, t1, t2⟩, he, rfl, m⟩
theorem qb_pb {p0 p1 p2 p3 : Pt} (hq : QB 3000 (p0, p1, p2, p3)) : PB 10000 p0 ∧ PB 10000 p1 ∧ PB 10000 p2 ∧ PB 10000 p3 := by
  have f : ∀ p : Pt, PB 3000 p → PB 10000 p := fun p h => by unfold PB at *; omega
  exact ⟨f _ hq.1, f _ hq.2.1, f _ hq.2.2.1, f _ hq.2.2.2⟩
theorem chord_news {h₀ h : Heap} {L : Addr} {x : Addr × Obj} {news nws T : List (Addr × Obj)} (N : News h₀ L h (x :: news)) (hn : News h₀ L h nws) (hT : ∀ p ∈ T, p ∈ news) : News h₀ L h (x :: (nws ++ T)) := fun p hp => by
  rcases List.mem_cons.mp hp with rfl | hp
  · exact N _ (List.Mem.head _)
  · rcases List.mem_append.mp hp with hp | hp
    · exact hn p hp
    · exact N p (List.Mem.tail _ (hT p hp))
/-- a name that the turn stores, put back -/
theorem fr_row1 {m₀ ps : Str → Option Value} {x : String} (hps : ∀ z, z ≠ Str.ofString x → [Str.ofString x].contains z = false → ps z = m₀ z) :
    ∀ z, (∀ p ∈ ([] : List (Str × Value)), z ≠ p.1) → [Str.ofString x].contains z = false → ps z = m₀ z := fun z _ h3 => hps z (stored_ne h3 _ (List.Mem.head _)) h3
theorem pb_1024 {e : Pt} (h : PB 3000 e) : Bd 21 (512 * e.1) ∧ Bd 21 (512 * e.2) := by
  simp only [PB] at h
  exact ⟨Bd.of (by omega), Bd.of (by omega)⟩
theorem sub_app {α : Type} {S U T : List α} (h : ∀ p ∈ U, p ∈ T) : ∀ p ∈ U, p ∈ S ++ T := fun p hp => List.mem_append.mpr (.inr (h p hp))

theorem off_turns : True := by
  k_with "OFF:turns" => skip
  trivial
end
section
theorem on_f36 : True := by
  w_top off
  k_with "MY:MY_STEPS" => ((fail_if_success (k_extra "OFF:st1")); (repeat' (first | (k_unfold; (try dsimp only)) | ((fail_if_success (with_reducible show Stop _)); k_end; wrow_close) | (dsimp only; walk1) | walk1 | (leave1; walk_say "STEP leave1"; try dsimp only) | fail "no step")))
  k_with "MY:eval ListComp" => ((fail_if_success (k_extra "OFF:st1")); (refine stop_here ?_))
  k_with "MY:exec Assign cons ListComp" => ((fail_if_success (k_extra "OFF:st1")); ((with_reducible show wpAny _ _ (exec (Stmt.Assign [Expr.Name _ _] _ _) _) _ _ _); refine stop_here ?_))
  k_with "MY:eval Name" => ((fail_if_success (k_extra "OFF:st1")); (k_here; (with_reducible show wpAny _ _ (eval (Expr.Name _ _) (compEnvC _ _ _ _)) _ _ _); k_dflt (walk_at "MY_BLOCKNAME")))
  k_with "MY:subscriptTail" => ((fail_if_success (k_extra "OFF:st1")); (k_here; (with_reducible show wpAny _ _ (subscriptTail _ _ (Value.ref _) (Value.int _ _)) _ _ _); k_dflt (refine' item_list ?kzl ?kza ?kzb ?kzc ?_ ?kzs ?kzg; (case kzl => with_reducible assumption); (case kzc => assumption); (case kza => decide); (case kzb => decide); (case kzs => with_unfolding_all rfl); (case kzg => (intro _; with_unfolding_all rfl)); k_whole)))
  trivial
theorem len8 {C : List Int} (h : 9 ≤ C.length) : (List.take (min 9 C.length - 1) (List.drop 1 C)).length = 8 := by
  rw [List.length_take, List.length_drop, Nat.min_eq_left h]
  exact Nat.min_eq_left (Nat.sub_le_sub_right h 1)
theorem lt8 {i n : Nat} (h : i < 8) (h9 : 9 ≤ n) : i < min 9 n - 1 := by omega
theorem rest_bound (x : Int) : -300 ≤ Int.fmod x 601 - 300 ∧ Int.fmod x 601 - 300 ≤ 300 := by
  rw [Int.fmod_eq_emod_of_nonneg _ (by decide)]
  omega
theorem intsAre_at {vs : List Value} {ns : List Int} {i : Nat} {v : Value} (h : IntsAre vs ns) (e : vs.toArray[i]? = some v) : ∃ t, v = Value.int (ns.getD i 0) t := by
  have hi : i < ns.length := by
    rw [← h.length]
    rw [List.getElem?_toArray] at e
    exact (List.getElem?_eq_some_iff.mp e).1
  obtain ⟨t, ht⟩ := h.get i ns[i] (List.getElem?_eq_getElem hi)
  rw [List.getElem?_toArray, ht] at e
  exact ⟨t, by rw [List.getD_eq_getElem?_getD, List.getElem?_eq_getElem hi]; exact (Option.some.inj e).symm⟩
def rr (C : List Int) (i : Nat) : Int := Int.fmod (C.getD (i + 1) 0) 601 - 300
def rrs (C : List Int) : List Int := [rr C 0, rr C 1, rr C 2, rr C 3, rr C 4, rr C 5, rr C 6, rr C 7]
theorem rrs_at {C : List Int} {i : Nat} (h : i < 8) : (rrs C).getD i 0 = rr C i := by
  rcases i with _ | _ | _ | _ | _ | _ | _ | _ | i
  all_goals first | rfl | exact absurd h (by omega)
theorem ints_at {vs : List Value} {ns : List Int} {i : Nat} (h : IntsAre vs ns) (hi : i < ns.length) : ∃ t, vs.toArray[i]? = some (.int (ns.getD i 0) t) := by
  have hl : i < vs.length := by rw [h.length]; exact hi
  have e : vs.toArray[i]? = some vs[i] := by rw [List.getElem?_toArray, List.getElem?_eq_getElem hl]
  obtain ⟨t, ht⟩ := intsAre_at h e
  exact ⟨t, by rw [e, ht]⟩
theorem rr_take {C : List Int} {i : Nat} (h : i < 8) (h9 : 9 ≤ C.length) : (List.take (min 9 C.length - 1) (List.drop 1 C)).getD i 0 = C.getD (i + 1) 0 := by
  rw [List.getD_eq_getElem?_getD, List.getD_eq_getElem?_getD, List.getElem?_take, if_pos (lt8 h h9), List.getElem?_drop, Nat.add_comm]
theorem rr_ints {vs : List Value} {C : List Int} (hl : vs.length = 8) (h : ∀ (j : Nat) v, vs[j]? = some v → ∃ t, v = Value.int (Int.fmod (C.getD (j + 1) 0) 601 - 300) t) : IntsAre vs (rrs C) := by
  refine ints_list hl fun j v e => ?_
  have hj : j < 8 := hl ▸ (List.getElem?_eq_some_iff.mp e).1
  rw [rrs_at hj]
  exact h j v e
theorem news_led1 {h₀ h : Heap} {L : Addr} {x y z u v a b c d e : Addr × Obj} (N : News h₀ L h (x :: y :: z :: u :: v :: [a, b, c, d, e])) : News h₀ L h (x :: [a, b, c, d, e]) := fun p hp => N p (by
  simp only [List.mem_cons, List.not_mem_nil, or_false] at hp ⊢
  rcases hp with h | h | h | h | h | h <;> simp [h])
set_option maxRecDepth 100000 in
set_option maxHeartbeats 20000000 in
theorem stage1 {w : World} {S1 : Shared} {L : Nat} {mean : ExcName → Option Value} {mg mb : Str → Option Value} {fa : Addr} {cdw : Value} {E : Value → Shared → Prop} {Q : Flow → Shared → Prop}
    (XX : (Mine.hd.heap_39 w.params).In S1.heap) (TT : Top Mine.hd.view_39 loose0 mean mg mb S1.heap)
    {h : Heap} {tk : Nat} {m : Str → Option Value} {o5 o4 o3 o2 o1 : Obj} {ls : Addr} {vs : List Value} {ns : List Int}
    (F : Fr S1.heap L h (kstB m [(Str.ofString "script", .ref ls)])) (N : News S1.heap L h ((L + 1 + 1 + 1 + 1 + 1, o5) :: (L + 1 + 1 + 1 + 1, o4) :: (L + 1 + 1 + 1, o3) :: (L + 1 + 1, o2) :: [(L + 1, o1)]))
    (hI : IntsAre vs ns) (hL : S1.heap.IsList ls vs.toArray) (hlen : ns.length ≤ 63)
    (K : ∀ (h : Heap) (tk : Nat) (m : Str → Option Value) (C : List Int) (DC n : Nat) (wsC : List Value), 9 ≤ C.length → C.length ≤ 18 → IntsAre wsC C → (@Ne Nat DC (L + 1)) →
      Fr S1.heap L h (kstB m [(Str.ofString "cells", .ref DC)]) → News S1.heap L h ((DC, listOf wsC.toArray n) :: (L + 1 + 1 + 1 + 1 + 1, o5) :: (L + 1 + 1 + 1 + 1, o4) :: (L + 1 + 1 + 1, o3) :: (L + 1 + 1, o2) :: [(L + 1, o1)]) →
      wpAny (model PySem.Challenge.rw_nt0495_01.row.prog w) (callerA.deeper (lawE w.params L fa cdw)) (execs ((lawB w.params).drop 1) (lawE w.params L fa cdw)) Q E { S1 with heap := h, toks := tk }) :
    wpAny (model PySem.Challenge.rw_nt0495_01.row.prog w) (callerA.deeper (lawE w.params L fa cdw)) (execs ((lawB w.params).drop 0) (lawE w.params L fa cdw)) Q E { S1 with heap := h, toks := tk } := by
  revert XX TT F N hI hL hlen K
  revert w S1 L mean mg mb fa cdw E Q h tk m o5 o4 o3 o2 o1 ls vs ns
  (apply cx_all20; (case i => walk_at "MY_INHP"); generalize cx _ _ = x9; generalize x9.1 = w, x9.2.1 = S1, x9.2.2.1 = L, x9.2.2.2.1 = mean, x9.2.2.2.2.1 = mg, x9.2.2.2.2.2.1 = mb, x9.2.2.2.2.2.2.1 = fa, x9.2.2.2.2.2.2.2.1 = cdw, x9.2.2.2.2.2.2.2.2.1 = E, x9.2.2.2.2.2.2.2.2.2.1 = Q, x9.2.2.2.2.2.2.2.2.2.2.1 = h, x9.2.2.2.2.2.2.2.2.2.2.2.1 = tk, x9.2.2.2.2.2.2.2.2.2.2.2.2.1 = m, x9.2.2.2.2.2.2.2.2.2.2.2.2.2.1 = o5, x9.2.2.2.2.2.2.2.2.2.2.2.2.2.2.1 = o4, x9.2.2.2.2.2.2.2.2.2.2.2.2.2.2.2.1 = o3, x9.2.2.2.2.2.2.2.2.2.2.2.2.2.2.2.2.1 = o2, x9.2.2.2.2.2.2.2.2.2.2.2.2.2.2.2.2.2.1 = o1, x9.2.2.2.2.2.2.2.2.2.2.2.2.2.2.2.2.2.2.1 = ls, x9.2.2.2.2.2.2.2.2.2.2.2.2.2.2.2.2.2.2.2 = vs; clear x9)
  k_with "MY:MY_EPS" => (fail_if_success (k_extra "OFF:st1"))
  intro ns
  intro XX TT F N hI hL hlen K
  revert XX
  k_fill
  intro XX
  have BB := below_caller S1.heap
  dsimp only [lawB, lawE, pickB, pickE, List.drop] at K ⊢
  refine cut_one ?_
  generalize (execs (_ :: _ :: _ :: _ :: _ :: _ :: _ :: _ :: _ :: _) _ : Sem Flow) = REST at *
  show wpAny _ _ _ _ _ _
  walk_at "MY_STEPS"
  refine Stop.mk ?_
  have hk9 : (ns.take 9).length ≤ 9 := List.length_take_le ..
  refine comp_plain (k := (ns.take 9).length) (F := fun i v _ => ∃ t, v = .int ((ns.take 9).getD i 0) t) (Nat.le_trans hk9 (Nat.le_of_ble_eq_true rfl)) (by with_unfolding_all rfl) (by decide) (by rfl) (by decide) (by rfl) ?_
  walk_at "MY_STEPS"
  refine Stop.mk ?_
  rename_i D1 ws1 _ F2 N2 hI1 _ _ l1
  refine ⟨_, _, rfl, CSrc.list rfl (News.isList N2 (List.Mem.head _)) (by rw [List.size_toArray, hI1.length]), ?_, ?_⟩
  · intro i v C2 m2' h2 tk2 E2
    intro hik hP hns hm kp2
    (first | (refine ep_el (by walk_at "MY_INH") (intsAre_at hI1 hP) ?_; generalize ep _ _ = tv; intro hz258) | (refine and_el (intsAre_at hI1 hP) ?_; intro tv hz258))
    subst hz258
    have F3 := F2.keeps kp2
    have N3 := N2.grown kp2
    clear F2 N2 K
    walk_at "MY_STEPS"
    exact Stop.mk ⟨[], _, _, rfl, fun _ _ e => e, fun p hp => (nomatch hp), _, rfl⟩
  · intro D6 h6 tk6 vs6
    intro kp6 hD0 hD6 hlen6 hF6
    have hI6 := ints_list hlen6 (ints_of hF6)
    have F6 := F2.keeps kp6
    have N6 := news_add F2 N2 kp6 hD0 (o := listOf vs6.toArray vs6.length) hD6
    have l6 := allNe_new N2 hD0
    simp only [AllNe, and_true] at l6
    clear F2 N2 hD6 hF6
    walk_at "MY_STEPS"
    refine Stop.mk ⟨by trivial, ?_⟩
    rename_i D9 ws9 _ hI9 l9 _ F9 N9
    exact K _ _ _ _ D9 0 ws9 (by rw [List.length_append]; exact Nat.le_add_left _ _) (by rw [List.length_append]; exact Nat.add_le_add hk9 (Nat.le_refl 9)) hI9 (Nat.ne_of_gt (by walk_at "MY_LT")) (fr_kst (ps := [(Str.ofString "cells", .ref D9)]) F9 (cons_all rfl nil_all)) (news_led1 N9)

theorem off_st1 : True := by
  k_with "OFF:st1" => skip
  trivial
end
section
theorem on_f37 : True := by
  w_top off
  k_with "MY:MY_STEPS" => ((fail_if_success (k_extra "OFF:st2")); (repeat' (first | (k_unfold; (try dsimp only)) | ((fail_if_success (with_reducible show Stop _)); k_end; wrow_close) | (dsimp only; walk1) | walk1 | (leave1; walk_say "STEP leave1"; try dsimp only) | fail "no step")))
  k_with "MY:eval ListComp" => ((fail_if_success (k_extra "OFF:st2")); (refine stop_here ?_))
  k_with "MY:exec Assign cons ListComp" => ((fail_if_success (k_extra "OFF:st2")); ((with_reducible show wpAny _ _ (exec (Stmt.Assign [Expr.Name _ _] _ _) _) _ _ _); refine stop_here ?_))
  k_with "MY:eval Name" => ((fail_if_success (k_extra "OFF:st2")); (k_here; (with_reducible show wpAny _ _ (eval (Expr.Name _ _) (compEnvC _ _ _ _)) _ _ _); k_dflt (walk_at "MY_BLOCKNAME")))
  k_with "MY:subscriptTail" => ((fail_if_success (k_extra "OFF:st2")); (k_here; (with_reducible show wpAny _ _ (subscriptTail _ _ (Value.ref _) (Value.int _ _)) _ _ _); k_dflt (refine' item_list ?kzl ?kza ?kzb ?kzc ?_ ?kzs ?kzg; (case kzl => with_reducible assumption); (case kzc => assumption); (case kza => decide); (case kzb => decide); (case kzs => with_unfolding_all rfl); (case kzg => (intro _; with_unfolding_all rfl)); k_whole)))
  trivial
theorem news_led2 {h₀ h : Heap} {L : Addr} {t x y z a b c d e : Addr × Obj} (N : News h₀ L h (t :: x :: y :: z :: [a, b, c, d, e])) : News h₀ L h (a :: b :: c :: d :: e :: [x]) := fun p hp => N p (by
  simp only [List.mem_cons, List.not_mem_nil, or_false] at hp ⊢
  rcases hp with h | h | h | h | h | h <;> simp [h])
set_option maxRecDepth 100000 in
set_option maxHeartbeats 20000000 in
theorem stage2 {w : World} {S1 : Shared} {L : Nat} {mean : ExcName → Option Value} {mg mb : Str → Option Value} {fa : Addr} {cdw : Value} {E : Value → Shared → Prop} {Q : Flow → Shared → Prop}
    (XX : (Mine.hd.heap_39 w.params).In S1.heap) (TT : Top Mine.hd.view_39 loose0 mean mg mb S1.heap)
    {h : Heap} {tk : Nat} {m : Str → Option Value} {o5 o4 o3 o2 o1 : Obj} {C : List Int} {DC n : Nat} {wsC : List Value}
    (hC9 : 9 ≤ C.length) (hC18 : C.length ≤ 18) (hIC : IntsAre wsC C) (hDC : @Ne Nat DC (L + 1))
    (F : Fr S1.heap L h (kstB m [(Str.ofString "cells", .ref DC)])) (N : News S1.heap L h ((DC, listOf wsC.toArray n) :: (L + 1 + 1 + 1 + 1 + 1, o5) :: (L + 1 + 1 + 1 + 1, o4) :: (L + 1 + 1 + 1, o3) :: (L + 1 + 1, o2) :: [(L + 1, o1)])) (c1 : o1.data = .cell none)
    (K : ∀ (h : Heap) (tk : Nat) (m : Str → Option Value) (o1 : Obj) (D6 n6 : Nat) (vs6 : List Value) (tC : Tok), IntsAre vs6 (rrs C) → o1.data = .cell (some (.ref D6)) →
      ((@Ne Nat D6 (L + 1 + 1)) ∧ (@Ne Nat D6 (L + 1 + 1 + 1)) ∧ (@Ne Nat D6 (L + 1 + 1 + 1 + 1)) ∧ (@Ne Nat D6 (L + 1 + 1 + 1 + 1 + 1))) →
      Fr S1.heap L h (kstB m [(Str.ofString "first", .int (C.getD 0 0) tC)]) → News S1.heap L h ((L + 1 + 1 + 1 + 1 + 1, o5) :: (L + 1 + 1 + 1 + 1, o4) :: (L + 1 + 1 + 1, o3) :: (L + 1 + 1, o2) :: (L + 1, o1) :: [(D6, listOf vs6.toArray n6)]) →
      wpAny (model PySem.Challenge.rw_nt0495_01.row.prog w) (callerA.deeper (lawE w.params L fa cdw)) (execs ((lawB w.params).drop 2) (lawE w.params L fa cdw)) Q E { S1 with heap := h, toks := tk }) :
    wpAny (model PySem.Challenge.rw_nt0495_01.row.prog w) (callerA.deeper (lawE w.params L fa cdw)) (execs ((lawB w.params).drop 1) (lawE w.params L fa cdw)) Q E { S1 with heap := h, toks := tk } := by
  revert XX TT hC9 hC18 hIC hDC F N c1 K
  revert w S1 L mean mg mb fa cdw E Q h tk m o5 o4 o3 o2 o1 C DC n wsC
  (apply cx_all20; (case i => walk_at "MY_INHP"); generalize cx _ _ = x9; generalize x9.1 = w, x9.2.1 = S1, x9.2.2.1 = L, x9.2.2.2.1 = mean, x9.2.2.2.2.1 = mg, x9.2.2.2.2.2.1 = mb, x9.2.2.2.2.2.2.1 = fa, x9.2.2.2.2.2.2.2.1 = cdw, x9.2.2.2.2.2.2.2.2.1 = E, x9.2.2.2.2.2.2.2.2.2.1 = Q, x9.2.2.2.2.2.2.2.2.2.2.1 = h, x9.2.2.2.2.2.2.2.2.2.2.2.1 = tk, x9.2.2.2.2.2.2.2.2.2.2.2.2.1 = m, x9.2.2.2.2.2.2.2.2.2.2.2.2.2.1 = o5, x9.2.2.2.2.2.2.2.2.2.2.2.2.2.2.1 = o4, x9.2.2.2.2.2.2.2.2.2.2.2.2.2.2.2.1 = o3, x9.2.2.2.2.2.2.2.2.2.2.2.2.2.2.2.2.1 = o2, x9.2.2.2.2.2.2.2.2.2.2.2.2.2.2.2.2.2.1 = o1, x9.2.2.2.2.2.2.2.2.2.2.2.2.2.2.2.2.2.2.1 = C, x9.2.2.2.2.2.2.2.2.2.2.2.2.2.2.2.2.2.2.2 = DC; clear x9)
  k_with "MY:MY_EPS" => (fail_if_success (k_extra "OFF:st2"))
  intro n wsC
  intro XX TT hC9 hC18 hIC hDC F N c1 K
  revert XX
  k_fill
  intro XX
  have BB := below_caller S1.heap
  dsimp only [lawB, lawE, pickB, pickE, List.drop] at K ⊢
  refine cut_one ?_
  generalize (execs (_ :: _ :: _ :: _ :: _ :: _ :: _ :: _ :: _ :: _) _ : Sem Flow) = REST at *
  show wpAny _ _ _ _ _ _
  walk_at "MY_STEPS"
  refine Stop.mk ?_
  refine comp_plain (k := 8) (F := fun i v _ => ∃ t, v = .int (Int.fmod (C.getD (i + 1) 0) 601 - 300) t) (Nat.le_of_ble_eq_true rfl) (by with_unfolding_all rfl) (by decide) (by rfl) (by decide) (by rfl) ?_
  walk_at "MY_STEPS"
  refine Stop.mk ?_
  rename_i DR wsR _ F2 N2 hIR hlR _ lR
  have hlR8 : (List.take (min 9 C.length - 1) (List.drop 1 C)).length = 8 := len8 hC9
  refine ⟨_, _, rfl, CSrc.list rfl (News.isList N2 (List.Mem.head _)) (by rw [List.size_toArray, hIR.length, hlR8]), ?_, ?_⟩
  · intro i v C2 m2' h2 tk2 E2
    intro hik hP hns hm kp2
    (first | (refine ep_el (by walk_at "MY_INH") (intsAre_at hIR hP) ?_; generalize ep _ _ = tv; intro hz259) | (refine and_el (intsAre_at hIR hP) ?_; intro tv hz259))
    subst hz259
    have F3 := F2.keeps kp2
    have N3 := N2.grown kp2
    clear F2 N2 K hP
    walk_at "MY_STEPS"
    rw [← rr_take hik hC9]
    exact Stop.mk ⟨[], _, _, rfl, fun _ _ e => e, fun p hp => (nomatch hp), _, rfl⟩
  · intro D6 h6 tk6 vs6
    intro kp6 hD0 hD6 hlen6 hF6
    have hI6 := rr_ints hlen6 (ints_of hF6)
    have F6 := F2.keeps kp6
    have N6 := news_add F2 N2 kp6 hD0 (o := listOf vs6.toArray vs6.length) hD6
    have l6 := allNe_new N2 hD0
    simp only [AllNe, and_true] at l6
    clear F2 N2 hD6 hF6 hlen6 hIR hlR hlR8
    walk_at "MY_STEPS"
    refine Stop.mk ⟨by trivial, ?_⟩
    (with_reducible rename News _ _ _ _ => N9)
    (with_reducible rename Fr _ _ _ _ => F9)
    rename_i d9
    exact K _ _ _ _ D6 vs6.length vs6 _ hI6 d9 ⟨Ne.symm l6.2.2.2.2.2.1, Ne.symm l6.2.2.2.2.1, Ne.symm l6.2.2.2.1, Ne.symm l6.2.2.1⟩ (fr_kst (ps := [(Str.ofString "first", .int (C.getD 0 0) _)]) F9 (cons_all rfl nil_all)) (news_led2 N9)

theorem off_st2 : True := by
  k_with "OFF:st2" => skip
  trivial
end
section
theorem on_f38 : True := by
  w_top off
  k_with "MY:MY_STEPS" => ((fail_if_success (k_extra "OFF:st3")); (repeat' (first | (k_unfold; (try dsimp only)) | ((fail_if_success (with_reducible show Stop _)); k_end; wrow_close) | (dsimp only; walk1) | walk1 | (leave1; walk_say "STEP leave1"; try dsimp only) | fail "no step")))
  k_with "MY:eval ListComp" => ((fail_if_success (k_extra "OFF:st3")); (refine stop_here ?_))
  k_with "MY:exec Assign cons ListComp" => ((fail_if_success (k_extra "OFF:st3")); ((with_reducible show wpAny _ _ (exec (Stmt.Assign [Expr.Name _ _] _ _) _) _ _ _); refine stop_here ?_))
  k_with "MY:eval Name" => ((fail_if_success (k_extra "OFF:st3")); (k_here; (with_reducible show wpAny _ _ (eval (Expr.Name _ _) (compEnvC _ _ _ _)) _ _ _); k_dflt (walk_at "MY_BLOCKNAME")))
  k_with "MY:subscriptTail" => ((fail_if_success (k_extra "OFF:st3")); (k_here; (with_reducible show wpAny _ _ (subscriptTail _ _ (Value.ref _) (Value.int _ _)) _ _ _); k_dflt (refine' item_list ?kzl ?kza ?kzb ?kzc ?_ ?kzs ?kzg; (case kzl => with_reducible assumption); (case kzc => assumption); (case kza => decide); (case kzb => decide); (case kzs => with_unfolding_all rfl); (case kzg => (intro _; with_unfolding_all rfl)); k_whole)))
  k_with "MY:newTuple" => ((fail_if_success (k_extra "OFF:st3")); ((with_reducible show wpAny _ _ _ (fun _ _ => Stop _) _ _); k_dflt (refine wpAny_newTuple ?_)))
  k_with "MY:subscriptTail Name BinOp ref int" => ((fail_if_success (k_extra "OFF:st3")); (k_here; (with_reducible show wpAny _ _ (subscriptTail _ _ (Value.ref _) (Value.int _ _)) _ _ _); k_dflt (refine' item_list ?kzl ?kza ?kzb ?kzc ?_ ?kzs ?kzg; (case kzl => with_reducible assumption); (case kzc => assumption); (case kza => omega); (case kzb => omega); (case kzs => with_unfolding_all rfl); (case kzg => (intro _; with_unfolding_all rfl)); k_whole)))
  k_with "MY:binaryOp Mult int int" => ((fail_if_success (k_extra "OFF:st3")); ((refine mul_int ?_ (bd_mulL (n := 12) (Bd.of (by decide)) (by decide))); (try dsimp only) /- MY_MULT -/))
  trivial
theorem cells_new {h₀ h : Heap} {L : Addr} {a b c d e y : Addr × Obj} {T : List (Addr × Obj)} (N : News h₀ L h (T ++ (a :: b :: c :: d :: e :: [y]))) : News h₀ L h (a :: b :: c :: d :: e :: (T ++ [y])) := fun p hp => N p (by
  simp only [List.mem_cons, List.mem_append, List.not_mem_nil, or_false] at hp ⊢
  rcases hp with h | h | h | h | h | h | h <;> simp [h])
theorem idx_a {i : Nat} : ((2 : Int) * (0 + (i : Int) * 1)).toNat = 2 * i := by omega
theorem idx_b {i : Nat} : ((2 : Int) * (0 + (i : Int) * 1) + 1).toNat = 2 * i + 1 := by omega
theorem rrs_all {T : List (Addr × Obj)} {vs : List Value} {l : List Int} (h : IntsAre vs l) : DatAll T vs (l.map Dat.int) := by
  induction h with
  | nil => exact .nil
  | cons x t _ ih => exact .cons (.int _ _) ih
theorem rest_at {vs : List Value} {C : List Int} {k j : Nat} (h : IntsAre vs (rrs C)) (e : k = j) (hj : j < 8) : ∃ t, vs.toArray[k]? = some (.int (rr C j) t) := by
  subst e
  obtain ⟨t, ht⟩ := ints_at h (show k < (rrs C).length from hj)
  rw [rrs_at hj] at ht
  exact ⟨t, ht⟩
def rp (C : List Int) (i : Nat) : Pt := (rr C (2 * i), rr C (2 * i + 1))
set_option maxRecDepth 100000 in
set_option maxHeartbeats 20000000 in
theorem stage3 {w : World} {S1 : Shared} {L : Nat} {mean : ExcName → Option Value} {mg mb : Str → Option Value} {fa : Addr} {cdw : Value} {E : Value → Shared → Prop} {Q : Flow → Shared → Prop}
    (XX : (Mine.hd.heap_39 w.params).In S1.heap) (TT : Top Mine.hd.view_39 loose0 mean mg mb S1.heap)
    {h : Heap} {tk : Nat} {m : Str → Option Value} {o5 o4 o3 o2 o1 : Obj} {C : List Int} {D6 n6 : Nat} {vs6 : List Value} {tC : Tok}
    (hI6 : IntsAre vs6 (rrs C)) (d1 : o1.data = .cell (some (.ref D6))) (c2 : o2.data = .cell none)
    (hD6 : (@Ne Nat D6 (L + 1 + 1)) ∧ (@Ne Nat D6 (L + 1 + 1 + 1)) ∧ (@Ne Nat D6 (L + 1 + 1 + 1 + 1)) ∧ (@Ne Nat D6 (L + 1 + 1 + 1 + 1 + 1)))
    (F : Fr S1.heap L h (kstB m [(Str.ofString "first", .int (C.getD 0 0) tC)])) (N : News S1.heap L h ((L + 1 + 1 + 1 + 1 + 1, o5) :: (L + 1 + 1 + 1 + 1, o4) :: (L + 1 + 1 + 1, o3) :: (L + 1 + 1, o2) :: (L + 1, o1) :: [(D6, listOf vs6.toArray n6)]))
    (K : ∀ (h : Heap) (tk : Nat) (m : Str → Option Value) (o2 : Obj) (T : List (Addr × Obj)) (D : Nat),
      Fr S1.heap L h (kstB m [(Str.ofString "first", .int (C.getD 0 0) tC)]) → News S1.heap L h ((L + 1 + 1 + 1 + 1 + 1, o5) :: (L + 1 + 1 + 1 + 1, o4) :: (L + 1 + 1 + 1, o3) :: (L + 1 + 1, o2) :: (L + 1, o1) :: T) →
      o2.data = .cell (some (.ref D)) → Off L T → DatIn T (.ref D) (.list [ptD (rp C 0), ptD (rp C 1), ptD (rp C 2), ptD (rp C 3)]) → DatIn T (.ref D6) (.list ((rrs C).map Dat.int)) →
      wpAny (model PySem.Challenge.rw_nt0495_01.row.prog w) (callerA.deeper (lawE w.params L fa cdw)) (execs ((lawB w.params).drop 3) (lawE w.params L fa cdw)) Q E { S1 with heap := h, toks := tk }) :
    wpAny (model PySem.Challenge.rw_nt0495_01.row.prog w) (callerA.deeper (lawE w.params L fa cdw)) (execs ((lawB w.params).drop 2) (lawE w.params L fa cdw)) Q E { S1 with heap := h, toks := tk } := by
  revert XX TT hI6 d1 c2 hD6 F N K
  revert w S1 L mean mg mb fa cdw E Q h tk m o5 o4 o3 o2 o1 C D6 n6 vs6 tC
  (apply cx_all20; (case i => walk_at "MY_INHP"); generalize cx _ _ = x9; generalize x9.1 = w, x9.2.1 = S1, x9.2.2.1 = L, x9.2.2.2.1 = mean, x9.2.2.2.2.1 = mg, x9.2.2.2.2.2.1 = mb, x9.2.2.2.2.2.2.1 = fa, x9.2.2.2.2.2.2.2.1 = cdw, x9.2.2.2.2.2.2.2.2.1 = E, x9.2.2.2.2.2.2.2.2.2.1 = Q, x9.2.2.2.2.2.2.2.2.2.2.1 = h, x9.2.2.2.2.2.2.2.2.2.2.2.1 = tk, x9.2.2.2.2.2.2.2.2.2.2.2.2.1 = m, x9.2.2.2.2.2.2.2.2.2.2.2.2.2.1 = o5, x9.2.2.2.2.2.2.2.2.2.2.2.2.2.2.1 = o4, x9.2.2.2.2.2.2.2.2.2.2.2.2.2.2.2.1 = o3, x9.2.2.2.2.2.2.2.2.2.2.2.2.2.2.2.2.1 = o2, x9.2.2.2.2.2.2.2.2.2.2.2.2.2.2.2.2.2.1 = o1, x9.2.2.2.2.2.2.2.2.2.2.2.2.2.2.2.2.2.2.1 = C, x9.2.2.2.2.2.2.2.2.2.2.2.2.2.2.2.2.2.2.2 = D6; clear x9)
  k_with "MY:MY_EPS" => (fail_if_success (k_extra "OFF:st3"))
  intro n6 vs6 tC
  intro XX TT hI6 d1 c2 hD6 F N K
  revert XX
  k_fill
  intro XX
  have BB := below_caller S1.heap
  dsimp only [lawB, lawE, pickB, pickE, List.drop] at K ⊢
  refine cut_one ?_
  generalize (execs (_ :: _ :: _ :: _ :: _ :: _ :: _ :: _ :: _ :: _) _ : Sem Flow) = REST at *
  show wpAny _ _ _ _ _ _
  walk_at "MY_STEPS"
  refine Stop.mk ?_
  refine wpAny_Assign_Name ?_ (by with_unfolding_all rfl)
  refine comp_plain (k := 4) (F := fun i v nw => DatIn nw v (ptD (rp C i))) (Nat.le_of_ble_eq_true rfl) (by with_unfolding_all rfl) (by decide) (by rfl) (by decide) (by rfl) ?_
  walk_at "MY_STEPS"
  refine Stop.mk ?_
  rename_i hRg F2 N2 _
  refine ⟨_, _, rfl, CSrc.range rfl hRg (by rfl) (by rfl), ?_, ?_⟩
  · intro i v C2 m2' h2 tk2 E2
    intro hik hP hns hm kp2
    (first | (refine ep_el (by walk_at "MY_INH") (hP) ?_; generalize ep _ _ = tv; intro hz260) | (refine and_el (hP) ?_; intro tv hz260))
    clear hP
    subst hz260
    have F3 := F2.keeps kp2
    have N3 := N2.grown kp2
    have hX1 := cell_of N3 (by walk_at "MY_MEM") d1
    have bR := News.isList N3 (show (D6, _) ∈ _ from by walk_at "MY_MEM")
    (first | (refine ep_el (by walk_at "MY_INH") (rest_at hI6 (idx_a (i := i)) (by clear hX1 bR F3 N3; omega)) ?_; generalize ep _ _ = ta; intro hxa) | (refine and_el (rest_at hI6 (idx_a (i := i)) (by clear hX1 bR F3 N3; omega)) ?_; intro ta hxa))
    (first | (refine ep_el (by walk_at "MY_INH") (rest_at hI6 (idx_b (i := i)) (by clear hX1 bR F3 N3 hxa; omega)) ?_; generalize ep _ _ = tb; intro hxb) | (refine and_el (rest_at hI6 (idx_b (i := i)) (by clear hX1 bR F3 N3 hxa; omega)) ?_; intro tb hxb))
    clear F2 N2 N3 K
    (try dsimp only)
    walk_at "MY_STEPS"
    exact Stop.mk ⟨[(h2.objs.size, tupO [Value.int (rr C (2 * i)) ta, Value.int (rr C (2 * i + 1)) tb] 0)], _, _, rfl, fun _ _ e => Heap.get?_push_of_some _ e, fun p hp => by rw [List.mem_singleton.mp hp]; exact ⟨Heap.get?_push_size _ rfl, Heap.get?_none_of_le (Nat.le_refl _)⟩, .tuple (List.Mem.head _) (.cons (.int _ _) (.cons (.int _ _) .nil))⟩
  · intro D h3 tk3 vs3
    intro kp3 hD0 hD hlen hF
    (first | (refine ep_el (by walk_at "MY_INH") (comp_dat F2 N2 kp3 hD0 hD hlen hF) ?_; generalize ep _ _ = T3; intro hz261) | (refine and_el (comp_dat F2 N2 kp3 hD0 hD hlen hF) ?_; intro T3 hz261))
    (first | (refine ep_el (by walk_at "MY_INH") (hz261) ?_; generalize ep _ _ = hN3; intro hz262) | (refine and_el (hz261) ?_; intro hN3 hz262))
    clear hz261
    (first | (refine ep_el (by walk_at "MY_INH") (hz262) ?_; generalize ep _ _ = hn3; intro DN) | (refine and_el (hz262) ?_; intro hn3 DN))
    clear hz262
    have F3 := F2.keeps kp3
    have hO : Off L T3 := fun p hp => off_newT N2 (by walk_at "MY_MEM") (by walk_at "MY_MEM") (by walk_at "MY_MEM") (by walk_at "MY_MEM") (hn3 p hp)
    have N4 := cells_new hN3
    have hOO := Off.app hO (Off.cons (p := (D6, listOf vs6.toArray n6)) hD6 Off.nil)
    have hO2 : ∀ p ∈ (T3 ++ [(D6, listOf vs6.toArray n6)]), p.1 ≠ L + 1 + 1 := fun p hp => (hOO p hp).1
    have DN2 : DatIn (T3 ++ [(D6, listOf vs6.toArray n6)]) (.ref D) (.list ((List.range' 0 4).map fun j => ptD (rp C j))) := DN.mono fun q hq => List.mem_append.mpr (.inl hq)
    have DR2 : DatIn (T3 ++ [(D6, listOf vs6.toArray n6)]) (.ref D6) (.list ((rrs C).map Dat.int)) := .list (List.mem_append.mpr (.inr (List.Mem.head _))) (rrs_all hI6)
    clear N2 F2 hN3 hF hD hD0 hn3 DN hO
    generalize T3 ++ [(D6, listOf vs6.toArray n6)] = T9 at *
    (try dsimp only)
    walk_at "MY_STEPS"
    refine Stop.mk ⟨by trivial, ?_⟩
    (with_reducible rename News _ _ _ _ => N5)
    (with_reducible rename Fr _ _ _ _ => F5)
    rename_i d5
    exact K _ _ _ _ T9 D F5 N5 d5 hOO DN2 DR2

theorem off_st3 : True := by
  k_with "OFF:st3" => skip
  trivial
end
section
theorem on_f39 : True := by
  w_top off
  k_with "MY:eval ListComp" => ((fail_if_success (k_extra "OFF:st4")); (refine stop_here ?_))
  k_with "MY:exec Assign cons ListComp" => ((fail_if_success (k_extra "OFF:st4")); ((with_reducible show wpAny _ _ (exec (Stmt.Assign [Expr.Name _ _] _ _) _) _ _ _); refine stop_here ?_))
  k_with "MY:eval Name" => ((fail_if_success (k_extra "OFF:st4")); (k_here; (with_reducible show wpAny _ _ (eval (Expr.Name _ _) (compEnvC _ _ _ _)) _ _ _); k_dflt (walk_at "MY_BLOCKNAME")))
  k_with "MY:subscriptTail" => ((fail_if_success (k_extra "OFF:st4")); (k_here; (with_reducible show wpAny _ _ (subscriptTail _ _ (Value.ref _) (Value.int _ _)) _ _ _); k_dflt (refine' item_list ?kzl ?kza ?kzb ?kzc ?_ ?kzs ?kzg; (case kzl => with_reducible assumption); (case kzc => assumption); (case kza => decide); (case kzb => decide); (case kzs => with_unfolding_all rfl); (case kzg => (intro _; with_unfolding_all rfl)); k_whole)))
  k_with "MY:newTuple" => ((fail_if_success (k_extra "OFF:st4")); ((with_reducible show wpAny _ _ _ (fun _ _ => Stop _) _ _); k_dflt (refine wpAny_newTuple ?_)))
  trivial
set_option maxRecDepth 100000 in
set_option maxHeartbeats 20000000 in
theorem stage4 {w : World} {S1 : Shared} {L : Nat} {mean : ExcName → Option Value} {mg mb : Str → Option Value} {fa : Addr} {cdw : Value} {E : Value → Shared → Prop} {Q : Flow → Shared → Prop}
    (XX : (Mine.hd.heap_39 w.params).In S1.heap) (TT : Top Mine.hd.view_39 loose0 mean mg mb S1.heap)
    {h : Heap} {tk : Nat} {m : Str → Option Value} {fst : Int} {tC : Tok} {o5 o4 o3 o2 o1 : Obj} {T : List (Addr × Obj)} {vP vR : Value} {r0 r1 r2 r3 r4 r5 r6 r7 : Int}
    (F : Fr S1.heap L h (kstB m [(Str.ofString "first", .int fst tC)]))
    (N : News S1.heap L h ((L + 1 + 1 + 1 + 1 + 1, o5) :: (L + 1 + 1 + 1 + 1, o4) :: (L + 1 + 1 + 1, o3) :: (L + 1 + 1, o2) :: (L + 1, o1) :: T))
    (d2 : o2.data = .cell (some vP)) (d1 : o1.data = .cell (some vR)) (hT : Off L T)
    (DP : DatIn T vP (.list [ptD (r0, r1), ptD (r2, r3), ptD (r4, r5), ptD (r6, r7)])) (DR : DatIn T vR (.list [.int r0, .int r1, .int r2, .int r3, .int r4, .int r5, .int r6, .int r7]))
    (b0 : -300 ≤ r0 ∧ r0 ≤ 300) (b1 : -300 ≤ r1 ∧ r1 ≤ 300) (b2 : -300 ≤ r2 ∧ r2 ≤ 300) (b3 : -300 ≤ r3 ∧ r3 ≤ 300) (b4 : -300 ≤ r4 ∧ r4 ≤ 300) (b5 : -300 ≤ r5 ∧ r5 ≤ 300) (b6 : -300 ≤ r6 ∧ r6 ≤ 300) (b7 : -300 ≤ r7 ∧ r7 ≤ 300)
    (K : ∀ (h : Heap) (tk : Nat) (m : Str → Option Value) (o2 : Obj) (T : List (Addr × Obj)) (vP : Value) (p0 p1 p2 p3 : Pt),
      Fr S1.heap L h (kstB m [(Str.ofString "first", .int fst tC)]) →
      News S1.heap L h ((L + 1 + 1 + 1 + 1 + 1, o5) :: (L + 1 + 1 + 1 + 1, o4) :: (L + 1 + 1 + 1, o3) :: (L + 1 + 1, o2) :: T) →
      o2.data = .cell (some vP) → Off L T → DatIn T vP (.list [ptD p0, ptD p1, ptD p2, ptD p3]) → QB 3000 (p0, p1, p2, p3) →
      ((decide (Int.fmod fst 5 = 4) = false ∧ QB 300 (p0, p1, p2, p3)) ∨ ∃ r s : Int, p1 = (p0.1 + r, p0.2 + s) ∧ p2 = (p0.1 + 2 * r, p0.2 + 2 * s) ∧ p3 = (p0.1 + 3 * r, p0.2 + 3 * s)) →
      wpAny (model PySem.Challenge.rw_nt0495_01.row.prog w) (callerA.deeper (lawE w.params L fa cdw)) (execs ((lawB w.params).drop 4) (lawE w.params L fa cdw)) Q E { S1 with heap := h, toks := tk }) :
    wpAny (model PySem.Challenge.rw_nt0495_01.row.prog w) (callerA.deeper (lawE w.params L fa cdw)) (execs ((lawB w.params).drop 3) (lawE w.params L fa cdw)) Q E { S1 with heap := h, toks := tk } := by
  revert XX TT F N d2 d1 hT DP DR b0 b1 b2 b3 b4 b5 b6 b7 K
  revert w S1 L mean mg mb fa cdw E Q h tk m fst tC o5 o4 o3 o2 o1 T vP vR r0 r1 r2 r3 r4 r5 r6 r7
  (apply cx_all20; (case i => walk_at "MY_INHP"); generalize cx _ _ = x9; generalize x9.1 = w, x9.2.1 = S1, x9.2.2.1 = L, x9.2.2.2.1 = mean, x9.2.2.2.2.1 = mg, x9.2.2.2.2.2.1 = mb, x9.2.2.2.2.2.2.1 = fa, x9.2.2.2.2.2.2.2.1 = cdw, x9.2.2.2.2.2.2.2.2.1 = E, x9.2.2.2.2.2.2.2.2.2.1 = Q, x9.2.2.2.2.2.2.2.2.2.2.1 = h, x9.2.2.2.2.2.2.2.2.2.2.2.1 = tk, x9.2.2.2.2.2.2.2.2.2.2.2.2.1 = m, x9.2.2.2.2.2.2.2.2.2.2.2.2.2.1 = fst, x9.2.2.2.2.2.2.2.2.2.2.2.2.2.2.1 = tC, x9.2.2.2.2.2.2.2.2.2.2.2.2.2.2.2.1 = o5, x9.2.2.2.2.2.2.2.2.2.2.2.2.2.2.2.2.1 = o4, x9.2.2.2.2.2.2.2.2.2.2.2.2.2.2.2.2.2.1 = o3, x9.2.2.2.2.2.2.2.2.2.2.2.2.2.2.2.2.2.2.1 = o2, x9.2.2.2.2.2.2.2.2.2.2.2.2.2.2.2.2.2.2.2 = o1; clear x9)
  k_with "MY:MY_EPS" => (fail_if_success (k_extra "OFF:st4"))
  intro T vP vR r0 r1 r2 r3 r4 r5 r6 r7
  intro XX TT F N d2 d1 hT DP DR b0 b1 b2 b3 b4 b5 b6 b7 K
  revert XX
  k_fill
  intro XX
  have BB := below_caller S1.heap
  dsimp only [lawB, lawE, pickB, pickE, List.drop] at K ⊢
  refine cut_one ?_
  generalize (execs _ _ : Sem Flow) = REST at *
  (refine ep_el (by walk_at "MY_INH") (list_ofT DP) ?_; generalize ep _ _ = x9; generalize x9.1 = aP, x9.2.1 = vsP, x9.2.2 = nP; clear x9; intro hz263)
  (first | (refine ep_el (by walk_at "MY_INH") (hz263) ?_; generalize ep _ _ = hz264; intro hz265) | (refine and_el (hz263) ?_; intro hz264 hz265))
  clear hz263
  subst hz264
  (first | (refine ep_el (by walk_at "MY_INH") (hz265) ?_; generalize ep _ _ = mP; intro dP) | (refine and_el (hz265) ?_; intro mP dP))
  clear hz265
  (refine ep_el (by walk_at "MY_INH") (list_ofT DR) ?_; generalize ep _ _ = x9; generalize x9.1 = aR, x9.2.1 = vsR, x9.2.2 = nR; clear x9; intro hz266)
  (first | (refine ep_el (by walk_at "MY_INH") (hz266) ?_; generalize ep _ _ = hz267; intro hz268) | (refine and_el (hz266) ?_; intro hz267 hz268))
  clear hz266
  subst hz267
  (first | (refine ep_el (by walk_at "MY_INH") (hz268) ?_; generalize ep _ _ = mR; intro dR) | (refine and_el (hz268) ?_; intro mR dR))
  clear hz268
  (refine ep_el (by walk_at "MY_INH") (pt_atT (k := Int.toNat 0) (p := (r0, r1)) dP rfl) ?_; generalize ep _ _ = x9; generalize x9.1 = q0, x9.2.1 = n0, x9.2.2.1 = ta0, x9.2.2.2 = tb0; clear x9; intro hz269)
  (first | (refine ep_el (by walk_at "MY_INH") (hz269) ?_; generalize ep _ _ = hx0; intro mq0) | (refine and_el (hz269) ?_; intro hx0 mq0))
  clear hz269
  (first | (refine ep_el (by walk_at "MY_INH") (int_at (k := Int.toNat 3) (x := r3) dR rfl) ?_; generalize ep _ _ = t3; intro hx3) | (refine and_el (int_at (k := Int.toNat 3) (x := r3) dR rfl) ?_; intro t3 hx3))
  (first | (refine ep_el (by walk_at "MY_INH") (int_at (k := Int.toNat 5) (x := r5) dR rfl) ?_; generalize ep _ _ = t5; intro hx5) | (refine and_el (int_at (k := Int.toNat 5) (x := r5) dR rfl) ?_; intro t5 hx5))
  clear dP dR DR
  k_steps
  · rename_i hf tk1
    refine Stop.mk ?_
    refine wpAny_Assign_Name ?_ (by with_unfolding_all rfl)
    refine comp_plain (k := 4) (F := fun i v nw => DatIn nw v (ptD (lp r0 r1 r3 r5 i))) (Nat.le_of_ble_eq_true rfl) (by with_unfolding_all rfl) (by decide) (by rfl) (by decide) (by rfl) ?_
    k_steps
    refine Stop.mk ?_
    rename_i hRg F2 N2 _
    refine ⟨_, _, rfl, CSrc.range rfl hRg (by rfl) (by rfl), ?_, ?_⟩
    · intro i v C2 m2' h2 tk2 E2
      intro hik hP hns hm kp2
      (first | (refine ep_el (by walk_at "MY_INH") (hP) ?_; generalize ep _ _ = tv; intro hz270) | (refine and_el (hP) ?_; intro tv hz270))
      clear hP
      subst hz270
      have F3 := F2.keeps kp2
      have N3 := N2.grown kp2
      have hX2 := cell_of N3 (by walk_at "MY_MEM") d2
      have hX1 := cell_of N3 (by walk_at "MY_MEM") d1
      have bP := News.isList N3 (show (aP, _) ∈ _ from by walk_at "MY_MEM")
      have bQ := News.isTup N3 (show (q0, _) ∈ _ from by walk_at "MY_MEM")
      have bR := News.isList N3 (show (aR, _) ∈ _ from by walk_at "MY_MEM")
      have zk : Bd 2 ((0 : Int) + (i : Int) * 1) := Bd.of (by clear F2 N2 N3 K hX1 hX2; omega)
      clear F2 N2 N3 K
      (try dsimp only)
      k_steps
      exact Stop.mk ⟨[(h2.objs.size, tupO [Value.int (r0 + 3 * (0 + (i : Int) * 1) * r3) _, Value.int (r1 + 3 * (0 + (i : Int) * 1) * r5) _] 0)], _, _, rfl, fun _ _ e => Heap.get?_push_of_some _ e, fun p hp => by rw [List.mem_singleton.mp hp]; exact ⟨Heap.get?_push_size _ rfl, Heap.get?_none_of_le (Nat.le_refl _)⟩, .tuple (List.Mem.head _) (.cons (.int _ _) (.cons (.int _ _) .nil))⟩
    · intro D h3 tk3 vs3
      intro kp3 hD0 hD hlen hF
      (first | (refine ep_el (by walk_at "MY_INH") (comp_dat F2 N2 kp3 hD0 hD hlen hF) ?_; generalize ep _ _ = T3; intro hz271) | (refine and_el (comp_dat F2 N2 kp3 hD0 hD hlen hF) ?_; intro T3 hz271))
      (first | (refine ep_el (by walk_at "MY_INH") (hz271) ?_; generalize ep _ _ = hN3; intro hz272) | (refine and_el (hz271) ?_; intro hN3 hz272))
      clear hz271
      (first | (refine ep_el (by walk_at "MY_INH") (hz272) ?_; generalize ep _ _ = hn3; intro DN) | (refine and_el (hz272) ?_; intro hn3 DN))
      clear hz272
      have F3 := F2.keeps kp3
      have N4 := cells_app hN3
      have hO : Off L T3 := fun p hp => off_new N2 (hn3 p hp)
      have hO2 : ∀ p ∈ T3, p.1 ≠ L + 1 + 1 := fun p hp => (hO p hp).1
      clear N2 F2 hN3 hF hD hD0 hn3
      (try dsimp only)
      k_steps
      refine Stop.mk ⟨by trivial, ?_⟩
      rename_i F5 N5 d5
      exact K _ _ _ _ T3 (.ref D) (lp r0 r1 r3 r5 0) (lp r0 r1 r3 r5 1) (lp r0 r1 r3 r5 2) (lp r0 r1 r3 r5 3) F5 N5 d5 hO DN (lp_qb b0 b1 b3 b5) (.inr lp_line)
  · rename_i hf
    exact Stop.mk ⟨by trivial, K _ _ _ _ T (.ref aP) (r0, r1) (r2, r3) (r4, r5) (r6, r7) (by assumption) (cells_sub N fun q hq => List.mem_cons_of_mem _ hq) d2 hT DP (qb_le b0 b1 b2 b3 b4 b5 b6 b7).1 (.inl ⟨decide_eq_false hf, (qb_le b0 b1 b2 b3 b4 b5 b6 b7).2⟩)⟩

theorem off_st4 : True := by
  k_with "OFF:st4" => skip
  trivial
end
section
theorem on_f40 : True := by
  w_top off
  k_with "MY:MY_STEPS" => ((fail_if_success (k_extra "OFF:st5")); (repeat' (first | (k_unfold; (try dsimp only)) | ((fail_if_success (with_reducible show Stop _)); k_end; wrow_close) | (dsimp only; walk1) | walk1 | (leave1; walk_say "STEP leave1"; try dsimp only) | fail "no step")))
  k_with "MY:execs cons" => ((fail_if_success (k_extra "OFF:st5")); ((with_reducible show wpAny _ _ (execs (Stmt.If _ _ _ _ :: _) _) _ _ _); refine stop_here ?_))
  k_with "MY:subscriptTail" => ((fail_if_success (k_extra "OFF:st5")); (k_here; (with_reducible show wpAny _ _ (subscriptTail _ _ (Value.ref _) (Value.int _ _)) _ _ _); k_dflt (refine' item_list ?kzl ?kza ?kzb ?kzc ?_ ?kzs ?kzg; (case kzl => walk_at "MY_LST"); (case kzc => assumption); (case kza => decide); (case kzb => decide); (case kzs => with_unfolding_all rfl); (case kzg => (intro _; with_unfolding_all rfl)); k_whole)))
  trivial
set_option maxRecDepth 100000 in
set_option maxHeartbeats 20000000 in
theorem stage5 {w : World} {S1 : Shared} {L : Nat} {mean : ExcName → Option Value} {mg mb : Str → Option Value} {fa : Addr} {cdw : Value} {E : Value → Shared → Prop} {Q : Flow → Shared → Prop}
    (XX : (Mine.hd.heap_39 w.params).In S1.heap) (TT : Top Mine.hd.view_39 loose0 mean mg mb S1.heap)
    {h : Heap} {tk : Nat} {m : Str → Option Value} {fst : Int} {tC : Tok} {o5 o4 o3 o2 : Obj} {T : List (Addr × Obj)}
    (F : Fr S1.heap L h (kstB m [(Str.ofString "first", .int fst tC)]))
    (N : News S1.heap L h ((L + 1 + 1 + 1 + 1 + 1, o5) :: (L + 1 + 1 + 1 + 1, o4) :: (L + 1 + 1 + 1, o3) :: (L + 1 + 1, o2) :: T))
    (K : ∀ (h : Heap) (tk : Nat) (m : Str → Option Value) (f ah : Int) (t1 t2 tm : Tok) (x d k : Nat) (a1 a2 a3 a4 : Tok),
      Fr S1.heap L h (kstB m [(Str.ofString "first", .int fst tC), (Str.ofString "flat", .int f t1), (Str.ofString "path", .ref x), (Str.ofString "ahead", .int ah t2)]) →
      News S1.heap L h ((k, listOf ([] : List Value).toArray 0) :: (x, instObj 184 d) :: (d, pathD w a1 a2 a3 a4 tm k .none .none) :: (L + 1 + 1 + 1 + 1 + 1, o5) :: (L + 1 + 1 + 1 + 1, o4) :: (L + 1 + 1 + 1, o3) :: (L + 1 + 1, o2) :: T) →
      (@LT.lt Nat _ d x ∧ @LT.lt Nat _ x k ∧ @LT.lt Nat _ (L + 1 + 1 + 1 + 1 + 1) d) → (∀ q ∈ (L + 1 + 1 + 1 + 1 + 1, o5) :: (L + 1 + 1 + 1 + 1, o4) :: (L + 1 + 1 + 1, o3) :: (L + 1 + 1, o2) :: T, (@Ne Nat q.1 k) ∧ (@Ne Nat q.1 d)) → 4 ≤ f ∧ f ≤ 33 → (ah = 0 ∨ ah = 1) →
      wpAny (model PySem.Challenge.rw_nt0495_01.row.prog w) (callerA.deeper (lawE w.params L fa cdw)) (execs ((lawB w.params).drop 5) (lawE w.params L fa cdw)) Q E { S1 with heap := h, toks := tk }) :
    wpAny (model PySem.Challenge.rw_nt0495_01.row.prog w) (callerA.deeper (lawE w.params L fa cdw)) (execs ((lawB w.params).drop 4) (lawE w.params L fa cdw)) Q E { S1 with heap := h, toks := tk } := by
  revert XX TT F N K
  revert w S1 L mean mg mb fa cdw E Q h tk m fst tC o5 o4 o3 o2 T
  (apply cx_all20; (case i => walk_at "MY_INHP"); generalize cx _ _ = x9; generalize x9.1 = w, x9.2.1 = S1, x9.2.2.1 = L, x9.2.2.2.1 = mean, x9.2.2.2.2.1 = mg, x9.2.2.2.2.2.1 = mb, x9.2.2.2.2.2.2.1 = fa, x9.2.2.2.2.2.2.2.1 = cdw, x9.2.2.2.2.2.2.2.2.1 = E, x9.2.2.2.2.2.2.2.2.2.1 = Q, x9.2.2.2.2.2.2.2.2.2.2.1 = h, x9.2.2.2.2.2.2.2.2.2.2.2.1 = tk, x9.2.2.2.2.2.2.2.2.2.2.2.2.1 = m, x9.2.2.2.2.2.2.2.2.2.2.2.2.2.1 = fst, x9.2.2.2.2.2.2.2.2.2.2.2.2.2.2.1 = tC, x9.2.2.2.2.2.2.2.2.2.2.2.2.2.2.2.1 = o5, x9.2.2.2.2.2.2.2.2.2.2.2.2.2.2.2.2.1 = o4, x9.2.2.2.2.2.2.2.2.2.2.2.2.2.2.2.2.2.1 = o3, x9.2.2.2.2.2.2.2.2.2.2.2.2.2.2.2.2.2.2.1 = o2, x9.2.2.2.2.2.2.2.2.2.2.2.2.2.2.2.2.2.2.2 = T; clear x9)
  k_with "MY:MY_EPS" => (fail_if_success (k_extra "OFF:st5"))
  intro XX TT F N K
  revert XX
  k_fill
  intro XX
  have BB := below_caller S1.heap
  dsimp only [lawB, lawE, pickB, pickE, List.drop] at K ⊢
  refine cut_one ?_
  generalize (execs (_ :: _ :: _ :: _ :: _ :: _ :: _ :: _) _ : Sem Flow) = REST at *
  show wpAny _ _ _ _ _ _
  walk_at "MY_STEPS"
  refine Stop.mk ⟨by trivial, ?_⟩
  rename_i x d _ ld lx _ _ _ _ _ _ _ _ _ k _ lk _ _ _ _ _ _ _ _ _ _ _ _ _ _ _ _ FL NL
  exact K _ _ _ _ _ _ _ 243 x d k _ _ _ _ (fr_kst (ps := [(Str.ofString "first", .int fst tC), (Str.ofString "flat", .int _ _), (Str.ofString "path", .ref x), (Str.ofString "ahead", .int _ _)]) FL (cons_all rfl (cons_all rfl (cons_all rfl (cons_all rfl nil_all))))) (news_rest NL) ⟨lx, lk.1, ld.1⟩ (ne_two lk.2.2 ld) (flat_ahead fst).1 (flat_ahead fst).2

theorem off_st5 : True := by
  k_with "OFF:st5" => skip
  trivial
end
section
theorem on_f41 : True := by
  w_top off
  k_with "MY:MY_INH" => ((fail_if_success (k_extra "OFF:st8")); (first | exact inh_pm | exact inh_row | exact inh_rr))
  k_with "MY:call ref" => ((fail_if_success (k_extra "OFF:st8")); (refine stop_here ?_))
  k_with "MY:MY_STEPS" => ((fail_if_success (k_extra "OFF:st8")); (repeat' (first | (k_unfold; (try dsimp only)) | ((fail_if_success (with_reducible show Stop _)); k_end; wrow_close) | (dsimp only; walk1) | walk1 | (leave1; walk_say "STEP leave1"; try dsimp only) | fail "no step")))
  k_with "MY:execs cons" => ((fail_if_success (k_extra "OFF:st8")); ((with_reducible show wpAny _ _ (execs (Stmt.If (Expr.Compare (Expr.BinOp _ _ _ _) [CmpOp.Eq] _ _) _ _ _ :: []) _) _ _ _); refine stop_here ?_))
  k_with "MY:subscriptTail" => ((fail_if_success (k_extra "OFF:st8")); (k_here; (with_reducible show wpAny _ _ (subscriptTail _ _ (Value.ref _) (Value.int _ _)) _ _ _); first | (k_dflt (refine' item_list ?kzl ?kza ?kzb ?kzc ?_ ?kzs ?kzg; (case kzl => with_reducible assumption); (case kzc => assumption); (case kza => decide); (case kzb => decide); (case kzs => with_unfolding_all rfl); (case kzg => (intro _; with_unfolding_all rfl)); k_whole)) | (k_dflt (refine' item_tupleT ?kzt ?kza ?kzb ?kzc ?kzd ?_; (case kzt => with_reducible assumption); (case kza => decide); (case kzb => decide); (case kzc => rfl); (case kzd => rfl); k_whole))))
  k_with "MY:subscriptTail Name Constant ref int" => ((fail_if_success (k_extra "OFF:st8")); (k_here; (with_reducible show wpAny _ _ (subscriptTail _ _ (Value.ref _) (Value.int _ _)) _ _ _); first | (k_dflt (refine' item_list ?kzl ?kza ?kzb ?kzc ?_ ?kzs ?kzg; (case kzl => with_reducible assumption); (case kzc => assumption); (case kza => decide); (case kzb => decide); (case kzs => with_unfolding_all rfl); (case kzg => (intro _; with_unfolding_all rfl)); k_whole)) | (k_dflt (refine' item_tupleT ?kzt ?kza ?kzb ?kzc ?kzd ?_; (case kzt => with_reducible assumption); (case kza => decide); (case kzb => decide); (case kzc => rfl); (case kzd => rfl); k_whole))))
  k_with "MY:subscriptTail Subscript Name Constant Constant ref int" => ((fail_if_success (k_extra "OFF:st8")); (k_here; (with_reducible show wpAny _ _ (subscriptTail _ _ (Value.ref _) (Value.int _ _)) _ _ _); first | (k_dflt (refine' item_list ?kzl ?kza ?kzb ?kzc ?_ ?kzs ?kzg; (case kzl => with_reducible assumption); (case kzc => assumption); (case kza => decide); (case kzb => decide); (case kzs => with_unfolding_all rfl); (case kzg => (intro _; with_unfolding_all rfl)); k_whole)) | (k_dflt (refine' item_tupleT ?kzt ?kza ?kzb ?kzc ?kzd ?_; (case kzt => with_reducible assumption); (case kza => decide); (case kzb => decide); (case kzc => rfl); (case kzd => rfl); k_whole))))
  trivial
set_option maxRecDepth 100000 in
set_option maxHeartbeats 20000000 in
theorem stage8 {w : World} {S1 : Shared} {L : Nat} {mean : ExcName → Option Value} {mg mb : Str → Option Value} {fa : Addr} {cdw : Value} {E : Value → Shared → Prop} {Q : Flow → Shared → Prop}
    (XX : (Mine.hd.heap_39 w.params).In S1.heap) (TT : Top Mine.hd.view_39 loose0 mean mg mb S1.heap)
    {h : Heap} {tk : Nat} {m : Str → Option Value} {fst : Int} {tC : Tok} {o5 o4 o3 o2 : Obj} {T : List (Addr × Obj)} {p0 p1 p2 p3 : Pt} {f ah : Int} {t1 t2 tm : Tok} {x d k aP : Nat} {a1 a2 a3 a4 : Tok}
    (F : Fr S1.heap L h (kstB m [(Str.ofString "first", .int fst tC), (Str.ofString "flat", .int f t1), (Str.ofString "path", .ref x), (Str.ofString "ahead", .int ah t2)]))
    (N : News S1.heap L h ((k, listOf ([] : List Value).toArray 0) :: (x, instObj 184 d) :: (d, pathD w a1 a2 a3 a4 tm k .none .none) :: (L + 1 + 1 + 1 + 1 + 1, o5) :: (L + 1 + 1 + 1 + 1, o4) :: (L + 1 + 1 + 1, o3) :: (L + 1 + 1, o2) :: T))
    (d2 : o2.data = .cell (some (.ref aP))) (hlt : @LT.lt Nat _ d x ∧ @LT.lt Nat _ x k ∧ @LT.lt Nat _ (L + 1 + 1 + 1 + 1 + 1) d) (hT0 : ∀ q ∈ (L + 1 + 1 + 1 + 1 + 1, o5) :: (L + 1 + 1 + 1 + 1, o4) :: (L + 1 + 1 + 1, o3) :: (L + 1 + 1, o2) :: T, (@Ne Nat q.1 k) ∧ (@Ne Nat q.1 d)) (hO : Off L T) (DP : DatIn T (.ref aP) (.list [ptD p0, ptD p1, ptD p2, ptD p3]))
    (K : ∀ (h : Heap) (tk : Nat) (m : Str → Option Value) (T : List (Addr × Obj)) (tm : Tok) (x d k : Addr) (a1 a2 a3 a4 : Tok) (b p : Value) (fs : List Value) (n : Nat),
      Fr S1.heap L h (kstB m [(Str.ofString "first", .int fst tC), (Str.ofString "flat", .int f t1), (Str.ofString "path", .ref x), (Str.ofString "ahead", .int ah t2)]) →
      News S1.heap L h ((L + 1 + 1 + 1 + 1 + 1, o5) :: (L + 1 + 1 + 1 + 1, o4) :: (L + 1 + 1 + 1, o3) :: (L + 1 + 1, o2) :: T) → Off L T → DatIn T (.ref aP) (.list [ptD p0, ptD p1, ptD p2, ptD p3]) →
      (x, instObj 184 d) ∈ T → (d, pathD w a1 a2 a3 a4 tm k b p) ∈ T → (k, listOf fs.toArray n) ∈ T →
      DatAll T fs ((lawRows (p0, p1, p2, p3) (decide (ah = 1)) (decide (Int.fmod (Int.fdiv fst 300) 2 = 1))).map rowD) →
      wpAny (model PySem.Challenge.rw_nt0495_01.row.prog w) (callerA.deeper (lawE w.params L fa cdw)) (execs ((lawB w.params).drop 8) (lawE w.params L fa cdw)) Q E { S1 with heap := h, toks := tk }) :
    wpAny (model PySem.Challenge.rw_nt0495_01.row.prog w) (callerA.deeper (lawE w.params L fa cdw)) (execs ((lawB w.params).drop 5) (lawE w.params L fa cdw)) Q E { S1 with heap := h, toks := tk } := by
  revert XX TT F N d2 hlt hT0 hO DP K
  revert w S1 L mean mg mb fa cdw E Q h tk m fst tC o5 o4 o3 o2 T p0 p1 p2 p3 f ah t1 t2 tm x d k aP a1 a2 a3 a4
  (apply cx_all32; (case i => walk_at "MY_INHP"); generalize cx _ _ = x9; generalize x9.1 = w, x9.2.1 = S1, x9.2.2.1 = L, x9.2.2.2.1 = mean, x9.2.2.2.2.1 = mg, x9.2.2.2.2.2.1 = mb, x9.2.2.2.2.2.2.1 = fa, x9.2.2.2.2.2.2.2.1 = cdw, x9.2.2.2.2.2.2.2.2.1 = E, x9.2.2.2.2.2.2.2.2.2.1 = Q, x9.2.2.2.2.2.2.2.2.2.2.1 = h, x9.2.2.2.2.2.2.2.2.2.2.2.1 = tk, x9.2.2.2.2.2.2.2.2.2.2.2.2.1 = m, x9.2.2.2.2.2.2.2.2.2.2.2.2.2.1 = fst, x9.2.2.2.2.2.2.2.2.2.2.2.2.2.2.1 = tC, x9.2.2.2.2.2.2.2.2.2.2.2.2.2.2.2.1 = o5, x9.2.2.2.2.2.2.2.2.2.2.2.2.2.2.2.2.1 = o4, x9.2.2.2.2.2.2.2.2.2.2.2.2.2.2.2.2.2.1 = o3, x9.2.2.2.2.2.2.2.2.2.2.2.2.2.2.2.2.2.2.1 = o2, x9.2.2.2.2.2.2.2.2.2.2.2.2.2.2.2.2.2.2.2.1 = T, x9.2.2.2.2.2.2.2.2.2.2.2.2.2.2.2.2.2.2.2.2.1 = p0, x9.2.2.2.2.2.2.2.2.2.2.2.2.2.2.2.2.2.2.2.2.2.1 = p1, x9.2.2.2.2.2.2.2.2.2.2.2.2.2.2.2.2.2.2.2.2.2.2.1 = p2, x9.2.2.2.2.2.2.2.2.2.2.2.2.2.2.2.2.2.2.2.2.2.2.2.1 = p3, x9.2.2.2.2.2.2.2.2.2.2.2.2.2.2.2.2.2.2.2.2.2.2.2.2.1 = f, x9.2.2.2.2.2.2.2.2.2.2.2.2.2.2.2.2.2.2.2.2.2.2.2.2.2.1 = ah, x9.2.2.2.2.2.2.2.2.2.2.2.2.2.2.2.2.2.2.2.2.2.2.2.2.2.2.1 = t1, x9.2.2.2.2.2.2.2.2.2.2.2.2.2.2.2.2.2.2.2.2.2.2.2.2.2.2.2.1 = t2, x9.2.2.2.2.2.2.2.2.2.2.2.2.2.2.2.2.2.2.2.2.2.2.2.2.2.2.2.2.1 = tm, x9.2.2.2.2.2.2.2.2.2.2.2.2.2.2.2.2.2.2.2.2.2.2.2.2.2.2.2.2.2.1 = x, x9.2.2.2.2.2.2.2.2.2.2.2.2.2.2.2.2.2.2.2.2.2.2.2.2.2.2.2.2.2.2.1 = d, x9.2.2.2.2.2.2.2.2.2.2.2.2.2.2.2.2.2.2.2.2.2.2.2.2.2.2.2.2.2.2.2 = k; clear x9)
  k_with "MY:MY_EPS" => (fail_if_success (k_extra "OFF:st8"))
  intro aP a1 a2 a3 a4
  intro XX TT F N d2 hlt hT0 hO DP K
  rw [← List.take_append_drop 3 ((lawB w.params).drop 5), List.drop_drop]
  refine cut_app ?_
  revert XX
  k_fill
  intro XX
  have BB := below_caller S1.heap
  dsimp only [lawB, lawE, pickB, pickE, List.drop] at K
  dsimp only [lawB, lawE, pickB, pickE, List.drop, List.take, Nat.reduceAdd]
  generalize (execs (_ :: _ :: _ :: _ :: _ :: _ :: _ :: _) _ : Sem Flow) = REST at *
  (refine ep_el (by walk_at "MY_INH") (list_rT DP) ?_; generalize ep _ _ = x9; generalize x9.1 = vsP, x9.2 = nP; clear x9; intro hz273)
  (first | (refine ep_el (by walk_at "MY_INH") (hz273) ?_; generalize ep _ _ = mP; intro dP) | (refine and_el (hz273) ?_; intro mP dP))
  clear hz273
  (refine ep_el (by walk_at "MY_INH") (pt_atT (k := Int.toNat 0) (p := p0) dP rfl) ?_; generalize ep _ _ = x9; generalize x9.1 = q0, x9.2.1 = n0, x9.2.2.1 = ta0, x9.2.2.2 = tb0; clear x9; intro hz274)
  (first | (refine ep_el (by walk_at "MY_INH") (hz274) ?_; generalize ep _ _ = hx0; intro mq0) | (refine and_el (hz274) ?_; intro hx0 mq0))
  clear hz274
  (refine ep_el (by walk_at "MY_INH") (pt_atT (k := Int.toNat 1) (p := p1) dP rfl) ?_; generalize ep _ _ = x9; generalize x9.1 = q1, x9.2.1 = n1, x9.2.2.1 = ta1, x9.2.2.2 = tb1; clear x9; intro hz275)
  (first | (refine ep_el (by walk_at "MY_INH") (hz275) ?_; generalize ep _ _ = hx1; intro mq1) | (refine and_el (hz275) ?_; intro hx1 mq1))
  clear hz275
  (refine ep_el (by walk_at "MY_INH") (pt_atT (k := Int.toNat 2) (p := p2) dP rfl) ?_; generalize ep _ _ = x9; generalize x9.1 = q2, x9.2.1 = n2, x9.2.2.1 = ta2, x9.2.2.2 = tb2; clear x9; intro hz276)
  (first | (refine ep_el (by walk_at "MY_INH") (hz276) ?_; generalize ep _ _ = hx2; intro mq2) | (refine and_el (hz276) ?_; intro hx2 mq2))
  clear hz276
  (refine ep_el (by walk_at "MY_INH") (pt_atT (k := Int.toNat 3) (p := p3) dP rfl) ?_; generalize ep _ _ = x9; generalize x9.1 = q3, x9.2.1 = n3, x9.2.2.1 = ta3, x9.2.2.2 = tb3; clear x9; intro hz277)
  (first | (refine ep_el (by walk_at "MY_INH") (hz277) ?_; generalize ep _ _ = hx3; intro mq3) | (refine and_el (hz277) ?_; intro hx3 mq3))
  clear hz277
  clear dP
  refine cut_exec (fun s' => ∃ c : PM, c.ok w S1.heap L (kstB m [(Str.ofString "first", .int fst tC), (Str.ofString "flat", .int f t1), (Str.ofString "path", .ref x), (Str.ofString "ahead", .int ah t2)]) a1 a2 a3 a4 tm x d k ((L + 1 + 1 + 1 + 1 + 1, o5) :: (L + 1 + 1 + 1 + 1, o4) :: (L + 1 + 1 + 1, o3) :: (L + 1 + 1, o2) :: T) (midRows p0 ah) ∧ s' = { S1 with heap := c.h, toks := c.tk }) ?_ ?_
  · clear K
    have bP := News.isList N (show (aP, listOf vsP.toArray nP) ∈ _ from by walk_at "MY_MEM")
    have bQ0 := News.isTup N (show (q0, tupO [Value.int p0.1 ta0, Value.int p0.2 tb0] n0) ∈ _ from by walk_at "MY_MEM")
    show wpAny _ _ _ _ _ _
    walk_at "MY_STEPS"
    · (rename (ah = 1) => hah1)
      refine Stop.mk ?_
      refine pm_move (pm_start (tk := 0) F N hT0) rfl BB XX TT rfl hlt.1 hlt.2.1 (by decide) (by decide) ?_
      intro c1
      intro g1
      have F1 := g1.F
      have N1 := g1.N
      clear N bP bQ0 F
      have bP := News.isList N1 (show (aP, listOf vsP.toArray nP) ∈ _ from by walk_at "MY_MEM")
      have bQ0 := News.isTup N1 (show (q0, tupO [Value.int p0.1 ta0, Value.int p0.2 tb0] n0) ∈ _ from by walk_at "MY_MEM")
      walk_at "MY_STEPS"
      refine Stop.mk ?_
      refine pm_line (rows := []) (r := .m (7, -7)) g1 (by simp) (by simp) rfl BB XX TT rfl hlt.1 hlt.2.1 (by decide) (by decide) ?_
      intro c2
      intro g2
      have F2 := g2.F
      have N2 := g2.N
      clear N1 bP bQ0 F1
      walk_at "MY_STEPS"
      exact Stop.mk ⟨by trivial, c2, by unfold midRows; rw [if_pos hah1]; exact g2, rfl⟩
    · (rename (¬ ah = 1) => hah1)
      refine Stop.mk ?_
      refine pm_move (pm_start (tk := 0) F N hT0) rfl BB XX TT rfl hlt.1 hlt.2.1 (by decide) (by decide) ?_
      intro c1
      intro g1
      have F1 := g1.F
      have N1 := g1.N
      clear N bP bQ0 F
      walk_at "MY_STEPS"
      exact Stop.mk ⟨by trivial, c1, by unfold midRows; rw [if_neg hah1]; exact g1, rfl⟩
  · clear F N
    intro s9
    intro hR
    (first | (refine ep_el (by walk_at "MY_INH") (hR) ?_; generalize ep _ _ = c; intro hz278) | (refine and_el (hR) ?_; intro c hz278))
    clear hR
    (first | (refine ep_el (by walk_at "MY_INH") (hz278) ?_; generalize ep _ _ = g; intro e9) | (refine and_el (hz278) ?_; intro g e9))
    clear hz278
    subst e9
    (refine ep_el (by walk_at "MY_INH") (mid_rowsT p0 ah) ?_; generalize ep _ _ = x9; generalize x9.1 = rows0, x9.2 = r; clear x9; intro hz279)
    (first | (refine ep_el (by walk_at "MY_INH") (hz279) ?_; generalize ep _ _ = er; intro hz280) | (refine and_el (hz279) ?_; intro er hz280))
    clear hz279
    (first | (refine ep_el (by walk_at "MY_INH") (hz280) ?_; generalize ep _ _ = hr; intro hrl) | (refine and_el (hz280) ?_; intro hr hrl))
    clear hz280
    rw [er] at g
    have F1 := g.F
    have N1 := g.N
    have bP := News.isList N1 (show (aP, listOf vsP.toArray nP) ∈ _ from by walk_at "MY_MEM")
    have bQ1 := News.isTup N1 (show (q1, tupO [Value.int p1.1 ta1, Value.int p1.2 tb1] n1) ∈ _ from by walk_at "MY_MEM")
    have bQ2 := News.isTup N1 (show (q2, tupO [Value.int p2.1 ta2, Value.int p2.2 tb2] n2) ∈ _ from by walk_at "MY_MEM")
    have bQ3 := News.isTup N1 (show (q3, tupO [Value.int p3.1 ta3, Value.int p3.2 tb3] n3) ∈ _ from by walk_at "MY_MEM")
    show wpAny _ _ _ _ _ _
    walk_at "MY_STEPS"
    refine Stop.mk ?_
    refine pm_curve g hr (by omega) rfl BB XX TT rfl hlt.1 hlt.2.1 (by decide) (by decide) ?_
    intro c3
    intro g3
    have F3 := g3.F
    have N3 := g3.N
    clear N1 bP bQ1 bQ2 bQ3 F1
    walk_at "MY_STEPS"
    refine Stop.mk ?_
    refine wpAny_execs_cons ?_
    walk_at "MY_STEPS"
    · (rename (Int.fmod (Int.fdiv fst 300) 2 = 1) => hcl)
      refine Stop.mk ?_
      refine pm_close g3 (by simp) (by rw [List.length_append, List.length_singleton]; omega) rfl BB XX TT rfl hlt.1 hlt.2.1 (by decide) (by decide) ?_
      intro c4
      intro g4
      have F4 := g4.F
      have N4 := g4.N
      clear N3 F3
      walk_at "MY_STEPS"
      exact Stop.mk ⟨by trivial, K _ _ m ((k, listOf c4.fs.toArray c4.n) :: (x, instObj 184 d) :: (d, pathD w a1 a2 a3 a4 tm k c4.b c4.p) :: (c4.tl ++ T)) tm x d k a1 a2 a3 a4 c4.b c4.p c4.fs c4.n g4.F (pm_news g4.N) (pm_off g4.off hlt hO) (DP.mono mem_three) (List.Mem.tail _ (List.Mem.head _)) (List.Mem.tail _ (List.Mem.tail _ (List.Mem.head _))) (List.Mem.head _) (by rw [law_rows er, decide_eq_true hcl]; exact g4.data.mono mem_threeL)⟩
    · (rename (¬ Int.fmod (Int.fdiv fst 300) 2 = 1) => hcl)
      exact Stop.mk ⟨by trivial, K _ _ m ((k, listOf c3.fs.toArray c3.n) :: (x, instObj 184 d) :: (d, pathD w a1 a2 a3 a4 tm k c3.b c3.p) :: (c3.tl ++ T)) tm x d k a1 a2 a3 a4 c3.b c3.p c3.fs c3.n g3.F (pm_news g3.N) (pm_off g3.off hlt hO) (DP.mono mem_three) (List.Mem.tail _ (List.Mem.head _)) (List.Mem.tail _ (List.Mem.tail _ (List.Mem.head _))) (List.Mem.head _) (by rw [law_rows er, decide_eq_false hcl]; simpa using g3.data.mono mem_threeL)⟩

theorem off_st8 : True := by
  k_with "OFF:st8" => skip
  trivial
end
section
theorem on_f42 : True := by
  w_top off
  k_with "MY:MY_STEPS" => ((fail_if_success (k_extra "OFF:st9")); (repeat' (first | (k_unfold; (try dsimp only)) | ((fail_if_success (with_reducible show Stop _)); k_end; wrow_close) | (dsimp only; walk1) | walk1 | (leave1; walk_say "STEP leave1"; try dsimp only) | fail "no step")))
  k_with "MY:call ref" => ((fail_if_success (k_extra "OFF:st9")); (refine stop_here ?_))
  trivial
theorem path_outT {w : World} {rows : List Row} {tl olds : List (Addr × Obj)} {r : Value} (h : PathOut w rows tl olds r) : ∃ x : Nat × Nat × Nat × Tok × Tok × Tok × Tok × Tok × Value × Value × List Value × Nat,
    r = .ref x.1 ∧ (x.1, instObj 184 x.2.1) ∈ tl ∧ (x.2.1, pathD w x.2.2.2.1 x.2.2.2.2.1 x.2.2.2.2.2.1 x.2.2.2.2.2.2.1 x.2.2.2.2.2.2.2.1 x.2.2.1 x.2.2.2.2.2.2.2.2.1 x.2.2.2.2.2.2.2.2.2.1) ∈ tl ∧ (x.2.2.1, listOf x.2.2.2.2.2.2.2.2.2.2.1.toArray x.2.2.2.2.2.2.2.2.2.2.2) ∈ tl ∧ DatAll (tl ++ olds) x.2.2.2.2.2.2.2.2.2.2.1 (rows.map rowD) := by
  obtain ⟨x, d, k, a1, a2, a3, a4, tm, b, p, fs, n, rfl, m1, m2, m3, hd⟩ := h
  exact ⟨(x, d, k, a1, a2, a3, a4, tm, b, p, fs, n), rfl, m1, m2, m3, hd⟩
theorem cells_apps {h₀ h : Heap} {L : Addr} {a b c d : Addr × Obj} {S U V T : List (Addr × Obj)} (N : News h₀ L h (S ++ (U ++ (V ++ (a :: b :: c :: d :: T))))) : News h₀ L h (a :: b :: c :: d :: (S ++ U ++ V ++ T)) := fun p hp => N p (by
  simp only [List.mem_cons, List.mem_append] at hp ⊢
  rcases hp with h | h | h | h | ((h | h) | h) | h <;> simp [h])
theorem mem_U {α : Type} {S U V T : List α} {p : α} (h : p ∈ U) : p ∈ S ++ U ++ V ++ T := by simp [h]
theorem mem_S {α : Type} {S U V T : List α} {p : α} (h : p ∈ S) : p ∈ S ++ U ++ V ++ T := by simp [h]
theorem mem_V {α : Type} {S U V T : List α} {p : α} (h : p ∈ V) : p ∈ S ++ U ++ V ++ T := by simp [h]
theorem seqs_cells {L : Nat} {o5 o4 o3 o2 : Obj} {S U V T : List (Addr × Obj)} {v5 v4 v3 v2 : Option Value} (c5 : o5.data = .cell v5) (c4 : o4.data = .cell v4) (c3 : o3.data = .cell v3) (c2 : o2.data = .cell v2) :
    ∀ q ∈ U ++ (V ++ ((L + 1 + 1 + 1 + 1 + 1, o5) :: (L + 1 + 1 + 1 + 1, o4) :: (L + 1 + 1 + 1, o3) :: (L + 1 + 1, o2) :: T)), isSeqO q.2 = true → q ∈ S ++ U ++ V ++ T := fun q hq hs => by
  have n5 := cell_noSeq c5
  have n4 := cell_noSeq c4
  have n3 := cell_noSeq c3
  have n2 := cell_noSeq c2
  simp only [List.mem_cons, List.mem_append] at hq ⊢
  rcases hq with hq | hq | hq | hq | hq | hq | hq
  · exact .inl (.inl (.inr hq))
  · exact .inl (.inr hq)
  · rw [hq] at hs; exact absurd (n5.symm.trans hs) (by decide)
  · rw [hq] at hs; exact absurd (n4.symm.trans hs) (by decide)
  · rw [hq] at hs; exact absurd (n3.symm.trans hs) (by decide)
  · rw [hq] at hs; exact absurd (n2.symm.trans hs) (by decide)
  · exact .inr hq
set_option maxRecDepth 100000 in
set_option maxHeartbeats 20000000 in
theorem stage9 {w : World} {S1 : Shared} {L : Nat} {mean : ExcName → Option Value} {mg mb : Str → Option Value} {fa : Addr} {cdw : Value} {E : Value → Shared → Prop} {Q : Flow → Shared → Prop}
    (XX : (Mine.hd.heap_39 w.params).In S1.heap) (TT : Top Mine.hd.view_39 loose0 mean mg mb S1.heap)
    {h : Heap} {tk : Nat} {m : Str → Option Value} {fst : Int} {tC : Tok} {o5 o4 o3 o2 : Obj} {T : List (Addr × Obj)} {vP : Value} {p0 p1 p2 p3 : Pt} {f ah : Int} {t1 t2 tm : Tok} {x d k : Nat} {a1 a2 a3 a4 : Tok} {b p : Value} {fs : List Value} {n : Nat}
    (F : Fr S1.heap L h (kstB m [(Str.ofString "first", .int fst tC), (Str.ofString "flat", .int f t1), (Str.ofString "path", .ref x), (Str.ofString "ahead", .int ah t2)]))
    (N : News S1.heap L h ((L + 1 + 1 + 1 + 1 + 1, o5) :: (L + 1 + 1 + 1 + 1, o4) :: (L + 1 + 1 + 1, o3) :: (L + 1 + 1, o2) :: T)) (hT : Off L T) (DP : DatIn T vP (.list [ptD p0, ptD p1, ptD p2, ptD p3]))
    (c5 : o5.data = .cell none) (c4 : o4.data = .cell none) (c3 : o3.data = .cell none) (e2 : o2.data = .cell (some vP)) (hf : 4 ≤ f ∧ f ≤ 33) (mx : (x, instObj 184 d) ∈ T) (md : (d, pathD w a1 a2 a3 a4 tm k b p) ∈ T) (mk : (k, listOf fs.toArray n) ∈ T) (hq : QB 3000 (p0, p1, p2, p3))
    (DF : DatAll T fs ((lawRows (p0, p1, p2, p3) (decide (ah = 1)) (decide (Int.fmod (Int.fdiv fst 300) 2 = 1))).map rowD))
    (K : ∀ (h : Heap) (tk : Nat) (m : Str → Option Value) (T : List (Addr × Obj)) (W R : Nat),
      Fr S1.heap L h (kstB m [(Str.ofString "first", .int fst tC), (Str.ofString "flat", .int f t1), (Str.ofString "path", .ref x), (Str.ofString "ahead", .int ah t2), (Str.ofString "was", .ref W), (Str.ofString "rows", .ref R)]) →
      News S1.heap L h ((L + 1 + 1 + 1 + 1 + 1, o5) :: (L + 1 + 1 + 1 + 1, o4) :: (L + 1 + 1 + 1, o3) :: (L + 1 + 1, o2) :: T) → Off L T → DatIn T vP (.list [ptD p0, ptD p1, ptD p2, ptD p3]) →
      (x, instObj 184 d) ∈ T → (d, pathD w a1 a2 a3 a4 tm k b p) ∈ T → (k, listOf fs.toArray n) ∈ T →
      DatAll T fs ((lawRows (p0, p1, p2, p3) (decide (ah = 1)) (decide (Int.fmod (Int.fdiv fst 300) 2 = 1))).map rowD) →
      DatIn T (.ref W) (.list ((lawRows (p0, p1, p2, p3) (decide (ah = 1)) (decide (Int.fmod (Int.fdiv fst 300) 2 = 1))).map rowD)) →
      DatIn T (.ref R) (.list ((pathRows (lawP (p0, p1, p2, p3) (decide (ah = 1))) (lawLs (p0, p1, p2, p3) f (decide (ah = 1))) (decide (Int.fmod (Int.fdiv fst 300) 2 = 1))).map rowD)) →
      wpAny (model PySem.Challenge.rw_nt0495_01.row.prog w) (callerA.deeper (lawE w.params L fa cdw)) (execs ((lawB w.params).drop 9) (lawE w.params L fa cdw)) Q E { S1 with heap := h, toks := tk }) :
    wpAny (model PySem.Challenge.rw_nt0495_01.row.prog w) (callerA.deeper (lawE w.params L fa cdw)) (execs ((lawB w.params).drop 8) (lawE w.params L fa cdw)) Q E { S1 with heap := h, toks := tk } := by
  revert XX TT F N hT DP c5 c4 c3 e2 hf mx md mk hq DF K
  revert w S1 L mean mg mb fa cdw E Q h tk m fst tC o5 o4 o3 o2 T vP p0 p1 p2 p3 f ah t1 t2 tm x d k a1 a2 a3 a4 b p fs n
  (apply cx_all32; (case i => walk_at "MY_INHP"); generalize cx _ _ = x9; generalize x9.1 = w, x9.2.1 = S1, x9.2.2.1 = L, x9.2.2.2.1 = mean, x9.2.2.2.2.1 = mg, x9.2.2.2.2.2.1 = mb, x9.2.2.2.2.2.2.1 = fa, x9.2.2.2.2.2.2.2.1 = cdw, x9.2.2.2.2.2.2.2.2.1 = E, x9.2.2.2.2.2.2.2.2.2.1 = Q, x9.2.2.2.2.2.2.2.2.2.2.1 = h, x9.2.2.2.2.2.2.2.2.2.2.2.1 = tk, x9.2.2.2.2.2.2.2.2.2.2.2.2.1 = m, x9.2.2.2.2.2.2.2.2.2.2.2.2.2.1 = fst, x9.2.2.2.2.2.2.2.2.2.2.2.2.2.2.1 = tC, x9.2.2.2.2.2.2.2.2.2.2.2.2.2.2.2.1 = o5, x9.2.2.2.2.2.2.2.2.2.2.2.2.2.2.2.2.1 = o4, x9.2.2.2.2.2.2.2.2.2.2.2.2.2.2.2.2.2.1 = o3, x9.2.2.2.2.2.2.2.2.2.2.2.2.2.2.2.2.2.2.1 = o2, x9.2.2.2.2.2.2.2.2.2.2.2.2.2.2.2.2.2.2.2.1 = T, x9.2.2.2.2.2.2.2.2.2.2.2.2.2.2.2.2.2.2.2.2.1 = vP, x9.2.2.2.2.2.2.2.2.2.2.2.2.2.2.2.2.2.2.2.2.2.1 = p0, x9.2.2.2.2.2.2.2.2.2.2.2.2.2.2.2.2.2.2.2.2.2.2.1 = p1, x9.2.2.2.2.2.2.2.2.2.2.2.2.2.2.2.2.2.2.2.2.2.2.2.1 = p2, x9.2.2.2.2.2.2.2.2.2.2.2.2.2.2.2.2.2.2.2.2.2.2.2.2.1 = p3, x9.2.2.2.2.2.2.2.2.2.2.2.2.2.2.2.2.2.2.2.2.2.2.2.2.2.1 = f, x9.2.2.2.2.2.2.2.2.2.2.2.2.2.2.2.2.2.2.2.2.2.2.2.2.2.2.1 = ah, x9.2.2.2.2.2.2.2.2.2.2.2.2.2.2.2.2.2.2.2.2.2.2.2.2.2.2.2.1 = t1, x9.2.2.2.2.2.2.2.2.2.2.2.2.2.2.2.2.2.2.2.2.2.2.2.2.2.2.2.2.1 = t2, x9.2.2.2.2.2.2.2.2.2.2.2.2.2.2.2.2.2.2.2.2.2.2.2.2.2.2.2.2.2.1 = tm, x9.2.2.2.2.2.2.2.2.2.2.2.2.2.2.2.2.2.2.2.2.2.2.2.2.2.2.2.2.2.2.1 = x, x9.2.2.2.2.2.2.2.2.2.2.2.2.2.2.2.2.2.2.2.2.2.2.2.2.2.2.2.2.2.2.2 = d; clear x9)
  k_with "MY:MY_EPS" => (fail_if_success (k_extra "OFF:st9"))
  intro k a1 a2 a3 a4 b p fs n
  intro XX TT F N hT DP c5 c4 c3 e2 hf mx md mk hq DF K
  revert XX
  k_fill
  intro XX
  have BB := below_caller S1.heap
  generalize decide (Int.fmod (Int.fdiv fst 300) 2 = 1) = cz at *
  generalize decide (ah = 1) = ab at *
  dsimp only [lawB, lawE, pickB, pickE, List.drop] at K ⊢
  refine cut_one ?_
  generalize (execs (_ :: _ :: _ :: _ :: _ :: _ :: _ :: _) _ : Sem Flow) = REST at *
  show wpAny _ _ _ _ _ _
  walk_at "MY_STEPS"
  refine Stop.mk ?_
  refine conR_use (rows_m (b := b) (p := p) (law_len DF)) BB (by assumption) XX TT rfl (by assumption) (by walk_at "MY_MEM") (by walk_at "MY_MEM") (by walk_at "MY_MEM") (by decide) (by decide) ?_
  intro h1 tk1 tl1 rW
  intro F1 N1 hne1 ho1
  (first | (refine ep_el (by walk_at "MY_INH") (ho1) ?_; generalize ep _ _ = W; intro hz281) | (refine and_el (ho1) ?_; intro W hz281))
  clear ho1
  (first | (refine ep_el (by walk_at "MY_INH") (hz281) ?_; generalize ep _ _ = nW; intro hz282) | (refine and_el (hz281) ?_; intro nW hz282))
  clear hz281
  (first | (refine ep_el (by walk_at "MY_INH") (hz282) ?_; generalize ep _ _ = hz283; intro mW) | (refine and_el (hz282) ?_; intro hz283 mW))
  clear hz282
  subst hz283
  clear N F
  walk_at "MY_STEPS"
  refine Stop.mk ?_
  refine conR_use (flat_m (b := b) (p := p) (lawRows (p0, p1, p2, p3) ab cz) (DF.mono fun q hq => by walk_at "MY_MEM") (rowsOk_law hq ab cz) ⟨by clear DF F1 N1 hne1; omega, by clear DF F1 N1 hne1; omega⟩ (flat_law _ f ab cz) (lawLs_length _ f ab)) BB (by assumption) XX TT rfl N1 (by walk_at "MY_MEM") (by walk_at "MY_MEM") (by walk_at "MY_MEM") (by decide) (by decide) ?_
  intro h2 tk2 tl2 rP
  intro F2 N2 hne2 ho2
  (refine ep_el (by walk_at "MY_INH") (path_outT ho2) ?_; generalize ep _ _ = x9; generalize x9.1 = x2, x9.2.1 = d2, x9.2.2.1 = k2, x9.2.2.2.1 = g1, x9.2.2.2.2.1 = g2, x9.2.2.2.2.2.1 = g3, x9.2.2.2.2.2.2.1 = g4, x9.2.2.2.2.2.2.2.1 = tm2, x9.2.2.2.2.2.2.2.2.1 = b2, x9.2.2.2.2.2.2.2.2.2.1 = c2, x9.2.2.2.2.2.2.2.2.2.2.1 = fs2, x9.2.2.2.2.2.2.2.2.2.2.2 = nn2; clear x9; intro hz284)
  (first | (refine ep_el (by walk_at "MY_INH") (hz284) ?_; generalize ep _ _ = hz285; intro hz286) | (refine and_el (hz284) ?_; intro hz285 hz286))
  clear hz284
  subst hz285
  (first | (refine ep_el (by walk_at "MY_INH") (hz286) ?_; generalize ep _ _ = mx2; intro hz287) | (refine and_el (hz286) ?_; intro mx2 hz287))
  clear hz286
  (first | (refine ep_el (by walk_at "MY_INH") (hz287) ?_; generalize ep _ _ = md2; intro hz288) | (refine and_el (hz287) ?_; intro md2 hz288))
  clear hz287
  (first | (refine ep_el (by walk_at "MY_INH") (hz288) ?_; generalize ep _ _ = mk2; intro DF2) | (refine and_el (hz288) ?_; intro mk2 DF2))
  clear hz288
  clear N1 F1
  walk_at "MY_STEPS"
  refine Stop.mk ?_
  refine conR_use (rows_m (b := b2) (p := c2) (flat_len DF2)) BB (by assumption) XX TT rfl N2 (by walk_at "MY_MEM") (by walk_at "MY_MEM") (by walk_at "MY_MEM") (by decide) (by decide) ?_
  intro h3 tk3 tl3 rR
  intro F3 N3 hne3 ho3
  (first | (refine ep_el (by walk_at "MY_INH") (ho3) ?_; generalize ep _ _ = R; intro hz289) | (refine and_el (ho3) ?_; intro R hz289))
  clear ho3
  (first | (refine ep_el (by walk_at "MY_INH") (hz289) ?_; generalize ep _ _ = nR; intro hz290) | (refine and_el (hz289) ?_; intro nR hz290))
  clear hz289
  (first | (refine ep_el (by walk_at "MY_INH") (hz290) ?_; generalize ep _ _ = hz291; intro mR) | (refine and_el (hz290) ?_; intro hz291 mR))
  clear hz290
  subst hz291
  clear N2 F2
  walk_at "MY_STEPS"
  refine Stop.mk ⟨by trivial, ?_⟩
  rename_i FL NL
  have old : ∀ q ∈ T, q ∈ tl3 ++ tl2 ++ tl1 ++ T := fun q hq => List.mem_append.mpr (.inr hq)
  exact K _ _ _ (tl3 ++ tl2 ++ tl1 ++ T) W R (fr_kst (ps := [(Str.ofString "first", .int fst tC), (Str.ofString "flat", .int f t1), (Str.ofString "path", .ref x), (Str.ofString "ahead", .int ah t2), (Str.ofString "was", .ref W), (Str.ofString "rows", .ref R)]) FL (cons_all rfl (cons_all rfl (cons_all rfl (cons_all rfl (cons_all rfl (cons_all rfl nil_all))))))) (cells_apps (news_rest NL))
    (Off.app (Off.app (Off.app (off_of hne3 (by walk_at "MY_MEM") (by walk_at "MY_MEM") (by walk_at "MY_MEM") (by walk_at "MY_MEM")) (off_of hne2 (by walk_at "MY_MEM") (by walk_at "MY_MEM") (by walk_at "MY_MEM") (by walk_at "MY_MEM"))) (off_of hne1 (by walk_at "MY_MEM") (by walk_at "MY_MEM") (by walk_at "MY_MEM") (by walk_at "MY_MEM"))) hT) (DP.mono old) (old _ mx) (old _ md) (old _ mk) (DF.mono old) (.list (mem_V mW) (DF.mono old)) (.list (mem_S mR) (Mine.DatAll.monoS (seqs_cells c5 c4 c3 e2) DF2))

theorem off_st9 : True := by
  k_with "OFF:st9" => skip
  trivial
end
section
theorem on_f43 : True := by
  w_top off
  k_with "MY:MY_STEPS" => ((fail_if_success (k_extra "OFF:st10")); (repeat' (first | (k_unfold; (try dsimp only)) | ((fail_if_success (with_reducible show Stop _)); k_end; wrow_close) | (dsimp only; walk1) | walk1 | (leave1; walk_say "STEP leave1"; try dsimp only) | fail "no step")))
  k_with "MY:call ref" => ((fail_if_success (k_extra "OFF:st10")); (refine stop_here ?_))
  k_with "MY:compareOp NotEq ref ref" => ((fail_if_success (k_extra "OFF:st10")); (refine stop_here ?_))
  k_with "MY:subscriptTail Name Slice ref ref" => ((fail_if_success (k_extra "OFF:st10")); (refine stop_here ?_))
  trivial
set_option maxRecDepth 100000 in
set_option maxHeartbeats 20000000 in
theorem stage10 {w : World} {S1 : Shared} {L : Nat} {mean : ExcName → Option Value} {mg mb : Str → Option Value} {fa : Addr} {cdw : Value} {E : Value → Shared → Prop} {Q : Flow → Shared → Prop}
    (XX : (Mine.hd.heap_39 w.params).In S1.heap) (TT : Top Mine.hd.view_39 loose0 mean mg mb S1.heap)
    {h : Heap} {tk : Nat} {m : Str → Option Value} {fst : Int} {tC : Tok} {o5 o4 o3 o2 : Obj} {T : List (Addr × Obj)} {f ah : Int} {t1 t2 tm : Tok} {x d k W R : Nat} {a1 a2 a3 a4 : Tok} {b p : Value} {fs : List Value} {n : Nat} {q : Quad} {cz : Bool}
    (F : Fr S1.heap L h (kstB m [(Str.ofString "first", .int fst tC), (Str.ofString "flat", .int f t1), (Str.ofString "path", .ref x), (Str.ofString "ahead", .int ah t2), (Str.ofString "was", .ref W), (Str.ofString "rows", .ref R)]))
    (N : News S1.heap L h ((L + 1 + 1 + 1 + 1 + 1, o5) :: (L + 1 + 1 + 1 + 1, o4) :: (L + 1 + 1 + 1, o3) :: (L + 1 + 1, o2) :: T)) (hah : ah = 0 ∨ ah = 1)
    (mx : (x, instObj 184 d) ∈ T) (md : (d, pathD w a1 a2 a3 a4 tm k b p) ∈ T) (mk : (k, listOf fs.toArray n) ∈ T)
    (DF : DatAll T fs ((lawRows q (decide (ah = 1)) cz).map rowD)) (DW : DatIn T (.ref W) (.list ((lawRows q (decide (ah = 1)) cz).map rowD)))
    (DR : DatIn T (.ref R) (.list ((pathRows (lawP q (decide (ah = 1))) (lawLs q f (decide (ah = 1))) cz).map rowD)))
    (K : ∀ (h : Heap) (tk : Nat),
      Fr S1.heap L h (kstB m [(Str.ofString "first", .int fst tC), (Str.ofString "flat", .int f t1), (Str.ofString "path", .ref x), (Str.ofString "ahead", .int ah t2), (Str.ofString "was", .ref W), (Str.ofString "rows", .ref R)]) →
      News S1.heap L h ((L + 1 + 1 + 1 + 1 + 1, o5) :: (L + 1 + 1 + 1 + 1, o4) :: (L + 1 + 1 + 1, o3) :: (L + 1 + 1, o2) :: T) →
      wpAny (model PySem.Challenge.rw_nt0495_01.row.prog w) (callerA.deeper (lawE w.params L fa cdw)) (execs ((lawB w.params).drop 10) (lawE w.params L fa cdw)) Q E { S1 with heap := h, toks := tk }) :
    wpAny (model PySem.Challenge.rw_nt0495_01.row.prog w) (callerA.deeper (lawE w.params L fa cdw)) (execs ((lawB w.params).drop 9) (lawE w.params L fa cdw)) Q E { S1 with heap := h, toks := tk } := by
  revert XX TT F N hah mx md mk DF DW DR K
  revert w S1 L mean mg mb fa cdw E Q h tk m fst tC o5 o4 o3 o2 T f ah t1 t2 tm x d k W R a1 a2 a3 a4 b p fs n q cz
  (apply cx_all32; (case i => walk_at "MY_INHP"); generalize cx _ _ = x9; generalize x9.1 = w, x9.2.1 = S1, x9.2.2.1 = L, x9.2.2.2.1 = mean, x9.2.2.2.2.1 = mg, x9.2.2.2.2.2.1 = mb, x9.2.2.2.2.2.2.1 = fa, x9.2.2.2.2.2.2.2.1 = cdw, x9.2.2.2.2.2.2.2.2.1 = E, x9.2.2.2.2.2.2.2.2.2.1 = Q, x9.2.2.2.2.2.2.2.2.2.2.1 = h, x9.2.2.2.2.2.2.2.2.2.2.2.1 = tk, x9.2.2.2.2.2.2.2.2.2.2.2.2.1 = m, x9.2.2.2.2.2.2.2.2.2.2.2.2.2.1 = fst, x9.2.2.2.2.2.2.2.2.2.2.2.2.2.2.1 = tC, x9.2.2.2.2.2.2.2.2.2.2.2.2.2.2.2.1 = o5, x9.2.2.2.2.2.2.2.2.2.2.2.2.2.2.2.2.1 = o4, x9.2.2.2.2.2.2.2.2.2.2.2.2.2.2.2.2.2.1 = o3, x9.2.2.2.2.2.2.2.2.2.2.2.2.2.2.2.2.2.2.1 = o2, x9.2.2.2.2.2.2.2.2.2.2.2.2.2.2.2.2.2.2.2.1 = T, x9.2.2.2.2.2.2.2.2.2.2.2.2.2.2.2.2.2.2.2.2.1 = f, x9.2.2.2.2.2.2.2.2.2.2.2.2.2.2.2.2.2.2.2.2.2.1 = ah, x9.2.2.2.2.2.2.2.2.2.2.2.2.2.2.2.2.2.2.2.2.2.2.1 = t1, x9.2.2.2.2.2.2.2.2.2.2.2.2.2.2.2.2.2.2.2.2.2.2.2.1 = t2, x9.2.2.2.2.2.2.2.2.2.2.2.2.2.2.2.2.2.2.2.2.2.2.2.2.1 = tm, x9.2.2.2.2.2.2.2.2.2.2.2.2.2.2.2.2.2.2.2.2.2.2.2.2.2.1 = x, x9.2.2.2.2.2.2.2.2.2.2.2.2.2.2.2.2.2.2.2.2.2.2.2.2.2.2.1 = d, x9.2.2.2.2.2.2.2.2.2.2.2.2.2.2.2.2.2.2.2.2.2.2.2.2.2.2.2.1 = k, x9.2.2.2.2.2.2.2.2.2.2.2.2.2.2.2.2.2.2.2.2.2.2.2.2.2.2.2.2.1 = W, x9.2.2.2.2.2.2.2.2.2.2.2.2.2.2.2.2.2.2.2.2.2.2.2.2.2.2.2.2.2.1 = R, x9.2.2.2.2.2.2.2.2.2.2.2.2.2.2.2.2.2.2.2.2.2.2.2.2.2.2.2.2.2.2.1 = a1, x9.2.2.2.2.2.2.2.2.2.2.2.2.2.2.2.2.2.2.2.2.2.2.2.2.2.2.2.2.2.2.2 = a2; clear x9)
  k_with "MY:MY_EPS" => (fail_if_success (k_extra "OFF:st10"))
  intro a3 a4 b p fs n q cz
  intro XX TT F N hah mx md mk DF DW DR K
  revert XX
  k_fill
  intro XX
  have BB := below_caller S1.heap
  generalize hab : decide (ah = 1) = ab at *
  (refine ep_el (by walk_at "MY_INH") (list_rT DW) ?_; generalize ep _ _ = x9; generalize x9.1 = vsW, x9.2 = nW; clear x9; intro hz292)
  (first | (refine ep_el (by walk_at "MY_INH") (hz292) ?_; generalize ep _ _ = mW; intro dW) | (refine and_el (hz292) ?_; intro mW dW))
  clear hz292
  (refine ep_el (by walk_at "MY_INH") (list_rT DR) ?_; generalize ep _ _ = x9; generalize x9.1 = vsR, x9.2 = nR; clear x9; intro hz293)
  (first | (refine ep_el (by walk_at "MY_INH") (hz293) ?_; generalize ep _ _ = mR; intro dR) | (refine and_el (hz293) ?_; intro mR dR))
  clear hz293
  have hlW : vsW.length ≤ sizeLine := Nat.le_trans (law_len dW) (by rw [sizeLine_eq]; decide)
  have hlR : vsR.length ≤ sizeLine := Nat.le_trans (flat_len dR) (by rw [sizeLine_eq]; decide)
  dsimp only [lawB, lawE, pickB, pickE, List.drop] at K ⊢
  refine cut_one ?_
  generalize (execs (_ :: _ :: _ :: _ :: _ :: _ :: _ :: _) _ : Sem Flow) = REST at *
  show wpAny _ _ _ _ _ _
  walk_at "MY_STEPS"
  refine Stop.mk ?_
  refine conR_use (rows_m (b := b) (p := p) (law_len DF)) BB (by assumption) XX TT rfl (by assumption) (by walk_at "MY_MEM") (by walk_at "MY_MEM") (by walk_at "MY_MEM") (by decide) (by decide) ?_
  intro h1 tk1 tl1 rV
  intro F1 N1 hne1 ho1
  (first | (refine ep_el (by walk_at "MY_INH") (ho1) ?_; generalize ep _ _ = V; intro hz294) | (refine and_el (ho1) ?_; intro V hz294))
  clear ho1
  (first | (refine ep_el (by walk_at "MY_INH") (hz294) ?_; generalize ep _ _ = nV; intro hz295) | (refine and_el (hz294) ?_; intro nV hz295))
  clear hz294
  (first | (refine ep_el (by walk_at "MY_INH") (hz295) ?_; generalize ep _ _ = hz296; intro mV) | (refine and_el (hz295) ?_; intro hz296 mV))
  clear hz295
  subst hz296
  clear N F hne1
  walk_at "MY_STEPS"
  refine Stop.mk ?_
  refine ne_dat N1 (.list (show (V, _) ∈ _ from by walk_at "MY_MEM") (DF.mono fun q hq => by walk_at "MY_MEM")) (DW.mono fun q hq => by walk_at "MY_MEM") listD_ok listD_ok (show callerA.units + 3 + 64 < cLine by decide) false (by simp) ?_
  clear mx md mk DF DW DR
  walk_at "MY_STEPS"
  refine Stop.mk ?_
  refine cut_upto (s := { S1 with heap := h1, toks := _ }) (k := (1 + ah).toNat) (by omega) F1 N1 (News.isList N1 (show (R, _) ∈ _ from by walk_at "MY_MEM")) ?_ (by with_unfolding_all rfl) (by intro (_ : Value); with_unfolding_all rfl) hlR
  intro D2 h2
  intro F2 N2 l2
  clear N1 F1
  walk_at "MY_STEPS"
  refine Stop.mk ?_
  refine cut_upto (s := { S1 with heap := h2, toks := _ }) (k := (1 + ah).toNat) (by omega) F2 N2 (News.isList N2 (show (W, _) ∈ _ from by walk_at "MY_MEM")) ?_ (by with_unfolding_all rfl) (by intro (_ : Value); with_unfolding_all rfl) hlW
  intro D3 h3
  intro F3 N3 l3
  clear N2 F2
  walk_at "MY_STEPS"
  refine Stop.mk ?_
  refine ne_dat N3 (d := .list (((pathRows (lawP q ab) (lawLs q f ab) cz).take (1 + ah).toNat).map rowD)) (e := .list (((lawRows q ab cz).take (1 + ah).toNat).map rowD)) (.list (show (D2, _) ∈ _ from by walk_at "MY_MEM") ((take_in dR).mono fun q hq => by walk_at "MY_MEM")) (.list (show (D3, _) ∈ _ from by walk_at "MY_MEM") ((take_in dW).mono fun q hq => by walk_at "MY_MEM")) listD_ok listD_ok (show callerA.units + 3 + 64 < cLine by decide) false (by rw [rows_same hab hah]; simp) ?_
  walk_at "MY_STEPS"
  exact Stop.mk ⟨by trivial, K _ _ F3 (kst_newsOf N3 fun q hq => by walk_at "MY_MEM")⟩

theorem off_st10 : True := by
  k_with "OFF:st10" => skip
  trivial
end
section
local macro_rules | `(tactic| walk_at "MY_LAST") => `(tactic| (k_here; (with_reducible show wpAny _ _ (subscriptTail _ _ (Value.ref _) (Value.int _ _)) _ _ _); first
  | (exfalso; (with_reducible rename (Int.fmod _ 2 ≠ 1) => hx9); k_dflt (exact hx9 (by with_reducible assumption)))
  | (exfalso; (with_reducible rename (¬ Int.fmod _ 2 = 1) => hx9); k_dflt (exact hx9 (by with_reducible assumption)))
  | ((with_reducible show wpAny _ _ (subscriptTail _ _ (Value.ref _) (Value.int (-1) _)) _ _ _); k_dflt (refine' item_last ?l ?_ ?s; (case l => with_reducible assumption); (case s => with_unfolding_all rfl); k_whole))
  | (k_dflt (refine' item_tupleT ?t ?a ?b ?c ?d ?_; (case t => with_reducible assumption); (case a => decide); (case b => decide); (case c => rfl); (case d => rfl); k_whole))))
theorem on_f44 : True := by
  w_top off
  k_with "MY:MY_STEPS" => ((fail_if_success (k_extra "OFF:st11")); (repeat' (first | (k_unfold; (try dsimp only)) | ((fail_if_success (with_reducible show Stop _)); k_end; wrow_close) | (dsimp only; walk1) | walk1 | (leave1; walk_say "STEP leave1"; try dsimp only) | fail "no step")))
  k_with "MY:compareOp NotEq ref ref" => ((fail_if_success (k_extra "OFF:st11")); (refine stop_here ?_))
  k_with "MY:subscriptTail" => ((fail_if_success (k_extra "OFF:st11")); (walk_at "MY_LAST"))
  k_with "MY:subscriptTail Name UnaryOp ref int" => ((fail_if_success (k_extra "OFF:st11")); (walk_at "MY_LAST"))
  k_with "MY:subscriptTail Subscript Name UnaryOp Constant ref int" => ((fail_if_success (k_extra "OFF:st11")); (walk_at "MY_LAST"))
  k_with "MY:MY_T0" => ((fail_if_success (k_extra "OFF:st11")); (k_here; (with_reducible show wpAny _ _ (subscriptTail _ _ (Value.ref _) (Value.int 0 _)) _ _ _); k_dflt (refine' item_tup0 ?kzt ?_ ?kzs; (case kzt => with_reducible assumption); (case kzs => with_unfolding_all rfl); k_whole)))
  k_with "MY:subscriptTail Subscript Name UnaryOp Constant ref int" => ((fail_if_success (k_extra "OFF:st11")); (walk_at "MY_T0"))
  k_with "MY:compareOp Eq str str" => ((fail_if_success (k_extra "OFF:st11")); (k_here; refine eq_strF (by decide +kernel) ?_))
  trivial
set_option maxRecDepth 100000 in
set_option maxHeartbeats 20000000 in
theorem stage11 {w : World} {S1 : Shared} {L : Nat} {mean : ExcName → Option Value} {mg mb : Str → Option Value} {fa : Addr} {cdw : Value} {E : Value → Shared → Prop} {Q : Flow → Shared → Prop}
    (XX : (Mine.hd.heap_39 w.params).In S1.heap) (TT : Top Mine.hd.view_39 loose0 mean mg mb S1.heap)
    {h : Heap} {tk : Nat} {m : Str → Option Value} {fst : Int} {tC : Tok} {o5 o4 o3 o2 : Obj} {T : List (Addr × Obj)} {f ah : Int} {t1 t2 : Tok} {x W R : Nat} {pp : Pt} {ls : List Pt}
    (F : Fr S1.heap L h (kstB m [(Str.ofString "first", .int fst tC), (Str.ofString "flat", .int f t1), (Str.ofString "path", .ref x), (Str.ofString "ahead", .int ah t2), (Str.ofString "was", .ref W), (Str.ofString "rows", .ref R)]))
    (N : News S1.heap L h ((L + 1 + 1 + 1 + 1 + 1, o5) :: (L + 1 + 1 + 1 + 1, o4) :: (L + 1 + 1 + 1, o3) :: (L + 1 + 1, o2) :: T)) (hls : ls ≠ [])
    (DR : DatIn T (.ref R) (.list ((pathRows pp ls (decide (Int.fmod (Int.fdiv fst 300) 2 = 1))).map rowD)))
    (K : ∀ (h : Heap) (tk : Nat),
      Fr S1.heap L h (kstB m [(Str.ofString "first", .int fst tC), (Str.ofString "flat", .int f t1), (Str.ofString "path", .ref x), (Str.ofString "ahead", .int ah t2), (Str.ofString "was", .ref W), (Str.ofString "rows", .ref R)]) →
      News S1.heap L h ((L + 1 + 1 + 1 + 1 + 1, o5) :: (L + 1 + 1 + 1 + 1, o4) :: (L + 1 + 1 + 1, o3) :: (L + 1 + 1, o2) :: T) →
      wpAny (model PySem.Challenge.rw_nt0495_01.row.prog w) (callerA.deeper (lawE w.params L fa cdw)) (execs ((lawB w.params).drop 11) (lawE w.params L fa cdw)) Q E { S1 with heap := h, toks := tk }) :
    wpAny (model PySem.Challenge.rw_nt0495_01.row.prog w) (callerA.deeper (lawE w.params L fa cdw)) (execs ((lawB w.params).drop 10) (lawE w.params L fa cdw)) Q E { S1 with heap := h, toks := tk } := by
  revert XX TT F N hls DR K
  revert w S1 L mean mg mb fa cdw E Q h tk m fst tC o5 o4 o3 o2 T f ah t1 t2 x W R pp ls
  (apply cx_all20; (case i => walk_at "MY_INHP"); generalize cx _ _ = x9; generalize x9.1 = w, x9.2.1 = S1, x9.2.2.1 = L, x9.2.2.2.1 = mean, x9.2.2.2.2.1 = mg, x9.2.2.2.2.2.1 = mb, x9.2.2.2.2.2.2.1 = fa, x9.2.2.2.2.2.2.2.1 = cdw, x9.2.2.2.2.2.2.2.2.1 = E, x9.2.2.2.2.2.2.2.2.2.1 = Q, x9.2.2.2.2.2.2.2.2.2.2.1 = h, x9.2.2.2.2.2.2.2.2.2.2.2.1 = tk, x9.2.2.2.2.2.2.2.2.2.2.2.2.1 = m, x9.2.2.2.2.2.2.2.2.2.2.2.2.2.1 = fst, x9.2.2.2.2.2.2.2.2.2.2.2.2.2.2.1 = tC, x9.2.2.2.2.2.2.2.2.2.2.2.2.2.2.2.1 = o5, x9.2.2.2.2.2.2.2.2.2.2.2.2.2.2.2.2.1 = o4, x9.2.2.2.2.2.2.2.2.2.2.2.2.2.2.2.2.2.1 = o3, x9.2.2.2.2.2.2.2.2.2.2.2.2.2.2.2.2.2.2.1 = o2, x9.2.2.2.2.2.2.2.2.2.2.2.2.2.2.2.2.2.2.2 = T; clear x9)
  k_with "MY:MY_EPS" => (fail_if_success (k_extra "OFF:st11"))
  intro f ah t1 t2 x W R pp ls
  intro XX TT F N hls DR K
  revert XX
  k_fill
  intro XX
  have BB := below_caller S1.heap
  dsimp only [lawB, lawE, pickB, pickE, List.drop] at K ⊢
  refine cut_one ?_
  generalize (execs (_ :: _ :: _ :: _ :: _ :: _ :: _ :: _) _ : Sem Flow) = REST at *
  by_cases hcz : Int.fmod (Int.fdiv fst 300) 2 = 1
  · rw [decide_eq_true hcz] at DR
    (refine ep_el (by walk_at "MY_INH") (last_zT (rows := Row.m pp :: ls.map Row.l) DR) ?_; generalize ep _ _ = x9; generalize x9.1 = vs, x9.2.1 = av, x9.2.2 = n; clear x9; intro hz297)
    (first | (refine ep_el (by walk_at "MY_INH") (hz297) ?_; generalize ep _ _ = mR; intro dv) | (refine and_el (hz297) ?_; intro mR dv))
    clear hz297
    have bR := News.isList N (show (R, listOf (vs ++ [Value.ref av]).toArray n) ∈ _ from by walk_at "MY_MEM")
    show wpAny _ _ _ _ _ _
    walk_at "MY_STEPS"
    refine Stop.mk ?_
    (with_reducible rename News _ _ _ _ => NL)
    refine ne_dat NL (d := rowD .z) (e := rowD .z) (dv.mono fun q hq => by walk_at "MY_MEM") (.tuple (List.Mem.head _) (.cons (.str _ _) .nil)) (by decide +kernel) (by decide +kernel) (show callerA.units + 3 + 64 < cLine by decide) false (by simp) ?_
    walk_at "MY_STEPS"
    exact Stop.mk ⟨by trivial, K _ _ (by assumption) (kst_newsOf NL fun q hq => by walk_at "MY_MEM")⟩
  · rw [decide_eq_false hcz] at DR
    (refine ep_el (by walk_at "MY_INH") (last_pT hls DR) ?_; generalize ep _ _ = x9; generalize x9.1 = vs, x9.2.1 = av, x9.2.2.1 = n, x9.2.2.2.1 = nv, x9.2.2.2.2.1 = tv1, x9.2.2.2.2.2 = rr9; clear x9; intro hz298)
    (first | (refine ep_el (by walk_at "MY_INH") (hz298) ?_; generalize ep _ _ = mR; intro mv) | (refine and_el (hz298) ?_; intro mR mv))
    clear hz298
    have bR := News.isList N (show (R, listOf (vs ++ [Value.ref av]).toArray n) ∈ _ from by walk_at "MY_MEM")
    have bV := News.isTup N (show (av, tupO (Value.str (Str.ofString "l") tv1 :: rr9) nv) ∈ _ from by walk_at "MY_MEM")
    show wpAny _ _ _ _ _ _
    walk_at "MY_STEPS"
    exact Stop.mk ⟨by trivial, K _ _ (by assumption) (by assumption)⟩

theorem off_st11 : True := by
  k_with "OFF:st11" => skip
  trivial
end
section
theorem on_f45 : True := by
  w_top off
  k_with "MY:MY_STEPS" => ((fail_if_success (k_extra "OFF:st12")); (repeat' (first | (k_unfold; (try dsimp only)) | ((fail_if_success (with_reducible show Stop _)); k_end; wrow_close) | (dsimp only; walk1) | walk1 | (leave1; walk_say "STEP leave1"; try dsimp only) | fail "no step")))
  k_with "MY:compareOp NotEq ref ref" => ((fail_if_success (k_extra "OFF:st12")); (refine stop_here ?_))
  k_with "MY:subscriptTail Name Slice ref ref" => ((fail_if_success (k_extra "OFF:st12")); (refine stop_here ?_))
  k_with "MY:exec Assign cons ListComp" => ((fail_if_success (k_extra "OFF:st12")); ((with_reducible show wpAny _ _ (exec (Stmt.Assign [Expr.Name _ _] _ _) _) _ _ _); refine stop_here ?_))
  k_with "MY:eval Name" => ((fail_if_success (k_extra "OFF:st12")); (k_here; (with_reducible show wpAny _ _ (eval (Expr.Name _ _) (compEnvC _ _ _ _)) _ _ _); k_dflt (walk_at "MY_BLOCKNAME")))
  k_with "MY:newTuple" => ((fail_if_success (k_extra "OFF:st12")); (k_dflt (refine wpAny_newTuple ?_)))
  k_with "MY:MY_INH" => ((fail_if_success (k_extra "OFF:st12")); (first | exact inh_row | exact inh_ra))
  trivial
set_option maxRecDepth 100000 in
set_option maxHeartbeats 20000000 in
theorem stage12 {w : World} {S1 : Shared} {L : Nat} {mean : ExcName → Option Value} {mg mb : Str → Option Value} {fa : Addr} {cdw : Value} {E : Value → Shared → Prop} {Q : Flow → Shared → Prop}
    (XX : (Mine.hd.heap_39 w.params).In S1.heap) (TT : Top Mine.hd.view_39 loose0 mean mg mb S1.heap)
    {h : Heap} {tk : Nat} {m : Str → Option Value} {fst : Int} {tC : Tok} {o5 o4 o3 o2 : Obj} {T : List (Addr × Obj)} {f ah : Int} {t1 t2 : Tok} {x W R : Nat} {q : Quad} {cz : Bool} {vP : Value}
    (F : Fr S1.heap L h (kstB m [(Str.ofString "first", .int fst tC), (Str.ofString "flat", .int f t1), (Str.ofString "path", .ref x), (Str.ofString "ahead", .int ah t2), (Str.ofString "was", .ref W), (Str.ofString "rows", .ref R)]))
    (N : News S1.heap L h ((L + 1 + 1 + 1 + 1 + 1, o5) :: (L + 1 + 1 + 1 + 1, o4) :: (L + 1 + 1 + 1, o3) :: (L + 1 + 1, o2) :: T)) (hT : Off L T) (DP : DatIn T vP (.list [ptD q.1, ptD q.2.1, ptD q.2.2.1, ptD q.2.2.2])) (hah : ah = 0 ∨ ah = 1)
    (DR : DatIn T (.ref R) (.list ((pathRows (lawP q (decide (ah = 1))) (lawLs q f (decide (ah = 1))) cz).map rowD)))
    (K : ∀ (h : Heap) (tk : Nat) (m : Str → Option Value) (T : List (Addr × Obj)) (Ln : Nat),
      Fr S1.heap L h (kstB m [(Str.ofString "first", .int fst tC), (Str.ofString "flat", .int f t1), (Str.ofString "lines", .ref Ln)]) →
      News S1.heap L h ((L + 1 + 1 + 1 + 1 + 1, o5) :: (L + 1 + 1 + 1 + 1, o4) :: (L + 1 + 1 + 1, o3) :: (L + 1 + 1, o2) :: T) → Off L T → DatIn T vP (.list [ptD q.1, ptD q.2.1, ptD q.2.2.1, ptD q.2.2.2]) →
      DatIn T (.ref Ln) (.list (((ends f 10 q).map Row.l).map rowD)) →
      wpAny (model PySem.Challenge.rw_nt0495_01.row.prog w) (callerA.deeper (lawE w.params L fa cdw)) (execs ((lawB w.params).drop 12) (lawE w.params L fa cdw)) Q E { S1 with heap := h, toks := tk }) :
    wpAny (model PySem.Challenge.rw_nt0495_01.row.prog w) (callerA.deeper (lawE w.params L fa cdw)) (execs ((lawB w.params).drop 11) (lawE w.params L fa cdw)) Q E { S1 with heap := h, toks := tk } := by
  revert XX TT F N hT DP hah DR K
  revert w S1 L mean mg mb fa cdw E Q h tk m fst tC o5 o4 o3 o2 T f ah t1 t2 x W R q cz vP
  (apply cx_all20; (case i => walk_at "MY_INHP"); generalize cx _ _ = x9; generalize x9.1 = w, x9.2.1 = S1, x9.2.2.1 = L, x9.2.2.2.1 = mean, x9.2.2.2.2.1 = mg, x9.2.2.2.2.2.1 = mb, x9.2.2.2.2.2.2.1 = fa, x9.2.2.2.2.2.2.2.1 = cdw, x9.2.2.2.2.2.2.2.2.1 = E, x9.2.2.2.2.2.2.2.2.2.1 = Q, x9.2.2.2.2.2.2.2.2.2.2.1 = h, x9.2.2.2.2.2.2.2.2.2.2.2.1 = tk, x9.2.2.2.2.2.2.2.2.2.2.2.2.1 = m, x9.2.2.2.2.2.2.2.2.2.2.2.2.2.1 = fst, x9.2.2.2.2.2.2.2.2.2.2.2.2.2.2.1 = tC, x9.2.2.2.2.2.2.2.2.2.2.2.2.2.2.2.1 = o5, x9.2.2.2.2.2.2.2.2.2.2.2.2.2.2.2.2.1 = o4, x9.2.2.2.2.2.2.2.2.2.2.2.2.2.2.2.2.2.1 = o3, x9.2.2.2.2.2.2.2.2.2.2.2.2.2.2.2.2.2.2.1 = o2, x9.2.2.2.2.2.2.2.2.2.2.2.2.2.2.2.2.2.2.2 = T; clear x9)
  k_with "MY:MY_EPS" => (fail_if_success (k_extra "OFF:st12"))
  intro f ah t1 t2 x W R q cz vP
  intro XX TT F N hT DP hah DR K
  revert XX
  k_fill
  intro XX
  have BB := below_caller S1.heap
  (refine ep_el (by walk_at "MY_INH") (list_rT DR) ?_; generalize ep _ _ = x9; generalize x9.1 = vsR, x9.2 = nR; clear x9; intro hz299)
  (first | (refine ep_el (by walk_at "MY_INH") (hz299) ?_; generalize ep _ _ = mR; intro dR) | (refine and_el (hz299) ?_; intro mR dR))
  clear hz299
  have hlR := rows_len dR
  have dD := Mine.DatAll.drop dR (1 + ah).toNat
  rw [← List.map_drop, rows_drop q f ah hah cz] at dD
  have hk2 : (vsR.drop (1 + ah).toNat).length ≤ 2000 := by rw [List.length_drop]; omega
  clear dR DR
  dsimp only [lawB, lawE, pickB, pickE, List.drop] at K ⊢
  refine cut_one ?_
  generalize (execs (_ :: _ :: _ :: _ :: _ :: _ :: _ :: _) _ : Sem Flow) = REST at *
  show wpAny _ _ _ _ _ _
  walk_at "MY_STEPS"
  refine Stop.mk ?_
  refine assign_comp (k := (vsR.drop (1 + ah).toNat).length) (b := fun i => decide (i < (ends f 10 q).length)) (F := fun i v _ => (vsR.drop (1 + ah).toNat)[i]? = some v) (by rw [sizeLine_eq]; omega) (by with_unfolding_all rfl) (by rfl) (by rfl) (by with_unfolding_all rfl) (by decide) (by rfl) (by decide) (by rfl) ?_
  walk_at "MY_STEPS"
  refine Stop.mk ?_
  refine cut_from (s := { S1 with heap := h, toks := _ }) (k := (1 + ah).toNat) (by omega) F N (News.isList N (show (R, _) ∈ _ from by walk_at "MY_MEM")) ?_ (by with_unfolding_all rfl) (by intro (_ : Value); with_unfolding_all rfl) (by rw [sizeLine_eq]; omega)
  intro D2 h2
  intro F2 N2 l2
  generalize vsR.drop (1 + ah).toNat = vsD at *
  clear N F
  walk_at "MY_STEPS"
  refine Stop.mk ?_
  refine ⟨_, _, rfl, CSrc.list rfl (News.isList N2 (List.Mem.head _)) (by rw [List.size_toArray]), ?_, ?_, S1.heap, _, _, F2, N2, ?_⟩
  · intro i v C m2 h3 tk3 E3
    intro hik hP hns hm kp
    have F3 := F2.keeps kp
    have N3 := N2.grown kp
    clear N2 F2 K
    refine forIn_one ?_
    (refine ep_el (by walk_at "MY_INH") (row_filterT dD (show vsD[i]? = some v from by rw [← List.getElem?_toArray]; exact hP)) ?_; generalize ep _ _ = x9; generalize x9.1 = r, x9.2 = av; clear x9; intro hz300)
    (first | (refine ep_el (by walk_at "MY_INH") (hz300) ?_; generalize ep _ _ = hv9; intro hz301) | (refine and_el (hz300) ?_; intro hv9 hz301))
    clear hz300
    (first | (refine ep_el (by walk_at "MY_INH") (hz301) ?_; generalize ep _ _ = dv; intro hrz) | (refine and_el (hz301) ?_; intro dv hrz))
    clear hz301
    subst hv9
    clear hP
    have hok := rowD_ok9 r
    walk_at "MY_STEPS"
    refine Stop.mk ?_
    (try dsimp only)
    have N4 := News.push F3 N3 { cls := .type "tuple", data := .seq #[Value.str (Str.ofString "z") tk3] }
    refine ne_dat N4 (d := rowD r) (e := rowD .z) (dv.mono fun q hq => by walk_at "MY_MEM") (.tuple (List.Mem.head _) (.cons (.str _ _) .nil)) hok (by decide +kernel) (show callerA.units + 3 + 64 < cLine by decide) (decide (i < (ends f 10 q).length)) hrz ?_
    walk_at "MY_STEPS"
    exact Stop.mk ⟨rfl, _, _, rfl, fun _ _ e => Heap.get?_push_of_some _ e⟩
  · intro i v C m2 h3 tk3 E3
    intro hik hP hb hns hm kp
    clear K
    walk_at "MY_STEPS"
    exact Stop.mk ⟨[], _, _, rfl, fun _ _ e => e, fun p hp => (nomatch hp), by rw [← List.getElem?_toArray]; exact hP⟩
  · intro D h3 tk3 vs
    intro F3 N3 hne hlen hF
    have dL := rows_lines dD hlen hF
    simp only [AllNe] at hne
    exact Stop.mk ⟨by trivial, K _ _ _ ((D, listOf vs.toArray vs.length) :: T) D (fr_kst (ps := [(Str.ofString "first", .int fst tC), (Str.ofString "flat", .int f t1), (Str.ofString "lines", .ref D)]) F3 (cons_all rfl (cons_all rfl (cons_all rfl nil_all)))) (cells_put N3) (Off.cons ⟨Ne.symm hne.2.2.2.2.1, Ne.symm hne.2.2.2.1, Ne.symm hne.2.2.1, Ne.symm hne.2.1⟩ hT) (DP.mono fun q hq => List.Mem.tail _ hq) (.list (List.Mem.head _) (dL.mono fun q hq => List.Mem.tail _ hq))⟩

theorem off_st12 : True := by
  k_with "OFF:st12" => skip
  trivial
end
section
theorem on_f46 : True := by
  w_top off
  k_with "MY:MY_STEPS" => ((fail_if_success (k_extra "OFF:st13")); (repeat' (first | (k_unfold; (try dsimp only)) | ((fail_if_success (with_reducible show Stop _)); k_end; wrow_close) | (dsimp only; walk1) | walk1 | (leave1; walk_say "STEP leave1"; try dsimp only) | fail "no step")))
  k_with "MY:compareOp NotEq ref ref" => ((fail_if_success (k_extra "OFF:st13")); (refine stop_here ?_))
  k_with "MY:eval ListComp" => ((fail_if_success (k_extra "OFF:st13")); (refine stop_here ?_))
  k_with "MY:MY_LAST" => ((fail_if_success (k_extra "OFF:st13")); (k_here; (with_reducible show wpAny _ _ (subscriptTail _ _ (Value.ref _) (Value.int _ _)) _ _ _); first | ((with_reducible show wpAny _ _ (subscriptTail _ _ (Value.ref _) (Value.int (-1) _)) _ _ _); k_dflt (refine' item_last ?kzl ?_ ?kzs; (case kzl => with_reducible assumption); (case kzs => with_unfolding_all rfl); k_whole)) | (k_dflt (refine' item_tupleT ?kzt ?kza ?kzb ?kzc ?kzd ?_; (case kzt => with_reducible assumption); (case kza => decide); (case kzb => decide); (case kzc => rfl); (case kzd => rfl); k_whole)) | (k_dflt (refine' item_list ?kzl ?kza ?kzb ?kzc ?_ ?kzs ?kzg; (case kzl => with_reducible assumption); (case kzc => with_reducible assumption); (case kza => decide); (case kzb => decide); (case kzs => with_unfolding_all rfl); (case kzg => (intro _; with_unfolding_all rfl)); k_whole))))
  k_with "MY:subscriptTail Name Constant ref int" => ((fail_if_success (k_extra "OFF:st13")); (walk_at "MY_LAST"))
  k_with "MY:subscriptTail Name UnaryOp ref int" => ((fail_if_success (k_extra "OFF:st13")); (walk_at "MY_LAST"))
  k_with "MY:subscriptTail Subscript Name UnaryOp Slice ref ref" => ((fail_if_success (k_extra "OFF:st13")); (refine stop_here ?_))
  k_with "MY:eval Name" => ((fail_if_success (k_extra "OFF:st13")); (k_here; (with_reducible show wpAny _ _ (eval (Expr.Name _ _) (compEnvC _ _ _ _)) _ _ _); k_dflt (walk_at "MY_BLOCKNAME")))
  trivial
set_option maxRecDepth 100000 in
set_option maxHeartbeats 20000000 in
theorem stage13 {w : World} {S1 : Shared} {L : Nat} {mean : ExcName → Option Value} {mg mb : Str → Option Value} {fa : Addr} {cdw : Value} {E : Value → Shared → Prop} {Q : Flow → Shared → Prop}
    (XX : (Mine.hd.heap_39 w.params).In S1.heap) (TT : Top Mine.hd.view_39 loose0 mean mg mb S1.heap)
    {h : Heap} {tk : Nat} {m : Str → Option Value} {fst : Int} {tC : Tok} {o5 o4 o3 o2 : Obj} {T : List (Addr × Obj)} {f : Int} {t1 : Tok} {Ln : Nat} {q : Quad} {vP : Value} {E0 : List Pt}
    (F : Fr S1.heap L h (kstB m [(Str.ofString "first", .int fst tC), (Str.ofString "flat", .int f t1), (Str.ofString "lines", .ref Ln)]))
    (N : News S1.heap L h ((L + 1 + 1 + 1 + 1 + 1, o5) :: (L + 1 + 1 + 1 + 1, o4) :: (L + 1 + 1 + 1, o3) :: (L + 1 + 1, o2) :: T)) (e2 : o2.data = .cell (some vP)) (DP : DatIn T vP (.list [ptD q.1, ptD q.2.1, ptD q.2.2.1, ptD q.2.2.2])) (hlen : E0.length ≤ 1023)
    (DL : DatIn T (.ref Ln) (.list (((E0 ++ [q.2.2.2]).map Row.l).map rowD)))
    (K : ∀ (h : Heap) (tk : Nat),
      Fr S1.heap L h (kstB m [(Str.ofString "first", .int fst tC), (Str.ofString "flat", .int f t1), (Str.ofString "lines", .ref Ln)]) →
      News S1.heap L h ((L + 1 + 1 + 1 + 1 + 1, o5) :: (L + 1 + 1 + 1 + 1, o4) :: (L + 1 + 1 + 1, o3) :: (L + 1 + 1, o2) :: T) →
      wpAny (model PySem.Challenge.rw_nt0495_01.row.prog w) (callerA.deeper (lawE w.params L fa cdw)) (execs ((lawB w.params).drop 13) (lawE w.params L fa cdw)) Q E { S1 with heap := h, toks := tk }) :
    wpAny (model PySem.Challenge.rw_nt0495_01.row.prog w) (callerA.deeper (lawE w.params L fa cdw)) (execs ((lawB w.params).drop 12) (lawE w.params L fa cdw)) Q E { S1 with heap := h, toks := tk } := by
  revert XX TT F N e2 DP hlen DL K
  revert w S1 L mean mg mb fa cdw E Q h tk m fst tC o5 o4 o3 o2 T f t1 Ln q vP E0
  (apply cx_all20; (case i => walk_at "MY_INHP"); generalize cx _ _ = x9; generalize x9.1 = w, x9.2.1 = S1, x9.2.2.1 = L, x9.2.2.2.1 = mean, x9.2.2.2.2.1 = mg, x9.2.2.2.2.2.1 = mb, x9.2.2.2.2.2.2.1 = fa, x9.2.2.2.2.2.2.2.1 = cdw, x9.2.2.2.2.2.2.2.2.1 = E, x9.2.2.2.2.2.2.2.2.2.1 = Q, x9.2.2.2.2.2.2.2.2.2.2.1 = h, x9.2.2.2.2.2.2.2.2.2.2.2.1 = tk, x9.2.2.2.2.2.2.2.2.2.2.2.2.1 = m, x9.2.2.2.2.2.2.2.2.2.2.2.2.2.1 = fst, x9.2.2.2.2.2.2.2.2.2.2.2.2.2.2.1 = tC, x9.2.2.2.2.2.2.2.2.2.2.2.2.2.2.2.1 = o5, x9.2.2.2.2.2.2.2.2.2.2.2.2.2.2.2.2.1 = o4, x9.2.2.2.2.2.2.2.2.2.2.2.2.2.2.2.2.2.1 = o3, x9.2.2.2.2.2.2.2.2.2.2.2.2.2.2.2.2.2.2.1 = o2, x9.2.2.2.2.2.2.2.2.2.2.2.2.2.2.2.2.2.2.2 = T; clear x9)
  k_with "MY:MY_EPS" => (fail_if_success (k_extra "OFF:st13"))
  intro f t1 Ln q vP E0
  intro XX TT F N e2 DP hlen DL K
  revert XX
  k_fill
  intro XX
  have BB := below_caller S1.heap
  (refine ep_el (by walk_at "MY_INH") (last_lineT DL) ?_; generalize ep _ _ = x9; generalize x9.1 = vs, x9.2.1 = al, x9.2.2.1 = n, x9.2.2.2.1 = nl, x9.2.2.2.2.1 = s0, x9.2.2.2.2.2.1 = s1, x9.2.2.2.2.2.2 = s2; clear x9; intro hz302)
  (first | (refine ep_el (by walk_at "MY_INH") (hz302) ?_; generalize ep _ _ = mL; intro hz303) | (refine and_el (hz302) ?_; intro mL hz303))
  clear hz302
  (first | (refine ep_el (by walk_at "MY_INH") (hz303) ?_; generalize ep _ _ = ml; intro hz304) | (refine and_el (hz303) ?_; intro ml hz304))
  clear hz303
  (first | (refine ep_el (by walk_at "MY_INH") (hz304) ?_; generalize ep _ _ = hl; intro dvs) | (refine and_el (hz304) ?_; intro hl dvs))
  clear hz304
  (refine ep_el (by walk_at "MY_INH") (list_ofT DP) ?_; generalize ep _ _ = x9; generalize x9.1 = aP, x9.2.1 = vsP, x9.2.2 = nP; clear x9; intro hz305)
  (first | (refine ep_el (by walk_at "MY_INH") (hz305) ?_; generalize ep _ _ = hz306; intro hz307) | (refine and_el (hz305) ?_; intro hz306 hz307))
  clear hz305
  subst hz306
  (first | (refine ep_el (by walk_at "MY_INH") (hz307) ?_; generalize ep _ _ = mP; intro dP) | (refine and_el (hz307) ?_; intro mP dP))
  clear hz307
  (first | (refine ep_el (by walk_at "MY_INH") (item_at (k := Int.toNat 3) (d := ptD q.2.2.2) dP rfl) ?_; generalize ep _ _ = w3; intro hz308) | (refine and_el (item_at (k := Int.toNat 3) (d := ptD q.2.2.2) dP rfl) ?_; intro w3 hz308))
  (first | (refine ep_el (by walk_at "MY_INH") (hz308) ?_; generalize ep _ _ = hx3; intro d3) | (refine and_el (hz308) ?_; intro hx3 d3))
  clear hz308
  (first | (refine ep_el (by walk_at "MY_INH") (ref_of d3) ?_; generalize ep _ _ = q3; intro hz309) | (refine and_el (ref_of d3) ?_; intro q3 hz309))
  subst hz309
  clear dP DP DL
  dsimp only [lawB, lawE, pickB, pickE, List.drop] at K ⊢
  refine cut_one ?_
  generalize (execs (_ :: _ :: _ :: _ :: _ :: _ :: _ :: _) _ : Sem Flow) = REST at *
  show wpAny _ _ _ _ _ _
  walk_at "MY_STEPS"
  refine Stop.mk ?_
  refine comp_core (k := (vs ++ [Value.ref al]).length) (b := fun i => false) (F := fun i v _ => True) (by rw [sizeLine_eq, List.length_append, List.length_singleton]; omega) (by with_unfolding_all rfl) (by decide) (by rfl) (by decide) (by rfl) ?_
  walk_at "MY_STEPS"
  refine Stop.mk ?_
  refine ⟨_, _, rfl, CSrc.list rfl (News.isList N (show (Ln, _) ∈ _ from by walk_at "MY_MEM")) (by rw [List.size_toArray]), ?_, ?_, ?_⟩
  · intro i v C m2 h3 tk3 E3
    intro hik hP hns hm kp
    have F3 := F.keeps kp
    have N3 := N.grown kp
    refine forIn_one ?_
    (refine ep_el (by walk_at "MY_INH") (lrow2T dvs (show (vs ++ [Value.ref al])[i]? = some v from by rw [← List.getElem?_toArray]; exact hP)) ?_; generalize ep _ _ = x9; generalize x9.1 = pt, x9.2.1 = aw, x9.2.2.1 = nw, x9.2.2.2.1 = z0, x9.2.2.2.2.1 = z1, x9.2.2.2.2.2 = z2; clear x9; intro hz310)
    (first | (refine ep_el (by walk_at "MY_INH") (hz310) ?_; generalize ep _ _ = hv9; intro mw) | (refine and_el (hz310) ?_; intro hv9 mw))
    clear hz310
    subst hv9
    clear N F K hP
    have bV := News.isTup N3 (show (aw, _) ∈ _ from by walk_at "MY_MEM")
    clear mw
    walk_at "MY_STEPS"
    exact Stop.mk ⟨rfl, _, _, rfl, fun _ _ e => e⟩
  · intro i v C m2 h3 tk3 E3
    intro hik hP hb
    cases hb
  · intro D h3 tk3 vs3
    intro kp hD0 hD hlen3 hF
    have hv3 := none_of hlen3
    subst hv3
    have F3 := F.keeps kp
    have N3 := news_add F N kp hD0 (o := listOf ([] : List Value).toArray 0) hD
    clear F N hF hlen3 kp hD0 hD
    walk_at "MY_STEPS"
    refine Stop.mk ?_
    (with_reducible rename News _ _ _ _ => N4)
    refine ne_dat N4 (d := .list []) (e := .list []) (.list (show (D, _) ∈ _ from by walk_at "MY_MEM") .nil) (.list (show (_, listOf _ _) ∈ _ from List.Mem.head _) .nil) (by decide) (by decide) (show callerA.units + 3 + 64 < cLine by decide) false (by simp) ?_
    have bL := News.isList N4 (show (Ln, listOf (vs ++ [Value.ref al]).toArray n) ∈ _ from by walk_at "MY_MEM")
    walk_at "MY_STEPS"
    refine Stop.mk ?_
    (with_reducible rename Fr _ _ _ _ => F4)
    refine kba_turn (value' := PySem.Expr.Name (PySem.Str.ofString "_") ⟨0, 0, 0, 0⟩) (fun _ => rfl) ?_
    refine slice_tuple_from (s := { S1 with heap := _, toks := _ }) (a := 1) F4 N4 (News.isTup N4 (show (al, tupO [Value.str (Str.ofString "l") s0, Value.int q.2.2.2.1 s1, Value.int q.2.2.2.2 s2] nl) ∈ _ from by walk_at "MY_MEM")) (by decide) (by simp) ?_ (by with_unfolding_all rfl) (by intro (_ : Value); with_unfolding_all rfl) (by simp [sizeLine_eq])
    intro h5
    intro F5 N5
    have bP := News.isList N5 (show (aP, _) ∈ _ from by walk_at "MY_MEM")
    clear F4 N4 bL
    walk_at "MY_STEPS"
    refine Stop.mk ?_
    refine ne_dat N5 (d := ptD q.2.2.2) (e := ptD q.2.2.2) (.tuple (List.Mem.head _) (.cons (.int _ _) (.cons (.int _ _) .nil))) (d3.mono fun q hq => by walk_at "MY_MEM") (by rfl) (by rfl) (show callerA.units + 3 + 64 < cLine by decide) false (by simp) ?_
    walk_at "MY_STEPS"
    exact Stop.mk ⟨by trivial, K _ _ F5 (kst_newsOf N5 fun q hq => by walk_at "MY_MEM")⟩

theorem off_st13 : True := by
  k_with "OFF:st13" => skip
  trivial
end
section
theorem on_f47 : True := by
  w_top off
  k_with "MY:MY_STEPS" => ((fail_if_success (k_extra "OFF:st14")); (repeat' (first | (k_unfold; (try dsimp only)) | ((fail_if_success (with_reducible show Stop _)); k_end; wrow_close) | (dsimp only; walk1) | walk1 | (leave1; walk_say "STEP leave1"; try dsimp only) | fail "no step")))
  k_with "MY:binaryOp Add ref ref" => ((fail_if_success (k_extra "OFF:st14")); (refine stop_here ?_))
  k_with "MY:eval ListComp" => ((fail_if_success (k_extra "OFF:st14")); (refine stop_here ?_))
  k_with "MY:MY_LAST" => ((fail_if_success (k_extra "OFF:st14")); (k_here; (with_reducible show wpAny _ _ (subscriptTail _ _ (Value.ref _) (Value.int _ _)) _ _ _); first | (k_dflt (refine' item_list ?kzl ?kza ?kzb ?kzc ?_ ?kzs ?kzg; (case kzl => with_reducible assumption); (case kzc => with_reducible assumption); (case kza => decide); (case kzb => decide); (case kzs => with_unfolding_all rfl); (case kzg => (intro _; with_unfolding_all rfl)); k_whole))))
  k_with "MY:subscriptTail Name Constant ref int" => ((fail_if_success (k_extra "OFF:st14")); (walk_at "MY_LAST"))
  k_with "MY:subscriptTail Name Slice ref ref" => ((fail_if_success (k_extra "OFF:st14")); (refine stop_here ?_))
  k_with "MY:eval Name" => ((fail_if_success (k_extra "OFF:st14")); (k_here; (with_reducible show wpAny _ _ (eval (Expr.Name _ _) (compEnvC _ _ _ _)) _ _ _); k_dflt (walk_at "MY_BLOCKNAME")))
  trivial
set_option maxRecDepth 100000 in
set_option maxHeartbeats 20000000 in
theorem stage14 {w : World} {S1 : Shared} {L : Nat} {mean : ExcName → Option Value} {mg mb : Str → Option Value} {fa : Addr} {cdw : Value} {E : Value → Shared → Prop} {Q : Flow → Shared → Prop}
    (XX : (Mine.hd.heap_39 w.params).In S1.heap) (TT : Top Mine.hd.view_39 loose0 mean mg mb S1.heap)
    {h : Heap} {tk : Nat} {m : Str → Option Value} {fst : Int} {tC : Tok} {o5 o4 o3 o2 : Obj} {T : List (Addr × Obj)} {f : Int} {t1 : Tok} {Ln : Nat} {q : Quad} {vP : Value} {E0 : List Pt}
    (F : Fr S1.heap L h (kstB m [(Str.ofString "first", .int fst tC), (Str.ofString "flat", .int f t1), (Str.ofString "lines", .ref Ln)]))
    (N : News S1.heap L h ((L + 1 + 1 + 1 + 1 + 1, o5) :: (L + 1 + 1 + 1 + 1, o4) :: (L + 1 + 1 + 1, o3) :: (L + 1 + 1, o2) :: T)) (hT : Off L T) (e2 : o2.data = .cell (some vP)) (DP : DatIn T vP (.list [ptD q.1, ptD q.2.1, ptD q.2.2.1, ptD q.2.2.2])) (hlen : E0.length ≤ 1024)
    (DL : DatIn T (.ref Ln) (.list ((E0.map Row.l).map rowD)))
    (K : ∀ (h : Heap) (tk : Nat) (m : Str → Option Value) (T : List (Addr × Obj)) (En nl : Nat) (vl : List Value),
      Fr S1.heap L h (kstB m [(Str.ofString "first", .int fst tC), (Str.ofString "flat", .int f t1), (Str.ofString "lines", .ref Ln), (Str.ofString "ends", .ref En)]) →
      News S1.heap L h ((L + 1 + 1 + 1 + 1 + 1, o5) :: (L + 1 + 1 + 1 + 1, o4) :: (L + 1 + 1 + 1, o3) :: (L + 1 + 1, o2) :: T) → Off L T → DatIn T vP (.list [ptD q.1, ptD q.2.1, ptD q.2.2.1, ptD q.2.2.2]) →
      (Ln, listOf vl.toArray nl) ∈ T → vl.length = E0.length → DatIn T (.ref En) (.list ((q.1 :: E0).map ptD)) →
      wpAny (model PySem.Challenge.rw_nt0495_01.row.prog w) (callerA.deeper (lawE w.params L fa cdw)) (execs ((lawB w.params).drop 14) (lawE w.params L fa cdw)) Q E { S1 with heap := h, toks := tk }) :
    wpAny (model PySem.Challenge.rw_nt0495_01.row.prog w) (callerA.deeper (lawE w.params L fa cdw)) (execs ((lawB w.params).drop 13) (lawE w.params L fa cdw)) Q E { S1 with heap := h, toks := tk } := by
  revert XX TT F N hT e2 DP hlen DL K
  revert w S1 L mean mg mb fa cdw E Q h tk m fst tC o5 o4 o3 o2 T f t1 Ln q vP E0
  (apply cx_all20; (case i => walk_at "MY_INHP"); generalize cx _ _ = x9; generalize x9.1 = w, x9.2.1 = S1, x9.2.2.1 = L, x9.2.2.2.1 = mean, x9.2.2.2.2.1 = mg, x9.2.2.2.2.2.1 = mb, x9.2.2.2.2.2.2.1 = fa, x9.2.2.2.2.2.2.2.1 = cdw, x9.2.2.2.2.2.2.2.2.1 = E, x9.2.2.2.2.2.2.2.2.2.1 = Q, x9.2.2.2.2.2.2.2.2.2.2.1 = h, x9.2.2.2.2.2.2.2.2.2.2.2.1 = tk, x9.2.2.2.2.2.2.2.2.2.2.2.2.1 = m, x9.2.2.2.2.2.2.2.2.2.2.2.2.2.1 = fst, x9.2.2.2.2.2.2.2.2.2.2.2.2.2.2.1 = tC, x9.2.2.2.2.2.2.2.2.2.2.2.2.2.2.2.1 = o5, x9.2.2.2.2.2.2.2.2.2.2.2.2.2.2.2.2.1 = o4, x9.2.2.2.2.2.2.2.2.2.2.2.2.2.2.2.2.2.1 = o3, x9.2.2.2.2.2.2.2.2.2.2.2.2.2.2.2.2.2.2.1 = o2, x9.2.2.2.2.2.2.2.2.2.2.2.2.2.2.2.2.2.2.2 = T; clear x9)
  k_with "MY:MY_EPS" => (fail_if_success (k_extra "OFF:st14"))
  intro f t1 Ln q vP E0
  intro XX TT F N hT e2 DP hlen DL K
  revert XX
  k_fill
  intro XX
  have BB := below_caller S1.heap
  (refine ep_el (by walk_at "MY_INH") (list_rT DL) ?_; generalize ep _ _ = x9; generalize x9.1 = vs, x9.2 = nl; clear x9; intro hz311)
  (first | (refine ep_el (by walk_at "MY_INH") (hz311) ?_; generalize ep _ _ = mL; intro dvs) | (refine and_el (hz311) ?_; intro mL dvs))
  clear hz311
  have hlv : vs.length = E0.length := by
    have := dvs.length
    rwa [List.length_map, List.length_map] at this
  (refine ep_el (by walk_at "MY_INH") (list_ofT DP) ?_; generalize ep _ _ = x9; generalize x9.1 = aP, x9.2.1 = vsP, x9.2.2 = nP; clear x9; intro hz312)
  (first | (refine ep_el (by walk_at "MY_INH") (hz312) ?_; generalize ep _ _ = hvP; intro hz313) | (refine and_el (hz312) ?_; intro hvP hz313))
  clear hz312
  (first | (refine ep_el (by walk_at "MY_INH") (hz313) ?_; generalize ep _ _ = mP; intro dP) | (refine and_el (hz313) ?_; intro mP dP))
  clear hz313
  have DP0 := DP
  subst hvP
  (first | (refine ep_el (by walk_at "MY_INH") (item_at (k := Int.toNat 0) (d := ptD q.1) dP rfl) ?_; generalize ep _ _ = w0; intro hz314) | (refine and_el (item_at (k := Int.toNat 0) (d := ptD q.1) dP rfl) ?_; intro w0 hz314))
  (first | (refine ep_el (by walk_at "MY_INH") (hz314) ?_; generalize ep _ _ = hx0; intro d0) | (refine and_el (hz314) ?_; intro hx0 d0))
  clear hz314
  (first | (refine ep_el (by walk_at "MY_INH") (ref_of d0) ?_; generalize ep _ _ = q0; intro hz315) | (refine and_el (ref_of d0) ?_; intro q0 hz315))
  subst hz315
  have bP := News.isList N (show (aP, _) ∈ _ from by walk_at "MY_MEM")
  clear dP DL
  dsimp only [lawB, lawE, pickB, pickE, List.drop] at K ⊢
  refine cut_one ?_
  generalize (execs (_ :: _ :: _ :: _ :: _ :: _ :: _) _ : Sem Flow) = REST at *
  show wpAny _ _ _ _ _ _
  walk_at "MY_STEPS"
  refine Stop.mk ?_
  refine comp_plain (k := vs.length) (F := fun i v nw => DatIn nw v (ptD (E0.getD i (0, 0)))) (by rw [sizeLine_eq]; omega) (by with_unfolding_all rfl) (by decide) (by rfl) (by decide) (by rfl) ?_
  rename_i lq _ F1 N1 lq1
  walk_at "MY_STEPS"
  refine Stop.mk ?_
  refine ⟨_, _, rfl, CSrc.list rfl (News.isList N1 (show (Ln, _) ∈ _ from by walk_at "MY_MEM")) (by rw [List.size_toArray]), ?_, ?_⟩
  · intro i v C m2 h3 tk3 E3
    intro hik hP hns hm kp
    have F3 := F1.keeps kp
    have N3 := N1.grown kp
    (refine ep_el (by walk_at "MY_INH") (lrow_atT dvs (show vs[i]? = some v from by rw [← List.getElem?_toArray]; exact hP)) ?_; generalize ep _ _ = x9; generalize x9.1 = aw, x9.2.1 = nw, x9.2.2.1 = z0, x9.2.2.2.1 = z1, x9.2.2.2.2 = z2; clear x9; intro hz316)
    (first | (refine ep_el (by walk_at "MY_INH") (hz316) ?_; generalize ep _ _ = hv9; intro mw) | (refine and_el (hz316) ?_; intro hv9 mw))
    clear hz316
    subst hv9
    have bV := News.isTup N3 (show (aw, _) ∈ _ from by walk_at "MY_MEM")
    clear N1 F1 K hP bP
    walk_at "MY_STEPS"
    refine Stop.mk ?_
    refine cut_tup (s := { S1 with heap := h3, toks := _ }) (a := 1) bV (by decide) (by simp) ?_ (by with_unfolding_all rfl) (by intro (_ : Value); with_unfolding_all rfl) (by simp [sizeLine_eq])
    exact Stop.mk ⟨[(h3.objs.size + 1, tupO [Value.int (E0.getD i (0, 0)).1 z1, Value.int (E0.getD i (0, 0)).2 z2] 0)], _, _, rfl, fun _ _ e => Heap.get?_push_of_some _ (Heap.get?_push_of_some _ e), push2_new, .tuple (List.Mem.head _) (.cons (.int _ _) (.cons (.int _ _) .nil))⟩
  · intro D h3 tk3 vs3
    intro kp hD0 hD hlen3 hF
    (first | (refine ep_el (by walk_at "MY_INH") (comp_nws F1 N1 kp hD0 hD hlen3 hF) ?_; generalize ep _ _ = nws; intro hz317) | (refine and_el (comp_nws F1 N1 kp hD0 hD hlen3 hF) ?_; intro nws hz317))
    (first | (refine ep_el (by walk_at "MY_INH") (hz317) ?_; generalize ep _ _ = N3; intro hz318) | (refine and_el (hz317) ?_; intro N3 hz318))
    clear hz317
    (first | (refine ep_el (by walk_at "MY_INH") (hz318) ?_; generalize ep _ _ = hn3; intro hn2) | (refine and_el (hz318) ?_; intro hn3 hn2))
    clear hz318
    have F3 := F1.keeps kp
    have hoffT : Off L ((D, listOf vs3.toArray vs3.length) :: nws) := fun p hp => off_newT N1 (by walk_at "MY_MEM") (by walk_at "MY_MEM") (by walk_at "MY_MEM") (by walk_at "MY_MEM") (hn3 p hp)
    clear bP
    walk_at "MY_STEPS"
    refine Stop.mk ?_
    refine add_lists (vs := [Value.ref q0]) (ws := vs3) F3 N3 (News.isList N3 (show (lq, listOf [Value.ref q0].toArray 0) ∈ _ from by walk_at "MY_MEM")) (News.isList N3 (show (D, listOf vs3.toArray vs3.length) ∈ _ from by walk_at "MY_MEM")) ?_ (by rw [sizeLine_eq, List.length_singleton]; omega)
    intro h5
    intro F5 N5
    have hoff := off_top N3 (by walk_at "MY_MEM") (by walk_at "MY_MEM") (by walk_at "MY_MEM") (by walk_at "MY_MEM")
    clear N3 F3 N1 F1 hF
    walk_at "MY_STEPS"
    refine Stop.mk ⟨by trivial, ?_⟩
    rename_i FL NL
    rw [← hlen3] at hn2
    exact K _ _ _ ((h3.objs.size, listOf ([Value.ref q0] ++ vs3).toArray 0) :: ((D, listOf vs3.toArray vs3.length) :: nws ++ T)) h3.objs.size nl vs (fr_kst (ps := [(Str.ofString "first", .int fst tC), (Str.ofString "flat", .int f t1), (Str.ofString "lines", .ref Ln), (Str.ofString "ends", .ref h3.objs.size)]) FL (cons_all rfl (cons_all rfl (cons_all rfl (cons_all rfl nil_all))))) (cells_up NL) (Off.cons hoff (Off.app hoffT hT)) (DP0.mono fun q hq => List.Mem.tail _ (List.mem_append.mpr (.inr hq))) (List.Mem.tail _ (List.mem_append.mpr (.inr mL))) hlv (chain_ends rfl d0 hn2 (by omega))

theorem off_st14 : True := by
  k_with "OFF:st14" => skip
  trivial
end
section
local macro_rules | `(tactic| walk_at "subscriptTail Name Name ref int") => `(tactic| (walk_at "MY_PAX"; intro v9))
theorem on_f48 : True := by
  w_top off
  k_with "MY:MY_STEPS" => ((fail_if_success (k_extra "OFF:st15")); (repeat' (first | (k_unfold; (try dsimp only)) | ((fail_if_success (with_reducible show Stop _)); k_end; wrow_close) | (dsimp only; walk1) | walk1 | (leave1; walk_say "STEP leave1"; try dsimp only) | fail "no step")))
  k_with "MY:compareOp NotEq ref ref" => ((fail_if_success (k_extra "OFF:st15")); (refine stop_here ?_))
  k_with "MY:eval ListComp" => ((fail_if_success (k_extra "OFF:st15")); (refine stop_here ?_))
  k_with "MY:call builtin:min" => ((fail_if_success (k_extra "OFF:st15")); (refine stop_here ?_))
  k_with "MY:call builtin:max" => ((fail_if_success (k_extra "OFF:st15")); (refine stop_here ?_))
  k_with "MY:eval Name" => ((fail_if_success (k_extra "OFF:st15")); (k_here; (with_reducible show wpAny _ _ (eval (Expr.Name _ _) (compEnvC _ _ _ _)) _ _ _); k_dflt (walk_at "MY_BLOCKNAME")))
  k_with "MY:exec For Name Tuple cons nil" => ((fail_if_success (k_extra "OFF:st15")); (k_here; (with_unfolding_all refine' For_turns (by rename Fr _ _ _ _ => lF'; exact lF') ?_ (hE := ?kzhE9); (case kzhE9 => assumption); k_whole)))
  k_with "MY:pyIter ref" => ((fail_if_success (k_extra "OFF:st15")); (refine stop_here ?_))
  k_with "MY:TurnPost" => ((fail_if_success (k_extra "OFF:st15")); (first | refine TurnPost.next ?_ | refine TurnPost.cont ?_ | refine TurnPost.ret ?_))
  k_with "MY:MY_TUPAT" => ((fail_if_success (k_extra "OFF:st15")); (k_here; (with_reducible show wpAny _ _ (subscriptTail _ _ (Value.ref _) (Value.int _ _)) _ _ _); k_dflt (refine' item_tupleT ?kzt ?kza ?kzb ?kzc ?kzd ?_; (case kzt => with_reducible assumption); (case kza => decide); (case kzb => decide); (case kzc => rfl); (case kzd => rfl); k_whole)))
  k_with "MY:MY_PAX" => ((fail_if_success (k_extra "OFF:st15")); (k_here; (with_reducible show wpAny _ _ (subscriptTail _ _ (Value.ref _) (Value.int _ _)) _ _ _); k_dflt (refine' item_ax ?kzt ?kzb ?_ ?kzs; (case kzt => with_reducible assumption); (case kzb => with_reducible assumption); (case kzs => with_unfolding_all rfl); k_whole)))
  trivial
structure AxS where
  o5 : Obj
  o4 : Obj
  o3 : Obj
def AxS.led (Dt tk L : Nat) (o2 : Obj) (T : List (Addr × Obj)) (c : AxS) : List (Addr × Obj) := (Dt, tupO [Value.int 0 tk, Value.int 1 (tk + 1)] 0) :: (L + 1 + 1 + 1 + 1 + 1, c.o5) :: (L + 1 + 1 + 1 + 1, c.o4) :: (L + 1 + 1 + 1, c.o3) :: (L + 1 + 1, o2) :: T
def AxS.good (c : AxS) : Prop := (∃ v, c.o5.data = .cell v) ∧ (∃ v, c.o4.data = .cell v) ∧ (∃ v, c.o3.data = .cell v)
theorem ne_tup {h₀ h : Heap} {L a : Addr} {m : Str → Option Value} {x : List Value} {n : Nat} (F : Fr h₀ L h m) (e : h.get? a = some (tupO x n)) : a ≠ L := fun e2 => by
  obtain ⟨o, es, ep, ho, hd, _⟩ := F.ns
  rw [← e2, e] at ho
  rw [← Option.some.inj ho] at hd
  cases hd
theorem inh_axs : Nonempty AxS := ⟨⟨{ cls := .type "cell", data := .cell none }, { cls := .type "cell", data := .cell none }, { cls := .type "cell", data := .cell none }⟩⟩
theorem on_f49 : True := by
  k_with "MY:MY_INH" => ((fail_if_success (k_extra "OFF:st15")); (exact inh_axs))
  trivial
theorem axs_it {Dt tk L I : Nat} {o2 : Obj} {T : List (Addr × Obj)} {c : AxS} (h1 : @LT.lt Nat _ Dt I) (h2 : @LT.lt Nat _ (L + 1 + 1 + 1 + 1 + 1) I) (hT : ∀ p ∈ T, (@Ne Nat p.1 I)) : ∀ p ∈ AxS.led Dt tk L o2 T c, p.2.cls ≠ .type "tuple_iterator" ∨ (@Ne Nat p.1 I) := fun p hp => by
  refine .inr ?_
  simp only [AxS.led, List.mem_cons] at hp
  rcases hp with rfl | rfl | rfl | rfl | rfl | hp
  · exact Nat.ne_of_lt h1
  · exact Nat.ne_of_lt h2
  · dsimp only; omega
  · dsimp only; omega
  · dsimp only; omega
  · exact hT p hp
theorem axs_led {Dt tk L : Nat} {o5 o4 o3 o2 : Obj} {T news : List (Addr × Obj)} (m0 : (Dt, tupO [Value.int 0 tk, Value.int 1 (tk + 1)] 0) ∈ news) (m5 : (L + 1 + 1 + 1 + 1 + 1, o5) ∈ news) (m4 : (L + 1 + 1 + 1 + 1, o4) ∈ news) (m3 : (L + 1 + 1 + 1, o3) ∈ news) (m2 : (L + 1 + 1, o2) ∈ news) (mT : ∀ p ∈ T, p ∈ news) : ∀ p ∈ AxS.led Dt tk L o2 T ⟨o5, o4, o3⟩, p ∈ news := fun p hp => by
  simp only [AxS.led, List.mem_cons] at hp
  rcases hp with rfl | rfl | rfl | rfl | rfl | hp
  · exact m0
  · exact m5
  · exact m4
  · exact m3
  · exact m2
  · exact mT p hp
set_option maxRecDepth 100000 in
set_option maxHeartbeats 20000000 in
theorem stage15 {w : World} {S1 : Shared} {L : Nat} {mean : ExcName → Option Value} {mg mb : Str → Option Value} {fa : Addr} {cdw : Value} {E : Value → Shared → Prop} {Q : Flow → Shared → Prop}
    (XX : (Mine.hd.heap_39 w.params).In S1.heap) (TT : Top Mine.hd.view_39 loose0 mean mg mb S1.heap)
    {h : Heap} {tk : Nat} {m : Str → Option Value} {fst : Int} {tC : Tok} {o5 o4 o3 o2 : Obj} {T : List (Addr × Obj)} {f : Int} {t1 : Tok} {Ln En : Nat} {p0 p1 p2 p3 : Pt} {vP : Value} {E0 : List Pt}
    (hE : PassesOwn (model PySem.Challenge.rw_nt0495_01.row.prog w) (callerA.deeper (lawE w.params L fa cdw)) (lawE w.params L fa cdw) E)
    (F : Fr S1.heap L h (kstB m [(Str.ofString "first", .int fst tC), (Str.ofString "flat", .int f t1), (Str.ofString "lines", .ref Ln), (Str.ofString "ends", .ref En)]))
    (N : News S1.heap L h ((L + 1 + 1 + 1 + 1 + 1, o5) :: (L + 1 + 1 + 1 + 1, o4) :: (L + 1 + 1 + 1, o3) :: (L + 1 + 1, o2) :: T)) (hT : Off L T) (c5 : o5.data = .cell none) (c4 : o4.data = .cell none) (c3 : o3.data = .cell none) (c2 : o2.data = .cell (some vP)) (DP : DatIn T vP (.list [ptD p0, ptD p1, ptD p2, ptD p3])) (hlen : E0.length ≤ 1025)
    (DE : DatIn T (.ref En) (.list (E0.map ptD))) (hq : QB 3000 (p0, p1, p2, p3))
    (hbox : ∀ lx hx ly hy, (Btw lx hx p0.1 ∧ Btw lx hx p1.1 ∧ Btw lx hx p2.1 ∧ Btw lx hx p3.1) → (Btw ly hy p0.2 ∧ Btw ly hy p1.2 ∧ Btw ly hy p2.2 ∧ Btw ly hy p3.2) → ∀ e ∈ E0, Btw lx hx e.1 ∧ Btw ly hy e.2)
    (K : ∀ (h : Heap) (tk : Nat) (m : Str → Option Value) (o5 o4 o3 : Obj),
      Fr S1.heap L h (kstB m [(Str.ofString "first", .int fst tC), (Str.ofString "flat", .int f t1), (Str.ofString "lines", .ref Ln), (Str.ofString "ends", .ref En)]) →
      News S1.heap L h ((L + 1 + 1 + 1 + 1 + 1, o5) :: (L + 1 + 1 + 1 + 1, o4) :: (L + 1 + 1 + 1, o3) :: (L + 1 + 1, o2) :: T) →
      wpAny (model PySem.Challenge.rw_nt0495_01.row.prog w) (callerA.deeper (lawE w.params L fa cdw)) (execs ((lawB w.params).drop 15) (lawE w.params L fa cdw)) Q E { S1 with heap := h, toks := tk }) :
    wpAny (model PySem.Challenge.rw_nt0495_01.row.prog w) (callerA.deeper (lawE w.params L fa cdw)) (execs ((lawB w.params).drop 14) (lawE w.params L fa cdw)) Q E { S1 with heap := h, toks := tk } := by
  revert XX TT hE F N hT c5 c4 c3 c2 DP hlen DE hq hbox K
  revert w S1 L mean mg mb fa cdw E Q h tk m fst tC o5 o4 o3 o2 T f t1 Ln En p0 p1 p2 p3 vP E0
  (apply cx_all20; (case i => walk_at "MY_INHP"); generalize cx _ _ = x9; generalize x9.1 = w, x9.2.1 = S1, x9.2.2.1 = L, x9.2.2.2.1 = mean, x9.2.2.2.2.1 = mg, x9.2.2.2.2.2.1 = mb, x9.2.2.2.2.2.2.1 = fa, x9.2.2.2.2.2.2.2.1 = cdw, x9.2.2.2.2.2.2.2.2.1 = E, x9.2.2.2.2.2.2.2.2.2.1 = Q, x9.2.2.2.2.2.2.2.2.2.2.1 = h, x9.2.2.2.2.2.2.2.2.2.2.2.1 = tk, x9.2.2.2.2.2.2.2.2.2.2.2.2.1 = m, x9.2.2.2.2.2.2.2.2.2.2.2.2.2.1 = fst, x9.2.2.2.2.2.2.2.2.2.2.2.2.2.2.1 = tC, x9.2.2.2.2.2.2.2.2.2.2.2.2.2.2.2.1 = o5, x9.2.2.2.2.2.2.2.2.2.2.2.2.2.2.2.2.1 = o4, x9.2.2.2.2.2.2.2.2.2.2.2.2.2.2.2.2.2.1 = o3, x9.2.2.2.2.2.2.2.2.2.2.2.2.2.2.2.2.2.2.1 = o2, x9.2.2.2.2.2.2.2.2.2.2.2.2.2.2.2.2.2.2.2 = T; clear x9)
  k_with "MY:MY_EPS" => (fail_if_success (k_extra "OFF:st15"))
  intro f t1 Ln En p0 p1 p2 p3 vP E0
  intro XX TT hE F N hT c5 c4 c3 c2 DP hlen DE hq hbox K
  revert XX
  k_fill
  intro XX
  have BB := below_caller S1.heap
  (refine ep_el (by walk_at "MY_INH") (list_ofT DP) ?_; generalize ep _ _ = x9; generalize x9.1 = aP, x9.2.1 = vsP, x9.2.2 = nP; clear x9; intro hz319)
  (first | (refine ep_el (by walk_at "MY_INH") (hz319) ?_; generalize ep _ _ = hz320; intro hz321) | (refine and_el (hz319) ?_; intro hz320 hz321))
  clear hz319
  subst hz320
  (first | (refine ep_el (by walk_at "MY_INH") (hz321) ?_; generalize ep _ _ = mP; intro dP) | (refine and_el (hz321) ?_; intro mP dP))
  clear hz321
  (refine ep_el (by walk_at "MY_INH") (list_rT DE) ?_; generalize ep _ _ = x9; generalize x9.1 = vE, x9.2 = nE; clear x9; intro hz322)
  (first | (refine ep_el (by walk_at "MY_INH") (hz322) ?_; generalize ep _ _ = mE; intro dE) | (refine and_el (hz322) ?_; intro mE dE))
  clear hz322
  have hlE : vE.length = E0.length := by
    have := dE.length
    rwa [List.length_map] at this
  have o2' : ∀ p ∈ T, p.1 ≠ L + 1 + 1 := fun p hp => (hT p hp).1
  have o3' : ∀ p ∈ T, p.1 ≠ L + 1 + 1 + 1 := fun p hp => (hT p hp).2.1
  have o4' : ∀ p ∈ T, p.1 ≠ L + 1 + 1 + 1 + 1 := fun p hp => (hT p hp).2.2.1
  have o5' : ∀ p ∈ T, p.1 ≠ L + 1 + 1 + 1 + 1 + 1 := fun p hp => (hT p hp).2.2.2
  clear DP DE
  dsimp only [lawB, lawE, pickB, pickE, List.drop] at K ⊢
  refine cut_one ?_
  generalize (execs (_ :: _ :: _ :: _ :: _ :: _) _ : Sem Flow) = REST at *
  show wpAny _ _ _ _ _ _
  walk_at "MY_STEPS"
  refine Stop.mk ?_
  rename_i Dt ht Ft Nt lt
  have hT2 : ∀ p ∈ T, (@Ne Nat p.1 Dt) := fun p hp => Ne.symm (allLt_ne lt.2.2.2.2 p hp)
  have hI1 : @LT.lt Nat _ Dt ht.objs.size := Heap.lt_size (Nt _ (List.Mem.head _)).1
  have hI5 : @LT.lt Nat _ (L + 1 + 1 + 1 + 1 + 1) ht.objs.size := Heap.lt_size (Nt (_, o5) (List.Mem.tail _ (List.Mem.head _))).1
  have hIT : ∀ p ∈ T, (@Ne Nat p.1 ht.objs.size) := fun p hp => Nat.ne_of_lt (Heap.lt_size (Nt p (by walk_at "MY_MEM")).1)
  refine turn_tup (σ := AxS) (AxS.led Dt tk L o2 T) (fun _ => []) [] (fun _ c => c.good) ⟨o5, o4, o3⟩ rfl (Nt _ (List.Mem.head _)).1 (ne_tup Ft (Nt _ (List.Mem.head _)).1) Ft Nt (fun p hp => nomatch hp) ⟨⟨_, c5⟩, ⟨_, c4⟩, ⟨_, c3⟩⟩ (fun i c hc => axs_it hI1 hI5 hIT) (fun i c h' m' hc F' N' => (N' _ (List.Mem.head _)).1) ?_ ?_
  · clear Ft Nt
    generalize (ht.objs.size : Nat) = I at *
    intro i v c u hh tk9
    intro oI
    intro hvi hg hcI kF kN
    (first | (refine ep_el (by walk_at "MY_INH") (hg) ?_; generalize ep _ _ = hz323; intro hz324) | (refine and_el (hg) ?_; intro hz323 hz324))
    clear hg
    (first | (refine ep_el (by walk_at "MY_INH") (hz323) ?_; generalize ep _ _ = x5; intro g5) | (refine and_el (hz323) ?_; intro x5 g5))
    clear hz323
    (first | (refine ep_el (by walk_at "MY_INH") (hz324) ?_; generalize ep _ _ = hz325; intro hz326) | (refine and_el (hz324) ?_; intro hz325 hz326))
    clear hz324
    (first | (refine ep_el (by walk_at "MY_INH") (hz325) ?_; generalize ep _ _ = x4; intro g4) | (refine and_el (hz325) ?_; intro x4 g4))
    clear hz325
    (first | (refine ep_el (by walk_at "MY_INH") (hz326) ?_; generalize ep _ _ = x3; intro g3) | (refine and_el (hz326) ?_; intro x3 g3))
    clear hz326
    dsimp only [AxS.led] at kN
    (first | (refine ep_el (by walk_at "MY_INH") (ax_of hvi) ?_; generalize ep _ _ = hi2; intro hz327) | (refine and_el (ax_of hvi) ?_; intro hi2 hz327))
    (first | (refine ep_el (by walk_at "MY_INH") (hz327) ?_; generalize ep _ _ = ti; intro hv) | (refine and_el (hz327) ?_; intro ti hv))
    clear hz327
    subst hv
    show wpAny _ _ _ _ _ _
    walk_at "MY_STEPS"
    (with_reducible rename News _ _ _ _ => N1)
    (with_reducible rename Fr _ _ _ _ => F1)
    (with_reducible rename (Obj.data _ = Data.cell (some (Value.int (i : Int) _))) => d3')
    clear kF kN
    refine Stop.mk ?_
    refine comp_plain (k := 4) (F := fun j v nw => ∃ t, v = .int (axAt i (ptAt (p0, p1, p2, p3) j)) t) (Nat.le_of_ble_eq_true rfl) (by with_unfolding_all rfl) (by decide) (by rfl) (by decide) (by rfl) ?_
    walk_at "MY_STEPS"
    refine Stop.mk ?_
    refine ⟨_, _, rfl, CSrc.list rfl (News.isList N1 (show (aP, listOf vsP.toArray nP) ∈ _ from by walk_at "MY_MEM")) dP.length, ?_, ?_⟩
    · intro j v C m2 h3 tk3 E3
      intro hik hP hns hm kp
      have F3 := F1.keeps kp
      have N3 := N1.grown kp
      have hX := cell_keeps (cell_of N1 (a := L + 1 + 1 + 1) (by walk_at "MY_MEM") d3') kp
      (refine ep_el (by walk_at "MY_INH") (pts_atT (q := (p0, p1, p2, p3)) dP (show vsP[j]? = some v from by rw [← List.getElem?_toArray]; exact hP)) ?_; generalize ep _ _ = x9; generalize x9.1 = qa, x9.2.1 = qn, x9.2.2.1 = qt, x9.2.2.2 = qu; clear x9; intro hz328)
      (first | (refine ep_el (by walk_at "MY_INH") (hz328) ?_; generalize ep _ _ = hv; intro mv) | (refine and_el (hz328) ?_; intro hv mv))
      clear hz328
      subst hv
      have bV := News.isTup N3 (show (qa, _) ∈ _ from by walk_at "MY_MEM")
      clear N1 F1 hP N3
      walk_at "MY_STEPS"
      exact Stop.mk ⟨[], _, _, rfl, fun _ _ e => e, fun p hp => (nomatch hp), _, rfl⟩
    · intro D6 h6 tk6 vs6
      intro kp hD0 hD hlen6 hF
      have hI6 := ints4 hlen6 (ints_of hF)
      have F6 := F1.keeps kp
      have N6 := news_add F1 N1 kp hD0 hD
      have l6 := allNe_new N1 hD0
      simp only [AllNe] at l6
      clear N1 F1 hF hD0 hD kp
      walk_at "MY_STEPS"
      refine Stop.mk ?_
      refine kso_min (by with_reducible assumption) (by with_reducible assumption) (News.isList N6 (List.Mem.head _)) hI6 (by simp) rfl ?_
      intro hh6 Mlo tM6 tkM6
      intro F6b N6b Mlom Mlole
      have N6c := kst_newsOf N6b fun q hq => List.Mem.tail _ hq
      clear F6 N6 N6b
      walk_at "MY_STEPS"
      refine Stop.mk ?_
      refine comp_plain (k := 4) (F := fun j v nw => ∃ t, v = .int (axAt i (ptAt (p0, p1, p2, p3) j)) t) (Nat.le_of_ble_eq_true rfl) (by with_unfolding_all rfl) (by decide) (by rfl) (by decide) (by rfl) ?_
      walk_at "MY_STEPS"
      refine Stop.mk ?_
      refine ⟨_, _, rfl, CSrc.list rfl (News.isList N6c (show (aP, listOf vsP.toArray nP) ∈ _ from by walk_at "MY_MEM")) dP.length, ?_, ?_⟩
      · intro j v C m2 h3 tk3 E3
        intro hik hP hns hm kp
        have F3 := F6b.keeps kp
        have N3 := N6c.grown kp
        have hX := cell_keeps (cell_of N6c (a := L + 1 + 1 + 1) (by walk_at "MY_MEM") d3') kp
        (refine ep_el (by walk_at "MY_INH") (pts_atT (q := (p0, p1, p2, p3)) dP (show vsP[j]? = some v from by rw [← List.getElem?_toArray]; exact hP)) ?_; generalize ep _ _ = x9; generalize x9.1 = qa, x9.2.1 = qn, x9.2.2.1 = qt, x9.2.2.2 = qu; clear x9; intro hz329)
        (first | (refine ep_el (by walk_at "MY_INH") (hz329) ?_; generalize ep _ _ = hv; intro mv) | (refine and_el (hz329) ?_; intro hv mv))
        clear hz329
        subst hv
        have bV := News.isTup N3 (show (qa, _) ∈ _ from by walk_at "MY_MEM")
        clear N6c F6b hP N3
        walk_at "MY_STEPS"
        exact Stop.mk ⟨[], _, _, rfl, fun _ _ e => e, fun p hp => (nomatch hp), _, rfl⟩
      · intro D7 h7 tk7 vs7
        intro kp hD0 hD hlen7 hF
        have hI7 := ints4 hlen7 (ints_of hF)
        have F7 := F6b.keeps kp
        have N7 := news_add F6b N6c kp hD0 hD
        have l7 := allNe_new N6c hD0
        simp only [AllNe] at l7
        clear N6c F6b hF hD0 hD kp
        walk_at "MY_STEPS"
        refine Stop.mk ?_
        refine kso_max (by with_reducible assumption) (by with_reducible assumption) (News.isList N7 (List.Mem.head _)) hI7 (by simp) rfl ?_
        intro hh7 Mhi tM7 tkM7
        intro F7b N7b Mhim Mhile
        have N7c := kst_newsOf N7b fun q hq => List.Mem.tail _ hq
        clear F7 N7 N7b
        walk_at "MY_STEPS"
        (with_reducible rename News _ _ _ _ => N8)
        (with_reducible rename Fr _ _ _ _ => F8)
        (with_reducible rename (Obj.data _ = Data.cell (some (Value.int Mlo _))) => d4')
        (with_reducible rename (Obj.data _ = Data.cell (some (Value.int Mhi _))) => d5')
        have hin := box_ax hq hbox Mlole Mhile
        clear Mlole Mhile Mlom Mhim hI6 hI7
        refine Stop.mk ?_
        refine comp_core (k := vE.length) (b := fun _ => false) (F := fun _ _ _ => True) (by rw [sizeLine_eq]; omega) (by with_unfolding_all rfl) (by decide) (by rfl) (by decide) (by rfl) ?_
        walk_at "MY_STEPS"
        refine Stop.mk ?_
        refine ⟨_, _, rfl, CSrc.list rfl (News.isList N8 (show (En, listOf vE.toArray nE) ∈ _ from by walk_at "MY_MEM")) (by rw [List.size_toArray]), ?_, ?_, ?_⟩
        · intro j v C m2 h3 tk3 E3
          intro hik hP hns hm kp
          have F3 := F8.keeps kp
          have N3 := N8.grown kp
          have hX3 := cell_keeps (cell_of N8 (a := L + 1 + 1 + 1) (by walk_at "MY_MEM") d3') kp
          have hX4 := cell_keeps (cell_of N8 (a := L + 1 + 1 + 1 + 1) (by walk_at "MY_MEM") d4') kp
          have hX5 := cell_keeps (cell_of N8 (a := L + 1 + 1 + 1 + 1 + 1) (by walk_at "MY_MEM") d5') kp
          (refine ep_el (by walk_at "MY_INH") (pt_inT dE (show vE[j]? = some v from by rw [← List.getElem?_toArray]; exact hP)) ?_; generalize ep _ _ = x9; generalize x9.1 = e9, x9.2.1 = aw, x9.2.2.1 = nw, x9.2.2.2.1 = z1, x9.2.2.2.2 = z2; clear x9; intro hz330)
          (first | (refine ep_el (by walk_at "MY_INH") (hz330) ?_; generalize ep _ _ = he9; intro hz331) | (refine and_el (hz330) ?_; intro he9 hz331))
          clear hz330
          (first | (refine ep_el (by walk_at "MY_INH") (hz331) ?_; generalize ep _ _ = hv9; intro mw) | (refine and_el (hz331) ?_; intro hv9 mw))
          clear hz331
          subst hv9
          have bV := News.isTup N3 (show (aw, _) ∈ _ from by walk_at "MY_MEM")
          (first | (refine ep_el (by walk_at "MY_INH") (hin e9 (List.mem_of_getElem? he9)) ?_; generalize ep _ _ = b1; intro b2) | (refine and_el (hin e9 (List.mem_of_getElem? he9)) ?_; intro b1 b2))
          clear N8 F8 K hP hin N3
          refine forIn_one ?_
          walk_at "MY_STEPS"
          exact Stop.mk ⟨by rw [decide_eq_true b2]; rfl, _, _, rfl, fun _ _ e => e⟩
        · intro j v C m h3 tk3 E3
          intro hik hP hb
          cases hb
        · intro D h3 tk3 vs3
          intro kp hD0 hD hlen3 hF
          have hv3 := none_of hlen3
          subst hv3
          have F3 := F8.keeps kp
          have N3 := news_add F8 N8 kp hD0 (o := listOf ([] : List Value).toArray 0) hD
          clear F8 N8 hF hlen3 kp hD0 hD
          walk_at "MY_STEPS"
          refine Stop.mk ?_
          (with_reducible rename News _ _ _ _ => N4)
          refine ne_dat N4 (d := .list []) (e := .list []) (.list (show (D, _) ∈ _ from by walk_at "MY_MEM") .nil) (.list (show (_, listOf _ _) ∈ _ from List.Mem.head _) .nil) (by decide) (by decide) (show callerA.units + 3 + 64 < cLine by decide) false (by simp) ?_
          walk_at "MY_STEPS"
          refine Stop.mk ?_
          (with_reducible rename News _ _ _ _ => N5)
          (with_reducible rename Fr _ _ _ _ => F5)
          exact turn_end ⟨_, _, _⟩ F5 N5 (by walk_at "MY_MEM") (axs_led (by walk_at "MY_MEM") (by walk_at "MY_MEM") (by walk_at "MY_MEM") (by walk_at "MY_MEM") (by walk_at "MY_MEM") (fun p hp => by walk_at "MY_MEM")) (fun p hp => nomatch hp) (fun z _ _ => rfl) ⟨⟨_, d5'⟩, ⟨_, d4'⟩, ⟨_, d3'⟩⟩
  · intro c u hh tk9
    intro hc kF kN
    refine Stop.mk ⟨by trivial, ?_⟩
    exact K _ _ _ c.o5 c.o4 c.o3 (fr_kst (ps := [(Str.ofString "first", .int fst tC), (Str.ofString "flat", .int f t1), (Str.ofString "lines", .ref Ln), (Str.ofString "ends", .ref En)]) kF (cons_all rfl (cons_all rfl (cons_all rfl (cons_all rfl nil_all))))) (news_rest kN)

theorem off_st15 : True := by
  k_with "OFF:st15" => skip
  trivial
end
section
theorem on_f50 : True := by
  w_top off
  k_with "MY:MY_STEPS" => ((fail_if_success (k_extra "OFF:st16")); (repeat' (first | (k_unfold; (try dsimp only)) | ((fail_if_success (with_reducible show Stop _)); k_end; wrow_close) | (dsimp only; walk1) | walk1 | (leave1; walk_say "STEP leave1"; try dsimp only) | fail "no step")))
  k_with "MY:call ref" => ((fail_if_success (k_extra "OFF:st16")); (refine stop_here ?_))
  k_with "MY:call builtin:len" => ((fail_if_success (k_extra "OFF:st16")); (k_here; (with_reducible show wpAny _ _ (call (Value.builtin "len") [Value.ref _]) _ _ _); k_dflt (refine' PyProof.Rows.len_list ?kzt ?kzf ?_; (case kzt => with_reducible assumption); (case kzf => (simp only [List.size_toArray]; omega)); k_whole); (try simp only [List.size_toArray])))
  trivial
theorem most_le {n j : Nat} (h : n ≤ 2 ^ j) : ¬ ((n : Int) > 2 ^ j) := by
  have : ((2 ^ j : Nat) : Int) = (2 : Int) ^ j := by simp
  omega
theorem one_ne {n : Nat} {x : Int} (h : Int.fmod x 5 = 4 → n = 1) (h4 : Int.fmod x 5 = 4) (h1 : ¬ ((n : Int) = 1)) : False := h1 (by rw [h h4]; rfl)
set_option maxRecDepth 100000 in
set_option maxHeartbeats 20000000 in
theorem stage16 {w : World} {S1 : Shared} {L : Nat} {mean : ExcName → Option Value} {mg mb : Str → Option Value} {fa : Addr} {cdw : Value} {E : Value → Shared → Prop} {Q : Flow → Shared → Prop}
    (XX : (Mine.hd.heap_39 w.params).In S1.heap) (TT : Top Mine.hd.view_39 loose0 mean mg mb S1.heap)
    {h : Heap} {tk : Nat} {m : Str → Option Value} {fst : Int} {tC : Tok} {o5 o4 o3 o2 : Obj} {T : List (Addr × Obj)} {f : Int} {t1 : Tok} {Ln En nl : Nat} {vl : List Value} {p0 p1 p2 p3 : Pt} {vP : Value}
    (F : Fr S1.heap L h (kstB m [(Str.ofString "first", .int fst tC), (Str.ofString "flat", .int f t1), (Str.ofString "lines", .ref Ln), (Str.ofString "ends", .ref En)]))
    (N : News S1.heap L h ((L + 1 + 1 + 1 + 1 + 1, o5) :: (L + 1 + 1 + 1 + 1, o4) :: (L + 1 + 1 + 1, o3) :: (L + 1 + 1, o2) :: T)) (hT : Off L T) (e2 : o2.data = .cell (some vP)) (DP : DatIn T vP (.list [ptD p0, ptD p1, ptD p2, ptD p3])) (mL : (Ln, listOf vl.toArray nl) ∈ T) (hq : QB 3000 (p0, p1, p2, p3)) (hf : 4 ≤ f ∧ f ≤ 33)
    (hlv : vl.length ≤ 1024) (hone : Int.fmod fst 5 = 4 → vl.length = 1)
    (hmost : ∀ j, j ≤ 10 → (j = 10 ∨ (farAt (p0, p1, p2, p3) j).1 * (farAt (p0, p1, p2, p3) j).1 + ((farAt (p0, p1, p2, p3) j).2 * (farAt (p0, p1, p2, p3) j).2 + 0) ≤ 16 * f * f) → vl.length ≤ 2 ^ j)
    (K : ∀ (h : Heap) (tk : Nat),
      Fr S1.heap L h (kstB m [(Str.ofString "first", .int fst tC), (Str.ofString "flat", .int f t1), (Str.ofString "lines", .ref Ln), (Str.ofString "ends", .ref En)]) →
      News S1.heap L h ((L + 1 + 1 + 1 + 1 + 1, o5) :: (L + 1 + 1 + 1 + 1, o4) :: (L + 1 + 1 + 1, o3) :: (L + 1 + 1, o2) :: T) →
      wpAny (model PySem.Challenge.rw_nt0495_01.row.prog w) (callerA.deeper (lawE w.params L fa cdw)) (execs ((lawB w.params).drop 16) (lawE w.params L fa cdw)) Q E { S1 with heap := h, toks := tk }) :
    wpAny (model PySem.Challenge.rw_nt0495_01.row.prog w) (callerA.deeper (lawE w.params L fa cdw)) (execs ((lawB w.params).drop 15) (lawE w.params L fa cdw)) Q E { S1 with heap := h, toks := tk } := by
  revert XX TT F N hT e2 DP mL hq hf hlv hone hmost K
  revert w S1 L mean mg mb fa cdw E Q h tk m fst tC o5 o4 o3 o2 T f t1 Ln En nl vl p0 p1 p2 p3 vP
  (apply cx_all20; (case i => walk_at "MY_INHP"); generalize cx _ _ = x9; generalize x9.1 = w, x9.2.1 = S1, x9.2.2.1 = L, x9.2.2.2.1 = mean, x9.2.2.2.2.1 = mg, x9.2.2.2.2.2.1 = mb, x9.2.2.2.2.2.2.1 = fa, x9.2.2.2.2.2.2.2.1 = cdw, x9.2.2.2.2.2.2.2.2.1 = E, x9.2.2.2.2.2.2.2.2.2.1 = Q, x9.2.2.2.2.2.2.2.2.2.2.1 = h, x9.2.2.2.2.2.2.2.2.2.2.2.1 = tk, x9.2.2.2.2.2.2.2.2.2.2.2.2.1 = m, x9.2.2.2.2.2.2.2.2.2.2.2.2.2.1 = fst, x9.2.2.2.2.2.2.2.2.2.2.2.2.2.2.1 = tC, x9.2.2.2.2.2.2.2.2.2.2.2.2.2.2.2.1 = o5, x9.2.2.2.2.2.2.2.2.2.2.2.2.2.2.2.2.1 = o4, x9.2.2.2.2.2.2.2.2.2.2.2.2.2.2.2.2.2.1 = o3, x9.2.2.2.2.2.2.2.2.2.2.2.2.2.2.2.2.2.2.1 = o2, x9.2.2.2.2.2.2.2.2.2.2.2.2.2.2.2.2.2.2.2 = T; clear x9)
  k_with "MY:MY_EPS" => (fail_if_success (k_extra "OFF:st16"))
  intro f t1 Ln En nl vl p0 p1 p2 p3 vP
  intro XX TT F N hT e2 DP mL hq hf hlv hone hmost K
  revert XX
  k_fill
  intro XX
  have BB := below_caller S1.heap
  (refine ep_el (by walk_at "MY_INH") (list_ofT DP) ?_; generalize ep _ _ = x9; generalize x9.1 = aP, x9.2.1 = vsP, x9.2.2 = nP; clear x9; intro hz332)
  (first | (refine ep_el (by walk_at "MY_INH") (hz332) ?_; generalize ep _ _ = hz333; intro hz334) | (refine and_el (hz332) ?_; intro hz333 hz334))
  clear hz332
  subst hz333
  (first | (refine ep_el (by walk_at "MY_INH") (hz334) ?_; generalize ep _ _ = mP; intro dP) | (refine and_el (hz334) ?_; intro mP dP))
  clear hz334
  have bL := News.isList N (show (Ln, listOf vl.toArray nl) ∈ _ from by walk_at "MY_MEM")
  (first | (refine ep_el (by walk_at "MY_INH") (qb_pb hq) ?_; generalize ep _ _ = w0; intro hz335) | (refine and_el (qb_pb hq) ?_; intro w0 hz335))
  (first | (refine ep_el (by walk_at "MY_INH") (hz335) ?_; generalize ep _ _ = w1; intro hz336) | (refine and_el (hz335) ?_; intro w1 hz336))
  clear hz335
  (first | (refine ep_el (by walk_at "MY_INH") (hz336) ?_; generalize ep _ _ = w2; intro w3) | (refine and_el (hz336) ?_; intro w2 w3))
  clear hz336
  have hf2 : 0 ≤ f ∧ f ≤ 100 := ⟨Int.le_trans (by decide) hf.1, Int.le_trans hf.2 (by decide)⟩
  dsimp only [lawB, lawE, pickB, pickE, List.drop] at K ⊢
  refine cut_one ?_
  generalize (execs (_ :: _ :: _ :: _ :: _) _ : Sem Flow) = REST at *
  show wpAny _ _ _ _ _ _
  walk_at "MY_STEPS"
  · exfalso
    have h1 := hone (by with_reducible assumption)
    clear hmost K F N hq
    omega
  · refine Stop.mk ?_
    (with_reducible rename News _ _ _ _ => N1)
    (with_reducible rename Fr _ _ _ _ => F1)
    refine con_useG (most_con p0 p1 p2 p3 f w0 w1 w2 w3 hf2) BB F1 XX N1 TT rfl (has_news N1) (.cons (.list (show (aP, _) ∈ _ from by walk_at "MY_MEM") (dP.mono fun q hq => by walk_at "MY_MEM")) (.cons (.int _ _) .nil)) (by decide) (by decide) ?_
    intro r9 tl2 h2 tk2
    intro F2 N2 hl2 ho2
    (first | (refine ep_el (by walk_at "MY_INH") (ho2) ?_; generalize ep _ _ = j; intro hz337) | (refine and_el (ho2) ?_; intro j hz337))
    clear ho2
    (first | (refine ep_el (by walk_at "MY_INH") (hz337) ?_; generalize ep _ _ = tj; intro hz338) | (refine and_el (hz337) ?_; intro tj hz338))
    clear hz337
    (first | (refine ep_el (by walk_at "MY_INH") (hz338) ?_; generalize ep _ _ = hj; intro hz339) | (refine and_el (hz338) ?_; intro hj hz339))
    clear hz338
    (first | (refine ep_el (by walk_at "MY_INH") (hz339) ?_; generalize ep _ _ = hz340; intro hfar) | (refine and_el (hz339) ?_; intro hz340 hfar))
    clear hz339
    subst hz340
    have hm2 := most_le (hmost j hj hfar)
    clear F1 N1
    walk_at "MY_STEPS"
    exact Stop.mk ⟨by trivial, K _ _ F2 (kst_newsOf N2 fun q hq => List.mem_append.mpr (.inr hq))⟩
  · refine Stop.mk ?_
    (with_reducible rename News _ _ _ _ => N1)
    (with_reducible rename Fr _ _ _ _ => F1)
    refine con_useG (most_con p0 p1 p2 p3 f w0 w1 w2 w3 hf2) BB F1 XX N1 TT rfl (has_news N1) (.cons (.list (show (aP, _) ∈ _ from by walk_at "MY_MEM") (dP.mono fun q hq => by walk_at "MY_MEM")) (.cons (.int _ _) .nil)) (by decide) (by decide) ?_
    intro r9 tl2 h2 tk2
    intro F2 N2 hl2 ho2
    (first | (refine ep_el (by walk_at "MY_INH") (ho2) ?_; generalize ep _ _ = j; intro hz341) | (refine and_el (ho2) ?_; intro j hz341))
    clear ho2
    (first | (refine ep_el (by walk_at "MY_INH") (hz341) ?_; generalize ep _ _ = tj; intro hz342) | (refine and_el (hz341) ?_; intro tj hz342))
    clear hz341
    (first | (refine ep_el (by walk_at "MY_INH") (hz342) ?_; generalize ep _ _ = hj; intro hz343) | (refine and_el (hz342) ?_; intro hj hz343))
    clear hz342
    (first | (refine ep_el (by walk_at "MY_INH") (hz343) ?_; generalize ep _ _ = hz344; intro hfar) | (refine and_el (hz343) ?_; intro hz344 hfar))
    clear hz343
    subst hz344
    have hm2 := most_le (hmost j hj hfar)
    clear F1 N1
    walk_at "MY_STEPS"
    exact Stop.mk ⟨by trivial, K _ _ F2 (kst_newsOf N2 fun q hq => List.mem_append.mpr (.inr hq))⟩

theorem off_st16 : True := by
  k_with "OFF:st16" => skip
  trivial
end
section
theorem on_f51 : True := by
  w_top off
  k_with "MY:MY_STEPS" => ((fail_if_success (k_extra "OFF:st17")); (repeat' (first | (k_unfold; (try dsimp only)) | ((fail_if_success (with_reducible show Stop _)); k_end; wrow_close) | (dsimp only; walk1) | walk1 | (leave1; walk_say "STEP leave1"; try dsimp only) | fail "no step")))
  k_with "MY:call ref" => ((fail_if_success (k_extra "OFF:st17")); (refine stop_here ?_))
  k_with "MY:exec For Name Call cons nil" => ((fail_if_success (k_extra "OFF:st17")); (k_here; (with_unfolding_all refine' For_turns (by rename Fr _ _ _ _ => lF'; exact lF') ?_ (hE := ?kzhE9); (case kzhE9 => assumption); k_whole)))
  k_with "MY:pyIter ref" => ((fail_if_success (k_extra "OFF:st17")); (refine stop_here ?_))
  k_with "MY:TurnPost" => ((fail_if_success (k_extra "OFF:st17")); (first | refine TurnPost.next ?_ | refine TurnPost.cont ?_ | refine TurnPost.ret ?_))
  trivial
theorem cv7_bd {a b c d k B : Int} (h0 : 0 ≤ k) (h7 : k ≤ 7) (ha : -B ≤ a ∧ a ≤ B) (hb : -B ≤ b ∧ b ≤ B) (hc : -B ≤ c ∧ c ≤ B) (hd : -B ≤ d ∧ d ≤ B) : -(343 * B) ≤ cv a b c d k 7 ∧ cv a b c d k 7 ≤ 343 * B := by
  have x := cv_bd h0 h7 ha hb hc hd
  simp only [Int.reduceMul] at x
  exact x
theorem cv7_pts {p0 p1 p2 p3 : Pt} {k : Int} (hq : QB 3000 (p0, p1, p2, p3)) (hk : 0 ≤ k ∧ k ≤ 7) : Bd 21 (cv p0.1 p1.1 p2.1 p3.1 k 7) ∧ Bd 21 (cv p0.2 p1.2 p2.2 p3.2 k 7) := by
  simp only [QB, PB] at hq
  have c1 := cv7_bd (a := p0.1) (b := p1.1) (c := p2.1) (d := p3.1) (B := 3000) hk.1 hk.2 ⟨by omega, by omega⟩ ⟨by omega, by omega⟩ ⟨by omega, by omega⟩ ⟨by omega, by omega⟩
  have c2 := cv7_bd (a := p0.2) (b := p1.2) (c := p2.2) (d := p3.2) (B := 3000) hk.1 hk.2 ⟨by omega, by omega⟩ ⟨by omega, by omega⟩ ⟨by omega, by omega⟩ ⟨by omega, by omega⟩
  exact ⟨Bd.of (by omega), Bd.of (by omega)⟩
theorem pb_343 {e : Pt} (h : PB 3000 e) : Bd 21 e.1 ∧ Bd 21 e.2 ∧ Bd 21 (343 * e.1) ∧ Bd 21 (343 * e.2) := by
  simp only [PB] at h
  exact ⟨Bd.of (by omega), Bd.of (by omega), Bd.of (by omega), Bd.of (by omega)⟩
theorem k_seven {i : Nat} (h : i < 6) : 0 ≤ (1 : Int) + (i : Int) * 1 ∧ (1 : Int) + (i : Int) * 1 ≤ 7 := by omega
theorem led_apps {α : Type} {S U T : List α} {x : α} {a b c d : α} : ∀ p ∈ a :: b :: c :: d :: T, p ∈ S ++ (U ++ x :: a :: b :: c :: d :: T) := fun p hp => List.mem_append.mpr (.inr (List.mem_append.mpr (.inr (List.Mem.tail _ hp))))
set_option maxRecDepth 100000 in
set_option maxHeartbeats 20000000 in
theorem stage17 {w : World} {S1 : Shared} {L : Nat} {mean : ExcName → Option Value} {mg mb : Str → Option Value} {fa : Addr} {cdw : Value} {E : Value → Shared → Prop} {Q : Flow → Shared → Prop}
    (XX : (Mine.hd.heap_39 w.params).In S1.heap) (TT : Top Mine.hd.view_39 loose0 mean mg mb S1.heap)
    {h : Heap} {tk : Nat} {m : Str → Option Value} {fst : Int} {tC : Tok} {o5 o4 o3 o2 : Obj} {T : List (Addr × Obj)} {f : Int} {t1 : Tok} {Ln En : Nat} {p0 p1 p2 p3 : Pt} {vP : Value} {E0 : List Pt}
    (hE : PassesOwn (model PySem.Challenge.rw_nt0495_01.row.prog w) (callerA.deeper (lawE w.params L fa cdw)) (lawE w.params L fa cdw) E)
    (F : Fr S1.heap L h (kstB m [(Str.ofString "first", .int fst tC), (Str.ofString "flat", .int f t1), (Str.ofString "lines", .ref Ln), (Str.ofString "ends", .ref En)]))
    (N : News S1.heap L h ((L + 1 + 1 + 1 + 1 + 1, o5) :: (L + 1 + 1 + 1 + 1, o4) :: (L + 1 + 1 + 1, o3) :: (L + 1 + 1, o2) :: T)) (hT : Off L T) (e2 : o2.data = .cell (some vP)) (DP : DatIn T vP (.list [ptD p0, ptD p1, ptD p2, ptD p3])) (hq : QB 3000 (p0, p1, p2, p3)) (hf : 4 ≤ f ∧ f ≤ 33)
    (DE : DatIn T (.ref En) (.list (E0.map ptD))) (hl1 : 1 ≤ E0.length) (hl2 : E0.length ≤ 1025) (hb : ∀ e ∈ E0, PB 3000 e)
    (hseven : ∀ k : Int, 0 ≤ k ∧ k ≤ 7 → isOn (cv p0.1 p1.1 p2.1 p3.1 k 7, cv p0.2 p1.2 p2.2 p3.2 k 7) E0 (f + 9) 343 = true)
    (K : ∀ (h : Heap) (tk : Nat) (m : Str → Option Value),
      Fr S1.heap L h (kstB m [(Str.ofString "first", .int fst tC), (Str.ofString "flat", .int f t1), (Str.ofString "lines", .ref Ln), (Str.ofString "ends", .ref En)]) →
      News S1.heap L h ((L + 1 + 1 + 1 + 1 + 1, o5) :: (L + 1 + 1 + 1 + 1, o4) :: (L + 1 + 1 + 1, o3) :: (L + 1 + 1, o2) :: T) →
      wpAny (model PySem.Challenge.rw_nt0495_01.row.prog w) (callerA.deeper (lawE w.params L fa cdw)) (execs ((lawB w.params).drop 17) (lawE w.params L fa cdw)) Q E { S1 with heap := h, toks := tk }) :
    wpAny (model PySem.Challenge.rw_nt0495_01.row.prog w) (callerA.deeper (lawE w.params L fa cdw)) (execs ((lawB w.params).drop 16) (lawE w.params L fa cdw)) Q E { S1 with heap := h, toks := tk } := by
  revert XX TT hE F N hT e2 DP hq hf DE hl1 hl2 hb hseven K
  revert w S1 L mean mg mb fa cdw E Q h tk m fst tC o5 o4 o3 o2 T f t1 Ln En p0 p1 p2 p3 vP E0
  (apply cx_all20; (case i => walk_at "MY_INHP"); generalize cx _ _ = x9; generalize x9.1 = w, x9.2.1 = S1, x9.2.2.1 = L, x9.2.2.2.1 = mean, x9.2.2.2.2.1 = mg, x9.2.2.2.2.2.1 = mb, x9.2.2.2.2.2.2.1 = fa, x9.2.2.2.2.2.2.2.1 = cdw, x9.2.2.2.2.2.2.2.2.1 = E, x9.2.2.2.2.2.2.2.2.2.1 = Q, x9.2.2.2.2.2.2.2.2.2.2.1 = h, x9.2.2.2.2.2.2.2.2.2.2.2.1 = tk, x9.2.2.2.2.2.2.2.2.2.2.2.2.1 = m, x9.2.2.2.2.2.2.2.2.2.2.2.2.2.1 = fst, x9.2.2.2.2.2.2.2.2.2.2.2.2.2.2.1 = tC, x9.2.2.2.2.2.2.2.2.2.2.2.2.2.2.2.1 = o5, x9.2.2.2.2.2.2.2.2.2.2.2.2.2.2.2.2.1 = o4, x9.2.2.2.2.2.2.2.2.2.2.2.2.2.2.2.2.2.1 = o3, x9.2.2.2.2.2.2.2.2.2.2.2.2.2.2.2.2.2.2.1 = o2, x9.2.2.2.2.2.2.2.2.2.2.2.2.2.2.2.2.2.2.2 = T; clear x9)
  k_with "MY:MY_EPS" => (fail_if_success (k_extra "OFF:st17"))
  intro f t1 Ln En p0 p1 p2 p3 vP E0
  intro XX TT hE F N hT e2 DP hq hf DE hl1 hl2 hb hseven K
  revert XX
  k_fill
  intro XX
  have BB := below_caller S1.heap
  (refine ep_el (by walk_at "MY_INH") (list_ofT DP) ?_; generalize ep _ _ = x9; generalize x9.1 = aP, x9.2.1 = vsP, x9.2.2 = nP; clear x9; intro hz345)
  (first | (refine ep_el (by walk_at "MY_INH") (hz345) ?_; generalize ep _ _ = hz346; intro hz347) | (refine and_el (hz345) ?_; intro hz346 hz347))
  clear hz345
  subst hz346
  (first | (refine ep_el (by walk_at "MY_INH") (hz347) ?_; generalize ep _ _ = mP; intro dP) | (refine and_el (hz347) ?_; intro mP dP))
  clear hz347
  (first | (refine ep_el (by walk_at "MY_INH") (qb_pb hq) ?_; generalize ep _ _ = w0; intro hz348) | (refine and_el (qb_pb hq) ?_; intro w0 hz348))
  (first | (refine ep_el (by walk_at "MY_INH") (hz348) ?_; generalize ep _ _ = w1; intro hz349) | (refine and_el (hz348) ?_; intro w1 hz349))
  clear hz348
  (first | (refine ep_el (by walk_at "MY_INH") (hz349) ?_; generalize ep _ _ = w2; intro w3) | (refine and_el (hz349) ?_; intro w2 w3))
  clear hz349
  dsimp only [lawB, lawE, pickB, pickE, List.drop] at K ⊢
  refine cut_one ?_
  generalize (execs (_ :: _ :: _ :: _) _ : Sem Flow) = REST at *
  show wpAny _ _ _ _ _ _
  walk_at "MY_STEPS"
  refine Stop.mk ?_
  rename_i ht _ _ _ _ hRg Ft Nt _
  have hIn : ∀ p ∈ (L + 1 + 1 + 1 + 1 + 1, o5) :: (L + 1 + 1 + 1 + 1, o4) :: (L + 1 + 1 + 1, o3) :: (L + 1 + 1, o2) :: T, (@Ne Nat p.1 ht.objs.size) := fun p hp => Nat.ne_of_lt (Heap.lt_size (Nt p hp).1)
  have hI5 : @LT.lt Nat _ (L + 1 + 1 + 1 + 1 + 1) ht.objs.size := Heap.lt_size (Nt (_, o5) (List.Mem.head _)).1
  refine turn_range (σ := Unit) (nn := 6) (fun _ => (L + 1 + 1 + 1 + 1 + 1, o5) :: (L + 1 + 1 + 1 + 1, o4) :: (L + 1 + 1 + 1, o3) :: (L + 1 + 1, o2) :: T) (fun _ => []) [Str.ofString "k"] (fun _ _ => True) () rfl hRg (by rfl) (by rfl) Ft Nt (fun p hp => nomatch hp) trivial (fun i c _ p hp => .inr (hIn p hp)) (fun v s' Q' E' _ hQ => letGo_name hQ) ?_ ?_
  · clear Ft Nt hRg
    intro i v c u hh tk9
    intro oI
    intro hv9 hc9 hcI hi kF kN
    (first | (refine ep_el (by walk_at "MY_INH") (hv9) ?_; generalize ep _ _ = tv; intro hz350) | (refine and_el (hv9) ?_; intro tv hz350))
    clear hv9
    subst hz350
    have hkk := k_seven hi
    generalize (ht.objs.size : Nat) = I at *
    generalize (1 : Int) + (i : Int) * 1 = kk at *
    show wpAny _ _ _ _ _ _
    walk_at "MY_STEPS"
    refine Stop.mk ?_
    (with_reducible rename News _ _ _ _ => N1)
    (with_reducible rename Fr _ _ _ _ => F1)
    refine con_useG (curve_con p0 p1 p2 p3 kk 7 w0 w1 w2 w3 ⟨by decide, by decide⟩ hkk) BB F1 XX N1 TT rfl (has_news N1) (.cons (.list (show (aP, _) ∈ _ from by walk_at "MY_MEM") (dP.mono fun q hq => by walk_at "MY_MEM")) (.cons (.int _ _) (.cons (.int _ _) .nil))) (by decide) (by decide) ?_
    intro r2 tl2 h2 tk2
    intro F2 N2 hl2 ho2
    clear F1 N1
    walk_at "MY_STEPS"
    refine Stop.mk ?_
    (first | (refine ep_el (by walk_at "MY_INH") (cv7_pts hq hkk) ?_; generalize ep _ _ = c1; intro c2) | (refine and_el (cv7_pts hq hkk) ?_; intro c1 c2))
    refine con_useG (on_con (cv p0.1 p1.1 p2.1 p3.1 kk 7, cv p0.2 p1.2 p2.2 p3.2 kk 7) E0 (f + 9) 343 c1 c2 (fun e he => pb_343 (hb e he)) (Bd.of (by clear ho2 hl2 N2 F2 kN kF; omega)) (Bd.of (by decide)) hl1 (by clear ho2 hl2 N2 F2 kN kF; omega)) BB F2 XX N2 TT rfl (has_news N2) (.cons (ho2.mono fun q hq => by walk_at "MY_MEM") (.cons (DE.mono fun q hq => by walk_at "MY_MEM") (.cons (.int _ _) (.cons (.int _ _) .nil)))) (by decide) (by decide) ?_
    intro r3 tl3 h3 tk3
    intro F3 N3 hl3 ho3
    have er3 := bool_of ho3
    subst er3
    rw [hseven kk hkk]
    clear F2 N2 ho3
    walk_at "MY_STEPS"
    refine Stop.mk ?_
    exact turn_end () F3 N3 (by walk_at "MY_MEM") led_apps (fun p hp => nomatch hp) (fr_row1 (x := "k") fun z q3 hz => by simp only [if_neg q3, kstB]; rw [hz]; rfl) trivial
  · intro c u hh tk9
    intro hc9 kF kN
    exact Stop.mk ⟨by trivial, K _ _ _ (fr_kst (ps := [(Str.ofString "first", .int fst tC), (Str.ofString "flat", .int f t1), (Str.ofString "lines", .ref Ln), (Str.ofString "ends", .ref En)]) kF (cons_all rfl (cons_all rfl (cons_all rfl (cons_all rfl nil_all))))) kN⟩

theorem off_st17 : True := by
  k_with "OFF:st17" => skip
  trivial
end
section
theorem on_f52 : True := by
  w_top off
  k_with "MY:MY_STEPS" => ((fail_if_success (k_extra "OFF:st18")); (repeat' (first | (k_unfold; (try dsimp only)) | ((fail_if_success (with_reducible show Stop _)); k_end; wrow_close) | (dsimp only; walk1) | walk1 | (leave1; walk_say "STEP leave1"; try dsimp only) | fail "no step")))
  k_with "MY:call ref" => ((fail_if_success (k_extra "OFF:st18")); (refine stop_here ?_))
  k_with "MY:exec Assign cons ListComp" => ((fail_if_success (k_extra "OFF:st18")); ((with_reducible show wpAny _ _ (exec (Stmt.Assign [Expr.Name _ _] _ _) _) _ _ _); refine stop_here ?_))
  k_with "MY:eval Name" => ((fail_if_success (k_extra "OFF:st18")); (k_here; (with_reducible show wpAny _ _ (eval (Expr.Name _ _) (compEnvC _ _ _ _)) _ _ _); k_dflt (walk_at "MY_BLOCKNAME")))
  trivial
set_option maxRecDepth 100000 in
set_option maxHeartbeats 20000000 in
theorem stage18 {w : World} {S1 : Shared} {L : Nat} {mean : ExcName → Option Value} {mg mb : Str → Option Value} {fa : Addr} {cdw : Value} {E : Value → Shared → Prop} {Q : Flow → Shared → Prop}
    (XX : (Mine.hd.heap_39 w.params).In S1.heap) (TT : Top Mine.hd.view_39 loose0 mean mg mb S1.heap)
    {h : Heap} {tk : Nat} {m : Str → Option Value} {fst : Int} {tC : Tok} {o5 o4 o3 o2 : Obj} {T : List (Addr × Obj)} {f : Int} {t1 : Tok} {Ln En : Nat} {p0 p1 p2 p3 : Pt} {vP : Value} {E0 : List Pt}
    (F : Fr S1.heap L h (kstB m [(Str.ofString "first", .int fst tC), (Str.ofString "flat", .int f t1), (Str.ofString "lines", .ref Ln), (Str.ofString "ends", .ref En)]))
    (N : News S1.heap L h ((L + 1 + 1 + 1 + 1 + 1, o5) :: (L + 1 + 1 + 1 + 1, o4) :: (L + 1 + 1 + 1, o3) :: (L + 1 + 1, o2) :: T)) (hT : Off L T) (e2 : o2.data = .cell (some vP)) (DP : DatIn T vP (.list [ptD p0, ptD p1, ptD p2, ptD p3])) (hq : QB 3000 (p0, p1, p2, p3))
    (DE : DatIn T (.ref En) (.list (E0.map ptD)))
    (K : ∀ (h : Heap) (tk : Nat) (m : Str → Option Value) (T : List (Addr × Obj)) (Cn : Nat),
      Fr S1.heap L h (kstB m [(Str.ofString "ends", .ref En), (Str.ofString "chords", .ref Cn)]) →
      News S1.heap L h T → DatIn T (.ref En) (.list (E0.map ptD)) → DatIn T (.ref Cn) (.list ((chordsOf (p0, p1, p2, p3)).map ptD)) →
      wpAny (model PySem.Challenge.rw_nt0495_01.row.prog w) (callerA.deeper (lawE w.params L fa cdw)) (execs ((lawB w.params).drop 18) (lawE w.params L fa cdw)) Q E { S1 with heap := h, toks := tk }) :
    wpAny (model PySem.Challenge.rw_nt0495_01.row.prog w) (callerA.deeper (lawE w.params L fa cdw)) (execs ((lawB w.params).drop 17) (lawE w.params L fa cdw)) Q E { S1 with heap := h, toks := tk } := by
  revert XX TT F N hT e2 DP hq DE K
  revert w S1 L mean mg mb fa cdw E Q h tk m fst tC o5 o4 o3 o2 T f t1 Ln En p0 p1 p2 p3 vP E0
  (apply cx_all20; (case i => walk_at "MY_INHP"); generalize cx _ _ = x9; generalize x9.1 = w, x9.2.1 = S1, x9.2.2.1 = L, x9.2.2.2.1 = mean, x9.2.2.2.2.1 = mg, x9.2.2.2.2.2.1 = mb, x9.2.2.2.2.2.2.1 = fa, x9.2.2.2.2.2.2.2.1 = cdw, x9.2.2.2.2.2.2.2.2.1 = E, x9.2.2.2.2.2.2.2.2.2.1 = Q, x9.2.2.2.2.2.2.2.2.2.2.1 = h, x9.2.2.2.2.2.2.2.2.2.2.2.1 = tk, x9.2.2.2.2.2.2.2.2.2.2.2.2.1 = m, x9.2.2.2.2.2.2.2.2.2.2.2.2.2.1 = fst, x9.2.2.2.2.2.2.2.2.2.2.2.2.2.2.1 = tC, x9.2.2.2.2.2.2.2.2.2.2.2.2.2.2.2.1 = o5, x9.2.2.2.2.2.2.2.2.2.2.2.2.2.2.2.2.1 = o4, x9.2.2.2.2.2.2.2.2.2.2.2.2.2.2.2.2.2.1 = o3, x9.2.2.2.2.2.2.2.2.2.2.2.2.2.2.2.2.2.2.1 = o2, x9.2.2.2.2.2.2.2.2.2.2.2.2.2.2.2.2.2.2.2 = T; clear x9)
  k_with "MY:MY_EPS" => (fail_if_success (k_extra "OFF:st18"))
  intro f t1 Ln En p0 p1 p2 p3 vP E0
  intro XX TT F N hT e2 DP hq DE K
  revert XX
  k_fill
  intro XX
  have BB := below_caller S1.heap
  (refine ep_el (by walk_at "MY_INH") (list_ofT DP) ?_; generalize ep _ _ = x9; generalize x9.1 = aP, x9.2.1 = vsP, x9.2.2 = nP; clear x9; intro hz351)
  (first | (refine ep_el (by walk_at "MY_INH") (hz351) ?_; generalize ep _ _ = hz352; intro hz353) | (refine and_el (hz351) ?_; intro hz352 hz353))
  clear hz351
  subst hz352
  (first | (refine ep_el (by walk_at "MY_INH") (hz353) ?_; generalize ep _ _ = mP; intro dP) | (refine and_el (hz353) ?_; intro mP dP))
  clear hz353
  (first | (refine ep_el (by walk_at "MY_INH") (qb_pb hq) ?_; generalize ep _ _ = w0; intro hz354) | (refine and_el (qb_pb hq) ?_; intro w0 hz354))
  (first | (refine ep_el (by walk_at "MY_INH") (hz354) ?_; generalize ep _ _ = w1; intro hz355) | (refine and_el (hz354) ?_; intro w1 hz355))
  clear hz354
  (first | (refine ep_el (by walk_at "MY_INH") (hz355) ?_; generalize ep _ _ = w2; intro w3) | (refine and_el (hz355) ?_; intro w2 w3))
  clear hz355
  dsimp only [lawB, lawE, pickB, pickE, List.drop] at K ⊢
  refine cut_one ?_
  generalize (execs (_ :: _ :: _) _ : Sem Flow) = REST at *
  show wpAny _ _ _ _ _ _
  walk_at "MY_STEPS"
  refine Stop.mk ?_
  refine assign_plain (k := 9) (F := fun i v nw => DatIn nw v (ptD (cv p0.1 p1.1 p2.1 p3.1 ((0 : Int) + (i : Int) * 1) 8, cv p0.2 p1.2 p2.2 p3.2 ((0 : Int) + (i : Int) * 1) 8))) (Nat.le_of_ble_eq_true rfl) (by with_unfolding_all rfl) (by rfl) (by rfl) (by with_unfolding_all rfl) (by decide) (by rfl) (by decide) (by rfl) ?_
  walk_at "MY_STEPS"
  refine Stop.mk ?_
  rename_i ht _ _ _ _ hRg Ft Nt _
  refine ⟨_, _, rfl, CSrc.range rfl hRg (by rfl) (by rfl), ?_, S1.heap, _, _, Ft, Nt, ?_⟩
  · intro i v C m2 h3 tk3 E3
    intro hik hP hns hm kp
    have F3 := Ft.keeps kp
    have N3 := Nt.grown kp
    have hX := cell_keeps (cell_of Nt (a := L + 1 + 1) (by walk_at "MY_MEM") e2) kp
    (first | (refine ep_el (by walk_at "MY_INH") (hP) ?_; generalize ep _ _ = tv; intro hz356) | (refine and_el (hP) ?_; intro tv hz356))
    clear hP
    subst hz356
    have hkk : 0 ≤ (0 : Int) + (i : Int) * 1 ∧ (0 : Int) + (i : Int) * 1 ≤ 8 := by omega
    clear Nt Ft K hRg hq
    walk_at "MY_STEPS"
    refine Stop.mk ?_
    refine curve_con p0 p1 p2 p3 _ 8 w0 w1 w2 w3 ⟨by decide, by decide⟩ hkk w mean mg mb _ _ _ _ _ _ _ _ _ _ _ S1.heap L _ _ _ _ _ _ BB F3 XX TT rfl (has_news N3) (.cons (.list (show (aP, _) ∈ _ from by walk_at "MY_MEM") (dP.mono fun q hq => by walk_at "MY_MEM")) (.cons (.int _ _) (.cons (.int _ _) .nil))) (by decide) (by decide) ?_
    intro r tl h4 tk4
    intro hkeep htl ho
    walk_at "MY_STEPS"
    exact Stop.mk ⟨tl, h4, tk4, rfl, hkeep, htl, ho⟩
  · intro D h3 tk3 vs
    intro F3 N3 hne hlen hF
    (first | (refine ep_el (by walk_at "MY_INH") (dat_newsN (i := 0) (d := fun i => ptD (cv p0.1 p1.1 p2.1 p3.1 ((0 : Int) + (i : Int) * 1) 8, cv p0.2 p1.2 p2.2 p3.2 ((0 : Int) + (i : Int) * 1) 8)) (fun j v e => by rw [Nat.zero_add]; obtain ⟨nw, a, _, b⟩ := hF j v e; exact ⟨nw, a, b⟩)) ?_; generalize ep _ _ = nws; intro hz357) | (refine and_el (dat_newsN (i := 0) (d := fun i => ptD (cv p0.1 p1.1 p2.1 p3.1 ((0 : Int) + (i : Int) * 1) 8, cv p0.2 p1.2 p2.2 p3.2 ((0 : Int) + (i : Int) * 1) 8)) (fun j v e => by rw [Nat.zero_add]; obtain ⟨nw, a, _, b⟩ := hF j v e; exact ⟨nw, a, b⟩)) ?_; intro nws hz357))
    (first | (refine ep_el (by walk_at "MY_INH") (hz357) ?_; generalize ep _ _ = hn1; intro hn2) | (refine and_el (hz357) ?_; intro hn1 hn2))
    clear hz357
    rw [hlen] at hn2
    exact Stop.mk ⟨by trivial, K _ _ _ ((D, listOf vs.toArray vs.length) :: (nws ++ T)) D (fr_kst (ps := [(Str.ofString "ends", .ref En), (Str.ofString "chords", .ref D)]) F3 (cons_all rfl (cons_all rfl nil_all))) (chord_news N3 hn1 (fun p hp => by walk_at "MY_MEM")) (DE.mono fun q hq => List.Mem.tail _ (List.mem_append.mpr (.inr hq))) (.list (List.Mem.head _) (DatAll.mono (fun q hq => List.Mem.tail _ (List.mem_append.mpr (.inl hq))) (show DatAll nws vs ((chordsOf (p0, p1, p2, p3)).map ptD) from hn2)))⟩

theorem off_st18 : True := by
  k_with "OFF:st18" => skip
  trivial
end
section
theorem on_f53 : True := by
  w_top off
  k_with "MY:binaryOp Mult int int" => ((fail_if_success (k_extra "OFF:st19")); ((refine mul_int ?_ (bd_mulL (n := 12) (Bd.of (by decide)) (by decide))); (try dsimp only)))
  k_with "MY:MY_STEPS" => ((fail_if_success (k_extra "OFF:st19")); (repeat' (first | (k_unfold; (try dsimp only)) | ((fail_if_success (with_reducible show Stop _)); k_end; wrow_close) | (dsimp only; walk1) | walk1 | (leave1; walk_say "STEP leave1"; try dsimp only) | fail "no step")))
  k_with "MY:call ref" => ((fail_if_success (k_extra "OFF:st19")); (refine stop_here ?_))
  k_with "MY:exec For Name Name cons nil" => ((fail_if_success (k_extra "OFF:st19")); (k_here; (with_unfolding_all refine' For_turns (by rename Fr _ _ _ _ => lF'; exact lF') ?_ (hE := ?kzhE9); (case kzhE9 => assumption); k_whole)))
  k_with "MY:pyIter ref" => ((fail_if_success (k_extra "OFF:st19")); (refine stop_here ?_))
  k_with "MY:TurnPost" => ((fail_if_success (k_extra "OFF:st19")); (first | refine TurnPost.next ?_ | refine TurnPost.cont ?_ | refine TurnPost.ret ?_))
  k_with "MY:MY_TUPAT" => ((fail_if_success (k_extra "OFF:st19")); (k_here; (with_reducible show wpAny _ _ (subscriptTail _ _ (Value.ref _) (Value.int _ _)) _ _ _); k_dflt (refine' item_tupleT ?kzt ?kza ?kzb ?kzc ?kzd ?_; (case kzt => exact News.isTup (by with_reducible assumption) (by walk_at "MY_MEM")); (case kza => decide); (case kzb => decide); (case kzc => rfl); (case kzd => rfl); k_whole)))
  k_with "MY:subscriptTail Name Constant ref int" => ((fail_if_success (k_extra "OFF:st19")); (walk_at "MY_TUPAT"))
  trivial
theorem cv8_bd {a b c d k B : Int} (h0 : 0 ≤ k) (h7 : k ≤ 8) (ha : -B ≤ a ∧ a ≤ B) (hb : -B ≤ b ∧ b ≤ B) (hc : -B ≤ c ∧ c ≤ B) (hd : -B ≤ d ∧ d ≤ B) : -(512 * B) ≤ cv a b c d k 8 ∧ cv a b c d k 8 ≤ 512 * B := by
  have x := cv_bd h0 h7 ha hb hc hd
  simp only [Int.reduceMul] at x
  exact x
theorem chords_bd {q : Quad} (hq : QB 3000 q) : ∀ e ∈ chordsOf q, Bd 21 e.1 ∧ Bd 21 e.2 ∧ Bd 21 (1 * e.1) ∧ Bd 21 (1 * e.2) := by
  intro e he
  obtain ⟨k, hk, rfl⟩ := List.mem_map.mp he
  have hk := List.mem_range.mp hk
  simp only [QB, PB] at hq
  have c1 := cv8_bd (a := q.1.1) (b := q.2.1.1) (c := q.2.2.1.1) (d := q.2.2.2.1) (k := (k : Int)) (B := 3000) (by omega) (by omega) ⟨by omega, by omega⟩ ⟨by omega, by omega⟩ ⟨by omega, by omega⟩ ⟨by omega, by omega⟩
  have c2 := cv8_bd (a := q.1.2) (b := q.2.1.2) (c := q.2.2.1.2) (d := q.2.2.2.2) (k := (k : Int)) (B := 3000) (by omega) (by omega) ⟨by omega, by omega⟩ ⟨by omega, by omega⟩ ⟨by omega, by omega⟩ ⟨by omega, by omega⟩
  exact ⟨Bd.of (by dsimp only; omega), Bd.of (by dsimp only; omega), Bd.of (by dsimp only; omega), Bd.of (by dsimp only; omega)⟩
set_option maxRecDepth 100000 in
set_option maxHeartbeats 20000000 in
theorem stage19 {w : World} {S1 : Shared} {L : Nat} {mean : ExcName → Option Value} {mg mb : Str → Option Value} {fa : Addr} {cdw : Value} {E : Value → Shared → Prop} {Q : Flow → Shared → Prop}
    (XX : (Mine.hd.heap_39 w.params).In S1.heap) (TT : Top Mine.hd.view_39 loose0 mean mg mb S1.heap)
    {h : Heap} {tk : Nat} {m : Str → Option Value} {T : List (Addr × Obj)} {En Cn : Nat} {q : Quad} {E0 : List Pt}
    (hE : PassesOwn (model PySem.Challenge.rw_nt0495_01.row.prog w) (callerA.deeper (lawE w.params L fa cdw)) (lawE w.params L fa cdw) E)
    (F : Fr S1.heap L h (kstB m [(Str.ofString "ends", .ref En), (Str.ofString "chords", .ref Cn)]))
    (N : News S1.heap L h T) (DE : DatIn T (.ref En) (.list (E0.map ptD))) (DC : DatIn T (.ref Cn) (.list ((chordsOf q).map ptD))) (hq : QB 3000 q)
    (hb : ∀ e ∈ E0, PB 3000 e) (height : ∀ e ∈ E0, isOn (512 * e.1, 512 * e.2) (chordsOf q) 10240 1 = true)
    (K : ∀ (h : Heap) (tk : Nat) (m : Str → Option Value), Fr S1.heap L h m → News S1.heap L h T → Q (.ret (.bool true)) { S1 with heap := h, toks := tk }) :
    wpAny (model PySem.Challenge.rw_nt0495_01.row.prog w) (callerA.deeper (lawE w.params L fa cdw)) (execs ((lawB w.params).drop 18) (lawE w.params L fa cdw)) Q E { S1 with heap := h, toks := tk } := by
  revert XX TT hE F N DE DC hq hb height K
  revert w S1 L mean mg mb fa cdw E Q h tk m T En Cn q E0
  k_with "MY:MY_EPS" => (fail_if_success (k_extra "OFF:st19"))
  intro w S1 L mean mg mb fa cdw E Q h tk m T En Cn q E0
  intro XX TT hE F N DE DC hq hb height K
  revert XX
  k_fill
  intro XX
  have BB := below_caller S1.heap
  (refine ep_el (by walk_at "MY_INH") (list_rT DE) ?_; generalize ep _ _ = x9; generalize x9.1 = vE, x9.2 = nE; clear x9; intro hz358)
  (first | (refine ep_el (by walk_at "MY_INH") (hz358) ?_; generalize ep _ _ = mE; intro dE) | (refine and_el (hz358) ?_; intro mE dE))
  clear hz358
  dsimp only [lawB, lawE, pickB, pickE, List.drop]
  show wpAny _ _ _ _ _ _
  walk_at "MY_STEPS"
  refine Stop.mk ?_
  (with_reducible rename Fr _ _ _ _ => F)
  have gE : h.get? En = some (listOf vE.toArray nE) := (N _ mE).1
  refine turn_list (σ := Unit) (fun _ => T) (fun _ => []) [Str.ofString "end"] (fun _ _ => True) () rfl gE (ne_locals F gE) F N (fun p hp => nomatch hp) trivial (fun i c _ p hp => .inr (Nat.ne_of_lt (Heap.lt_size (N p hp).1))) (fun i c h' m' _ F' N' => (N' _ mE).1) ?_ ?_
  · clear F N gE
    intro i v c u hh tk9
    intro I oI
    intro hvi hc9 hcI kF kN
    (refine ep_el (by walk_at "MY_INH") (pt_inT dE hvi) ?_; generalize ep _ _ = x9; generalize x9.1 = e9, x9.2.1 = aw, x9.2.2.1 = nw, x9.2.2.2.1 = z1, x9.2.2.2.2 = z2; clear x9; intro hz359)
    (first | (refine ep_el (by walk_at "MY_INH") (hz359) ?_; generalize ep _ _ = he9; intro hz360) | (refine and_el (hz359) ?_; intro he9 hz360))
    clear hz359
    (first | (refine ep_el (by walk_at "MY_INH") (hz360) ?_; generalize ep _ _ = hv9; intro mw) | (refine and_el (hz360) ?_; intro hv9 mw))
    clear hz360
    subst hv9
    (first | (refine ep_el (by walk_at "MY_INH") (pb_1024 (hb e9 (List.mem_of_getElem? he9))) ?_; generalize ep _ _ = hb2; intro hb3) | (refine and_el (pb_1024 (hb e9 (List.mem_of_getElem? he9))) ?_; intro hb2 hb3))
    have h8 := height e9 (List.mem_of_getElem? he9)
    have bV := News.isTup kN (show (aw, tupO [Value.int e9.1 z1, Value.int e9.2 z2] nw) ∈ _ from by walk_at "MY_MEM")
    show wpAny _ _ _ _ _ _
    clear K
    walk_at "MY_STEPS"
    refine Stop.mk ?_
    (with_reducible rename News _ _ _ _ => N1)
    (with_reducible rename Fr _ _ _ _ => F1)
    refine con_useG (on_con (512 * e9.1, 512 * e9.2) (chordsOf q) 10240 1 hb2 hb3 (chords_bd hq) (Bd.of (by decide)) (Bd.of (by decide)) (by simp [chordsOf]) (by simp [chordsOf])) BB F1 XX N1 TT rfl (has_news N1) (.cons (.tuple (List.Mem.head _) (.cons (.int _ _) (.cons (.int _ _) .nil))) (.cons (DC.mono fun q hq => by walk_at "MY_MEM") (.cons (.int _ _) (.cons (.int _ _) .nil)))) (by decide) (by decide) ?_
    intro r3 tl3 h3 tk3
    intro F3 N3 hl3 ho3
    have er3 := bool_of ho3
    subst er3
    rw [h8]
    clear F1 N1 ho3 bV
    walk_at "MY_STEPS"
    refine Stop.mk ?_
    exact turn_end () F3 N3 (by walk_at "MY_MEM") (sub_app (fun p hp => by walk_at "MY_MEM")) (fun p hp => nomatch hp) (fr_row1 (x := "end") fun z q3 hz => by simp only [if_neg q3, kstB]; rw [hz]; rfl) trivial
  · intro c u hh tk9
    intro hc9 kF kN
    walk_at "MY_STEPS"
    exact K _ _ _ kF kN

theorem off_st19 : True := by
  k_with "OFF:st19" => skip
  trivial
end
section
theorem on_f54 : True := by
  w_top off
  trivial
set_option maxRecDepth 100000 in
set_option maxHeartbeats 20000000 in
theorem join {w : World} {S1 : Shared} {L : Nat} {mean : ExcName → Option Value} {mg mb : Str → Option Value} {fa : Addr} {cdw : Value} {E : Value → Shared → Prop} {Q : Flow → Shared → Prop}
    (XX : (Mine.hd.heap_39 w.params).In S1.heap) (TT : Top Mine.hd.view_39 loose0 mean mg mb S1.heap)
    {h : Heap} {tk : Nat} {m : Str → Option Value} {fst : Int} {tC : Tok} {o5 o4 o3 o2 : Obj} {T : List (Addr × Obj)} {vP : Value} {p0 p1 p2 p3 : Pt}
    (hE : PassesOwn (model PySem.Challenge.rw_nt0495_01.row.prog w) (callerA.deeper (lawE w.params L fa cdw)) (lawE w.params L fa cdw) E)
    (c5 : o5.data = .cell none) (c4 : o4.data = .cell none) (c3 : o3.data = .cell none)
    (hQ : ∀ (h : Heap) (tk : Nat) (m : Str → Option Value), Fr S1.heap L h m → Q (.ret (.bool true)) { S1 with heap := h, toks := tk })
    (F : Fr S1.heap L h (kstB m [(Str.ofString "first", .int fst tC)]))
    (N : News S1.heap L h ((L + 1 + 1 + 1 + 1 + 1, o5) :: (L + 1 + 1 + 1 + 1, o4) :: (L + 1 + 1 + 1, o3) :: (L + 1 + 1, o2) :: T))
    (d2 : o2.data = .cell (some vP)) (hT : Off L T) (DP : DatIn T vP (.list [ptD p0, ptD p1, ptD p2, ptD p3])) (hq : QB 3000 (p0, p1, p2, p3))
    (hor : (decide (Int.fmod fst 5 = 4) = false ∧ QB 300 (p0, p1, p2, p3)) ∨ ∃ r s : Int, p1 = (p0.1 + r, p0.2 + s) ∧ p2 = (p0.1 + 2 * r, p0.2 + 2 * s) ∧ p3 = (p0.1 + 3 * r, p0.2 + 3 * s)) :
    wpAny (model PySem.Challenge.rw_nt0495_01.row.prog w) (callerA.deeper (lawE w.params L fa cdw)) (execs ((lawB w.params).drop 4) (lawE w.params L fa cdw)) Q E { S1 with heap := h, toks := tk } := by
  obtain ⟨aP, _, _, rfl, _, _⟩ := list_of DP
  refine stage5 XX TT F N ?_
  clear F N
  intro h tk m f ah t1 t2 tm x d k a1 a2 a3 a4 F N hlt hT0 hf hah
  have FI : Fine (p0, p1, p2, p3) f (decide (Int.fmod fst 5 = 4)) := fine_of hf.1 (by
    rcases hor with h | ⟨r, s, rfl, rfl, rfl⟩
    · exact .inl h
    · exact .inr flat_line)
  clear hor
  have hlen := FI.len
  have hPB : ∀ e ∈ p0 :: ends f 10 (p0, p1, p2, p3), PB 3000 e := fun e he => by
    obtain ⟨⟨u1, u2, u3, u4⟩, ⟨v1, v2, v3, v4⟩, ⟨w1, w2, w3, w4⟩, ⟨z1, z2, z3, z4⟩⟩ := hq
    obtain ⟨⟨x1, x2⟩, ⟨y1, y2⟩⟩ := FI.box (-3000) 3000 (-3000) 3000 ⟨⟨u1, u2⟩, ⟨v1, v2⟩, ⟨w1, w2⟩, ⟨z1, z2⟩⟩ ⟨⟨u3, u4⟩, ⟨v3, v4⟩, ⟨w3, w4⟩, ⟨z3, z4⟩⟩ e he
    exact ⟨x1, x2, y1, y2⟩
  have hl1 : 1 ≤ (p0 :: ends f 10 (p0, p1, p2, p3)).length := Nat.le_add_left _ _
  have hl2 : (p0 :: ends f 10 (p0, p1, p2, p3)).length ≤ 1025 := by
    rw [List.length_cons]; omega
  refine stage8 XX TT F N d2 hlt hT0 hT DP ?_
  clear F N hlt hT0 hT DP
  intro h tk m T tm x d k a1 a2 a3 a4 b p fs n F N hT DP mx md mk DF
  refine stage9 XX TT F N hT DP c5 c4 c3 d2 hf mx md mk hq DF ?_
  clear F N hT DP mx md mk DF
  intro h tk m T W R F N hT DP mx md mk DF DW DR
  refine stage10 XX TT F N hah mx md mk DF DW DR ?_
  clear F N
  intro h tk F N
  refine stage11 XX TT F N (lawLs_ne (p0, p1, p2, p3) f (decide (ah = 1))) DR ?_
  clear F N
  intro h tk F N
  refine stage12 (q := (p0, p1, p2, p3)) XX TT F N hT DP hah DR ?_
  clear F N hT DP mx md mk DF DW DR
  intro h tk m T Ln F N hT DP DL
  obtain ⟨l, hl⟩ := FI.last
  refine stage13 (q := (p0, p1, p2, p3)) (E0 := l) XX TT F N d2 DP (by have := hlen.2; rw [hl, List.length_append, List.length_singleton] at this; omega) (by rw [← hl]; exact DL) ?_
  clear F N hl
  intro h tk F N
  refine stage14 (q := (p0, p1, p2, p3)) XX TT F N hT d2 DP hlen.2 DL ?_
  clear F N hT DP DL
  intro h tk m T En nl vl F N hT DP mL hvl DE
  refine stage15 (E0 := p0 :: ends f 10 (p0, p1, p2, p3)) XX TT hE F N hT c5 c4 c3 d2 DP hl2 DE hq FI.box ?_
  clear F N c5 c4 c3
  intro h tk m o5 o4 o3 F N
  refine stage16 XX TT F N hT d2 DP mL hq hf (by omega) (fun e => by rw [hvl, FI.one (decide_eq_true e)]; rfl) (fun j h1 h2 => by rw [hvl]; exact FI.most j h1 h2) ?_
  clear F N mL hvl
  intro h tk F N
  refine stage17 (E0 := p0 :: ends f 10 (p0, p1, p2, p3)) XX TT hE F N hT d2 DP hq hf DE hl1 hl2 hPB FI.seven ?_
  clear F N
  intro h tk m F N
  refine stage18 (E0 := p0 :: ends f 10 (p0, p1, p2, p3)) XX TT F N hT d2 DP hq DE ?_
  clear F N hT DP DE
  intro h tk m T Cn F N DE DC
  refine stage19 (q := (p0, p1, p2, p3)) (E0 := p0 :: ends f 10 (p0, p1, p2, p3)) XX TT hE F N DE DC hq hPB FI.eight ?_
  intro h tk m F _
  exact hQ h tk m F

theorem off_join : True := by
  k_with "OFF:join" => skip
  trivial
end
section
theorem on_f55 : True := by
  w_top off
  trivial
theorem le_of_not_cast {n : Nat} (h : ¬ ((63 : Nat) : Int) < (n : Int)) : n ≤ 63 := by omega
set_option maxRecDepth 100000 in
set_option maxHeartbeats 20000000 in
theorem law_walk : PySem.Challenge.rw_nt0495_01.Holds := by
  w_on
  refine holds_law law_said fun said => ?_
  refine holds_open (q := hd.view_39) (loose := [Str.ofString "PostError", Str.ofString "Path", Str.ofString "path_of"]) (Xt := fun s => xlAt hd.view_39 [] s && recOk (RowW.records (OpenLaw.row PySem.Challenge.rw_nt0495_01).toRowW) s) (XP := XL hd.view_39 []) (Yf := Hook.obs hook) (Ya := Hook.val hook) (YP := Hook.says hook) (N := 3498) left (Hook.of hook) (Hook.keeps hook) (fun s e => xl_of s (Bool.and_eq_true_iff.mp e).1) XL.keeps (by rfl) (by rfl) (by rfl) (fun s e => recFacts_of (Bool.and_eq_true_iff.mp e).2) rfl said (by decide +kernel) ⟨rfl, rfl, rfl, rfl, rfl, by decide +kernel⟩ ?hw ?hc
  (case hw => w_witness2)
  clear said
  unfold hook
  k_go0
  (all_goals try k_fold)
  rename_i W S0 S1 MG MB G Y fa ob pm doc ho hg XX MX V GL TT TB TE TW w14 w13 M w12 w11 hcd ns hs hlay0 hL1 hr1 hl2 w9 w8 ls vs w5 hL ra w1' r0' hI hr2 hc hcond BB hDf h1 tk1 F0 o5 o4 o3 o2 o1 e5 e4 e3 e2 e1 N0 X0
  have F1 : Fr _ _ _ (fun y => if y = Str.ofString "script" then some (Value.ref ls) else none) := F0
  have c5 : o5.data = .cell none := e5
  have c4 : o4.data = .cell none := e4
  have c3 : o3.data = .cell none := e3
  have c2 : o2.data = .cell none := e2
  have c1 : o1.data = .cell none := e1
  have hlen : ns.length ≤ 63 := le_of_not_cast hc
  clear X0 e1 e2 e3 e4 e5 F0 hDf hc hcd G Y ho MX V GL TB TE TW M hs hlay0 hL1 hr1 hl2 ra w1' r0' hr2 hcond
  dsimp only
  refine stage1 (L := S1.heap.objs.size) XX TT (fr_kst (ps := [(Str.ofString "script", .ref ls)]) F1 (cons_all rfl nil_all)) N0 hI hL hlen ?_
  clear N0 F1
  intro h tk m C DC n wsC hC9 hC18 hIC hDC F N
  refine stage2 XX TT hC9 hC18 hIC hDC F N c1 ?_
  clear F N
  intro h tk m o1 D6 n6 vs6 tC hI6 d1 hD6 F N
  refine stage3 XX TT hI6 d1 c2 hD6 F N ?_
  clear F N
  intro h tk m o2 T D F N d2 hT DP DR
  refine stage4 (r0 := rr C 0) (r1 := rr C 1) (r2 := rr C 2) (r3 := rr C 3) (r4 := rr C 4) (r5 := rr C 5) (r6 := rr C 6) (r7 := rr C 7) XX TT F N d2 d1 hT DP DR (rest_bound _) (rest_bound _) (rest_bound _) (rest_bound _) (rest_bound _) (rest_bound _) (rest_bound _) (rest_bound _) ?_
  clear F N d2 hT DP DR
  intro h tk m o2 T vP p0 p1 p2 p3 F N d2 hT DP hq hor
  refine join (o5 := o5) (o4 := o4) (o3 := o3) (o2 := o2) XX TT (by passes_own) c5 c4 c3 (fun h tk m F => ?_) F N d2 hT DP hq hor
  (try k_unfold)
  (try dsimp only)
  exact goodW_bool F hg (raisesW_false (by wrow_none_raised)) (by wrow_post)

theorem off_law : True := by
  k_with "OFF:law" => skip
  trivial
end
end Mine
theorem PySem.Challenge.cw_nt0495_01_holds : PySem.Challenge.rw_nt0495_01.Holds := by
  exact Mine.law_walk
