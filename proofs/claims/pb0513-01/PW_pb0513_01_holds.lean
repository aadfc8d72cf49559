import PyProof.Rows.All
import Wide.All
import OpenK.AllK
import Wide.FinOn
import PyProof.AssignAttr
import PyProof.ExcArgsOwn
import PyProof.ExcBaseAll.Exception
import PyProof.StationsW
import PyProof.InstLoad
import PyProof.InstStoreFacts
import KE.LcSums
import KE.KBytesCut
import KE.KBytesMore
import KE.LcTurns
import KE.KDeep
import KE.KTurns
import KE.KPairComp
import KE.KRevSl
import KE.KTryDeep
import Lean
import PySem.Challenge.RW_pb0513_01
set_option Elab.async false
section
open PySem PySem.W PyProof.Rows
set_option Elab.async false
set_option maxRecDepth 100000
set_option maxHeartbeats 8000000
namespace Mine
abbrev kPw : Program := PySem.Challenge.rw_pb0513_01.row.prog
/-- the statements that the view drops -/
def kKeeps : List Nat := [0, 2, 5, 11, 27]
noncomputable def kView : Program := { kPw with main := { kPw.main with body := (kPw.main.body.zipIdx.filter fun x => !kKeeps.contains x.2).map (·.1) } }
noncomputable def kSt (n : Nat) : Stmt := (kPw.main.body[n]?).getD (.Pass default)
noncomputable def kEn (P : Params) (x : Str) (k : Nat) (v : Value) : DictEntry := { hash := PyData.keyHash P x, key := .str x k, val := v }
/-- the function that the n-th statement makes -/
noncomputable def kFn (n : Nat) (x : Str) (d : Value) (md : Str) (k c : Nat) : Obj := match kSt n with
  | .FunctionDef _ as b _ _ _ sc .. => { cls := .type "function", data := .func { name := x, qualname := x, params := as, body := .stmts b, scope := sc, globals := 3, closure := [], defaults := d, kwdefaults := .none, pyModule := .str md k, code := .ref c } }
  | _ => default
noncomputable def kInit : Obj := match kSt 2 with
  | .ClassDef _ _ _ (.FunctionDef _ as b _ _ _ sc .. :: _) .. => { cls := .type "function", data := .func { name := "__init__", qualname := "PostError.__init__", params := as, body := .stmts b, scope := sc, globals := 3, closure := [], defaults := .ref 22, kwdefaults := .none, pyModule := .str "postcore.base" 187, code := .ref 28 } }
  | _ => default
noncomputable def kK (P : Params) : Frag := [
  (3, { cls := .type "dict", data := Data.dict #[kEn P "__name__" 165 (.str ("law_pb0513_01") 469), kEn P "__doc__" 166 (.none), kEn P "__package__" 167 (.none), kEn P "__loader__" 168 (.builtin "__main__.__loader__#opaque"), kEn P "__spec__" 169 (.none), kEn P "__annotations__" 170 (.ref 6), kEn P "__builtins__" 171 (.ref 4), kEn P "__file__" 173 (.str ("/claim/cut.py") 172), kEn P "__cached__" 174 (.none), kEn P "GRAIN" 190 (.int 1000000 189), kEn P "PostError" 219 (.ref 32), kEn P "PsError" 235 (.ref 45), kEn P "decimal_octets" 244 (.ref 54), kEn P "INTEGER" 248 (.str ("integer") 247), kEn P "divided" 259 (.ref 61), kEn P "number_octets" 269 (.ref 68), kEn P "whole_root" 278 (.ref 75), kEn P "root" 287 (.ref 82), kEn P "matrix_quotient" 297 (.ref 89), kEn P "identity" 303 (.ref 96), kEn P "scaling" 311 (.ref 103), kEn P "matrix_copy" 317 (.ref 108), kEn P "concat" 325 (.ref 115), kEn P "determinant" 332 (.ref 122), kEn P "is_singular" 339 (.ref 129), kEn P "delta_transform" 348 (.ref 136), kEn P "is_identity" 355 (.ref 143), kEn P "is_upright" 362 (.ref 150), kEn P "is_mirror" 369 (.ref 157), kEn P "matrix_scale" 377 (.ref 164), kEn P "matrix_stretch" 388 (.ref 171), kEn P "matrix_length" 396 (.ref 178), kEn P "matrix_root" 406 (.ref 185), kEn P "is_near" 413 (.ref 191), kEn P "matrix_between" 425 (.ref 198), kEn P "default_matrix" 435 (.ref 205), kEn P "image_matrix" 444 (.ref 212), kEn P "font_matrix" 452 (.ref 219), kEn P "matrix_octets" 458 (.ref 224), kEn P "turns_of" 468 (.ref 231), kEn P "_law_one" 472 (.int 1000000 471), kEn P "_law_draw" 481 (.ref 238), kEn P "_law_number" 490 (.ref 245), kEn P "_law_part" 500 (.ref 252), kEn P "_law_looks_right" 506 (.ref 257), kEn P "_law_between_right" 512 (.ref 262), kEn P "_law_made_right" 518 (.ref 267), kEn P "_law_written" 533 (.ref 274), kEn P "_law_quarters" 539 (.ref 279), kEn P "law" 545 (.ref 284)] 50 }),
  (15, { cls := .type "tuple", data := Data.seq #[.type "Exception"] }),
  (22, { cls := .type "tuple", data := Data.seq #[.none] }),
  (28, { cls := .type "code", data := Data.fields #[.str ("__init__") 203, .str ("PostError.__init__") 204, .str ("/claim/cut.py") 205, .int 5 0, .int 2 0, .int 0 0, .int 0 0, .int 3 0, .ref 23, .bool true, .int 181 0, .ref 24, .none, .ref 25, .ref 26, .ref 27, .int 208 0, .int 5 0, .str ("/claim/cut.py") 209] }),
  (29, kInit),
  (31, { cls := .type "dict", data := Data.dict #[kEn P "__module__" 198 (.str ("postcore.base") 187), kEn P "__firstlineno__" 202 (.int 3 201), kEn P "__init__" 210 (.ref 29), kEn P "__static_attributes__" 212 (.ref 30), kEn P "__weakref__" 214 (.ref 33), kEn P "__doc__" 215 (.none)] 3 }),
  (32, { cls := .type "type", data := Data.cls { name := "PostError", bases := [.type "Exception"], mro := [.ref 32, .type "Exception", .type "BaseException", .type "object"], ns := 31, qualname := "PostError", subclasses := [.ref 45] }, slots := #[some (.ref 15), none, some (.str ("PostError") 191), some (.str ("PostError") 199), some (.builtin "Exception.__new__"), some (.bool true)] }),
  (33, { cls := .type "getset_descriptor", data := Data.fields #[.str ("__weakref__") 213, .ref 32, .builtin "ExceptionGroup.__weakref__", .none] }),
  (36, { cls := .type "tuple", data := Data.seq #[.ref 32] }),
  (44, { cls := .type "dict", data := Data.dict #[kEn P "__module__" 227 (.str ("postcore.base") 187), kEn P "__firstlineno__" 231 (.int 7 230), kEn P "__static_attributes__" 232 (.ref 43), kEn P "__doc__" 233 (.none)] 2 }),
  (45, { cls := .type "type", data := Data.cls { name := "PsError", bases := [.ref 32], mro := [.ref 45, .ref 32, .type "Exception", .type "BaseException", .type "object"], ns := 44, qualname := "PsError" }, slots := #[some (.ref 36), none, some (.str ("PsError") 220), some (.str ("PsError") 228), some (.builtin "Exception.__new__"), some (.bool true)] }),
  (53, { cls := .type "code", data := Data.fields #[.str ("decimal_octets") 236, .str ("decimal_octets") 237, .str ("/claim/cut.py") 238, .int 9 0, .int 1 0, .int 0 0, .int 0 0, .int 3 0, .ref 48, .bool true, .int 181 0, .ref 49, .none, .ref 50, .ref 51, .ref 52, .int 242 0, .int 9 0, .str ("/claim/cut.py") 243] }),
  (54, kFn 4 "decimal_octets" (.none) "postcore.base" 187 53),
  (60, { cls := .type "code", data := Data.fields #[.str ("divided") 249, .str ("divided") 250, .str ("/claim/cut.py") 251, .int 21 0, .int 2 0, .int 0 0, .int 0 0, .int 3 0, .ref 55, .bool true, .int 181 0, .ref 56, .none, .ref 57, .ref 58, .ref 59, .int 257 0, .int 21 0, .str ("/claim/cut.py") 258] }),
  (61, kFn 7 "divided" (.none) "postcore.numbers" 245 60),
  (67, { cls := .type "code", data := Data.fields #[.str ("number_octets") 260, .str ("number_octets") 261, .str ("/claim/cut.py") 262, .int 25 0, .int 2 0, .int 0 0, .int 0 0, .int 3 0, .ref 62, .bool true, .int 181 0, .ref 63, .none, .ref 64, .ref 65, .ref 66, .int 267 0, .int 25 0, .str ("/claim/cut.py") 268] }),
  (68, kFn 8 "number_octets" (.none) "postcore.numbers" 245 67),
  (74, { cls := .type "code", data := Data.fields #[.str ("whole_root") 270, .str ("whole_root") 271, .str ("/claim/cut.py") 272, .int 33 0, .int 1 0, .int 0 0, .int 0 0, .int 3 0, .ref 69, .bool true, .int 181 0, .ref 70, .none, .ref 71, .ref 72, .ref 73, .int 276 0, .int 33 0, .str ("/claim/cut.py") 277] }),
  (75, kFn 9 "whole_root" (.none) "postcore.numbers" 245 74),
  (81, { cls := .type "code", data := Data.fields #[.str ("root") 279, .str ("root") 280, .str ("/claim/cut.py") 281, .int 42 0, .int 1 0, .int 0 0, .int 0 0, .int 3 0, .ref 76, .bool true, .int 181 0, .ref 77, .none, .ref 78, .ref 79, .ref 80, .int 285 0, .int 42 0, .str ("/claim/cut.py") 286] }),
  (82, kFn 10 "root" (.none) "postcore.numbers" 245 81),
  (88, { cls := .type "code", data := Data.fields #[.str ("matrix_quotient") 290, .str ("matrix_quotient") 291, .str ("/claim/cut.py") 292, .int 49 0, .int 2 0, .int 0 0, .int 0 0, .int 3 0, .ref 83, .bool true, .int 181 0, .ref 84, .none, .ref 85, .ref 86, .ref 87, .int 295 0, .int 49 0, .str ("/claim/cut.py") 296] }),
  (89, kFn 12 "matrix_quotient" (.none) "postcore.matrices" 288 88),
  (95, { cls := .type "code", data := Data.fields #[.str ("identity") 298, .str ("identity") 299, .str ("/claim/cut.py") 300, .int 51 0, .int 0 0, .int 0 0, .int 0 0, .int 3 0, .ref 90, .bool true, .int 181 0, .ref 91, .none, .ref 92, .ref 93, .ref 94, .int 301 0, .int 51 0, .str ("/claim/cut.py") 302] }),
  (96, kFn 13 "identity" (.none) "postcore.matrices" 288 95),
  (102, { cls := .type "code", data := Data.fields #[.str ("scaling") 304, .str ("scaling") 305, .str ("/claim/cut.py") 306, .int 53 0, .int 2 0, .int 0 0, .int 0 0, .int 3 0, .ref 97, .bool true, .int 181 0, .ref 98, .none, .ref 99, .ref 100, .ref 101, .int 309 0, .int 53 0, .str ("/claim/cut.py") 310] }),
  (103, kFn 14 "scaling" (.none) "postcore.matrices" 288 102),
  (107, { cls := .type "code", data := Data.fields #[.str ("matrix_copy") 312, .str ("matrix_copy") 313, .str ("/claim/cut.py") 314, .int 55 0, .int 1 0, .int 0 0, .int 0 0, .int 3 0, .ref 104, .bool true, .int 181 0, .ref 105, .none, .none, .none, .ref 106, .int 315 0, .int 55 0, .str ("/claim/cut.py") 316] }),
  (108, kFn 15 "matrix_copy" (.none) "postcore.matrices" 288 107),
  (114, { cls := .type "code", data := Data.fields #[.str ("concat") 318, .str ("concat") 319, .str ("/claim/cut.py") 320, .int 57 0, .int 2 0, .int 0 0, .int 0 0, .int 3 0, .ref 109, .bool true, .int 181 0, .ref 110, .none, .ref 111, .ref 112, .ref 113, .int 323 0, .int 57 0, .str ("/claim/cut.py") 324] }),
  (115, kFn 16 "concat" (.none) "postcore.matrices" 288 114),
  (121, { cls := .type "code", data := Data.fields #[.str ("determinant") 326, .str ("determinant") 327, .str ("/claim/cut.py") 328, .int 59 0, .int 1 0, .int 0 0, .int 0 0, .int 3 0, .ref 116, .bool true, .int 181 0, .ref 117, .none, .ref 118, .ref 119, .ref 120, .int 330 0, .int 59 0, .str ("/claim/cut.py") 331] }),
  (122, kFn 17 "determinant" (.none) "postcore.matrices" 288 121),
  (128, { cls := .type "code", data := Data.fields #[.str ("is_singular") 333, .str ("is_singular") 334, .str ("/claim/cut.py") 335, .int 61 0, .int 1 0, .int 0 0, .int 0 0, .int 3 0, .ref 123, .bool true, .int 181 0, .ref 124, .none, .ref 125, .ref 126, .ref 127, .int 337 0, .int 61 0, .str ("/claim/cut.py") 338] }),
  (129, kFn 18 "is_singular" (.none) "postcore.matrices" 288 128),
  (135, { cls := .type "code", data := Data.fields #[.str ("delta_transform") 340, .str ("delta_transform") 341, .str ("/claim/cut.py") 342, .int 63 0, .int 3 0, .int 0 0, .int 0 0, .int 3 0, .ref 130, .bool true, .int 181 0, .ref 131, .none, .ref 132, .ref 133, .ref 134, .int 346 0, .int 63 0, .str ("/claim/cut.py") 347] }),
  (136, kFn 19 "delta_transform" (.none) "postcore.matrices" 288 135),
  (142, { cls := .type "code", data := Data.fields #[.str ("is_identity") 349, .str ("is_identity") 350, .str ("/claim/cut.py") 351, .int 65 0, .int 1 0, .int 0 0, .int 0 0, .int 3 0, .ref 137, .bool true, .int 181 0, .ref 138, .none, .ref 139, .ref 140, .ref 141, .int 353 0, .int 65 0, .str ("/claim/cut.py") 354] }),
  (143, kFn 20 "is_identity" (.none) "postcore.matrices" 288 142),
  (149, { cls := .type "code", data := Data.fields #[.str ("is_upright") 356, .str ("is_upright") 357, .str ("/claim/cut.py") 358, .int 67 0, .int 1 0, .int 0 0, .int 0 0, .int 3 0, .ref 144, .bool true, .int 181 0, .ref 145, .none, .ref 146, .ref 147, .ref 148, .int 360 0, .int 67 0, .str ("/claim/cut.py") 361] }),
  (150, kFn 21 "is_upright" (.none) "postcore.matrices" 288 149),
  (156, { cls := .type "code", data := Data.fields #[.str ("is_mirror") 363, .str ("is_mirror") 364, .str ("/claim/cut.py") 365, .int 69 0, .int 1 0, .int 0 0, .int 0 0, .int 3 0, .ref 151, .bool true, .int 181 0, .ref 152, .none, .ref 153, .ref 154, .ref 155, .int 367 0, .int 69 0, .str ("/claim/cut.py") 368] }),
  (157, kFn 22 "is_mirror" (.none) "postcore.matrices" 288 156),
  (163, { cls := .type "code", data := Data.fields #[.str ("matrix_scale") 370, .str ("matrix_scale") 371, .str ("/claim/cut.py") 372, .int 71 0, .int 1 0, .int 0 0, .int 0 0, .int 3 0, .ref 158, .bool true, .int 181 0, .ref 159, .none, .ref 160, .ref 161, .ref 162, .int 375 0, .int 71 0, .str ("/claim/cut.py") 376] }),
  (164, kFn 23 "matrix_scale" (.none) "postcore.matrices" 288 163),
  (170, { cls := .type "code", data := Data.fields #[.str ("matrix_stretch") 378, .str ("matrix_stretch") 379, .str ("/claim/cut.py") 380, .int 74 0, .int 3 0, .int 0 0, .int 0 0, .int 3 0, .ref 165, .bool true, .int 181 0, .ref 166, .none, .ref 167, .ref 168, .ref 169, .int 386 0, .int 74 0, .str ("/claim/cut.py") 387] }),
  (171, kFn 24 "matrix_stretch" (.none) "postcore.matrices" 288 170),
  (177, { cls := .type "code", data := Data.fields #[.str ("matrix_length") 389, .str ("matrix_length") 390, .str ("/claim/cut.py") 391, .int 77 0, .int 2 0, .int 0 0, .int 0 0, .int 3 0, .ref 172, .bool true, .int 181 0, .ref 173, .none, .ref 174, .ref 175, .ref 176, .int 394 0, .int 77 0, .str ("/claim/cut.py") 395] }),
  (178, kFn 25 "matrix_length" (.none) "postcore.matrices" 288 177),
  (184, { cls := .type "code", data := Data.fields #[.str ("matrix_root") 397, .str ("matrix_root") 398, .str ("/claim/cut.py") 399, .int 79 0, .int 1 0, .int 0 0, .int 0 0, .int 3 0, .ref 179, .bool true, .int 181 0, .ref 180, .none, .ref 181, .ref 182, .ref 183, .int 404 0, .int 79 0, .str ("/claim/cut.py") 405] }),
  (185, kFn 26 "matrix_root" (.none) "postcore.matrices" 288 184),
  (186, { cls := .type "tuple", data := Data.seq #[.int 1 407] }),
  (190, { cls := .type "code", data := Data.fields #[.str ("is_near") 408, .str ("is_near") 409, .str ("/claim/cut.py") 410, .int 92 0, .int 3 0, .int 0 0, .int 0 0, .int 3 0, .ref 187, .bool true, .int 181 0, .ref 188, .none, .none, .none, .ref 189, .int 411 0, .int 92 0, .str ("/claim/cut.py") 412] }),
  (191, kFn 27 "is_near" (.ref 186) "postcore.matrices" 288 190),
  (197, { cls := .type "code", data := Data.fields #[.str ("matrix_between") 414, .str ("matrix_between") 415, .str ("/claim/cut.py") 416, .int 94 0, .int 2 0, .int 0 0, .int 0 0, .int 3 0, .ref 192, .bool true, .int 181 0, .ref 193, .none, .ref 194, .ref 195, .ref 196, .int 423 0, .int 94 0, .str ("/claim/cut.py") 424] }),
  (198, kFn 28 "matrix_between" (.none) "postcore.matrices" 288 197),
  (204, { cls := .type "code", data := Data.fields #[.str ("default_matrix") 426, .str ("default_matrix") 427, .str ("/claim/cut.py") 428, .int 101 0, .int 3 0, .int 0 0, .int 0 0, .int 3 0, .ref 199, .bool true, .int 181 0, .ref 200, .none, .ref 201, .ref 202, .ref 203, .int 433 0, .int 101 0, .str ("/claim/cut.py") 434] }),
  (205, kFn 29 "default_matrix" (.none) "postcore.matrices" 288 204),
  (211, { cls := .type "code", data := Data.fields #[.str ("image_matrix") 436, .str ("image_matrix") 437, .str ("/claim/cut.py") 438, .int 104 0, .int 3 0, .int 0 0, .int 0 0, .int 3 0, .ref 206, .bool true, .int 181 0, .ref 207, .none, .ref 208, .ref 209, .ref 210, .int 442 0, .int 104 0, .str ("/claim/cut.py") 443] }),
  (212, kFn 30 "image_matrix" (.none) "postcore.matrices" 288 211),
  (218, { cls := .type "code", data := Data.fields #[.str ("font_matrix") 445, .str ("font_matrix") 446, .str ("/claim/cut.py") 447, .int 108 0, .int 2 0, .int 0 0, .int 0 0, .int 3 0, .ref 213, .bool true, .int 181 0, .ref 214, .none, .ref 215, .ref 216, .ref 217, .int 450 0, .int 108 0, .str ("/claim/cut.py") 451] }),
  (219, kFn 31 "font_matrix" (.none) "postcore.matrices" 288 218),
  (223, { cls := .type "code", data := Data.fields #[.str ("matrix_octets") 453, .str ("matrix_octets") 454, .str ("/claim/cut.py") 455, .int 110 0, .int 1 0, .int 0 0, .int 0 0, .int 3 0, .ref 220, .bool true, .int 181 0, .ref 221, .none, .none, .none, .ref 222, .int 456 0, .int 110 0, .str ("/claim/cut.py") 457] }),
  (224, kFn 32 "matrix_octets" (.none) "postcore.matrices" 288 223),
  (230, { cls := .type "code", data := Data.fields #[.str ("turns_of") 459, .str ("turns_of") 460, .str ("/claim/cut.py") 461, .int 112 0, .int 1 0, .int 0 0, .int 0 0, .int 3 0, .ref 225, .bool true, .int 181 0, .ref 226, .none, .ref 227, .ref 228, .ref 229, .int 466 0, .int 112 0, .str ("/claim/cut.py") 467] }),
  (231, kFn 33 "turns_of" (.none) "postcore.matrices" 288 230),
  (237, { cls := .type "code", data := Data.fields #[.str ("_law_draw") 473, .str ("_law_draw") 474, .str ("/claim/cut.py") 475, .int 122 0, .int 2 0, .int 0 0, .int 0 0, .int 3 0, .ref 232, .bool true, .int 181 0, .ref 233, .none, .ref 234, .ref 235, .ref 236, .int 479 0, .int 122 0, .str ("/claim/cut.py") 480] }),
  (238, kFn 36 "_law_draw" (.none) "law_pb0513_01" 469 237),
  (244, { cls := .type "code", data := Data.fields #[.str ("_law_number") 482, .str ("_law_number") 483, .str ("/claim/cut.py") 484, .int 131 0, .int 1 0, .int 0 0, .int 0 0, .int 3 0, .ref 239, .bool true, .int 181 0, .ref 240, .none, .ref 241, .ref 242, .ref 243, .int 488 0, .int 131 0, .str ("/claim/cut.py") 489] }),
  (245, kFn 37 "_law_number" (.none) "law_pb0513_01" 469 244),
  (251, { cls := .type "code", data := Data.fields #[.str ("_law_part") 491, .str ("_law_part") 492, .str ("/claim/cut.py") 493, .int 135 0, .int 2 0, .int 0 0, .int 0 0, .int 3 0, .ref 246, .bool true, .int 181 0, .ref 247, .none, .ref 248, .ref 249, .ref 250, .int 498 0, .int 135 0, .str ("/claim/cut.py") 499] }),
  (252, kFn 38 "_law_part" (.none) "law_pb0513_01" 469 251),
  (256, { cls := .type "code", data := Data.fields #[.str ("_law_looks_right") 501, .str ("_law_looks_right") 502, .str ("/claim/cut.py") 503, .int 140 0, .int 2 0, .int 0 0, .int 0 0, .int 3 0, .ref 253, .bool true, .int 181 0, .ref 254, .none, .none, .none, .ref 255, .int 504 0, .int 140 0, .str ("/claim/cut.py") 505] }),
  (257, kFn 39 "_law_looks_right" (.none) "law_pb0513_01" 469 256),
  (261, { cls := .type "code", data := Data.fields #[.str ("_law_between_right") 507, .str ("_law_between_right") 508, .str ("/claim/cut.py") 509, .int 168 0, .int 1 0, .int 0 0, .int 0 0, .int 3 0, .ref 258, .bool true, .int 181 0, .ref 259, .none, .none, .none, .ref 260, .int 510 0, .int 168 0, .str ("/claim/cut.py") 511] }),
  (262, kFn 40 "_law_between_right" (.none) "law_pb0513_01" 469 261),
  (266, { cls := .type "code", data := Data.fields #[.str ("_law_made_right") 513, .str ("_law_made_right") 514, .str ("/claim/cut.py") 515, .int 182 0, .int 2 0, .int 0 0, .int 0 0, .int 3 0, .ref 263, .bool true, .int 181 0, .ref 264, .none, .none, .none, .ref 265, .int 516 0, .int 182 0, .str ("/claim/cut.py") 517] }),
  (267, kFn 41 "_law_made_right" (.none) "law_pb0513_01" 469 266),
  (273, { cls := .type "code", data := Data.fields #[.str ("_law_written") 519, .str ("_law_written") 520, .str ("/claim/cut.py") 521, .int 194 0, .int 1 0, .int 0 0, .int 0 0, .int 3 0, .ref 268, .bool true, .int 181 0, .ref 269, .none, .ref 270, .ref 271, .ref 272, .int 531 0, .int 194 0, .str ("/claim/cut.py") 532] }),
  (274, kFn 42 "_law_written" (.none) "law_pb0513_01" 469 273),
  (278, { cls := .type "code", data := Data.fields #[.str ("_law_quarters") 534, .str ("_law_quarters") 535, .str ("/claim/cut.py") 536, .int 210 0, .int 1 0, .int 0 0, .int 0 0, .int 3 0, .ref 275, .bool true, .int 181 0, .ref 276, .none, .none, .none, .ref 277, .int 537 0, .int 210 0, .str ("/claim/cut.py") 538] }),
  (279, kFn 43 "_law_quarters" (.none) "law_pb0513_01" 469 278),
  (283, { cls := .type "code", data := Data.fields #[.str ("law") 540, .str ("law") 541, .str ("/claim/cut.py") 542, .int 222 0, .int 1 0, .int 0 0, .int 0 0, .int 3 0, .ref 280, .bool true, .int 181 0, .ref 281, .none, .none, .none, .ref 282, .int 543 0, .int 222 0, .str ("/claim/cut.py") 544] }),
  (284, kFn 44 "law" (.none) "law_pb0513_01" 469 283)]
def kAs : List Nat := [3, 15, 22, 28, 29, 31, 32, 33, 36, 44, 45, 53, 54, 60, 61, 67, 68, 74, 75, 81, 82, 88, 89, 95, 96, 102, 103, 107, 108, 114, 115, 121, 122, 128, 129, 135, 136, 142, 143, 149, 150, 156, 157, 163, 164, 170, 171, 177, 178, 184, 185, 186, 190, 191, 197, 198, 204, 205, 211, 212, 218, 219, 223, 224, 230, 231, 237, 238, 244, 245, 251, 252, 256, 257, 261, 262, 266, 267, 273, 274, 278, 279, 283, 284]
theorem kAs_eq (P : Params) : kAs = (kK P).map (·.1) := by kernel_rfl
noncomputable abbrev kH : Hook := kHook kK kAs kAs_eq
def kLoose : List Str := [Str.ofString "PostError", Str.ofString "is_near"]
theorem kLeft : LeftO kPw kView kLoose (fun s => xlAt kView [] s && recOk (RowW.records (OpenRow.toRowW PySem.Challenge.rw_pb0513_01.row)) s) kH.obs kH.val 3290 := by
  intro w
  kernel_rfl
noncomputable def kLaw : DefRec := match kSt 44 with
  | .FunctionDef x as b _ _ _ sc _ _ p => ⟨x, as, b, sc, p⟩
  | _ => ⟨default, default, [], default, default⟩
set_option maxRecDepth 100000 in
theorem kTop (walk : WalkO kView kLoose (XL kView []) kH.says (OpenRow.toRowW PySem.Challenge.rw_pb0513_01.row) kLaw [] fun f vs => PySem.call f vs) : PySem.Challenge.rw_pb0513_01.Holds := by
  w_on; o_law
  refine holds_open (q := kView) (loose := kLoose) (Xt := fun s => xlAt kView [] s && recOk (RowW.records (OpenRow.toRowW PySem.Challenge.rw_pb0513_01.row)) s) (XP := XL kView []) (Yf := Hook.obs kH) (Ya := Hook.val kH) (YP := Hook.says kH) (N := 3290) kLeft (Hook.of kH) (Hook.keeps kH) (fun s e => xl_of s (Bool.and_eq_true_iff.mp e).1) XL.keeps ?h1 ?h2 ?h3 (fun s e => recFacts_of (Bool.and_eq_true_iff.mp e).2) ?h4 ?h5 ?h6 ⟨rfl, rfl, rfl, rfl, rfl, by decide +kernel⟩ ?hw walk
  case hw => w_witness2
  case h1 => kernel_rfl
  case h2 => kernel_rfl
  case h3 => kernel_rfl
  case h4 => rfl
  case h5 => first | assumption | decide +kernel
  case h6 => decide +kernel
end Mine
end
section
open PySem PySem.W PyProof.Rows PySem.Calls
set_option Elab.async false
set_option linter.unusedVariables false
set_option maxRecDepth 100000
namespace Mine

/-! values, objects, states -/
inductive PV where
  | int (n : Int)
  | str (x : Str)
  | byt (b : Array UInt8)
  | val (v : Value)
abbrev PV.bool (b : Bool) : PV := .val (.bool b)
abbrev PV.ref (a : Addr) : PV := .val (.ref a)
abbrev PV.non : PV := .val .none
def Is : PV → Value → Prop
  | .int n, v => ∃ t, v = .int n t
  | .str x, v => ∃ t, v = .str x t
  | .byt b, v => ∃ t, v = .bytes b t
  | .val u, v => v = u
inductive AreV : List PV → List Value → Prop where
  | nil : AreV [] []
  | cons {p v ps vs} : Is p v → AreV ps vs → AreV (p :: ps) (v :: vs)
theorem AreV.len {ps : List PV} {vs : List Value} (h : AreV ps vs) : vs.length = ps.length := by
  induction h with
  | nil => rfl
  | cons _ _ ih => rw [List.length_cons, List.length_cons, ih]
theorem AreV.get {ps : List PV} {vs : List Value} (h : AreV ps vs) : ∀ {i : Nat} {p : PV}, ps[i]? = some p → ∃ v, vs[i]? = some v ∧ Is p v := by
  induction h with
  | nil => intro i p e; simp at e
  | cons hp _ ih =>
    intro i p e
    cases i with
    | zero => simp at e; subst e; exact ⟨_, rfl, hp⟩
    | succ i => simp at e; simpa using ih e
inductive HO where
  | lst (xs : List PV)
  | tup (xs : List PV)
  | cell (p : Option PV)
def IsO : HO → Obj → Prop
  | .lst xs, o => ∃ vs n, o = listOf vs.toArray n ∧ AreV xs vs
  | .tup xs, o => ∃ vs, o = { cls := .type "tuple", data := .seq vs.toArray } ∧ AreV xs vs
  | .cell (some p), o => ∃ v, o.data = .cell (some v) ∧ Is p v
  | .cell Option.none, o => o.data = .cell Option.none
abbrev Led := List (Addr × Obj)
abbrev Hp := List (Addr × HO)
abbrev Rho := List (Str × PV)
inductive LedOf : Hp → Led → Prop where
  | nil : LedOf [] []
  | cons {a x o η news} : IsO x o → LedOf η news → LedOf ((a, x) :: η) ((a, o) :: news)
theorem LedOf.keys {η : Hp} {news : Led} (h : LedOf η news) : news.map (·.1) = η.map (·.1) := by
  induction h with
  | nil => rfl
  | cons _ _ ih => rw [List.map_cons, List.map_cons, ih]
theorem LedOf.get {η : Hp} {news : Led} (h : LedOf η news) : ∀ {a : Addr} {x : HO}, (a, x) ∈ η → ∃ o, (a, o) ∈ news ∧ IsO x o := by
  induction h with
  | nil => intro a x e; cases e
  | cons hx _ ih =>
    intro a x e
    cases e with
    | head => exact ⟨_, .head _, hx⟩
    | tail _ e => obtain ⟨o, h1, h2⟩ := ih e; exact ⟨o, .tail _ h1, h2⟩

/-- a def's frame, or a comprehension's block within one -/
inductive Shape where
  | fn (sc : Scope)
  | comp (osc s : Scope)
abbrev Shape.out : Shape → Scope
  | .fn sc => sc
  | .comp osc _ => osc
abbrev Shape.names : Shape → List (Str × NameKind)
  | .fn sc => sc.names
  | .comp osc s => s.names.map fun (n, k) => if (k == .free && osc.kind == .function && osc.names.lookup n == some .cell) then (n, .cell) else (n, k)
structure Ctx (sc : Shape) where
  w : World
  mean : ExcName → Option Value
  mg : Str → Option Value
  mb : Str → Option Value
  dp : Nat
  un : Nat
  k : Nat
  gd : Option (List Code)
  cn : Str
  a : Addr
  ccd : Value
  cl : List (Str × Addr)
  outer : List Env
  A₀ : Around
  base : Heap
  h₀ : Heap
  L : Addr
  hid : Led
  cd : Addr
  ccl : List (Str × Addr)
  m₂ : Str → Option Value
  mo : Str → Option Value
abbrev Ctx.A {sc : Shape} (C : Ctx sc) : Around := ktrTop C.dp C.un C.gd C.cn sc.out C.L C.a C.ccd C.cl C.outer
abbrev Ctx.fenv {sc : Shape} (C : Ctx sc) : Env := envX C.cn sc.out C.L C.a C.ccd C.cl
abbrev Ctx.env : {sc : Shape} → Ctx sc → Env
  | .fn sc, C => envX C.cn sc C.L C.a C.ccd C.cl
  | .comp osc s, C => compEnvC s C.ccl C.cd (envX C.cn osc C.L C.a C.ccd C.cl)
abbrev Ctx.cells : {sc : Shape} → Ctx sc → List (Str × Addr)
  | .fn _, C => C.cl
  | .comp _ _, C => C.ccl
abbrev Ctx.loc : {sc : Shape} → Ctx sc → Addr
  | .fn _, C => C.L
  | .comp _ _, C => C.cd
/-- a name's value -/
abbrev Ctx.nm : {sc : Shape} → Ctx sc → (Str → Option Value) → Str → Option Value
  | .fn _, _, m => m
  | .comp _ _, C, _ => C.m₂
abbrev Ctx.own : {sc : Shape} → Ctx sc → Prop
  | .fn _, _ => True
  | .comp _ s, C => s.kind = .function ∧ ∃ o, (C.cd, o) ∈ C.hid ∧ LCg.NsObj o C.m₂
abbrev Ctx.M {sc : Shape} (C : Ctx sc) : Model := model Challenge.rw_pb0513_01.row.prog C.w
abbrev TopIs (mean : ExcName → Option Value) (mg mb : Str → Option Value) (h : Heap) : Prop := Top kView (looseW kView [Str.ofString "PostError", Str.ofString "is_near"]) mean mg mb h
structure Ctx.Ok {sc : Shape} (C : Ctx sc) : Prop where
  B : Below C.A₀ C.base C.outer C.h₀
  X : (kK C.w.params).In C.h₀
  T : TopIs C.mean C.mg C.mb C.h₀
  hk : sc.out.kind = .function
  hd : C.dp + C.k < recursionLimit
  hu : C.un + 8 * C.k + 70 < cLine
  own : C.own
/-- a block leaves the frame's own names as they stand -/
abbrev Ctx.fr : {sc : Shape} → Ctx sc → (Str → Option Value) → Prop
  | .fn _, _, _ => True
  | .comp _ _, C, m => m = C.mo
def Ctx.Nm {sc : Shape} (C : Ctx sc) (ρ : Rho) (m : Str → Option Value) : Prop := C.fr m ∧ ∀ x p, ρ.lookup x = some p → ∃ v, C.nm m x = some v ∧ Is p v
/-- the ledger with what is hidden -/
abbrev Ctx.all {sc : Shape} (C : Ctx sc) (news : Led) : Led := news ++ C.hid
def St {sc : Shape} (C : Ctx sc) (ρ : Rho) (η : Hp) (h : Heap) : Prop :=
  ∃ m news, Fr C.h₀ C.L h m ∧ News C.h₀ C.L h (C.all news) ∧ C.Nm ρ m ∧ LedOf η news ∧ (η.map (·.1) ++ C.hid.map (·.1)).Nodup
theorem kindOf_env {sc : Shape} {C : Ctx sc} {x : Str} : C.env.kindOf x = sc.names.lookup x := by cases sc <;> rfl
theorem kind_env {sc : Shape} {C : Ctx sc} (ok : C.Ok) : C.env.scope.kind = .function := by
  cases sc with
  | fn sc => exact ok.hk
  | comp osc s => exact ok.own.1
theorem globals_env {sc : Shape} {C : Ctx sc} : C.env.globals = mainGlobals := by cases sc <;> rfl
theorem builtins_env {sc : Shape} {C : Ctx sc} : C.env.builtins = builtinsNs := by cases sc <;> rfl
theorem cells_env {sc : Shape} {C : Ctx sc} : C.env.cells = C.cells := by cases sc <;> rfl
theorem locals_env {sc : Shape} {C : Ctx sc} : C.env.locals = C.loc := by cases sc <;> rfl
theorem ns_env {sc : Shape} {C : Ctx sc} {h : Heap} {m : Str → Option Value} {news : Led} (ok : C.Ok) (F : Fr C.h₀ C.L h m) (N : News C.h₀ C.L h (C.all news)) : h.Ns C.env.locals (C.nm m) := by
  cases sc with
  | fn sc => exact F.ns
  | comp osc s =>
    obtain ⟨_, o, ho, hn⟩ := ok.own
    exact hn.ns (N _ (List.mem_append_right _ ho)).1

abbrev Sh (s : Shared) (h : Heap) (tk : Nat) : Shared := { s with heap := h, toks := tk }

/-- e is reckoned to a value and a ledger of which Φ holds -/
def E {sc : Shape} (C : Ctx sc) (ρ : Rho) (η : Hp) (e : Expr) (Φ : PV → Hp → Prop) : Prop :=
  C.Ok → ∀ (s : Shared) (Q : Value → Shared → Prop) (Er : Value → Shared → Prop), St C ρ η s.heap → (∀ p v η' h' tk', Φ p η' → Is p v → St C ρ η' h' → Q v (Sh s h' tk')) → wpAny C.M C.A (eval e C.env) Q Er s
/-- e's value is p, and nothing changes -/
def V {sc : Shape} (C : Ctx sc) (ρ : Rho) (η : Hp) (e : Expr) (p : PV) : Prop := E C ρ η e fun q η' => q = p ∧ η' = η
/-- e as a test -/
def T {sc : Shape} (C : Ctx sc) (ρ : Rho) (η : Hp) (e : Expr) (Φ : Bool → Hp → Prop) : Prop :=
  C.Ok → ∀ (s : Shared) (Q : Bool → Shared → Prop) (Er : Value → Shared → Prop), St C ρ η s.heap → (∀ b η' h' tk', Φ b η' → St C ρ η' h' → Q b (Sh s h' tk')) → wpAny C.M C.A (PySem.isTrue e C.env (eval e C.env)) Q Er s
/-- a list of expressions, from left to right -/
def Es {sc : Shape} (C : Ctx sc) (ρ : Rho) (η : Hp) (es : List Expr) (Φ : List PV → Hp → Prop) : Prop :=
  C.Ok → ∀ (s : Shared) (pos : Pos) (Q : List Value → Shared → Prop) (Er : Value → Shared → Prop), St C ρ η s.heap → (∀ ps vs η' h' tk', Φ ps η' → AreV ps vs → St C ρ η' h' → Q vs (Sh s h' tk')) → wpAny C.M C.A (spliced (backTo pos (starEach es C.env))) Q Er s
inductive Flo where
  | next | brk | cont
  | ret (p : PV)
def IsF : Flo → Flow → Prop
  | .next, f => f = .next
  | .brk, f => f = .brk
  | .cont, f => f = .cont
  | .ret p, f => ∃ v, f = .ret v ∧ Is p v
/-- statements -/
def R {sc : Shape} (C : Ctx sc) (ρ : Rho) (η : Hp) (ss : List Stmt) (Ψ : Rho → Hp → Flo → Prop) : Prop :=
  C.Ok → ∀ (s : Shared) (Q : Flow → Shared → Prop) (Er : Value → Shared → Prop), St C ρ η s.heap → (∀ f fl ρ' η' h' tk', Ψ ρ' η' f → IsF f fl → St C ρ' η' h' → Q fl (Sh s h' tk')) → wpAny C.M C.A (execs ss C.env) Q Er s
/-- what a call of the def at f does -/
def Fn (f : Addr) (k : Nat) (ps : List PV) (η : Hp) (Φ : PV → Hp → Prop) : Prop :=
  ∀ (sc : Shape) (C : Ctx sc), k ≤ C.k → C.Ok → ∀ (ρ : Rho) (s : Shared) (vs : List Value) (Q : Value → Shared → Prop) (Er : Value → Shared → Prop), AreV ps vs → St C ρ η s.heap →
    (∀ p v η' h' tk', Φ p η' → Is p v → St C ρ η' h' → Q v (Sh s h' tk')) → wpAny C.M C.A (call (.ref f) vs) Q Er s
end Mine
end
section
open PySem PySem.W PyProof.Rows PySem.Calls
set_option Elab.async false
set_option linter.unusedVariables false
set_option maxRecDepth 100000
namespace Mine
section
variable {sc : Shape} {C : Ctx sc} {ρ : Rho} {η : Hp} {e e1 e2 e3 : Expr} {p p1 p2 : PV} {Φ : PV → Hp → Prop} {Θ : Bool → Hp → Prop} {pos : Pos} {x : Str}

theorem V.up (h : V C ρ η e p) (k : Φ p η) : E C ρ η e Φ := fun ok s Q Er st q => h ok s Q Er st fun p' v η' h' tk' w i st' => by
  obtain ⟨rfl, rfl⟩ := w; exact q _ _ _ _ _ k i st'
theorem E.mono {Φ' : PV → Hp → Prop} (h : E C ρ η e Φ) (k : ∀ p η', Φ p η' → Φ' p η') : E C ρ η e Φ' := fun ok s Q Er st q => h ok s Q Er st fun p v η' h' tk' w i st' => q _ _ _ _ _ (k _ _ w) i st'
/-- a step that gives its value on the spot -/
theorem V.at (H : ∀ (s : Shared) (Q : Value → Shared → Prop) (Er : Value → Shared → Prop) (m : Str → Option Value) (news : Led), C.Ok → Fr C.h₀ C.L s.heap m → News C.h₀ C.L s.heap (C.all news) → C.Nm ρ m → LedOf η news →
    (∀ v tk', Is p v → Q v (Sh s s.heap tk')) → wpAny C.M C.A (eval e C.env) Q Er s) : V C ρ η e p := fun ok s Q Er st q => by
  obtain ⟨m, news, F, N, hm, hl, hn⟩ := st
  exact H s Q Er m news ok F N hm hl fun v tk' i => q p v η s.heap tk' ⟨rfl, rfl⟩ i ⟨m, news, F, N, hm, hl, hn⟩
theorem V.nm (hx : ρ.lookup x = some p) (hk : sc.names.lookup x = some .local) (hd : (x == ("__debug__" : Str)) = false) : V C ρ η (.Name x pos) p :=
  V.at fun _ _ _ _ _ ok F N hm _ q => let ⟨v, a, i⟩ := hm.2 x p hx; wpAny_Name (wpAny_loadName_local (kind_env ok) (kindOf_env.trans hk) (ns_env ok F N) a (q v _ i)) hd
/-- a local name's value -/
def look1 (sc : Shape) (ρ : Rho) (x : Str) : Option PV := match x == ("__debug__" : Str), sc.names.lookup x with
  | false, some .local => ρ.lookup x
  | _, _ => none
theorem V.lo (h : look1 sc ρ x = some p) : V C ρ η (.Name x pos) p := by
  unfold look1 at h
  split at h
  · rename_i h1 h2; exact V.nm h h2 h1
  · cases h
theorem V.nmC {c : Addr} (hc : C.cells.lookup x = some c) (hm : (c, HO.cell (some p)) ∈ η) (hk : sc.names.lookup x = some .cell) (hd : (x == ("__debug__" : Str)) = false) : V C ρ η (.Name x pos) p :=
  V.at fun _ _ _ _ _ ok _ N _ hl q => let ⟨o, a, v, b, i⟩ := hl.get hm; wpAny_Name (wpAny_loadName_cell (kind_env ok) (kindOf_env.trans hk) (by rw [cells_env]; exact hc) ⟨o, (N _ (List.mem_append_left _ a)).1, b⟩ (q v _ i)) hd
/-- a cell's name: its place among the frame's cells -/
def look2 (sc : Shape) (cl : List (Str × Addr)) (x : Str) : Option Addr := match x == ("__debug__" : Str), sc.names.lookup x with
  | false, some .cell => cl.lookup x
  | _, _ => none
theorem V.ce {c : Addr} (h : look2 sc C.cells x = some c) (hm : (c, HO.cell (some p)) ∈ η) : V C ρ η (.Name x pos) p := by
  unfold look2 at h
  split at h
  · rename_i h1 h2; exact V.nmC h hm h2 h1
  · cases h
theorem V.glob {v : Value} (h : nsIn (kK C.w.params) mainGlobals x = some (some v)) (i : Is p v) (hk : sc.names.lookup x = some .globalImplicit) (hd : (x == ("__debug__" : Str)) = false) : V C ρ η (.Name x pos) p :=
  V.at fun _ _ _ _ _ ok F _ _ _ q => Name_function_global (kind_env ok) (kindOf_env.trans hk) (loadGlobal_global (env := C.env) (by rw [globals_env]; exact ok.T.g.keeps F.keep) (mg_of ok.X ok.T.g h) (q v _ i)) hd
theorem V.blt {v : Value} (h : nsIn (kK C.w.params) mainGlobals x = some none) (hv : bootBuiltins x = some v) (i : Is p v) (hn : x ≠ "__name__") (hk : sc.names.lookup x = some .globalImplicit) (hd : (x == ("__debug__" : Str)) = false) : V C ρ η (.Name x pos) p :=
  V.at fun _ _ _ _ _ ok F _ _ _ q => Name_function_global (kind_env ok) (kindOf_env.trans hk) (loadGlobal_builtin (env := C.env) (by rw [globals_env]; exact ok.T.g.keeps F.keep) (mg_none_of ok.X ok.T.g h) (by rw [builtins_env]; exact ok.T.b.keeps F.keep) ((ok.T.builtins x hn).trans hv) (q v _ i)) hd
theorem V.int {n : Int} {k : Nat} : V C ρ η (.Constant (.int n) k pos) (.int n) := V.at fun _ _ _ _ _ _ _ _ _ _ q => wpAny_Constant_int (q _ _ ⟨_, rfl⟩)
theorem V.boolc {b : Bool} {k : Nat} : V C ρ η (.Constant (.bool b) k pos) (.bool b) := V.at fun _ _ _ _ _ _ _ _ _ _ q => Constant_bool (q _ _ rfl)
theorem V.nonec {k : Nat} : V C ρ η (.Constant .none k pos) .non := V.at fun _ _ _ _ _ _ _ _ _ _ q => Constant_none (q _ _ rfl)

theorem E.bind2 {t : Value → Value → Sem Value} {e : Expr} {Ψ : PV → PV → Hp → Prop} (h1 : E C ρ η e1 fun p1 η1 => E C ρ η1 e2 fun p2 η2 => Ψ p1 p2 η2)
    (hw : ∀ (s : Shared) (Q : Value → Shared → Prop) (Er : Value → Shared → Prop), wpAny C.M C.A (eval e1 C.env) (fun a s₁ => wpAny C.M C.A (eval e2 C.env) (fun b s₂ => wpAny C.M C.A (t a b) Q Er s₂) Er s₁) Er s → wpAny C.M C.A (eval e C.env) Q Er s)
    (hop : ∀ p1 p2 η2, Ψ p1 p2 η2 → C.Ok → ∀ (s : Shared) (v1 v2 : Value) (Q : Value → Shared → Prop) (Er : Value → Shared → Prop), Is p1 v1 → Is p2 v2 → St C ρ η2 s.heap → (∀ p v η' h' tk', Φ p η' → Is p v → St C ρ η' h' → Q v (Sh s h' tk')) → wpAny C.M C.A (t v1 v2) Q Er s) :
    E C ρ η e Φ := fun ok s Q Er st q => hw _ _ _ (h1 ok s _ Er st fun p1 v1 η1 h1' tk1 w1 i1 st1 => w1 ok _ _ Er st1 fun p2 v2 η2 h2' tk2 w2 i2 st2 => hop p1 p2 η2 w2 ok _ v1 v2 Q Er i1 i2 st2 q)

/-- a binary operation that makes no object -/
def Bin (op : Operator) (p1 p2 p : PV) : Prop := ∀ (w : World) (A : Around) (Er : Value → Shared → Prop) (s : Shared) (v1 v2 : Value) (Q : Value → Shared → Prop), Is p1 v1 → Is p2 v2 → (∀ v tk', Is p v → Q v (Sh s s.heap tk')) → wpAny (model Challenge.rw_pb0513_01.row.prog w) A (binaryOp op v1 v2) Q Er s
def Cmp (op : CmpOp) (p1 p2 : PV) (b : Bool) : Prop := ∀ (w : World) (A : Around) (Er : Value → Shared → Prop) (s : Shared) (v1 v2 : Value) (Q : Value → Shared → Prop), Is p1 v1 → Is p2 v2 → (∀ tk', Q (.bool b) (Sh s s.heap tk')) → wpAny (model Challenge.rw_pb0513_01.row.prog w) A (compareOp op v1 v2) Q Er s
def Una (op : UnaryOp) (p1 p : PV) : Prop := ∀ (w : World) (A : Around) (Er : Value → Shared → Prop) (s : Shared) (v1 : Value) (Q : Value → Shared → Prop), Is p1 v1 → (∀ v tk', Is p v → Q v (Sh s s.heap tk')) → wpAny (model Challenge.rw_pb0513_01.row.prog w) A (unaryOp op v1) Q Er s
def Tru (p : PV) (b : Bool) : Prop := ∀ (w : World) (A : Around) (Er : Value → Shared → Prop) (s : Shared) (v : Value) (Q : Bool → Shared → Prop), Is p v → (∀ tk', Q b (Sh s s.heap tk')) → wpAny (model Challenge.rw_pb0513_01.row.prog w) A (truthy v) Q Er s
variable {a b : Int}
theorem Bin.add : Bin .Add (.int a) (.int b) (.int (a + b)) := fun _ _ _ _ _ _ _ ⟨_, e1⟩ ⟨_, e2⟩ q => by subst e1 e2; exact add_int (q _ _ ⟨_, rfl⟩)
theorem Bin.sub : Bin .Sub (.int a) (.int b) (.int (a - b)) := fun _ _ _ _ _ _ _ ⟨_, e1⟩ ⟨_, e2⟩ q => by subst e1 e2; exact sub_int (q _ _ ⟨_, rfl⟩)
theorem Bin.mul (h : IntMulOk a b) : Bin .Mult (.int a) (.int b) (.int (a * b)) := fun _ _ _ _ _ _ _ ⟨_, e1⟩ ⟨_, e2⟩ q => by subst e1 e2; exact mul_int (q _ _ ⟨_, rfl⟩) h
theorem Bin.fdiv (h0 : b ≠ 0) (h : Builtin.divisionGoesByPylong a b = false) : Bin .FloorDiv (.int a) (.int b) (.int (a.fdiv b)) := fun _ _ _ _ _ _ _ ⟨_, e1⟩ ⟨_, e2⟩ q => by subst e1 e2; exact floordiv_int h0 (q _ _ ⟨_, rfl⟩) (.inl h)
theorem Bin.mod (h0 : b ≠ 0) : Bin .Mod (.int a) (.int b) (.int (a.fmod b)) := fun _ _ _ _ _ _ _ ⟨_, e1⟩ ⟨_, e2⟩ q => by subst e1 e2; exact mod_int' h0 (q _ _ ⟨_, rfl⟩)
theorem Una.neg : Una .USub (.int a) (.int (-a)) := fun _ _ _ _ _ _ ⟨_, e1⟩ q => by subst e1; exact neg_int (q _ _ ⟨_, rfl⟩)
theorem Cmp.lt : Cmp .Lt (.int a) (.int b) (decide (a < b)) := fun _ _ _ _ _ _ _ ⟨_, e1⟩ ⟨_, e2⟩ q => by subst e1 e2; exact lt_int (q _)
theorem Cmp.le : Cmp .LtE (.int a) (.int b) (decide (a ≤ b)) := fun _ _ _ _ _ _ _ ⟨_, e1⟩ ⟨_, e2⟩ q => by subst e1 e2; exact PyProof.Rows.le_int (q _)
theorem Cmp.gt : Cmp .Gt (.int a) (.int b) (decide (b < a)) := fun _ _ _ _ _ _ _ ⟨_, e1⟩ ⟨_, e2⟩ q => by subst e1 e2; exact PyProof.Rows.gt_int (q _)
theorem Cmp.ge : Cmp .GtE (.int a) (.int b) (decide (b ≤ a)) := fun _ _ _ _ _ _ _ ⟨_, e1⟩ ⟨_, e2⟩ q => by subst e1 e2; exact PyProof.Rows.ge_int (q _)
theorem Cmp.eq : Cmp .Eq (.int a) (.int b) (a == b) := fun _ _ _ _ _ _ _ ⟨_, e1⟩ ⟨_, e2⟩ q => by subst e1 e2; exact eq_int (q _)
theorem Cmp.ne : Cmp .NotEq (.int a) (.int b) (a != b) := fun _ _ _ _ _ _ _ ⟨_, e1⟩ ⟨_, e2⟩ q => by subst e1 e2; exact PyProof.Rows.ne_int (q _)
theorem Cmp.eqB {c d : Bool} : Cmp .Eq (.bool c) (.bool d) (c == d) := fun _ _ _ _ _ _ _ e1 e2 q => by cases e1; cases e2; exact eq_bool (q _)
theorem Tru.boo {c : Bool} : Tru (.bool c) c := fun _ _ _ _ _ _ e q => by cases e; exact wpAny_truthy_bool (q _)

theorem E.bin {op : Operator} (h : E C ρ η e1 fun p1 η1 => E C ρ η1 e2 fun p2 η2 => ∃ p, Bin op p1 p2 p ∧ Φ p η2) : E C ρ η (.BinOp e1 op e2 pos) Φ :=
  E.bind2 h (fun _ _ _ => wpAny_BinOp) fun _ _ _ ⟨p, hb, k⟩ _ s v1 v2 _ Er i1 i2 st q => hb _ _ Er s v1 v2 _ i1 i2 fun v tk' i => q p v _ _ tk' k i st
theorem V.bin {op : Operator} (h1 : V C ρ η e1 p1) (h2 : V C ρ η e2 p2) (hb : Bin op p1 p2 p) : V C ρ η (.BinOp e1 op e2 pos) p := E.bin (h1.up (h2.up ⟨p, hb, rfl, rfl⟩))
theorem E.una {op : UnaryOp} (h : E C ρ η e1 fun p1 η1 => ∃ p, Una op p1 p ∧ Φ p η1) : E C ρ η (.UnaryOp op e1 pos) Φ := fun ok s Q Er st q =>
  UnaryOp_ (h ok s _ Er st fun _ v1 _ _ _ ⟨p, hu, k⟩ i1 st1 => hu _ _ Er _ v1 _ i1 fun v tk' i => q p v _ _ tk' k i st1)
theorem V.una {op : UnaryOp} (h1 : V C ρ η e1 p1) (hu : Una op p1 p) : V C ρ η (.UnaryOp op e1 pos) p := E.una (h1.up ⟨p, hu, rfl, rfl⟩)
theorem E.cmp {op : CmpOp} (h : E C ρ η e1 fun p1 η1 => E C ρ η1 e2 fun p2 η2 => ∃ b, Cmp op p1 p2 b ∧ Φ (.bool b) η2) (hm : behindInMarks op e2 = false := by rfl) : E C ρ η (.Compare e1 [op] [e2] pos) Φ :=
  E.bind2 h (fun _ _ _ z => wpAny_Compare1 z hm) fun _ _ _ ⟨b, hb, k⟩ _ s v1 v2 _ Er i1 i2 st q => hb _ _ Er s v1 v2 _ i1 i2 fun tk' => q (.bool b) _ _ _ tk' k rfl st
theorem V.cmp {op : CmpOp} {c : Bool} (h1 : V C ρ η e1 p1) (h2 : V C ρ η e2 p2) (hb : Cmp op p1 p2 c) (hm : behindInMarks op e2 = false := by rfl) : V C ρ η (.Compare e1 [op] [e2] pos) (.bool c) := E.cmp (h1.up (h2.up ⟨c, hb, rfl, rfl⟩)) hm
theorem T.cmp {op : CmpOp} (h : E C ρ η e1 fun p1 η1 => E C ρ η1 e2 fun p2 η2 => ∃ b, Cmp op p1 p2 b ∧ Θ b η2) (hm : behindInMarks op e2 = false := by rfl) : T C ρ η (.Compare e1 [op] [e2] pos) Θ := fun ok s Q Er st q =>
  wpAny_isTrue_Compare1 (h ok s _ Er st fun _ v1 _ _ _ w1 i1 st1 => w1 ok _ _ Er st1 fun _ v2 _ _ _ ⟨b, hb, k⟩ i2 st2 => hb _ _ Er _ v1 v2 _ i1 i2 fun tk' => wpAny_truthy_bool (q b _ _ tk' k st2)) hm
theorem T.of (h : E C ρ η e fun p η1 => ∃ b, Tru p b ∧ Θ b η1) (hp : PySem.isTrue e C.env (eval e C.env) = (do let v ← eval e C.env; standAt e.pos; holding [v] (truthy v)) := by rfl) : T C ρ η e Θ := fun ok s Q Er st q =>
  isTrue_plain (h ok s _ Er st fun _ v _ _ _ ⟨b, hb, k⟩ i st1 => hb _ _ Er _ v _ i fun tk' => q b _ _ tk' k st1) hp
theorem T.not (h : T C ρ η e fun b η1 => Θ (!b) η1) : T C ρ η (.UnaryOp .Not e pos) Θ := fun ok s Q Er st q => isTrue_not (h ok s _ Er st fun b η' h' tk' k st1 => q (!b) η' h' tk' k st1)
theorem E.not (h : E C ρ η e fun p η1 => ∃ b, Tru p b ∧ Φ (.bool !b) η1) : E C ρ η (.UnaryOp .Not e pos) Φ := fun ok s Q Er st q =>
  UnaryOp_ (h ok s _ Er st fun _ v _ _ _ ⟨b, hb, k⟩ i st1 => not_of (hb _ _ Er _ v _ i fun tk' => q (.bool !b) _ _ _ tk' k rfl st1))
theorem E.ite {et : Expr} (h : T C ρ η et fun b η1 => (b = true → E C ρ η1 e1 Φ) ∧ (b = false → E C ρ η1 e2 Φ)) : E C ρ η (.IfExp et e1 e2 pos) Φ := fun ok s Q Er st q =>
  IfExp_ (h ok s _ Er st fun b η' h' tk' k st1 => by
    cases b with
    | true => exact k.1 rfl ok _ _ Er st1 q
    | false => exact k.2 rfl ok _ _ Er st1 q)
theorem T.ite {et : Expr} (h : T C ρ η et fun b η1 => (b = true → T C ρ η1 e1 Θ) ∧ (b = false → T C ρ η1 e2 Θ)) : T C ρ η (.IfExp et e1 e2 pos) Θ := fun ok s Q Er st q =>
  isTrue_IfExp (h ok s _ Er st fun b η' h' tk' k st1 => by
    cases b with
    | true => exact k.1 rfl ok _ _ Er st1 q
    | false => exact k.2 rfl ok _ _ Er st1 q)
theorem T.and0 (h : Θ true η) : T C ρ η (.BoolOp .And [] pos) Θ := fun _ s _ _ st q => isTrue_and_nil (q true η s.heap s.toks h st)
theorem T.and {es : List Expr} (h : T C ρ η e fun b η1 => (b = true → T C ρ η1 (.BoolOp .And es pos) Θ) ∧ (b = false → Θ false η1)) : T C ρ η (.BoolOp .And (e :: es) pos) Θ := fun ok s Q Er st q =>
  isTrue_and (h ok s _ Er st fun b η' h' tk' k st1 => by
    cases b with
    | true => exact k.1 rfl ok _ _ Er st1 q
    | false => exact q false _ _ _ (k.2 rfl) st1)
theorem T.or0 (h : Θ false η) : T C ρ η (.BoolOp .Or [] pos) Θ := fun _ s _ _ st q => isTrue_or_nil (q false η s.heap s.toks h st)
theorem T.or {es : List Expr} (h : T C ρ η e fun b η1 => (b = true → Θ true η1) ∧ (b = false → T C ρ η1 (.BoolOp .Or es pos) Θ)) : T C ρ η (.BoolOp .Or (e :: es) pos) Θ := fun ok s Q Er st q =>
  isTrue_or (h ok s _ Er st fun b η' h' tk' k st1 => by
    cases b with
    | true => exact q true _ _ _ (k.1 rfl) st1
    | false => exact k.2 rfl ok _ _ Er st1 q)
theorem E.bool1 {op : BoolOp} (h : E C ρ η e Φ) : E C ρ η (.BoolOp op [e] pos) Φ := fun ok s Q Er st q => BoolOp_one (h ok s Q Er st q)
theorem E.and {es : List Expr} (h : E C ρ η e fun p η1 => ∃ b, Tru p b ∧ (b = true → E C ρ η1 (.BoolOp .And (e2 :: es) pos) Φ) ∧ (b = false → Φ p η1)) : E C ρ η (.BoolOp .And (e :: e2 :: es) pos) Φ := fun ok s Q Er st q =>
  BoolOp_and (h ok s _ Er st fun p v η' h' tk' ⟨b, hb, k⟩ i st1 => hb _ _ Er _ v _ i fun tk'' => by
    cases b with
    | true => exact k.1 rfl ok _ _ Er st1 q
    | false => exact q p v _ _ _ (k.2 rfl) i st1)
theorem E.or {es : List Expr} (h : E C ρ η e fun p η1 => ∃ b, Tru p b ∧ (b = true → Φ p η1) ∧ (b = false → E C ρ η1 (.BoolOp .Or (e2 :: es) pos) Φ)) : E C ρ η (.BoolOp .Or (e :: e2 :: es) pos) Φ := fun ok s Q Er st q =>
  BoolOp_or (h ok s _ Er st fun p v η' h' tk' ⟨b, hb, k⟩ i st1 => hb _ _ Er _ v _ i fun tk'' => by
    cases b with
    | true => exact q p v _ _ _ (k.1 rfl) i st1
    | false => exact k.2 rfl ok _ _ Er st1 q)
end

/-! lists of expressions, displays -/
section
variable {sc : Shape} {C : Ctx sc} {ρ : Rho} {η : Hp} {e : Expr} {es : List Expr} {p : PV} {ps : List PV} {Φ : PV → Hp → Prop} {Ξ : List PV → Hp → Prop} {pos : Pos}
theorem Es.nil (h : Ξ [] η) : Es C ρ η [] Ξ := fun _ s _ _ _ st q => spliced_none (q [] [] η s.heap s.toks h .nil st)
theorem Es.cons (h : E C ρ η e fun p η1 => Es C ρ η1 es fun ps η2 => Ξ (p :: ps) η2) (hs : starEach (e :: es) C.env = (false, eval e C.env) :: starEach es C.env := by rfl) : Es C ρ η (e :: es) Ξ := fun ok s pos Q Er st q =>
  spliced_more (h ok s _ Er st fun p v η1 h1 tk1 w i st1 => w ok _ pos _ Er st1 fun ps vs η2 h2 tk2 w2 is st2 => q (p :: ps) (v :: vs) η2 h2 tk2 w2 (.cons i is) st2) hs
theorem fresh_key {C : Ctx sc} {h : Heap} {news : Led} {l : Addr} {η : Hp} (hl : LedOf η news) (lt : ∀ q ∈ C.all news, q.1 < l) (hn : (η.map (·.1) ++ C.hid.map (·.1)).Nodup) {x : HO} : ((((l, x) :: η).map (·.1)) ++ C.hid.map (·.1)).Nodup := by
  rw [List.map_cons, List.cons_append, List.nodup_cons]
  refine ⟨fun m => ?_, hn⟩
  rw [← hl.keys, ← List.map_append] at m
  obtain ⟨q, hq, e⟩ := List.mem_map.mp m
  have z := lt q hq
  rw [e] at z
  exact absurd z (Nat.lt_irrefl _)
theorem E.lst (h : Es C ρ η es fun ps η1 => ps.length ≤ 1000 ∧ ∀ l, Φ (.ref l) ((l, .lst ps) :: η1)) : E C ρ η (.List es pos) Φ := fun ok s Q Er st q =>
  List_ (h ok s pos _ Er st fun ps vs η1 h1 tk1 w is st1 => by
    obtain ⟨m, news, F, N, hm, hl, hn⟩ := st1
    refine newList_K F N (fun l h2 F2 N2 lt => ?_) (by rw [is.len, sizeLine_eq]; omega)
    exact q (.ref l) _ _ h2 _ (w.2 l) rfl ⟨m, _ :: news, F2, N2, hm, .cons ⟨vs, 0, rfl, is⟩ hl, fresh_key (C := C) (h := h1) hl lt hn⟩)
theorem E.tup {k : Nat} (h : Es C ρ η es fun ps η1 => ps.length ≤ 1000 ∧ ∀ l, Φ (.ref l) ((l, .tup ps) :: η1)) : E C ρ η (.Tuple es k pos) Φ := fun ok s Q Er st q =>
  Tuple_ (h ok s pos _ Er st fun ps vs η1 h1 tk1 w is st1 => by
    obtain ⟨m, news, F, N, hm, hl, hn⟩ := st1
    refine newTuple_N F N (fun h2 F2 N2 => ?_) (by rw [is.len, sizeLine_eq]; omega)
    exact q (.ref _) _ _ h2 _ (w.2 _) rfl ⟨m, _ :: news, F2, N2, hm, .cons ⟨vs, rfl, is⟩ hl, fresh_key (C := C) (h := h1) hl (fun q hq => Heap.lt_size (N q hq).1) hn⟩)
end
end Mine
end
section
open PySem PySem.W PyProof.Rows PySem.Calls
set_option Elab.async false
set_option linter.unusedVariables false
set_option maxRecDepth 100000
namespace Mine
/-! the ledger turned at one place -/
inductive UpH (a : Addr) (x x' : HO) : Hp → Hp → Prop where
  | head {r} : UpH a x x' ((a, x) :: r) ((a, x') :: r)
  | tail {q r r'} : UpH a x x' r r' → UpH a x x' (q :: r) (q :: r')
theorem UpH.keys {a : Addr} {x x' : HO} {η η' : Hp} (h : UpH a x x' η η') : η'.map (·.1) = η.map (·.1) := by
  induction h with
  | head => rfl
  | tail _ ih => rw [List.map_cons, List.map_cons, ih]
theorem UpH.mem {a : Addr} {x x' : HO} {η η' : Hp} (h : UpH a x x' η η') : (a, x) ∈ η := by
  induction h with
  | head => exact .head _
  | tail _ ih => exact .tail _ ih
theorem UpH.split {a : Addr} {x x' : HO} {η η' : Hp} (h : UpH a x x' η η') : ∀ {news : Led}, LedOf η news → (η.map (·.1)).Nodup →
    ∃ pre post o, news = pre ++ (a, o) :: post ∧ IsO x o ∧ (∀ p ∈ pre, p.1 ≠ a) ∧ (∀ p ∈ post, p.1 ≠ a) ∧ ∀ o', IsO x' o' → LedOf η' (pre ++ (a, o') :: post) := by
  induction h with
  | @head r =>
    intro news hl hn
    cases hl with
    | cons hx hl =>
      rw [List.map_cons, List.nodup_cons] at hn
      refine ⟨[], _, _, rfl, hx, (fun _ h => nomatch h), fun p hp e => hn.1 ?_, fun o' ho' => .cons ho' hl⟩
      rw [← hl.keys]
      exact e ▸ List.mem_map_of_mem hp
  | @tail q r r' hr ih =>
    intro news hl hn
    obtain ⟨b, y⟩ := q
    cases hl with
    | @cons _ _ oy _ news' hy hl =>
      rw [List.map_cons, List.nodup_cons] at hn
      obtain ⟨pre, post, o, e, hx, h1, h2, h3⟩ := ih hl hn.2
      refine ⟨(b, oy) :: pre, post, o, by rw [e]; rfl, hx, fun p hp => ?_, h2, fun o' ho' => .cons hy (h3 o' ho')⟩
      rcases List.mem_cons.mp hp with rfl | hp
      · intro z
        refine hn.1 ?_
        have := List.mem_map_of_mem (f := Prod.fst) hr.mem
        exact (show b = a from z) ▸ this
      · exact h1 p hp
theorem UpH.splitC {sc : Shape} {C : Ctx sc} {a : Addr} {x x' : HO} {η η' : Hp} {news : Led} (U : UpH a x x' η η') (hl : LedOf η news) (hn : (η.map (·.1) ++ C.hid.map (·.1)).Nodup) :
    ∃ pre post o, C.all news = pre ++ (a, o) :: post ∧ IsO x o ∧ (∀ p ∈ pre, p.1 ≠ a) ∧ (∀ p ∈ post, p.1 ≠ a) ∧ ∀ o', IsO x' o' → ∃ news', LedOf η' news' ∧ C.all news' = pre ++ (a, o') :: post := by
  have hn' := List.nodup_append.mp hn
  obtain ⟨pre, post, o, rfl, hx, h1, h2, h3⟩ := U.split hl hn'.1
  refine ⟨pre, post ++ C.hid, o, by simp [Ctx.all], hx, h1, fun p hp => ?_, fun o' ho' => ⟨_, h3 o' ho', by simp [Ctx.all]⟩⟩
  rcases List.mem_append.mp hp with hp | hp
  · exact h2 p hp
  · intro e
    exact hn'.2.2 a (List.mem_map_of_mem (f := Prod.fst) U.mem) p.1 (List.mem_map_of_mem (f := Prod.fst) hp) e.symm
theorem ledOf_sub {η η' : Hp} (hs : List.Sublist η' η) : ∀ {news : Led}, LedOf η news → ∃ news', List.Sublist news' news ∧ LedOf η' news' := by
  induction hs with
  | slnil => intro news h; cases h; exact ⟨[], .slnil, .nil⟩
  | cons a _ ih =>
    intro news h
    cases h with
    | cons hx hl => obtain ⟨n', s, l⟩ := ih hl; exact ⟨n', .cons _ s, l⟩
  | cons_cons a _ ih =>
    intro news h
    cases h with
    | cons hx hl => obtain ⟨n', s, l⟩ := ih hl; exact ⟨_, .cons_cons _ s, .cons hx l⟩

section
variable {sc : Shape} {C : Ctx sc} {ρ ρ' : Rho} {η η' : Hp} {e et : Expr} {p : PV} {Φ : PV → Hp → Prop} {Θ : Bool → Hp → Prop} {pos npos : Pos} {x : Str} {ss body orelse : List Stmt} {Ψ : Rho → Hp → Flo → Prop}
theorem St.sub {h : Heap} (hs : List.Sublist η' η) (st : St C ρ η h) : St C ρ η' h := by
  obtain ⟨m, news, F, N, hm, hl, hn⟩ := st
  obtain ⟨n', s, l⟩ := ledOf_sub hs hl
  exact ⟨m, n', F, fun q hq => N q ((List.mem_append.mp hq).elim (fun h => List.mem_append_left _ (s.mem h)) (List.mem_append_right _)), hm, l, ((hs.map _).append (.refl _)).nodup hn⟩
theorem E.sub (hs : List.Sublist η' η) (h : E C ρ η' e Φ) : E C ρ η e Φ := fun ok s Q Er st q => h ok s Q Er (st.sub hs) q
theorem R.sub (hs : List.Sublist η' η) (h : R C ρ η' ss Ψ) : R C ρ η ss Ψ := fun ok s Q Er st q => h ok s Q Er (st.sub hs) q
theorem R.drop {q : Addr × HO} (h : R C ρ η ss Ψ) : R C ρ (q :: η) ss Ψ := R.sub (.cons _ (.refl _)) h
theorem E.drop {q : Addr × HO} (h : E C ρ η e Φ) : E C ρ (q :: η) e Φ := E.sub (.cons _ (.refl _)) h
theorem R.env (hr : ∀ x p, ρ'.lookup x = some p → ρ.lookup x = some p) (h : R C ρ' η ss Ψ) : R C ρ η ss Ψ := fun ok s Q Er st q =>
  h ok s Q Er (let ⟨m, news, F, N, hm, hl, hn⟩ := st; ⟨m, news, F, N, ⟨hm.1, fun x p e => hm.2 x p (hr x p e)⟩, hl, hn⟩) q
theorem R.mono {Ψ' : Rho → Hp → Flo → Prop} (h : R C ρ η ss Ψ) (k : ∀ ρ' η' f, Ψ ρ' η' f → Ψ' ρ' η' f) : R C ρ η ss Ψ' := fun ok s Q Er st q => h ok s Q Er st fun f fl ρ' η' h' tk' w i st' => q f fl ρ' η' h' tk' (k _ _ _ w) i st'

/-- p is stored under x -/
def Sto {sc : Shape} (C : Ctx sc) (ρ : Rho) (η : Hp) (x : Str) (p : PV) (ρ' : Rho) (η' : Hp) : Prop :=
  C.Ok → ∀ (s : Shared) (v : Value) (Q : Unit → Shared → Prop) (Er : Value → Shared → Prop), Is p v → St C ρ η s.heap → (∀ h' tk', St C ρ' η' h' → Q () (Sh s h' tk')) → wpAny C.M C.A (storeName C.env x v) Q Er s
theorem Sto.loc {sc : Scope} {C : Ctx (.fn sc)} (hk : sc.names.lookup x = some .local) : Sto C ρ η x p ((x, p) :: ρ) η := fun ok s v Q Er i st q => by
  obtain ⟨m, news, F, N, hm, hl, hn⟩ := st
  refine storeX_L F N (fun h' F' N' => q h' _ ⟨_, news, F', N', ⟨trivial, fun y p' e => ?_⟩, hl, hn⟩) ok.hk hk
  rw [List.lookup_cons] at e
  by_cases hy : y = x
  · subst hy
    simp at e
    exact ⟨v, if_pos rfl, e ▸ i⟩
  · rw [show (y == x) = false from beq_eq_false_iff_ne.mpr hy] at e
    obtain ⟨v', a, b⟩ := hm.2 y p' e
    exact ⟨v', (if_neg hy).trans a, b⟩
theorem Sto.cel {sc : Scope} {C : Ctx (.fn sc)} {c : Addr} {o : Option PV} (hc : C.cl.lookup x = some c) (U : UpH c (.cell o) (.cell (some p)) η η') (hk : sc.names.lookup x = some .cell) : Sto C ρ η x p ρ η' := fun ok s v Q Er i st q => by
  obtain ⟨m, news, F, N, hm, hl, hn⟩ := st
  obtain ⟨pre, post, ob, e0, hx, h1, h2, h3⟩ := U.splitC hl hn
  rw [e0] at N
  have hd : ∃ v₀, ob.data = .cell v₀ := by
    cases o with
    | none => exact ⟨_, hx⟩
    | some p0 => obtain ⟨v0, a, _⟩ := hx; exact ⟨_, a⟩
  obtain ⟨v₀, hd⟩ := hd
  have hmem := N (c, ob) (List.mem_append_right _ (.head _))
  refine wpAny_storeName_cell ok.hk hk hc ⟨ob, hmem.1, hd⟩ fun h' hv hs => ?_
  obtain ⟨o', ho', hd'⟩ := hv
  obtain ⟨news', l', e'⟩ := h3 o' ⟨v, hd', i⟩
  refine q h' _ ⟨m, news', F.change hs hmem.2.1 hmem.2.2, by rw [e']; exact news_set N h1 h2 hs ho', hm, l', by rw [U.keys]; exact hn⟩
inductive Stos {sc : Shape} (C : Ctx sc) : List Str → List PV → Rho → Hp → Rho → Hp → Prop where
  | nil {ρ : Rho} {η : Hp} : Stos C [] [] ρ η ρ η
  | cons {x : Str} {p : PV} {xs : List Str} {ps : List PV} {ρ ρ1 ρ2 : Rho} {η η1 η2 : Hp} : Sto C ρ η x p ρ1 η1 → Stos C xs ps ρ1 η1 ρ2 η2 → Stos C (x :: xs) (p :: ps) ρ η ρ2 η2
theorem Stos.go {xs : List Str} {ps : List PV} (h : Stos C xs ps ρ η ρ' η') : C.Ok → ∀ (vs : List Value) (s : Shared) (Q : Unit → Shared → Prop) (Er : Value → Shared → Prop), AreV ps vs → St C ρ η s.heap → (∀ h' tk', St C ρ' η' h' → Q () (Sh s h' tk')) →
    wpAny C.M C.A (assignInOrder (xs.map fun n => bindName C.env n) vs) Q Er s := by
  induction h with
  | nil => intro _ vs s Q Er i st q; exact assignInOrder_nil (q s.heap s.toks st)
  | cons h1 _ ih =>
    intro ok vs s Q Er i st q
    cases i with
    | cons i1 i2 => exact assignInOrder_cons (bindName_ (h1 ok s _ _ Er i1 st fun h' tk' st' => ih ok _ _ Q Er i2 st' q))
theorem Stos.goU : ∀ {names : List (Str × Pos)} {ps : List PV} {ρ ρ' : Rho} {η η' : Hp}, Stos C (names.map (·.1)) ps ρ η ρ' η' → C.Ok → ∀ (vs : List Value) (s : Shared) (Q : Unit → Shared → Prop) (Er : Value → Shared → Prop), AreV ps vs → St C ρ η s.heap → (∀ h' tk', St C ρ' η' h' → Q () (Sh s h' tk')) →
    wpAny C.M C.A (assignInOrder (names.map fun n => assign (.Name n.1 n.2) C.env) vs) Q Er s
  | [], _, _, _, _, _, h, _, _, s, _, _, _, st, q => by cases h; exact assignInOrder_nil (q s.heap s.toks st)
  | n :: r, _, _, _, _, _, h, ok, _, s, Q, Er, i, st, q => by
    cases h with
    | cons h1 h2 => cases i with
      | cons i1 i2 => exact assignInOrder_cons (assign_Name (h1 ok s _ _ Er i1 st fun h' tk' st' => h2.goU ok _ _ Q Er i2 st' q))

theorem R.nil (h : Ψ ρ η .next) : R C ρ η [] Ψ := fun _ s _ _ st q => wpAny_execs_nil (q .next .next ρ η s.heap s.toks h rfl st)
theorem R.assign (h : E C ρ η e fun p η1 => ∃ ρ' η2, Sto C ρ η1 x p ρ' η2 ∧ R C ρ' η2 ss Ψ) (hs : swapsWith e (some (Expr.Name x npos)) pos.line C.env = pure false := by rfl) : R C ρ η (.Assign [.Name x npos] e pos :: ss) Ψ := fun ok s Q Er st q =>
  wpAny_execs_cons (wpAny_Assign_Name (h ok s _ Er st fun p v η1 h1 tk1 ⟨ρ', η2, w1, w2⟩ i st1 => w1 ok _ v _ Er i st1 fun h2 tk2 st2 => w2 ok _ Q Er st2 q) hs)
theorem R.ret (h : E C ρ η e fun p η1 => Ψ ρ η1 (.ret p)) : R C ρ η (.Return (some e) pos :: ss) Ψ := fun ok s Q Er st q =>
  wpAny_execs_cons (wpAny_Return_some (h ok s _ Er st fun p v η1 h1 tk1 w i st1 => q (.ret p) (.ret v) ρ η1 h1 tk1 w ⟨v, rfl, i⟩ st1))
theorem R.expr (h : E C ρ η e fun _ η1 => R C ρ η1 ss Ψ) (hi : interactive C.env = false := by rfl) (hs : swapsWith e none pos.line C.env = pure false := by rfl) : R C ρ η (.Expr e pos :: ss) Ψ := fun ok s Q Er st q =>
  wpAny_execs_cons (wpAny_Expr_any (h ok s _ Er st fun p v η1 h1 tk1 w i st1 => w ok _ Q Er st1 q) hi hs)
/-- what stands behind a block -/
def Thn {sc : Shape} (C : Ctx sc) (ss : List Stmt) (Ψ : Rho → Hp → Flo → Prop) (ρ : Rho) (η : Hp) : Flo → Prop
  | .next => R C ρ η ss Ψ
  | f => Ψ ρ η f
theorem thn_go (ok : C.Ok) {s : Shared} {f : Flo} {fl : Flow} {h' : Heap} {tk' : Nat} {Q : Flow → Shared → Prop} {Er : Value → Shared → Prop} (w : Thn C ss Ψ ρ η f) (i : IsF f fl) (st : St C ρ η h')
    (q : ∀ f fl ρ' η' h' tk', Ψ ρ' η' f → IsF f fl → St C ρ' η' h' → Q fl (Sh s h' tk')) : (match (generalizing := false) fl with | Flow.next => wpAny C.M C.A (execs ss C.env) Q Er (Sh s h' tk') | f => Q f (Sh s h' tk')) := by
  cases f with
  | next => obtain rfl : fl = .next := i; exact w ok _ Q Er st q
  | brk => obtain rfl : fl = .brk := i; exact q .brk .brk ρ η h' tk' w rfl st
  | cont => obtain rfl : fl = .cont := i; exact q .cont .cont ρ η h' tk' w rfl st
  | ret p => obtain ⟨v, rfl, i⟩ := i; exact q (.ret p) (.ret v) ρ η h' tk' w ⟨v, rfl, i⟩ st
theorem R.ife (h : T C ρ η et fun b η1 => (b = true → R C ρ η1 body (Thn C ss Ψ)) ∧ (b = false → R C ρ η1 orelse (Thn C ss Ψ))) : R C ρ η (.If et body orelse pos :: ss) Ψ := fun ok s Q Er st q =>
  wpAny_execs_cons (wpAny_If (h ok s _ Er st fun b η1 h1 tk1 k st1 => by
    cases b with
    | true => exact k.1 rfl ok _ _ Er st1 fun f fl ρ' η' h' tk' w i st' => thn_go (s := s) ok w i st' q
    | false => exact k.2 rfl ok _ _ Er st1 fun f fl ρ' η' h' tk' w i st' => thn_go (s := s) ok w i st' q))
/-- what a turn of a loop must leave -/
def Turn {sc : Shape} (C : Ctx sc) (ss : List Stmt) (Ψ : Rho → Hp → Flo → Prop) (J : Rho → Hp → Prop) (ρ : Rho) (η : Hp) : Flo → Prop
  | .next => J ρ η
  | .cont => J ρ η
  | .brk => R C ρ η ss Ψ
  | .ret p => Ψ ρ η (.ret p)
theorem R.whi (I : Rho → Hp → Nat → Prop) (n : Nat) (h0 : I ρ η n)
    (step : ∀ ρ η n, I ρ η n → T C ρ η et fun b η1 => (b = true → R C ρ η1 body (Turn C ss Ψ fun ρ' η' => ∃ n', n' < n ∧ I ρ' η' n')) ∧ (b = false → R C ρ η1 ss Ψ)) : R C ρ η (.While et body [] pos :: ss) Ψ := fun ok s Q Er st q => by
  refine wpAny_execs_cons (wpAny_While (codeAny_whileLoop (fun n s' => ∃ ρ η h tk, s' = Sh s h tk ∧ St C ρ η h ∧ I ρ η n) ?_ n ⟨ρ, η, s.heap, s.toks, rfl, st, h0⟩))
  rintro n s' ⟨ρ1, η1, h1, tk1, rfl, st1, hI⟩
  refine step ρ1 η1 n hI ok _ _ _ st1 fun b η2 h2 tk2 k st2 => ?_
  cases b with
  | false =>
    rw [if_neg Bool.false_ne_true]
    exact wpAny_execs_nil (k.2 rfl ok _ Q Er st2 q)
  | true =>
    rw [if_pos rfl]
    refine k.1 rfl ok _ _ _ st2 fun f fl ρ' η' h' tk' w i st' => ?_
    cases f with
    | next => obtain rfl : fl = .next := i; obtain ⟨n', hn, hI'⟩ := w; exact ⟨n', hn, ρ', η', h', tk', rfl, st', hI'⟩
    | cont => obtain rfl : fl = .cont := i; obtain ⟨n', hn, hI'⟩ := w; exact ⟨n', hn, ρ', η', h', tk', rfl, st', hI'⟩
    | brk => obtain rfl : fl = .brk := i; exact w ok _ Q Er st' q
    | ret p => obtain ⟨v, rfl, i⟩ := i; exact q (.ret p) (.ret v) ρ' η' h' tk' w ⟨v, rfl, i⟩ st'
end

/-! unpacking -/
theorem AreV.app {ps qs : List PV} {vs us : List Value} (h : AreV ps vs) (k : AreV qs us) : AreV (ps ++ qs) (vs ++ us) := by
  induction h with
  | nil => exact k
  | cons i _ ih => exact .cons i ih
theorem AreV.rev {ps : List PV} {vs : List Value} (h : AreV ps vs) : AreV ps.reverse vs.reverse := by
  induction h with
  | nil => exact .nil
  | cons i _ ih => rw [List.reverse_cons, List.reverse_cons]; exact ih.app (.cons i .nil)
section
variable {sc : Shape} {C : Ctx sc} {ρ ρ' : Rho} {η η' : Hp} {e : Expr} {pos tpos : Pos} {elts : List Expr} {k : Nat} {ss : List Stmt} {Ψ : Rho → Hp → Flo → Prop}
theorem R.tupS (names : List Str) (h : E C ρ η e fun p η1 => ∃ a ps, p = .ref a ∧ (a, HO.tup ps) ∈ η1 ∧ names.length = ps.length ∧ ∃ ρ' η2, Stos C names.reverse ps.reverse ρ η1 ρ' η2 ∧ R C ρ' η2 ss Ψ)
    (hs : swapsWithSole [.Tuple elts k tpos] e pos.line C.env = pure false := by rfl) (hw : swappedStores [.Tuple elts k tpos] e C.env = pure (some names) := by rfl) : R C ρ η (.Assign [.Tuple elts k tpos] e pos :: ss) Ψ := fun ok s Q Er st q =>
  wpAny_execs_cons (Assign_Tuple_swapped (h ok s _ Er st fun p v η1 h1 tk1 ⟨a, ps, hp, hm, hlen, ρ', η2, hst, w⟩ i st1 => by
    subst hp
    obtain rfl : v = .ref a := i
    obtain ⟨m, news, F, N, hmm, hl, hn⟩ := st1
    obtain ⟨o, ho, vs, rfl, is⟩ := hl.get hm
    refine unpackItemsN_ F N (items := vs.toArray) ⟨_, (N _ (List.mem_append_left _ ho)).1, rfl, _, rfl⟩ rfl (by rw [List.size_toArray, is.len, hlen]) fun h2 F2 N2 => ?_
    have e1 : vs.toArray.toList.reverse = vs.reverse := by simp
    rw [e1]
    exact hst.go ok _ _ _ Er is.rev ⟨m, news, F2, N2, hmm, hl, hn⟩ fun h3 tk3 st3 => w ok _ Q Er st3 q) hs hw)
theorem R.tupU (xs : List Str) (names : List (Str × Pos)) (h : E C ρ η e fun p η1 => ∃ a ps, p = .ref a ∧ (a, HO.tup ps) ∈ η1 ∧ names.length = ps.length ∧ ∃ ρ' η2, Stos C xs ps ρ η1 ρ' η2 ∧ R C ρ' η2 ss Ψ) (hx : names.map (·.1) = xs)
    (he : elts = names.map fun n => Expr.Name n.1 n.2)
    (hs : swapsWithSole [.Tuple elts k tpos] e pos.line C.env = pure false := by rfl) (hw : swappedStores [.Tuple elts k tpos] e C.env = pure none := by rfl) : R C ρ η (.Assign [.Tuple elts k tpos] e pos :: ss) Ψ := fun ok s Q Er st q =>
  wpAny_execs_cons (Assign_Tuple (h ok s _ Er st fun p v η1 h1 tk1 ⟨a, ps, hp, hm, hlen, ρ', η2, hst, w⟩ i st1 => by
    subst hp
    obtain rfl : v = .ref a := i
    obtain ⟨m, news, F, N, hmm, hl, hn⟩ := st1
    obtain ⟨o, ho, vs, rfl, is⟩ := hl.get hm
    have ha : ∀ ns : List (Str × Pos), assignEach (ns.map fun n => Expr.Name n.1 n.2) C.env = ns.map fun n => (false, PySem.assign (.Name n.1 n.2) C.env) := by
      intro ns
      induction ns with
      | nil => rfl
      | cons q r ih => rw [List.map_cons, List.map_cons, ← ih]; rfl
    subst he hx
    have hlen2 : (assignEach (names.map fun n => Expr.Name n.1 n.2) C.env).length = vs.toArray.size := by rw [ha, List.length_map, hlen, List.size_toArray, is.len]
    refine unpackN_ F N (items := vs.toArray) ⟨_, (N _ (List.mem_append_left _ ho)).1, rfl, _, rfl⟩ rfl hlen2 ?_ fun h2 F2 N2 => ?_
    · rw [ha]
      induction names with
      | nil => rfl
      | cons q r ih => simp [List.findIdx?_cons]
    · rw [ha, List.map_map]
      exact hst.goU ok _ _ _ Er is ⟨m, news, F2, N2, hmm, hl, hn⟩ fun h3 tk3 st3 => w ok _ Q Er st3 q) hs hw)
end

/-! calls -/
inductive Binds : Rho → List (Str × Value) → Prop where
  | nil : Binds [] []
  | cons {x : Str} {p : PV} {v : Value} {ρ : Rho} {bs : List (Str × Value)} : Is p v → Binds ρ bs → Binds ((x, p) :: ρ) ((x, v) :: bs)
theorem Binds.app {ρ ρ' : Rho} {bs bs' : List (Str × Value)} (h : Binds ρ bs) (k : Binds ρ' bs') : Binds (ρ ++ ρ') (bs ++ bs') := by
  induction h with
  | nil => exact k
  | cons i _ ih => exact .cons i ih
theorem Binds.rev {ρ : Rho} {bs : List (Str × Value)} (h : Binds ρ bs) : Binds ρ.reverse bs.reverse := by
  induction h with
  | nil => exact .nil
  | cons i _ ih => rw [List.reverse_cons, List.reverse_cons]; exact ih.app (.cons i .nil)
theorem Binds.zip {names : List Str} : ∀ {ps : List PV} {vs : List Value}, AreV ps vs → Binds (names.zip ps) (names.zip vs) := by
  induction names with
  | nil => intro ps vs _; exact .nil
  | cons n r ih =>
    intro ps vs h
    cases h with
    | nil => exact .nil
    | cons i h => exact .cons i (ih h)
theorem Binds.look {ρ : Rho} {bs : List (Str × Value)} (h : Binds ρ bs) : ∀ x p, ρ.lookup x = some p → ∃ v, bs.lookup x = some v ∧ Is p v := by
  induction h with
  | nil => intro x p e; simp at e
  | @cons y p0 v ρ bs i _ ih =>
    intro x p e
    rw [List.lookup_cons] at e ⊢
    by_cases hy : x = y
    · subst hy; simp at e ⊢; exact e ▸ i
    · rw [show (x == y) = false from beq_eq_false_iff_ne.mpr hy] at e ⊢
      exact ih x p e
def Back (Φ : PV → Hp → Prop) (_ : Rho) (η : Hp) : Flo → Prop
  | .ret p => ∃ η', List.Sublist η' η ∧ Φ p η'
  | .next => ∃ η', List.Sublist η' η ∧ Φ .non η'
  | _ => False
theorem Back.r {Φ : PV → Hp → Prop} {ρ : Rho} {η : Hp} {p : PV} (h : Φ p η) : Back Φ ρ η (.ret p) := ⟨η, .refl _, h⟩
theorem Back.s {Φ : PV → Hp → Prop} {ρ : Rho} {η η' : Hp} {p : PV} (hs : List.Sublist η' η) (h : Φ p η') : Back Φ ρ η (.ret p) := ⟨η', hs, h⟩
section
variable {f : Addr} {k : Nat} {ps : List PV} {η : Hp} {Φ : PV → Hp → Prop} {name qual : Str} {params : Arguments} {body : List Stmt} {scope : Scope} {dV kV doc pm cdv ct oc : Value} {an od : Option Addr} {osl : Array (Option Value)}
theorem Fn.enter (names : List Str) (ρ₀ : Rho) (hρ : (names.zip ps).reverse = ρ₀) (ho : ∀ P, List.lookup f (kK P) = some ⟨oc, od, .func (fnOf name qual params body scope dV kV doc pm an cdv ct), osl⟩) (hcd : ∀ P, codeIn (kK P) cdv qual = true)
    (hb : ∀ s vs, AreV ps vs → BindsTo s (fnOf name qual params body scope dV kV doc pm an cdv ct) ⟨vs, []⟩ (names.zip vs))
    (hl : ∀ x ∈ names, scope.names.lookup x = some .local) (hcell : ∀ x ∈ scope.names, x.2 ≠ .cell)
    (hco : scope.isCoroutine = false) (hgen : scope.isGenerator = false) (hk : scope.kind = .function) (k1 : 1 ≤ k)
    (h : ∀ C : Ctx (.fn scope), k ≤ C.k + 1 → R C ρ₀ η body (Back Φ)) : Fn f k ps η Φ := fun sc C hkC ok ρ s vs Q Er iv st q => by
  subst hρ
  have hr := ok.hd
  have hu := ok.hu
  obtain ⟨m, news, F, N, hm, hld, hn⟩ := st
  refine wpAny_call (code_def ok.B F ok.X N ok.T rfl rfl ok.hk (ho _) (hcd _) (by show C.dp < _; omega) (hb s vs iv) (fun y hy => hl _ (List.of_mem_zip hy).1) (fun g L' h₁ FG F' N' B' X' T' => ?_) hco hgen hk hcell)
  refine h ⟨C.w, C.mean, C.mg, C.mb, C.dp + 1, C.un + 3, C.k - 1, C.gd, qual, f, cdv, [], C.fenv :: C.outer, C.A, C.base, g, L', C.hid, 0, [], fun _ => none, fun _ => none⟩ (by show k ≤ C.k - 1 + 1; omega)
    ⟨B', X', T', hk, by show C.dp + 1 + (C.k - 1) < _; omega, by show C.un + 3 + 8 * (C.k - 1) + 70 < _; omega, trivial⟩ _ _ _
    ⟨_, news, F', N', ⟨trivial, (Binds.zip iv).rev.look⟩, hld, hn⟩ (fun fl flv ρ' η' h' tk' w i st' => ?_)
  have go : ∀ p v, Is p v → (∃ η'', List.Sublist η'' η' ∧ Φ p η'') → LeaveK C.h₀ C.L m g (fun r s' => match r with | .ok (.ret v) => Q v s' | .ok _ => False | .error e => Er e s') v (Sh s h' tk') := fun p v i ⟨η'', hs, w⟩ => by
    obtain ⟨m', news', F2, N2, hm2, hl2, hn2⟩ := st'.sub hs
    exact leaveK_ F2 N2 fun F3 N3 => q p v η'' h' tk' w i ⟨m, news', F3, N3, hm, hl2, hn2⟩
  cases fl with
  | next => obtain rfl : flv = .next := i; exact go .non .none rfl w
  | brk => exact w.elim
  | cont => exact w.elim
  | ret p => obtain ⟨v, rfl, i⟩ := i; exact go p v i w
end
section
variable {sc : Shape} {C : Ctx sc} {ρ : Rho} {η : Hp} {ef : Expr} {e0 : Expr} {es : List Expr} {f : Addr} {k : Nat} {Φ : PV → Hp → Prop} {pos : Pos}
/-- a def of the text is called -/
theorem E.call (hf : V C ρ η ef (.ref f)) (hk : k ≤ C.k) (hkeep : ∀ P, keepIn (kK P) (.ref f) = true) (h : Es C ρ η (e0 :: es) fun ps η1 => Fn f k ps η1 Φ)
    (he : eval (.Call ef (e0 :: es) [] pos) C.env = (do callWith pos (← eval ef C.env) [] (backTo pos (starEach (e0 :: es) C.env)) (backToKw pos (keywordEach [] C.env))) := by rfl)
    (hs : starEach (e0 :: es) C.env = (false, eval e0 C.env) :: starEach es C.env := by rfl) (hp : (backTo pos (starEach es C.env)).any (·.1) = false := by rfl) : E C ρ η (.Call ef (e0 :: es) [] pos) Φ := fun ok s Q Er st q =>
  Call_ (hf ok s _ Er st fun p v η1 h1 tk1 ⟨e1, e2⟩ i st1 => by
    subst e1 e2
    obtain rfl : v = .ref f := i
    refine callWith_K (h₀ := C.h₀) ok.X (hkeep _) (h ok _ pos _ Er st1 fun ps vs η2 h2 tk2 w is st2 => ?_) hs hp
    refine ⟨let ⟨_, _, F, _⟩ := st2; ok.X.keeps F.keep, ?_⟩
    exact w sc C hk ok ρ _ vs Q Er is st2 q) he
theorem E.call0 (hf : V C ρ η ef (.ref f)) (hk : k ≤ C.k) (hkeep : ∀ P, keepIn (kK P) (.ref f) = true) (h : Fn f k [] η Φ)
    (he : eval (.Call ef [] [] pos) C.env = (do callWith pos (← eval ef C.env) [] (backTo pos (starEach [] C.env)) (backToKw pos (keywordEach [] C.env))) := by rfl) : E C ρ η (.Call ef [] [] pos) Φ := fun ok s Q Er st q =>
  Call_ (hf ok s _ Er st fun p v η1 h1 tk1 ⟨e1, e2⟩ i st1 => by
    subst e1 e2
    obtain rfl : v = .ref f := i
    exact callWith_K0 (let ⟨_, _, F, _⟩ := st1; ok.X.keeps F.keep) (hkeep _) (h sc C hk ok ρ _ [] Q Er .nil st1 q)) he
/-- a built-in is called -/
def Blt {sc : Shape} (C : Ctx sc) (id : String) (ps : List PV) (η : Hp) (Φ : PV → Hp → Prop) : Prop :=
  C.Ok → ∀ (ρ : Rho) (s : Shared) (vs : List Value) (Q : Value → Shared → Prop) (Er : Value → Shared → Prop), AreV ps vs → St C ρ η s.heap → (∀ p v η' h' tk', Φ p η' → Is p v → St C ρ η' h' → Q v (Sh s h' tk')) → wpAny C.M C.A (PySem.call (.builtin id) vs) Q Er s
theorem E.blt {id : String} (hf : V C ρ η ef (.val (.builtin id))) (h : Es C ρ η (e0 :: es) fun ps η1 => Blt C id ps η1 Φ)
    (he : eval (.Call ef (e0 :: es) [] pos) C.env = (do callWith pos (← eval ef C.env) [] (backTo pos (starEach (e0 :: es) C.env)) (backToKw pos (keywordEach [] C.env))) := by rfl)
    (hs : starEach (e0 :: es) C.env = (false, eval e0 C.env) :: starEach es C.env := by rfl) (hp : (backTo pos (starEach es C.env)).any (·.1) = false := by rfl) : E C ρ η (.Call ef (e0 :: es) [] pos) Φ := fun ok s Q Er st q =>
  Call_ (hf ok s _ Er st fun p v η1 h1 tk1 ⟨e1, e2⟩ i st1 => by
    subst e1 e2
    obtain rfl : v = .builtin id := i
    exact PyProof.Rows.callWith_builtin1 (h ok _ pos _ Er st1 fun ps vs η2 h2 tk2 w is st2 => w ok ρ _ vs Q Er is st2 q) hs hp) he
theorem Blt.abs {n : Int} (h : Φ (.int (if n < 0 then -n else n)) η) : Blt C "abs" [.int n] η Φ := fun ok ρ s vs Q Er i st q => by
  cases i with
  | cons i1 i2 => cases i2; obtain ⟨t, rfl⟩ := i1; exact call_abs_int fun u tk => q _ _ η s.heap tk h ⟨u, rfl⟩ st
end
end Mine
end
section
open PySem PySem.W PyProof.Rows PySem.Calls
set_option Elab.async false
set_option linter.unusedVariables false
set_option maxRecDepth 100000
namespace Mine
abbrev intL (ns : List Int) : List PV := ns.map PV.int
theorem intL_are : ∀ {ns : List Int} {vs : List Value}, AreV (intL ns) vs → IntsAre vs ns
  | [], _, h => by cases h; exact .nil
  | n :: r, _, h => by
    cases h with
    | cons i h => obtain ⟨t, rfl⟩ := i; exact .cons n t (intL_are h)
def asInts : List PV → Option (List Int)
  | [] => some []
  | .int n :: r => (asInts r).map (n :: ·)
  | _ => none
theorem asInts_eq : ∀ {xs : List PV} {ns : List Int}, asInts xs = some ns → xs = intL ns
  | [], _, h => by cases h; rfl
  | .int n :: r, ns, h => by
    unfold asInts at h
    obtain ⟨ms, h1, rfl⟩ := Option.map_eq_some_iff.mp h
    rw [asInts_eq h1]; rfl
  | .str _ :: _, _, h => nomatch h
  | .byt _ :: _, _, h => nomatch h
  | .val _ :: _, _, h => nomatch h
theorem asInts_of (ns : List Int) : asInts (intL ns) = some ns := by
  induction ns with
  | nil => rfl
  | cons n r ih => show (asInts (intL r)).map (n :: ·) = _; rw [ih]; rfl

def notStar : Expr → Bool
  | .Starred .. => false
  | _ => true
theorem star_plain {e : Expr} {es : List Expr} {env : Env} (h : notStar e = true) : starEach (e :: es) env = (false, eval e env) :: starEach es env := by
  cases e <;> first | rfl | cases h
section
variable {sc : Shape} {C : Ctx sc} {ρ : Rho} {η η' : Hp} {e ei : Expr} {es : List Expr} {f : Addr} {k : Nat} {p q : PV} {ps : List PV} {Φ : PV → Hp → Prop} {Θ : Bool → Hp → Prop} {pos xpos : Pos} {x : Str}
theorem Fn.mono {Φ' : PV → Hp → Prop} (h : Fn f k ps η Φ') (m : ∀ p η', Φ' p η' → Φ p η') : Fn f k ps η Φ := fun sc C hk ok ρ s vs Q Er iv st q => h sc C hk ok ρ s vs Q Er iv st fun p v η' h' tk' w => q p v η' h' tk' (m _ _ w)
/-- pure expressions, one behind the other -/
inductive Vs {sc : Shape} (C : Ctx sc) (ρ : Rho) (η : Hp) : List Expr → List PV → Prop where
  | nil : Vs C ρ η [] []
  | cons {e : Expr} {p : PV} {es : List Expr} {ps : List PV} : V C ρ η e p → notStar e = true → Vs C ρ η es ps → Vs C ρ η (e :: es) (p :: ps)
theorem Vs.up (h : Vs C ρ η es ps) : ∀ {Ξ : List PV → Hp → Prop}, Ξ ps η → Es C ρ η es Ξ := by
  induction h with
  | nil => intro Ξ k; exact Es.nil k
  | cons h1 h2 _ ih => intro Ξ k; exact Es.cons (h1.up (ih k)) (star_plain h2)
theorem any_plain {C : Ctx sc} (h : Vs C ρ η es ps) : (backTo pos (starEach es C.env)).any (·.1) = false := by
  induction h with
  | nil => rfl
  | cons _ h2 _ ih =>
    rw [star_plain h2]
    simpa [backTo] using ih
structure IsFn (x : Str) (f : Addr) : Prop where
  g : ∀ P, nsIn (kK P) mainGlobals x = some (some (.ref f))
  k : ∀ P, keepIn (kK P) (.ref f) = true
/-- the global x is looked up in this scope -/
def isGlob (sc : Shape) (x : Str) : Bool := match x == ("__debug__" : Str), sc.names.lookup x with
  | false, some .globalImplicit => true
  | _, _ => false
theorem V.gl {v : Value} (h : nsIn (kK C.w.params) mainGlobals x = some (some v)) (i : Is p v) (hg : isGlob sc x = true) : V C ρ η (.Name x pos) p := by
  unfold isGlob at hg
  split at hg
  · rename_i h1 h2; exact V.glob h i h2 h1
  · cases hg
theorem V.fn (h : IsFn x f) (hg : isGlob sc x = true) : V C ρ η (.Name x pos) (.ref f) := V.gl (h.g _) rfl hg
theorem V.bl {v : Value} (h : ∀ P, nsIn (kK P) mainGlobals x = some none) (hv : bootBuiltins x = some v) (i : Is p v) (hg : isGlob sc x = true) (hn : x ≠ "__name__") : V C ρ η (.Name x pos) p := by
  unfold isGlob at hg
  split at hg
  · rename_i h1 h2; exact V.blt (h _) hv i hn h2 h1
  · cases hg
theorem E.fn (hf : IsFn x f) (hg : isGlob sc x = true) (hv : Vs C ρ η es ps) (hk : k ≤ C.k) (h : Fn f k ps η Φ) : E C ρ η (.Call (.Name x xpos) es [] pos) Φ := by
  cases hv with
  | nil => exact E.call0 (V.fn hf hg) hk hf.k h
  | cons h1 h2 h3 => exact E.call (V.fn hf hg) hk hf.k (Es.cons (h1.up (h3.up h)) (star_plain h2)) rfl (star_plain h2) (any_plain h3)
/-- a call that gives a value and changes nothing -/
abbrev Pure (f : Addr) (k : Nat) (ps : List PV) (η : Hp) (p : PV) : Prop := Fn f k ps η fun q η' => q = p ∧ η' = η
theorem V.call (hf : IsFn x f) (hg : isGlob sc x = true) (hv : Vs C ρ η es ps) (hk : k ≤ C.k) (h : Pure f k ps η p) : V C ρ η (.Call (.Name x xpos) es [] pos) p := E.fn hf hg hv hk h

theorem V.of (h : ∀ Φ, Φ p η → E C ρ η e Φ) : V C ρ η e p := h _ ⟨rfl, rfl⟩
/-- an item of a list that stands in the ledger -/
theorem item_lst {a : Addr} {xs : List PV} {i : Int} {p : PV} (hm : (a, HO.lst xs) ∈ η) (h0 : 0 ≤ i) (h1 : i < 2 ^ 63) (hx : xs[i.toNat]? = some p) (st : St C ρ η s.heap) {value slice : Expr} {v : Value} {Q : Value → Shared → Prop} {Er : Value → Shared → Prop} (iv : Is (.int i) v)
    (q : ∀ v, Is p v → Q v s) (hs : ∀ k u, subscripted slice false (.ref a) (.int k u) = operate [.ref a, .int k u] (getItem (.ref a) (.int k u))) : wpAny C.M C.A (subscriptTail value slice (.ref a) v) Q Er s := by
  obtain ⟨m, news, F, N, hmm, hl, hn⟩ := st
  obtain ⟨o, ho, vs, n, rfl, is⟩ := hl.get hm
  obtain ⟨t, rfl⟩ := iv
  obtain ⟨v, hv, ip⟩ := is.get hx
  have hL : s.heap.IsList a vs.toArray := ⟨_, (N _ (List.mem_append_left _ ho)).1, rfl, n, rfl⟩
  exact tail_any hL.typeIs slot_list_getitem.lookup (wpAny_getItem_list hL h0 h1 (by simpa using hv) (q v ip)) (hs i t)
theorem item_tup {a : Addr} {xs : List PV} {i : Int} {p : PV} (hm : (a, HO.tup xs) ∈ η) (h0 : 0 ≤ i) (h1 : i < 2 ^ 63) (hx : xs[i.toNat]? = some p) (st : St C ρ η s.heap) {value slice : Expr} {v : Value} {Q : Value → Shared → Prop} {Er : Value → Shared → Prop} (iv : Is (.int i) v)
    (q : ∀ v, Is p v → Q v s) (hs : ∀ k u, subscripted slice false (.ref a) (.int k u) = operate [.ref a, .int k u] (getItem (.ref a) (.int k u))) : wpAny C.M C.A (subscriptTail value slice (.ref a) v) Q Er s := by
  obtain ⟨m, news, F, N, hmm, hl, hn⟩ := st
  obtain ⟨o, ho, vs, rfl, is⟩ := hl.get hm
  obtain ⟨t, rfl⟩ := iv
  obtain ⟨v, hv, ip⟩ := is.get hx
  have hlt : i.toNat < vs.length := by
    rcases Nat.lt_or_ge i.toNat vs.length with h | h
    · exact h
    · rw [List.getElem?_eq_none h] at hv; cases hv
  refine item_tupleT (j := i.toNat) (l := vs) ⟨_, (N _ (List.mem_append_left _ ho)).1, rfl, _, rfl⟩ (by omega) h1 ?_ hv (q v ip) (hs i t)
  unfold seqIndex?
  simp [h0, hlt]
  omega
def Subscr (slice : Expr) : Prop := ∀ a k u, subscripted slice false (.ref a) (.int k u) = operate [.ref a, .int k u] (getItem (.ref a) (.int k u))
def noSlice : Expr → Bool
  | .Slice .. => false
  | .Tuple .. => false
  | _ => true
theorem Subscr.of {slice : Expr} (h : noSlice slice = true) : Subscr slice := by
  intro a k u
  cases slice <;> first | rfl | cases h
/-- an object's items, list or tuple -/
inductive ItemOf (η : Hp) (a : Addr) (xs : List PV) : Prop where
  | lst : (a, HO.lst xs) ∈ η → ItemOf η a xs
  | tup : (a, HO.tup xs) ∈ η → ItemOf η a xs
theorem E.item (h : E C ρ η e fun p1 η1 => E C ρ η1 ei fun p2 η2 => ∃ a xs i p, p1 = .ref a ∧ p2 = .int i ∧ ItemOf η2 a xs ∧ 0 ≤ i ∧ i < 2 ^ 63 ∧ xs[i.toNat]? = some p ∧ Φ p η2) (hs : noSlice ei = true) : E C ρ η (.Subscript e ei pos) Φ :=
  E.bind2 h (fun _ _ _ => Subscript_) fun p1 p2 η2 ⟨a, xs, i, p, e1, e2, hm, h0, h1, hx, k⟩ ok s v1 v2 Q Er i1 i2 st q => by
    subst e1 e2
    obtain rfl : v1 = .ref a := i1
    cases hm with
    | lst hm => exact item_lst hm h0 h1 hx st i2 (fun v iv => q p v η2 s.heap s.toks k iv st) (Subscr.of hs a)
    | tup hm => exact item_tup hm h0 h1 hx st i2 (fun v iv => q p v η2 s.heap s.toks k iv st) (Subscr.of hs a)
theorem V.item {a : Addr} {xs : List PV} {i : Nat} (h1 : V C ρ η e (.ref a)) (h2 : V C ρ η ei (.int i)) (hm : ItemOf η a xs) (hi : Nat.ble i 1000 = true) (hx : xs[i]? = some p) (hs : noSlice ei = true) : V C ρ η (.Subscript e ei pos) p :=
  E.item (h1.up (h2.up ⟨a, xs, i, p, rfl, rfl, hm, by omega, by have := Nat.le_of_ble_eq_true hi; omega, hx, rfl, rfl⟩)) hs

/-- a comparison that may look at the ledger -/
def CmpH {sc : Shape} (C : Ctx sc) (η : Hp) (op : CmpOp) (p1 p2 : PV) (b : Bool) : Prop := C.Ok → ∀ (ρ : Rho) (Er : Value → Shared → Prop) (s : Shared) (v1 v2 : Value) (Q : Value → Shared → Prop), Is p1 v1 → Is p2 v2 → St C ρ η s.heap → (∀ tk', Q (.bool b) (Sh s s.heap tk')) → wpAny C.M C.A (compareOp op v1 v2) Q Er s
theorem E.cmpH {op : CmpOp} {e1 e2 : Expr} (h : E C ρ η e1 fun p1 η1 => E C ρ η1 e2 fun p2 η2 => ∃ b, CmpH C η2 op p1 p2 b ∧ Φ (.bool b) η2) (hm : behindInMarks op e2 = false) : E C ρ η (.Compare e1 [op] [e2] pos) Φ :=
  E.bind2 h (fun _ _ _ z => wpAny_Compare1 z hm) fun _ _ _ ⟨b, hb, k⟩ ok s v1 v2 _ Er i1 i2 st q => hb ok ρ Er s v1 v2 _ i1 i2 st fun tk' => q (.bool b) _ _ _ tk' k rfl st
theorem T.cmpH {op : CmpOp} {e1 e2 : Expr} (h : E C ρ η e1 fun p1 η1 => E C ρ η1 e2 fun p2 η2 => ∃ b, CmpH C η2 op p1 p2 b ∧ Θ b η2) (hm : behindInMarks op e2 = false) : T C ρ η (.Compare e1 [op] [e2] pos) Θ := fun ok s Q Er st q =>
  wpAny_isTrue_Compare1 (h ok s _ Er st fun _ v1 _ _ _ w1 i1 st1 => w1 ok _ _ Er st1 fun _ v2 _ _ _ ⟨b, hb, k⟩ i2 st2 => hb ok ρ Er _ v1 v2 _ i1 i2 st2 fun tk' => wpAny_truthy_bool (q b _ _ tk' k st2)) hm
theorem isList_of {C : Ctx sc} {s : Shared} {m : Str → Option Value} {news : Led} {a : Addr} {ns : List Int} (N : News C.h₀ C.L s.heap (C.all news)) (hl : LedOf η news) (hm : (a, HO.lst (intL ns)) ∈ η) : ∃ vs, s.heap.IsList a vs.toArray ∧ IntsAre vs ns := by
  obtain ⟨o, ho, vs, n, rfl, is⟩ := hl.get hm
  exact ⟨vs, ⟨_, (N _ (List.mem_append_left _ ho)).1, rfl, n, rfl⟩, intL_are is⟩
theorem CmpH.eqL {a b : Addr} {ns ms : List Int} (ha : (a, HO.lst (intL ns)) ∈ η) (hb : (b, HO.lst (intL ms)) ∈ η) : CmpH C η .Eq (.ref a) (.ref b) (decide (ns = ms)) := fun ok ρ Er s v1 v2 Q e1 e2 st q => by
  cases e1; cases e2
  have hu := ok.hu
  obtain ⟨m, news, F, N, hmm, hl, hn⟩ := st
  obtain ⟨vs, l1, i1⟩ := isList_of (C := C) (m := m) N hl ha
  obtain ⟨us, l2, i2⟩ := isList_of (C := C) (m := m) N hl hb
  exact eq_intsK l1 i1 l2 i2 (by show C.un + 64 < _; omega) (q s.toks)
theorem CmpH.neL {a b : Addr} {ns ms : List Int} (ha : (a, HO.lst (intL ns)) ∈ η) (hb : (b, HO.lst (intL ms)) ∈ η) : CmpH C η .NotEq (.ref a) (.ref b) (!decide (ns = ms)) := fun ok ρ Er s v1 v2 Q e1 e2 st q => by
  cases e1; cases e2
  have hu := ok.hu
  obtain ⟨m, news, F, N, hmm, hl, hn⟩ := st
  obtain ⟨vs, l1, i1⟩ := isList_of (C := C) (m := m) N hl ha
  obtain ⟨us, l2, i2⟩ := isList_of (C := C) (m := m) N hl hb
  exact ne_intsK l1 i1 l2 i2 (by show C.un + 64 < _; omega) (q s.toks)
end
end Mine
end
section
open PySem PySem.W PyProof.Rows PySem.Calls
set_option Elab.async false
set_option linter.unusedVariables false
set_option maxRecDepth 100000
namespace Mine
def entryOk (scope : Scope) (names : List Str) : Bool := names.all (fun x => scope.names.lookup x == some .local) && scope.names.all (fun x => x.2 != .cell) && !scope.isCoroutine && !scope.isGenerator && scope.kind == .function
theorem entryOk.out {scope : Scope} {names : List Str} (h : entryOk scope names = true) : (∀ x ∈ names, scope.names.lookup x = some .local) ∧ (∀ x ∈ scope.names, x.2 ≠ .cell) ∧ scope.isCoroutine = false ∧ scope.isGenerator = false ∧ scope.kind = .function := by
  simp only [entryOk, Bool.and_eq_true, List.all_eq_true, beq_iff_eq, bne_iff_ne, Bool.not_eq_true'] at h
  exact ⟨h.1.1.1.1, h.1.1.1.2, h.1.1.2, h.1.2, h.2⟩
section
variable {f : Addr} {k : Nat} {η : Hp} {Φ : PV → Hp → Prop} {name qual : Str} {params : Arguments} {body : List Stmt} {scope : Scope} {dV kV doc pm cdv ct oc : Value} {an od : Option Addr} {osl : Array (Option Value)} {p1 p2 p3 : PV}
theorem Fn.enter0 (ho : ∀ P, List.lookup f (kK P) = some ⟨oc, od, .func (fnOf name qual params body scope dV kV doc pm an cdv ct), osl⟩) (hcd : ∀ P, codeIn (kK P) cdv qual = true)
    (hb : ∀ s, BindsTo s (fnOf name qual params body scope dV kV doc pm an cdv ct) ⟨[], []⟩ []) (he : entryOk scope [] = true) (h : ∀ C : Ctx (.fn scope), k ≤ C.k → R C [] η body (Back Φ)) : Fn f (k + 1) [] η Φ :=
  have e := entryOk.out he
  Fn.enter [] [] rfl ho hcd (fun s vs iv => by cases iv; exact hb s) e.1 e.2.1 e.2.2.1 e.2.2.2.1 e.2.2.2.2 (Nat.succ_le_succ (Nat.zero_le k)) fun C hk => h C (Nat.le_of_succ_le_succ hk)
theorem Fn.enter1 (n1 : Str) (ho : ∀ P, List.lookup f (kK P) = some ⟨oc, od, .func (fnOf name qual params body scope dV kV doc pm an cdv ct), osl⟩) (hcd : ∀ P, codeIn (kK P) cdv qual = true)
    (hb : ∀ s v1, BindsTo s (fnOf name qual params body scope dV kV doc pm an cdv ct) ⟨[v1], []⟩ [(n1, v1)]) (he : entryOk scope [n1] = true) (h : ∀ C : Ctx (.fn scope), k ≤ C.k → R C [(n1, p1)] η body (Back Φ)) : Fn f (k + 1) [p1] η Φ :=
  have e := entryOk.out he
  Fn.enter [n1] [(n1, p1)] rfl ho hcd (fun s vs iv => by cases iv with | cons _ iv => cases iv; exact hb s _) e.1 e.2.1 e.2.2.1 e.2.2.2.1 e.2.2.2.2 (Nat.succ_le_succ (Nat.zero_le k)) fun C hk => h C (Nat.le_of_succ_le_succ hk)
theorem Fn.enter2 (n1 n2 : Str) (ho : ∀ P, List.lookup f (kK P) = some ⟨oc, od, .func (fnOf name qual params body scope dV kV doc pm an cdv ct), osl⟩) (hcd : ∀ P, codeIn (kK P) cdv qual = true)
    (hb : ∀ s v1 v2, BindsTo s (fnOf name qual params body scope dV kV doc pm an cdv ct) ⟨[v1, v2], []⟩ [(n1, v1), (n2, v2)]) (he : entryOk scope [n1, n2] = true) (h : ∀ C : Ctx (.fn scope), k ≤ C.k → R C [(n2, p2), (n1, p1)] η body (Back Φ)) : Fn f (k + 1) [p1, p2] η Φ :=
  have e := entryOk.out he
  Fn.enter [n1, n2] [(n2, p2), (n1, p1)] rfl ho hcd (fun s vs iv => by cases iv with | cons _ iv => cases iv with | cons _ iv => cases iv; exact hb s _ _) e.1 e.2.1 e.2.2.1 e.2.2.2.1 e.2.2.2.2 (Nat.succ_le_succ (Nat.zero_le k)) fun C hk => h C (Nat.le_of_succ_le_succ hk)
theorem Fn.enter3 (n1 n2 n3 : Str) (ho : ∀ P, List.lookup f (kK P) = some ⟨oc, od, .func (fnOf name qual params body scope dV kV doc pm an cdv ct), osl⟩) (hcd : ∀ P, codeIn (kK P) cdv qual = true)
    (hb : ∀ s v1 v2 v3, BindsTo s (fnOf name qual params body scope dV kV doc pm an cdv ct) ⟨[v1, v2, v3], []⟩ [(n1, v1), (n2, v2), (n3, v3)]) (he : entryOk scope [n1, n2, n3] = true) (h : ∀ C : Ctx (.fn scope), k ≤ C.k → R C [(n3, p3), (n2, p2), (n1, p1)] η body (Back Φ)) : Fn f (k + 1) [p1, p2, p3] η Φ :=
  have e := entryOk.out he
  Fn.enter [n1, n2, n3] [(n3, p3), (n2, p2), (n1, p1)] rfl ho hcd (fun s vs iv => by cases iv with | cons _ iv => cases iv with | cons _ iv => cases iv with | cons _ iv => cases iv; exact hb s _ _ _) e.1 e.2.1 e.2.2.1 e.2.2.2.1 e.2.2.2.2 (Nat.succ_le_succ (Nat.zero_le k)) fun C hk => h C (Nat.le_of_succ_le_succ hk)
end
section
variable {sc : Shape} {C : Ctx sc} {ρ : Rho} {η : Hp} {e e1 e2 : Expr} {p p1 p2 : PV} {pos cpos : Pos} {b b1 b2 : Bool}
def nth : List PV → Nat → Option PV
  | [], _ => none
  | x :: _, 0 => some x
  | _ :: r, k + 1 => nth r k
theorem nth_eq : ∀ (xs : List PV) (k : Nat), nth xs k = xs[k]?
  | [], _ => rfl
  | x :: _, 0 => rfl
  | _ :: r, k + 1 => by rw [nth, nth_eq r k]; simp
def itemAt (xs : List PV) (n : Int) : Option PV := match n with
  | .ofNat k => match Nat.ble k 1000 with
    | true => nth xs k
    | false => none
  | _ => none
theorem V.itc {a : Addr} {xs : List PV} {n : Int} {k : Nat} (h1 : V C ρ η e (.ref a)) (hm : ItemOf η a xs) (h : itemAt xs n = some p) : V C ρ η (.Subscript e (.Constant (.int n) k cpos) pos) p := by
  unfold itemAt at h
  split at h
  · rename_i j
    split at h
    · rename_i hb
      have := Nat.le_of_ble_eq_true hb
      rw [nth_eq] at h
      exact E.item (h1.up (V.int.up ⟨a, xs, _, p, rfl, rfl, hm, Int.natCast_nonneg j, by show (j : Int) < _; omega, h, rfl, rfl⟩)) rfl
    · cases h
  · cases h
theorem V.bin' {op : Operator} (h1 : V C ρ η e1 p1) (h2 : V C ρ η e2 p2) (hb : Bin op p1 p2 p) : V C ρ η (.BinOp e1 op e2 pos) p := V.bin h1 h2 hb
/-- a test that changes nothing -/
def W {sc : Shape} (C : Ctx sc) (ρ : Rho) (η : Hp) (e : Expr) (b : Bool) : Prop := T C ρ η e fun c η' => c = b ∧ η' = η
theorem W.up {Θ : Bool → Hp → Prop} (h : W C ρ η e b) (k : Θ b η) : T C ρ η e Θ := fun ok s Q Er st q => h ok s Q Er st fun c η' h' tk' w st' => by
  obtain ⟨rfl, rfl⟩ := w; exact q _ _ _ _ k st'
theorem W.cmp {op : CmpOp} (h1 : V C ρ η e1 p1) (h2 : V C ρ η e2 p2) (hb : Cmp op p1 p2 b) (hm : behindInMarks op e2 = false) : W C ρ η (.Compare e1 [op] [e2] pos) b := T.cmp (h1.up (h2.up ⟨b, hb, rfl, rfl⟩)) hm
theorem W.not (h : W C ρ η e b) : W C ρ η (.UnaryOp .Not e pos) (!b) := T.not (h.up ⟨rfl, rfl⟩)
theorem V.ite {et : Expr} (ht : W C ρ η et b) (h1 : b = true → V C ρ η e1 p) (h2 : b = false → V C ρ η e2 p) : V C ρ η (.IfExp et e1 e2 pos) p := E.ite (ht.up ⟨h1, h2⟩)
theorem V.iti {et : Expr} {x y : Int} (ht : W C ρ η et b) (h1 : V C ρ η e1 (.int x)) (h2 : V C ρ η e2 (.int y)) : V C ρ η (.IfExp et e1 e2 pos) (.int (if b = true then x else y)) :=
  V.ite ht (fun h => by rw [if_pos h]; exact h1) fun h => by rw [if_neg (by rw [h]; exact Bool.false_ne_true)]; exact h2
theorem V.band {es : List Expr} (h1 : V C ρ η e1 (.bool b1)) (h2 : b1 = true → V C ρ η (.BoolOp .And (e2 :: es) pos) (.bool b2)) : V C ρ η (.BoolOp .And (e1 :: e2 :: es) pos) (.bool (b1 && b2)) := by
  refine E.and (h1.up ⟨b1, Tru.boo, fun h => ?_, fun h => ?_⟩)
  · have z := h2 h; rw [h, Bool.true_and]; exact z
  · rw [h]; exact ⟨rfl, rfl⟩
theorem V.bor {es : List Expr} (h1 : V C ρ η e1 (.bool b1)) (h2 : b1 = false → V C ρ η (.BoolOp .Or (e2 :: es) pos) (.bool b2)) : V C ρ η (.BoolOp .Or (e1 :: e2 :: es) pos) (.bool (b1 || b2)) := by
  refine E.or (h1.up ⟨b1, Tru.boo, fun h => ?_, fun h => ?_⟩)
  · rw [h]; exact ⟨rfl, rfl⟩
  · have z := h2 h; rw [h, Bool.false_or]; exact z
theorem V.bone {op : BoolOp} (h : V C ρ η e p) : V C ρ η (.BoolOp op [e] pos) p := E.bool1 h
theorem V.not (h : V C ρ η e (.bool b)) : V C ρ η (.UnaryOp .Not e pos) (.bool !b) := E.not (h.up ⟨b, Tru.boo, rfl, rfl⟩)
theorem W.of (h : V C ρ η e (.bool b)) (hp : PySem.isTrue e C.env (eval e C.env) = (do let v ← eval e C.env; standAt e.pos; holding [v] (truthy v))) : W C ρ η e b := T.of (h.up ⟨b, Tru.boo, rfl, rfl⟩) hp
theorem W.and0 : W C ρ η (.BoolOp .And [] pos) true := T.and0 ⟨rfl, rfl⟩
theorem W.or0 : W C ρ η (.BoolOp .Or [] pos) false := T.or0 ⟨rfl, rfl⟩
theorem W.and {es : List Expr} (h1 : W C ρ η e b1) (h2 : b1 = true → W C ρ η (.BoolOp .And es pos) b2) : W C ρ η (.BoolOp .And (e :: es) pos) (b1 && b2) := by
  refine T.and (h1.up ⟨fun h => ?_, fun h => ?_⟩)
  · have z := h2 h; rw [h, Bool.true_and]; exact z
  · rw [h]; exact ⟨rfl, rfl⟩
theorem W.or {es : List Expr} (h1 : W C ρ η e b1) (h2 : b1 = false → W C ρ η (.BoolOp .Or es pos) b2) : W C ρ η (.BoolOp .Or (e :: es) pos) (b1 || b2) := by
  refine T.or (h1.up ⟨fun h => ?_, fun h => ?_⟩)
  · rw [h]; exact ⟨rfl, rfl⟩
  · have z := h2 h; rw [h, Bool.false_or]; exact z
theorem V.abs {n : Int} {xpos : Pos} (hb : nsIn (kK C.w.params) mainGlobals "abs" = some none) (hg : isGlob sc "abs" = true) (h : V C ρ η e (.int n)) (hn : notStar e = true) : V C ρ η (.Call (.Name "abs" xpos) [e] [] pos) (.int (if n < 0 then -n else n)) := by
  have hf : V C ρ η (.Name "abs" xpos) (.val (.builtin "abs")) := by
    unfold isGlob at hg
    split at hg
    · rename_i h1 h2; exact V.blt hb boot_abs rfl (by decide) h2 h1
    · cases hg
  exact E.blt hf (Es.cons (h.up (Es.nil (Blt.abs ⟨rfl, rfl⟩))) (star_plain hn)) rfl (star_plain hn) rfl
theorem R.as1 {sc : Scope} {C : Ctx (.fn sc)} {e : Expr} {x : Str} {npos : Pos} {ss : List Stmt} {Ψ : Rho → Hp → Flo → Prop} (h : V C ρ η e p) (hk : sc.names.lookup x = some .local) (hs : swapsWith e (some (Expr.Name x npos)) pos.line C.env = pure false) (k : R C ((x, p) :: ρ) η ss Ψ) : R C ρ η (.Assign [.Name x npos] e pos :: ss) Ψ :=
  R.assign (h.up ⟨_, _, Sto.loc hk, k⟩) hs
theorem R.re1 {Φ : PV → Hp → Prop} {ss : List Stmt} (h : V C ρ η e p) (k : Φ p η) : R C ρ η (.Return (some e) pos :: ss) (Back Φ) := R.ret (h.up (Back.r k))
theorem R.reE {Φ : PV → Hp → Prop} {ss : List Stmt} (h : E C ρ η e Φ) : R C ρ η (.Return (some e) pos :: ss) (Back Φ) := R.ret (h.mono fun p η' w => Back.r w)
theorem R.if1 {et : Expr} {body orelse ss : List Stmt} {Ψ : Rho → Hp → Flo → Prop} (h : W C ρ η et b) (h1 : b = true → R C ρ η body (Thn C ss Ψ)) (h2 : b = false → R C ρ η orelse (Thn C ss Ψ)) : R C ρ η (.If et body orelse pos :: ss) Ψ := R.ife (h.up ⟨h1, h2⟩)
theorem Thn.r {ss : List Stmt} {Φ : PV → Hp → Prop} (h : Φ p η) : Thn C ss (Back Φ) ρ η (.ret p) := show Back Φ ρ η (.ret p) from Back.r h
/-- one if without an else that leaves, and what stands behind -/
theorem R.ifr {et er : Expr} {rpos : Pos} {ss : List Stmt} {Φ : PV → Hp → Prop} (h : W C ρ η et b) (h1 : b = true → E C ρ η er Φ) (h2 : b = false → R C ρ η ss (Back Φ)) : R C ρ η (.If et [.Return (some er) rpos] [] pos :: ss) (Back Φ) :=
  R.if1 h (fun z => R.ret ((h1 z).mono fun p η' w => Thn.r w)) fun z => R.nil (h2 z)
theorem Blt.divmod {n b : Int} {Φ : PV → Hp → Prop} (h0 : b ≠ 0) (hp : Builtin.divisionGoesByPylong n b = false) (h : ∀ l, Φ (.ref l) ((l, .tup [.int (n.fdiv b), .int (n.fmod b)]) :: η)) : Blt C "divmod" [.int n, .int b] η Φ := fun ok ρ s vs Q Er i st q => by
  cases i with
  | cons i1 i => cases i with
    | cons i2 i =>
      cases i
      obtain ⟨t, rfl⟩ := i1
      obtain ⟨u, rfl⟩ := i2
      obtain ⟨m, news, F, N, hm, hl, hn⟩ := st
      refine divmod_N F N h0 (fun h2 F2 N2 => ?_) (.inl hp)
      exact q (.ref _) _ _ h2 _ (h _) rfl ⟨m, _ :: news, F2, N2, hm, .cons ⟨[_, _], rfl, .cons ⟨_, rfl⟩ (.cons ⟨_, rfl⟩ .nil)⟩ hl, fresh_key (C := C) (h := s.heap) hl (fun q hq => Heap.lt_size (N q hq).1) hn⟩
/-- a list is made -/
abbrev MkL (f : Addr) (k : Nat) (ps : List PV) (η : Hp) (xs : List PV) : Prop := Fn f k ps η fun p η' => ∃ l, p = .ref l ∧ η' = (l, HO.lst xs) :: η
abbrev MkT (f : Addr) (k : Nat) (ps : List PV) (η : Hp) (xs : List PV) : Prop := Fn f k ps η fun p η' => ∃ l, p = .ref l ∧ η' = (l, HO.tup xs) :: η
theorem R.reL {es : List Expr} {ps : List PV} {Φ : PV → Hp → Prop} {ss : List Stmt} {lpos : Pos} (h : Vs C ρ η es ps) (hl : Nat.ble ps.length 1000 = true) (k : ∀ l, Φ (.ref l) ((l, .lst ps) :: η)) : R C ρ η (.Return (some (.List es lpos)) pos :: ss) (Back Φ) :=
  R.reE (E.lst (h.up ⟨Nat.le_of_ble_eq_true hl, k⟩))
theorem R.reT {es : List Expr} {n : Nat} {ps : List PV} {Φ : PV → Hp → Prop} {ss : List Stmt} {lpos : Pos} (h : Vs C ρ η es ps) (hl : Nat.ble ps.length 1000 = true) (k : ∀ l, Φ (.ref l) ((l, .tup ps) :: η)) : R C ρ η (.Return (some (.Tuple es n lpos)) pos :: ss) (Back Φ) :=
  R.reE (E.tup (h.up ⟨Nat.le_of_ble_eq_true hl, k⟩))
theorem E.mkL {es : List Expr} {ps : List PV} {Φ : PV → Hp → Prop} {lpos : Pos} (h : Vs C ρ η es ps) (hl : Nat.ble ps.length 1000 = true) (k : ∀ l, Φ (.ref l) ((l, .lst ps) :: η)) : E C ρ η (.List es lpos) Φ := E.lst (h.up ⟨Nat.le_of_ble_eq_true hl, k⟩)
theorem any_stars {C : Ctx sc} {pos : Pos} : ∀ {es : List Expr}, es.all notStar = true → (backTo pos (starEach es C.env)).any (·.1) = false
  | [], _ => rfl
  | e :: r, h => by
    rw [List.all_cons, Bool.and_eq_true] at h
    rw [star_plain h.1]
    simpa [backTo] using any_stars (pos := pos) h.2
theorem E.fnE {x : Str} {f : Addr} {k : Nat} {xpos : Pos} {e0 : Expr} {es : List Expr} {Φ : PV → Hp → Prop} (hf : IsFn x f) (hg : isGlob sc x = true) (hn : (e0 :: es).all notStar = true) (hk : k ≤ C.k) (h : Es C ρ η (e0 :: es) fun ps η1 => Fn f k ps η1 Φ) : E C ρ η (.Call (.Name x xpos) (e0 :: es) [] pos) Φ := by
  rw [List.all_cons, Bool.and_eq_true] at hn
  exact E.call (V.fn hf hg) hk hf.k h rfl (star_plain hn.1) (any_stars hn.2)
theorem Es.v {e : Expr} {es : List Expr} {p : PV} {Ξ : List PV → Hp → Prop} (h : V C ρ η e p) (hn : notStar e = true) (k : Es C ρ η es fun ps η2 => Ξ (p :: ps) η2) : Es C ρ η (e :: es) Ξ := Es.cons (h.up k) (star_plain hn)
theorem Es.x {e : Expr} {es : List Expr} {Ξ : List PV → Hp → Prop} (h : E C ρ η e fun p η1 => Es C ρ η1 es fun ps η2 => Ξ (p :: ps) η2) (hn : notStar e = true) : Es C ρ η (e :: es) Ξ := Es.cons h (star_plain hn)
/-- what a contract promises, taken on -/
theorem Fn.then {f : Addr} {k : Nat} {ps : List PV} {Φ Φ' : PV → Hp → Prop} (h : Fn f k ps η Φ') (m : ∀ p η', Φ' p η' → Φ p η') : Fn f k ps η Φ := h.mono m
theorem MkL.on {f : Addr} {k : Nat} {ps xs : List PV} {Φ : PV → Hp → Prop} (h : MkL f k ps η xs) (m : ∀ l, Φ (.ref l) ((l, .lst xs) :: η)) : Fn f k ps η Φ := h.mono fun p η' ⟨l, e1, e2⟩ => by subst e1 e2; exact m l
theorem MkT.on {f : Addr} {k : Nat} {ps xs : List PV} {Φ : PV → Hp → Prop} (h : MkT f k ps η xs) (m : ∀ l, Φ (.ref l) ((l, .tup xs) :: η)) : Fn f k ps η Φ := h.mono fun p η' ⟨l, e1, e2⟩ => by subst e1 e2; exact m l
theorem Pure.on {f : Addr} {k : Nat} {ps : List PV} {p : PV} {Φ : PV → Hp → Prop} (h : Pure f k ps η p) (m : Φ p η) : Fn f k ps η Φ := h.mono fun q η' ⟨e1, e2⟩ => by subst e1 e2; exact m
end
end Mine
end
section
open PySem PySem.W PyProof.Rows PySem.Calls
set_option Elab.async false
set_option linter.unusedVariables false
set_option maxRecDepth 100000
namespace Mine
/-- ρ holds what ρ₀ says -/
inductive SubE (ρ : Rho) : Rho → Prop where
  | nil : SubE ρ []
  | cons {x : Str} {p : PV} {r : Rho} : ρ.lookup x = some p → SubE ρ r → SubE ρ ((x, p) :: r)
theorem SubE.look {ρ ρ₀ : Rho} (h : SubE ρ ρ₀) : ∀ x p, ρ₀.lookup x = some p → ρ.lookup x = some p := by
  induction h with
  | nil => intro x p e; simp at e
  | @cons y q r hy _ ih =>
    intro x p e
    rw [List.lookup_cons] at e
    by_cases hx : x = y
    · subst hx; simp at e; rw [← e]; exact hy
    · rw [show (x == y) = false from beq_eq_false_iff_ne.mpr hx] at e
      exact ih x p e
section
variable {sc : Shape} {C : Ctx sc} {ρ : Rho} {η : Hp} {et : Expr} {b : Bool} {pos : Pos} {ss body : List Stmt} {Ψ : Rho → Hp → Flo → Prop} {Θ : Bool → Hp → Prop}
theorem R.sube {ρ₀ : Rho} (hr : SubE ρ ρ₀) (h : R C ρ₀ η ss Ψ) : R C ρ η ss Ψ := R.env hr.look h
theorem St.env {ρ₀ : Rho} {η₀ : Hp} {h : Heap} (hr : SubE ρ ρ₀) (hs : List.Sublist η₀ η) (st : St C ρ η h) : St C ρ₀ η₀ h :=
  let ⟨m, news, F, N, hm, hl, hn⟩ := st.sub hs; ⟨m, news, F, N, ⟨hm.1, fun x p e => hm.2 x p (hr.look x p e)⟩, hl, hn⟩
/-- a while by what stands at each turn -/
theorem R.loop {σ : Type} (ρ0 : σ → Rho) (η0 : σ → Hp) (P : σ → Prop) (μ : σ → Nat) (c : σ) (hP : P c) (hr : SubE ρ (ρ0 c)) (hs : List.Sublist (η0 c) η)
    (step : ∀ c, P c → T C (ρ0 c) (η0 c) et fun b η1 => (b = true → R C (ρ0 c) η1 body (Turn C ss Ψ fun ρ' η' => ∃ c', SubE ρ' (ρ0 c') ∧ List.Sublist (η0 c') η' ∧ P c' ∧ μ c' < μ c)) ∧ (b = false → R C (ρ0 c) η1 ss Ψ)) : R C ρ η (.While et body [] pos :: ss) Ψ := fun ok s Q Er st q => by
  refine wpAny_execs_cons (wpAny_While (codeAny_whileLoop (fun n s' => ∃ c h tk, s' = Sh s h tk ∧ St C (ρ0 c) (η0 c) h ∧ P c ∧ μ c = n) ?_ (μ c) ⟨c, s.heap, s.toks, rfl, st.env hr hs, hP, rfl⟩))
  rintro n s' ⟨c1, h1, tk1, rfl, st1, hP1, rfl⟩
  refine step c1 hP1 ok _ _ _ st1 fun b η2 h2 tk2 k st2 => ?_
  cases b with
  | false =>
    rw [if_neg Bool.false_ne_true]
    exact wpAny_execs_nil (k.2 rfl ok _ Q Er st2 q)
  | true =>
    rw [if_pos rfl]
    refine k.1 rfl ok _ _ _ st2 fun f fl ρ' η' h' tk' w i st' => ?_
    cases f with
    | next => obtain rfl : fl = .next := i; obtain ⟨c', w1, w2, w3, w4⟩ := w; exact ⟨_, w4, c', h', tk', rfl, st'.env w1 w2, w3, rfl⟩
    | cont => obtain rfl : fl = .cont := i; obtain ⟨c', w1, w2, w3, w4⟩ := w; exact ⟨_, w4, c', h', tk', rfl, st'.env w1 w2, w3, rfl⟩
    | brk => obtain rfl : fl = .brk := i; exact w ok _ Q Er st' q
    | ret p => obtain ⟨v, rfl, i⟩ := i; exact q (.ret p) (.ret v) ρ' η' h' tk' w ⟨v, rfl, i⟩ st'
/-- the end of a turn -/
theorem R.nx {J : Rho → Hp → Prop} (h : J ρ η) : R C ρ η [] (Turn C ss Ψ J) := R.nil h
theorem Bin.shl {a b : Int} (h0 : 0 ≤ b) (h1 : b ≤ 1000000) (ha : a.natAbs < 2 ^ 64) : Bin .LShift (.int a) (.int b) (.int (a * 2 ^ b.toNat)) := fun _ _ _ _ _ _ _ ⟨_, e1⟩ ⟨_, e2⟩ q => by subst e1 e2; exact lshift_int_small h0 h1 ha (q _ _ ⟨_, rfl⟩)
/-- a method's call, its name and its bracket on one line -/
theorem mcall_eq {o : Expr} {name : Str} {apos : Pos} {args : List Expr} {env : Env} (ho : attributeBase o name env (eval o env) = eval o env) (hn : methodCallForm args.length (backTo pos (starEach args env)) [] = true) (hp : (apos.endLine == pos.line) = true) :
    eval (.Call (.Attribute o name apos) args [] pos) env = (do
      let ov ← eval o env
      standAt apos.atName
      let (f, first) ← holding [ov] (getMethod ov name (do return (← importBound o env).getD true))
      callWith pos f first (backTo pos (starEach args env)) []) := by
  show (do
    let ov ← attributeBase o name env (eval o env)
    standAt apos.atName
    methodCall o name apos pos env ov (args.length + 0) (backTo pos (starEach args env)) (backToKw pos (keywordEach [] env))) = _
  rw [ho]
  have e : backToKw pos (keywordEach [] env) = [] := rfl
  rw [e]
  unfold methodCall calleeOf methodCallPos
  simp only [Nat.add_zero, hn, hp, Bool.not_true, Bool.false_or, if_true, pure_bind]
theorem form0 {env : Env} : methodCallForm ([] : List Expr).length (backTo pos (starEach [] env)) [] = true := rfl
theorem form1 {env : Env} {e : Expr} (h : notStar e = true) : methodCallForm [e].length (backTo pos (starEach [e] env)) [] = true := by
  rw [star_plain h]; rfl
theorem V.bitlen {x : Str} {xpos : Pos} {n : Int} {apos : Pos} (h : V C ρ η (.Name x xpos) (.int n)) (hp : (apos.endLine == pos.line) = true) : V C ρ η (.Call (.Attribute (.Name x xpos) "bit_length" apos) [] [] pos) (.int (Builtin.Int.intBits n)) := fun ok s Q Er st q => by
  refine MethodCall_ (h ok s _ Er st fun p v η1 h1 tk1 w i st1 => ?_) (mcall_eq rfl form0 hp)
  obtain ⟨rfl, rfl⟩ := w
  obtain ⟨t, rfl⟩ := i
  exact getMethod_int_bit_length (callWith_method0 (call_int_bit_length (q _ _ _ _ _ ⟨rfl, rfl⟩ ⟨_, rfl⟩ st1)))
end
end Mine
end
section
open PySem PySem.W PyProof.Rows PySem.Calls
set_option Elab.async false
set_option linter.unusedVariables false
set_option maxRecDepth 100000
namespace Mine
theorem upd_split {d : Addr} {o o' : Obj} {post : Led} (h2 : ∀ p ∈ post, p.1 ≠ d) : ∀ {pre : Led}, (∀ p ∈ pre, p.1 ≠ d) → Upd d o o' (pre ++ (d, o) :: post) (pre ++ (d, o') :: post)
  | [], _ => .head h2
  | q :: r, h1 => .tail (h1 q (.head _)) (upd_split h2 fun p hp => h1 p (.tail _ hp))
theorem AreV.set {xs : List PV} {vs : List Value} {p : PV} {v : Value} (i : Is p v) (h : AreV xs vs) : ∀ j : Nat, AreV (xs.set j p) (vs.set j v) := by
  induction h with
  | nil => intro j; exact .nil
  | cons i1 h ih =>
    intro j
    cases j with
    | zero => exact .cons i h
    | succ j => exact .cons i1 (ih j)
section
variable {sc : Shape} {C : Ctx sc} {ρ : Rho} {η η' : Hp} {a : Addr} {xs : List PV} {p : PV} {pos : Pos} {ss : List Stmt} {Ψ : Rho → Hp → Flo → Prop} {Φ : PV → Hp → Prop} {s : Shared} {Er : Value → Shared → Prop}
theorem St.turn {xs' : List PV} {h : Heap} (st : St C ρ η h) (U : UpH a (.lst xs) (.lst xs') η η') : ∃ m pre post vs n, Fr C.h₀ C.L h m ∧ News C.h₀ C.L h (pre ++ (a, listOf vs.toArray n) :: post) ∧ AreV xs vs ∧ (∀ p ∈ pre, p.1 ≠ a) ∧ (∀ p ∈ post, p.1 ≠ a) ∧
    ∀ vs' n' h', AreV xs' vs' → Fr C.h₀ C.L h' m → News C.h₀ C.L h' (pre ++ (a, listOf vs'.toArray n') :: post) → St C ρ η' h' := by
  obtain ⟨m, news, F, N, hm, hl, hn⟩ := st
  obtain ⟨pre, post, o, e0, hx, h1, h2, h3⟩ := U.splitC hl hn
  obtain ⟨vs, n, rfl, iv⟩ := hx
  refine ⟨m, pre, post, vs, n, F, e0 ▸ N, iv, h1, h2, fun vs' n' h' iv' F' N' => ?_⟩
  obtain ⟨news', l', e'⟩ := h3 _ ⟨vs', n', rfl, iv'⟩
  exact ⟨m, news', F', e' ▸ N', hm, l', by rw [U.keys]; exact hn⟩
theorem set_go {k : Int} {t : Tok} {v : Value} {Q : Unit → Shared → Prop} (U : UpH a (.lst xs) (.lst (xs.set k.toNat p)) η η') (h0 : 0 ≤ k) (h1 : k.toNat < xs.length) (hf : k < 2 ^ 63) (i : Is p v) (st : St C ρ η s.heap) (q : ∀ h', St C ρ η' h' → Q () (Sh s h' s.toks)) : wpAny C.M C.A (setItem (.ref a) (.int k t) v) Q Er s := by
  obtain ⟨m, pre, post, vs, n, F, N, iv, hp, hq, back⟩ := st.turn U
  have z := N (a, listOf vs.toArray n) (List.mem_append.mpr (.inr (.head _)))
  refine ki_setAt z.1 h0 hf (by rw [List.size_toArray, iv.len]; omega) (q _ (back (vs.set k.toNat v) n _ (iv.set i _) (F.change (Heap.SameBut.update ..) z.2.1 z.2.2) (ki_turn _ N hp hq ?_ ?_)))
  · apply Array.toList_inj.mp; simp
  · simp
theorem R.asSub {o i e : Expr} {spos : Pos} (h : E C ρ η e fun p η1 => E C ρ η1 o fun p1 η2 => E C ρ η2 i fun p2 η3 => ∃ a xs k η', p1 = .ref a ∧ p2 = .int k ∧ 0 ≤ k ∧ k.toNat < xs.length ∧ k < 2 ^ 63 ∧ UpH a (.lst xs) (.lst (xs.set k.toNat p)) η3 η' ∧ R C ρ η' ss Ψ)
    (hs : swapsWith e (some (.Subscript o i spos)) pos.line C.env = pure false) : R C ρ η (.Assign [.Subscript o i spos] e pos :: ss) Ψ := fun ok s Q Er st q =>
  wpAny_execs_cons (wpAny_Assign_Subscript (h ok s _ Er st fun p v η1 h1 tk1 w1 i1 st1 => w1 ok _ _ Er st1 fun p1 v1 η2 h2 tk2 w2 i2 st2 => w2 ok _ _ Er st2 fun p2 v2 η3 h3 tk3 w3 i3 st3 => by
    obtain ⟨a, xs, k, η', rfl, rfl, k0, k1, kf, U, w⟩ := w3
    obtain rfl : v1 = .ref a := i2
    obtain ⟨t, rfl⟩ := i3
    exact set_go U k0 k1 kf i1 st3 fun h' st' => w ok _ Q Er st' q) hs)
/-- l[i] += 1 and the like -/
theorem R.augSub {o i e : Expr} {spos : Pos} (h : E C ρ η o fun p1 η1 => E C ρ η1 i fun p2 η2 => ∃ a xs k x, p1 = .ref a ∧ p2 = .int k ∧ 0 ≤ k ∧ k < 2 ^ 63 ∧ (a, HO.lst xs) ∈ η2 ∧ xs[k.toNat]? = some (.int x) ∧
      E C ρ η2 e fun p3 η3 => ∃ y η', p3 = .int y ∧ UpH a (.lst xs) (.lst (xs.set k.toNat (.int (x + y)))) η3 η' ∧ R C ρ η' ss Ψ)
    (hi : ∀ ov iv new, augStore i ov iv new = (do holding [new, ov, iv] (setItem ov iv new); release [new, ov, iv] []; pure .next)) : R C ρ η (.AugAssign (.Subscript o i spos) .Add e pos :: ss) Ψ := fun ok s Q Er st q =>
  wpAny_execs_cons (wpAny_AugAssign_SubscriptAny (h ok s _ Er st fun p1 v1 η1 h1 tk1 w1 i1 st1 => w1 ok _ _ Er st1 fun p2 v2 η2 h2 tk2 w2 i2 st2 => by
    obtain ⟨a, xs, k, x, rfl, rfl, k0, kf, hm, hx, w⟩ := w2
    obtain rfl : v1 = .ref a := i1
    obtain ⟨t, rfl⟩ := i2
    have st2' := st2
    obtain ⟨m, news, F, N, hmm, hl, hn⟩ := st2'
    obtain ⟨o, ho, vs, n, rfl, iv⟩ := hl.get hm
    obtain ⟨v, hv, ip⟩ := iv.get hx
    have hL : (Sh (Sh s h1 tk1) h2 tk2).heap.IsList a vs.toArray := ⟨_, (N _ (List.mem_append_left _ ho)).1, rfl, n, rfl⟩
    have hlen : k.toNat < xs.length := by
      rcases Nat.lt_or_ge k.toNat xs.length with h | h
      · exact h
      · rw [List.getElem?_eq_none h] at hx; cases hx
    refine wpAny_getItem_list hL k0 kf (by simpa using hv) ?_
    obtain ⟨u, rfl⟩ := ip
    refine w ok _ _ Er st2 fun p3 v3 η3 h3 tk3 w3 i3 st3 => ?_
    obtain ⟨y, η', rfl, U, wR⟩ := w3
    obtain ⟨u', rfl⟩ := i3
    exact PyProof.Rows.iadd_int (set_go U k0 hlen kf ⟨_, rfl⟩ st3 fun h' st' => wR ok _ Q Er st' q)) hi)
theorem append_go {x : Value} {Q : Value → Shared → Prop} (U : UpH a (.lst xs) (.lst (xs ++ [p])) η η') (hz : xs.length ≤ 1000) (i : Is p x) (st : St C ρ η s.heap) (q : ∀ h', St C ρ η' h' → Q .none (Sh s h' s.toks)) : wpAny C.M C.A (call (.builtin "list.append") [.ref a, x]) Q Er s := by
  obtain ⟨m, pre, post, vs, n, F, N, iv, hp, hq, back⟩ := st.turn U
  refine append_K (news' := pre ++ (a, listOf (vs.toArray.push x) (n + 1)) :: post) F N (upd_split hq hp) (fun h' F' N' => q h' (back (vs ++ [x]) (n + 1) h' (iv.app (.cons i .nil)) F' ?_)) (by rw [List.size_toArray, iv.len, sizeLine_eq]; omega)
  have e : vs.toArray.push x = (vs ++ [x]).toArray := by simp
  rw [← e]; exact N'
theorem pop0_go {t : Tok} {Q : Value → Shared → Prop} (U : UpH a (.lst (p :: xs)) (.lst xs) η η') (hz : xs.length ≤ 1000) (st : St C ρ η s.heap) (q : ∀ v h', Is p v → St C ρ η' h' → Q v (Sh s h' s.toks)) : wpAny C.M C.A (call (.builtin "list.pop") [.ref a, .int 0 t]) Q Er s := by
  obtain ⟨m, pre, post, vs, n, F, N, iv, hp, hq, back⟩ := st.turn U
  cases iv with
  | @cons _ v _ us i1 iv =>
    have hlen := iv.len
    refine kl_popAt (p := []) (q := us) (y := v) (k := 0) F N rfl (by simp [seqIndex?]) rfl (upd_split hq hp) (by simp [sizeLine_eq]; omega) fun h' F' N' => q v h' i1 (back us (n + 1) h' iv F' N')
theorem E.append {x : Str} {xpos apos : Pos} {e : Expr} (hv : V C ρ η (.Name x xpos) (.ref a)) (hn : notStar e = true) (hp : (apos.endLine == pos.line) = true) (hm : (a, HO.lst xs) ∈ η)
    (h : E C ρ η e fun p η1 => ∃ xs η', UpH a (.lst xs) (.lst (xs ++ [p])) η1 η' ∧ xs.length ≤ 1000 ∧ Φ .non η') : E C ρ η (.Call (.Attribute (.Name x xpos) "append" apos) [e] [] pos) Φ := fun ok s Q Er st q => by
  refine MethodCall_ (hv ok s _ Er st fun p v η1 h1 tk1 w i st1 => ?_) (mcall_eq rfl (form1 hn) hp)
  obtain ⟨rfl, rfl⟩ := w
  obtain rfl : v = .ref a := i
  have st1' := st1
  obtain ⟨m, news, F, N, hmm, hl, hnn⟩ := st1'
  obtain ⟨o, ho, vs, n, rfl, iv⟩ := hl.get hm
  refine kl_method N (List.mem_append_left _ ho) PySem.F.slot_list_append PySem.F.type_list_append ?_
  refine callWith_method1 ?_ (star_plain hn) rfl
  refine Es.cons (Ξ := fun ps η' => ∃ xs η2 p, ps = [p] ∧ UpH a (.lst xs) (.lst (xs ++ [p])) η' η2 ∧ xs.length ≤ 1000 ∧ Φ .non η2) (h.mono fun p η2 ⟨xs, η3, U, hz, k⟩ => Es.nil ⟨xs, η3, p, rfl, U, hz, k⟩) (star_plain hn) ok _ pos _ Er st1 fun ps vs η2 h2 tk2 w2 is st2 => ?_
  obtain ⟨xs, η3, p, rfl, U, hz, k⟩ := w2
  cases is with
  | cons i1 is => cases is; exact append_go U hz i1 st2 fun h' st' => q .non .none η3 h' _ k rfl st'
theorem E.pop0 {x : Str} {xpos apos cpos : Pos} {ck : Nat} {zs : List PV} (hv : V C ρ η (.Name x xpos) (.ref a)) (hp : (apos.endLine == pos.line) = true) (U : UpH a (.lst (p :: zs)) (.lst zs) η η') (hz : zs.length ≤ 1000) (k : Φ p η') : E C ρ η (.Call (.Attribute (.Name x xpos) "pop" apos) [.Constant (.int 0) ck cpos] [] pos) Φ := fun ok s Q Er st q => by
  refine MethodCall_ (hv ok s _ Er st fun p' v η1 h1 tk1 w i st1 => ?_) (mcall_eq rfl (form1 rfl) hp)
  obtain ⟨rfl, rfl⟩ := w
  obtain rfl : v = .ref a := i
  have st1' := st1
  obtain ⟨m, news, F, N, hmm, hl, hnn⟩ := st1'
  obtain ⟨o, ho, vs, n, rfl, iv⟩ := hl.get U.mem
  refine kl_method N (List.mem_append_left _ ho) PySem.F.slot_list_pop PySem.F.type_list_pop ?_
  refine callWith_method1 ?_ rfl rfl
  refine (Es.cons (Ξ := fun ps η' => ps = [.int 0] ∧ η' = η1) (V.int.up (Es.nil ⟨rfl, rfl⟩)) rfl) ok _ pos _ Er st1 fun ps vs η2 h2 tk2 w2 is st2 => ?_
  obtain ⟨rfl, rfl⟩ := w2
  cases is with
  | cons i1 is => cases is; obtain ⟨t, rfl⟩ := i1; exact pop0_go U hz st2 fun v h' iv st' => q p v η' h' _ k iv st'
theorem ledOf_perm {η η₂ : Hp} (hp : η.Perm η₂) : ∀ {news : Led}, LedOf η news → ∃ n2, (∀ q, q ∈ n2 → q ∈ news) ∧ LedOf η₂ n2 := by
  induction hp with
  | nil => intro news h; exact ⟨news, fun _ h => h, h⟩
  | cons x _ ih =>
    intro news h
    cases h with
    | cons hx hl =>
      obtain ⟨n2, s, l⟩ := ih hl
      exact ⟨_ :: n2, fun q hq => by rcases List.mem_cons.mp hq with rfl | hq; exact .head _; exact .tail _ (s q hq), .cons hx l⟩
  | swap x y l =>
    intro news h
    cases h with
    | cons hx hl => cases hl with
      | cons hy hl => exact ⟨_, fun q hq => by
          rcases List.mem_cons.mp hq with rfl | hq
          · exact .tail _ (.head _)
          · rcases List.mem_cons.mp hq with rfl | hq
            · exact .head _
            · exact .tail _ (.tail _ hq), .cons hy (.cons hx hl)⟩
  | trans _ _ ih1 ih2 =>
    intro news h
    obtain ⟨n1, s1, l1⟩ := ih1 h
    obtain ⟨n2, s2, l2⟩ := ih2 l1
    exact ⟨n2, fun q hq => s1 q (s2 q hq), l2⟩
theorem St.perm {h : Heap} (hp : η.Perm η') (st : St C ρ η h) : St C ρ η' h := by
  obtain ⟨m, news, F, N, hm, hl, hn⟩ := st
  obtain ⟨n2, s, l⟩ := ledOf_perm hp hl
  exact ⟨m, n2, F, fun q hq => N q ((List.mem_append.mp hq).elim (fun h => List.mem_append_left _ (s q h)) (List.mem_append_right _)), hm, l, ((hp.map _).append_right _).nodup_iff.mp hn⟩
theorem E.perm {e : Expr} (hp : η.Perm η') (h : E C ρ η' e Φ) : E C ρ η e Φ := fun ok s Q Er st q => h ok s Q Er (st.perm hp) q
theorem R.perm (hp : η.Perm η') (h : R C ρ η' ss Ψ) : R C ρ η ss Ψ := fun ok s Q Er st q => h ok s Q Er (st.perm hp) q
theorem Fn.perm {f : Addr} {k : Nat} {ps : List PV} (hp : η.Perm η') (h : Fn f k ps η' Φ) : Fn f k ps η Φ := fun sc C hk ok ρ s vs Q Er iv st q => h sc C hk ok ρ s vs Q Er iv (st.perm hp) q
theorem Bin.pow {a b : Int} (h0 : 0 ≤ b) (h1 : b ≤ 1000000) (ha : (Builtin.Int.intBits a : Int) * b ≤ 2 ^ 27) : Bin .Pow (.int a) (.int b) (.int (a ^ b.toNat)) := fun _ _ _ _ _ _ _ ⟨_, e1⟩ ⟨_, e2⟩ q => by subst e1 e2; exact pow_int h0 ha (q _ _ ⟨_, rfl⟩)
end
end Mine
end
section
open PySem PySem.W PyProof.Rows PySem.Calls
set_option Elab.async false
set_option linter.unusedVariables false
set_option maxRecDepth 100000
namespace Mine
def StM {sc : Shape} (C : Ctx sc) (ρ : Rho) (η : Hp) (m : Str → Option Value) (h : Heap) : Prop :=
  ∃ news, Fr C.h₀ C.L h m ∧ News C.h₀ C.L h (C.all news) ∧ C.Nm ρ m ∧ LedOf η news ∧ (η.map (·.1) ++ C.hid.map (·.1)).Nodup
/-- an expression that leaves the frame's names as they stand -/
def EM {sc : Shape} (C : Ctx sc) (ρ : Rho) (η : Hp) (e : Expr) (Φ : PV → Hp → Prop) : Prop :=
  C.Ok → ∀ (s : Shared) (Q : Value → Shared → Prop) (Er : Value → Shared → Prop) (m : Str → Option Value), StM C ρ η m s.heap → (∀ p v η' h' tk', Φ p η' → Is p v → StM C ρ η' m h' → Q v (Sh s h' tk')) → wpAny C.M C.A (eval e C.env) Q Er s
section
variable {sc : Shape} {C : Ctx sc} {ρ : Rho} {η : Hp} {p : PV} {x : Str} {pos : Pos} {Φ : PV → Hp → Prop}
theorem EM.lo (h : look1 sc ρ x = some p) (k : Φ p η) : EM C ρ η (.Name x pos) Φ := fun ok s Q Er m st q => by
  unfold look1 at h
  split at h
  · rename_i h1 h2
    obtain ⟨news, F, N, hm, hl, hn⟩ := st
    obtain ⟨v, a, i⟩ := hm.2 x p h
    exact wpAny_Name (wpAny_loadName_local (kind_env ok) (kindOf_env.trans h2) (ns_env ok F N) a (q p v η s.heap s.toks k i ⟨news, F, N, hm, hl, hn⟩)) h1
  · cases h
end
section
variable {osc s : Scope} {C : Ctx (.fn osc)} {ρ : Rho} {η : Hp} {elt iter : Expr} {x : Str} {px pos : Pos} {cl : List (Str × Addr)} {Φ : PV → Hp → Prop} {Fin : List PV → Hp → Prop}
/-- the turns that are left -/
def CompGo (C : Ctx (.fn osc)) (s : Scope) (cl : List (Str × Addr)) (elt : Expr) (x : Str) (Fin : List PV → Hp → Prop) : List PV → List PV → Hp → Prop
  | [], ys, η => Fin ys η
  | p :: r, ys, η => ∀ C' : Ctx (.comp osc s), C'.w = C.w → C'.k = C.k → C'.ccl = cl → E C' [(x, p)] η elt fun q η' => CompGo C s cl elt x Fin r (ys ++ [q]) η'
theorem CompGo.len {C : Ctx (.fn osc)} : ∀ {r ys : List PV} {η : Hp}, CompGo C s cl elt x Fin r ys η → CompGo C s cl elt x (fun ys' η' => Fin ys' η' ∧ ys'.length = ys.length + r.length) r ys η
  | [], ys, η, g => ⟨g, rfl⟩
  | p :: r, ys, η, g => fun C' h1 h2 h3 => (g C' h1 h2 h3).mono fun q η' g' => by
    have z := g'.len
    rwa [show (ys ++ [q]).length + r.length = ys.length + (p :: r).length by simp; omega] at z
theorem nodup4 {as bs : List Addr} {i c d : Addr} (h : (as ++ bs).Nodup) (h1 : ∀ p ∈ as ++ bs, p ≠ i ∧ p ≠ c ∧ p ≠ d) (h2 : i ≠ c) (h3 : i ≠ d) (h4 : c ≠ d) : (as ++ i :: c :: d :: bs).Nodup := by
  have h' := List.nodup_append.mp h
  refine List.nodup_append.mpr ⟨h'.1, ?_, ?_⟩
  · refine List.nodup_cons.mpr ⟨fun m => ?_, List.nodup_cons.mpr ⟨fun m => ?_, List.nodup_cons.mpr ⟨fun m => ?_, h'.2.1⟩⟩⟩
    · rcases List.mem_cons.mp m with e | m
      · exact h2 e
      · rcases List.mem_cons.mp m with e | m
        · exact h3 e
        · exact (h1 i (List.mem_append_right _ m)).1 rfl
    · rcases List.mem_cons.mp m with e | m
      · exact h4 e
      · exact (h1 c (List.mem_append_right _ m)).2.1 rfl
    · exact (h1 d (List.mem_append_right _ m)).2.2 rfl
  · intro u hu v hv e
    subst e
    have z := h1 u (List.mem_append_left _ hu)
    rcases List.mem_cons.mp hv with e | hv
    · exact z.1 e
    · rcases List.mem_cons.mp hv with e | hv
      · exact z.2.1 e
      · rcases List.mem_cons.mp hv with e | hv
        · exact z.2.2 e
        · exact h'.2.2 u hu u hv rfl
/-- mid: the objects that the walk over the source needs -/
theorem rest_go {s₂ : Shared} {m : Str → Option Value} (mid : Led) (ok : C.Ok) (hkind : s.kind = .function) (S : Led → Prop) (hS : ∀ nw, S (mid ++ nw)) {F9 : List Value → Led → Prop} (P : Nat → Value → Prop)
    (hF : ∀ ys vys η n, AreV ys vys → LedOf η n → (η.map (·.1) ++ (mid ++ C.hid).map (·.1)).Nodup → Fin ys η → F9 vys (mid ++ (n ++ C.hid))) :
    ∀ (r ys : List PV) (η : Hp) (n : Led) (vys : List Value) (i : Nat), (∀ j p, r[j]? = some p → ∀ v, P (i + j) v → Is p v) → AreV ys vys → LedOf η n → (η.map (·.1) ++ (mid ++ C.hid).map (·.1)).Nodup → CompGo C s cl elt x Fin r ys η →
      LCg.CompRest Challenge.rw_pb0513_01.row.prog C.w C.A C.h₀ C.L m C.env elt x s cl s₂ S P F9 r.length i vys (mid ++ (n ++ C.hid))
  | [], ys, η, n, vys, i, _, iy, hl, hn, g => LCg.CompRest.zero (hF ys vys η n iy hl hn g)
  | p :: r, ys, η, n, vys, i, hP, iy, hl, hn, g => by
    refine LCg.CompRest.succ fun v I oI Cd oC D m₂ h tk E' hv hns hm2 F N off hne => ?_
    have ip : Is p v := hP 0 p rfl v hv
    have off3 := off.mem
    let C' : Ctx (.comp osc s) := ⟨C.w, C.mean, C.mg, C.mb, C.dp, C.un, C.k, C.gd, C.cn, C.a, C.ccd, C.cl, C.outer, C.A₀, C.base, C.h₀, C.L, (I, oI) :: (Cd, oC) :: (D, LCg.lst vys) :: (mid ++ C.hid), Cd, cl, m₂, m⟩
    have ok' : C'.Ok := ⟨ok.B, ok.X, ok.T, ok.hk, ok.hd, ok.hu, hkind, oC, .tail _ (.head _), hns⟩
    have hall : ∀ n : Led, C'.all n = n ++ ((I, oI) :: (Cd, oC) :: (D, LCg.lst vys) :: (mid ++ C.hid)) := fun _ => rfl
    have key : ∀ {η : Hp} {n : Led} {q : Addr}, LedOf η n → (q ∈ η.map (·.1) ++ (mid ++ C.hid).map (·.1) ↔ q ∈ (mid ++ (n ++ C.hid)).map (·.1)) := fun {η n q} hl => by
      simp only [List.map_append, hl.keys, List.mem_append]
      constructor
      · rintro (h | h | h)
        · exact .inr (.inl h)
        · exact .inl h
        · exact .inr (.inr h)
      · rintro (h | h | h)
        · exact .inr (.inl h)
        · exact .inl h
        · exact .inr (.inr h)
    have hnd : (η.map (·.1) ++ I :: Cd :: D :: (mid ++ C.hid).map (·.1)).Nodup := nodup4 hn (fun q hq => by
      obtain ⟨u, hu, rfl⟩ := List.mem_map.mp ((key hl).mp hq)
      exact off3 u hu) hne.1 hne.2.1 hne.2.2
    have st : St C' [(x, p)] η h := by
      refine ⟨m, n, F, fun q hq => N q ?_, ⟨rfl, fun y q e => ?_⟩, hl, hnd⟩
      · rw [hall] at hq
        simp only [List.mem_append, List.mem_cons] at hq ⊢
        rcases hq with h | h | h | h | h | h
        · exact .inr (.inr (.inr (.inr (.inl h))))
        · exact .inl h
        · exact .inr (.inl h)
        · exact .inr (.inr (.inl h))
        · exact .inr (.inr (.inr (.inl h)))
        · exact .inr (.inr (.inr (.inr (.inr h))))
      · rw [List.lookup_cons] at e
        by_cases hy : y = x
        · subst hy; simp at e; exact ⟨v, hm2, e ▸ ip⟩
        · rw [show (y == x) = false from beq_eq_false_iff_ne.mpr hy] at e; simp at e
    refine g C' rfl rfl rfl ok' _ _ E' st fun q w η' h' tk' hw iw st' => ?_
    obtain ⟨m', n', F', N', hm', hl', hn'⟩ := st'
    obtain rfl : m' = m := hm'.1
    have hn2 : (η'.map (·.1) ++ (mid ++ C.hid).map (·.1)).Nodup := by
      refine List.Sublist.nodup ?_ hn'
      exact (List.Sublist.refl _).append (.cons _ (.cons _ (.cons _ (.refl _))))
    refine LCg.CompEnd.intro F' N' (mid ++ (n' ++ C.hid)) (fun q hq => ?_) (LCg.Off3.of fun q hq => ?_) (hS _) (rest_go mid ok hkind S hS P hF r (ys ++ [q]) η' n' (vys ++ [w]) (i + 1) (fun j p' e v' hv' => hP (j + 1) p' (by simpa using e) v' (by rw [show i + (j + 1) = i + 1 + j by omega]; exact hv')) (iy.app (.cons iw .nil)) hl' hn2 hw)
    · rw [hall]
      simp only [List.mem_append, List.mem_cons] at hq ⊢
      rcases hq with h | h | h | h | h | h
      · exact .inr (.inl h)
      · exact .inr (.inr (.inl h))
      · exact .inr (.inr (.inr (.inl h)))
      · exact .inr (.inr (.inr (.inr (.inl h))))
      · exact .inl h
      · exact .inr (.inr (.inr (.inr (.inr h))))
    · have hq' := (key hl').mpr (List.mem_map_of_mem (f := Prod.fst) hq)
      have hh := List.nodup_append.mp hn'
      have hc := List.nodup_cons.mp hh.2.1
      have hc2 := List.nodup_cons.mp hc.2
      have hc3 := List.nodup_cons.mp hc2.2
      rcases List.mem_append.mp hq' with hq' | hq'
      · exact ⟨fun e => hh.2.2 _ hq' _ (.head _) e, fun e => hh.2.2 _ hq' _ (.tail _ (.head _)) e, fun e => hh.2.2 _ hq' _ (.tail _ (.tail _ (.head _))) e⟩
      · exact ⟨fun e => hc.1 (e ▸ .tail _ (.tail _ hq')), fun e => hc2.1 (e ▸ .tail _ hq'), fun e => hc3.1 (e ▸ hq')⟩
/-- the side facts of a block's scope -/
def compOk (s : Scope) (x : Str) : Bool := s.names.all (fun y => y.2 != .cell) && s.kind == .function && s.names.all (fun y => y.2 != .local || s.names.lookup y.1 == some .local) && s.names.lookup x == some .local
theorem compOk_out (h : compOk s x = true) : (∀ y ∈ s.names, y.2 ≠ .cell) ∧ s.kind = .function ∧ (∀ y ∈ s.names, y.2 = .local → s.names.lookup y.1 = some .local) ∧ s.names.lookup x = some .local := by
  simp only [compOk, Bool.and_eq_true, List.all_eq_true, bne_iff_ne, beq_iff_eq, Bool.or_eq_true] at h
  exact ⟨h.1.1.1, h.1.1.2, fun y hy e => (h.1.2 y hy).elim (fun z => absurd e z) id, h.2⟩
theorem nodup_mid {as bs : List Addr} {a : Addr} (h : (a :: as ++ bs).Nodup) : (as ++ a :: bs).Nodup := (List.perm_middle.symm.nodup_iff).mp h
theorem nodup_mid' {as bs : List Addr} {a : Addr} (h : (as ++ a :: bs).Nodup) : (a :: as ++ bs).Nodup := (List.perm_middle.symm.nodup_iff).mpr h
end
section
variable {osc : Scope} {C : Ctx (.fn osc)} {ρ : Rho} {η : Hp} {iter : Expr}
theorem off1_of {D : Addr} : ∀ {l : Led}, LCg.Off1 D l → ∀ z ∈ l, z.1 ≠ D
  | [], _, z, hz => nomatch hz
  | y :: r, hh, z, hz => by
    rcases List.mem_cons.mp hz with rfl | hz
    · exact hh.1
    · exact off1_of hh.2 z hz
/-- iter is a source of xs; ex: the ledger's objects that it needs; η₀: the others -/
def Cs {osc : Scope} (C : Ctx (.fn osc)) (ρ : Rho) (η : Hp) (iter : Expr) (xs : List PV) (ex η₀ : Hp) : Prop :=
  ∀ (elt : Expr) (x : Str) (s : Scope) (cl : List (Str × Addr)) (Fin : List PV → Hp → Prop), s.kind = .function → C.Ok → ∀ (s' : Shared) (Er : Value → Shared → Prop) (m : Str → Option Value), StM C ρ η m s'.heap → CompGo C s cl elt x Fin xs [] η₀ →
    ∀ F9 : Shared → List Value → Led → Prop, (∀ g tk ys vys η' n', AreV ys vys → LedOf (ex ++ η') n' → ((ex ++ η').map (·.1) ++ C.hid.map (·.1)).Nodup → Fin ys η' → ys.length = xs.length → F9 (Sh s' g tk) vys (n' ++ C.hid)) →
    wpAny C.M C.A (eval iter C.env) (LCg.CompSrc Challenge.rw_pb0513_01.row.prog C.w C.A C.h₀ C.L m C.env elt x s cl F9) Er s'
theorem Cs.list {a : Addr} {xs : List PV} {η₀ : Hp} (hi : EM C ρ η iter fun p η1 => p = .ref a ∧ η1 = (a, .lst xs) :: η₀) (hx : xs.length ≤ 1000) : Cs C ρ η iter xs [(a, .lst xs)] η₀ := fun elt x s cl Fin h2 ok s' Er m st hg F9 hF => by
  refine hi ok s' _ Er m st fun p v η1 g tk w iv st1 => ?_
  obtain ⟨rfl, rfl⟩ := w
  obtain rfl : v = .ref a := iv
  obtain ⟨news, F, N, hm, hl, hn⟩ := st1
  cases hl with
  | @cons _ _ o _ n hx0 hl =>
    obtain ⟨vs, sn, rfl, ivs⟩ := hx0
    refine LCg.CompSrc.ledger (its := vs.toArray) (k := sn) rfl F N (.head _) (by rw [List.size_toArray, ivs.len, sizeLine_eq]; omega) fun g2 => ?_
    have e : vs.toArray.size = xs.length := by rw [List.size_toArray, ivs.len]
    rw [e]
    refine rest_go [(a, listOf vs.toArray sn)] ok h2 _ (fun nw => .inr ⟨_, .head _, rfl, _, rfl⟩) _ (Fin := fun ys η' => Fin ys η' ∧ ys.length = xs.length) (fun ys vys η' n' iy hl' hn' hF' => ?_) xs [] η₀ n [] 0 (fun j p e v hv => ?_) .nil hl (nodup_mid hn) ?_
    · exact hF g2 tk ys vys η' (_ :: n') iy (LedOf.cons ⟨vs, sn, rfl, ivs⟩ hl') (nodup_mid' hn') hF'.1 hF'.2
    · obtain ⟨v', a1, a2⟩ := ivs.get e
      have hv' : vs.toArray[0 + j]? = some v := hv
      rw [Nat.zero_add] at hv'
      have hv2 : vs[j]? = some v := by simpa using hv'
      rw [a1] at hv2
      cases hv2
      exact a2
    · simpa using hg.len
section
variable {s : Scope} {elt : Expr} {x y : Str} {px py pos spos : Pos} {cl : List (Str × Addr)} {Φ : PV → Hp → Prop} {Fin : List PV → Hp → Prop} {xs : List PV} {ex η₀ : Hp} {ss : List Stmt} {Ψ : Rho → Hp → Flo → Prop}
theorem E.comp (hcl : closureFor s C.env = pure cl) (hc : compOk s x = true) (hi : Cs C ρ η iter xs ex η₀) (hx : xs.length ≤ 1000) (hg : CompGo C s cl elt x Fin xs [] η₀)
    (hf : ∀ ys η', Fin ys η' → ys.length = xs.length → ∀ l, Φ (.ref l) ((l, .lst ys) :: (ex ++ η'))) (hs : ∀ z, foldedSetIterable iter C.env z = pure z) : E C ρ η (.ListComp elt [⟨.Name x px, iter, [], 0⟩] s pos) Φ := fun ok s' Q Er st q => by
  obtain ⟨h1, h2, h3, h4⟩ := compOk_out hc
  obtain ⟨m, st⟩ := st
  have hm := st.choose_spec.2.2.1
  refine LCg.ListComp_U st.choose_spec.1 hcl h1 h2 h3 h4 (hi elt x s cl Fin h2 ok s' Er m st hg _ fun g tk ys vys η' n' iy hl' hn' hF hlen => ?_) hs
  intro D h tk F' N' o1
  refine q (.ref D) (.ref D) ((D, .lst ys) :: (ex ++ η')) h tk (hf ys η' hF hlen D) rfl ⟨m, _ :: n', F', fun z hz => N' z hz, hm, LedOf.cons ⟨vys, vys.length, rfl, iy⟩ hl', ?_⟩
  show (D :: ((ex ++ η').map (·.1) ++ C.hid.map (·.1))).Nodup
  refine List.nodup_cons.mpr ⟨fun mm => ?_, hn'⟩
  have mm' : D ∈ (n' ++ C.hid).map (·.1) := by rw [List.map_append, hl'.keys]; exact mm
  obtain ⟨z, hz, e2⟩ := List.mem_map.mp mm'
  exact off1_of o1 z hz e2
/-- y = [elt for x in iter], written on one line -/
theorem R.compA (hsw : swapsWith (.ListComp elt [⟨.Name x px, iter, [], 0⟩] s pos) (some (.Name y py)) spos.line C.env = pure true) (hcl : closureFor s C.env = pure cl) (hc : compOk s x = true) (hy : osc.names.lookup y = some .local) (hi : Cs C ρ η iter xs ex η₀) (hx : xs.length ≤ 1000)
    (hg : CompGo C s cl elt x Fin xs [] η₀) (hf : ∀ ys η', Fin ys η' → ys.length = xs.length → ∀ l, R C ((y, .ref l) :: ρ) ((l, .lst ys) :: (ex ++ η')) ss Ψ) (hs : ∀ z, foldedSetIterable iter C.env z = pure z) :
    R C ρ η (.Assign [.Name y py] (.ListComp elt [⟨.Name x px, iter, [], 0⟩] s pos) spos :: ss) Ψ := fun ok s' Q Er st q => by
  obtain ⟨h1, h2, h3, h4⟩ := compOk_out hc
  obtain ⟨m, st⟩ := st
  have hm := st.choose_spec.2.2.1
  refine wpAny_execs_cons (LCg.Assign_ListComp_U st.choose_spec.1 rfl hsw hcl h1 h2 h3 h4 (kindOf_env.trans hy) ?_ (hi elt x s cl Fin h2 ok s' Er m st hg _ fun g tk ys vys η' n' iy hl' hn' hF hlen => ?_) hs)
  · rw [kind_env ok]; rfl
  intro D h tk F' N' o1
  refine hf ys η' hF hlen D ok _ Q Er ⟨_, _ :: n', F', fun z hz => N' z hz, ?_, LedOf.cons ⟨vys, vys.length, rfl, iy⟩ hl', ?_⟩ q
  · refine ⟨trivial, fun z p' e => ?_⟩
    rw [List.lookup_cons] at e
    by_cases hz : z = y
    · subst hz
      simp at e
      exact ⟨.ref D, if_pos rfl, by subst e; rfl⟩
    · rw [show (z == y) = false from beq_eq_false_iff_ne.mpr hz] at e
      obtain ⟨v, a, b⟩ := hm.2 z p' e
      exact ⟨v, (if_neg hz).trans a, b⟩
  show (D :: ((ex ++ η').map (·.1) ++ C.hid.map (·.1))).Nodup
  refine List.nodup_cons.mpr ⟨fun mm => ?_, hn'⟩
  have mm' : D ∈ (n' ++ C.hid).map (·.1) := by rw [List.map_append, hl'.keys]; exact mm
  obtain ⟨z, hz, e2⟩ := List.mem_map.mp mm'
  exact off1_of o1 z hz e2
end
end
end Mine
end
section
open PySem PySem.W PyProof.Rows PySem.Calls
set_option Elab.async false
set_option linter.unusedVariables false
set_option maxRecDepth 100000
namespace Mine
section
variable {sc : Shape} {C : Ctx sc} {ρ : Rho} {η : Hp} {pos xpos cp : Pos} {e e1 : Expr}
theorem StM.at_ {m : Str → Option Value} {h h' : Heap} (st : StM C ρ η m h) (hk : ∀ b o, h.get? b = some o → h'.get? b = some o) : StM C ρ η m h' :=
  let ⟨news, F, N, hm, hl, hn⟩ := st
  ⟨news, F.keeps hk, N.grown hk, hm, hl, hn⟩
/-- a range from 0 to n -/
def ER {sc : Shape} (C : Ctx sc) (ρ : Rho) (η : Hp) (e : Expr) (n : Nat) : Prop :=
  C.Ok → ∀ (s : Shared) (Q : Value → Shared → Prop) (Er : Value → Shared → Prop) (m : Str → Option Value), StM C ρ η m s.heap → (∀ r h' tk' t u v, IsRange h' r 0 n 1 t u v → StM C ρ η m h' → Q (.ref r) (Sh s h' tk')) → wpAny C.M C.A (eval e C.env) Q Er s
theorem ER.range {n k : Nat} (hb : ∀ P, nsIn (kK P) mainGlobals "range" = some none) (hg : isGlob sc "range" = true)
    (he : eval (.Call (.Name "range" xpos) [.Constant (.int (n : Int)) k cp] [] pos) C.env = (do callWith pos (← eval (.Name "range" xpos) C.env) [] (backTo pos (starEach [.Constant (.int (n : Int)) k cp] C.env)) (backToKw pos (keywordEach [] C.env))) := by rfl) :
    ER C ρ η (.Call (.Name "range" xpos) [.Constant (.int (n : Int)) k cp] [] pos) n := fun ok s Q Er m st q => by
  refine Call_ ?_ he
  have F := st.choose_spec.1
  have hk : sc.names.lookup ("range" : Str) = some .globalImplicit := by
    unfold isGlob at hg
    split at hg
    · assumption
    · cases hg
  refine Name_function_global (kind_env ok) (kindOf_env.trans hk) (loadGlobal_builtin (env := C.env) (by rw [globals_env]; exact ok.T.g.keeps F.keep) (mg_none_of ok.X ok.T.g (hb _)) (by rw [builtins_env]; exact ok.T.b.keeps F.keep) ((ok.T.builtins "range" (by decide)).trans boot_range) ?_) (by rfl)
  refine PyProof.Rows.callWith_type1 ?_
  refine spliced_more (wpAny_Constant_int ?_) rfl
  refine spliced_nil ?_
  refine call_range_1 ?_
  have hk' : ∀ b o, s.heap.get? b = some o → (s.heap.push { cls := .type "range", data := .fields #[.int 0 s.toks, .int (n : Int) 0, .int 1 (s.toks + 1)] }).get? b = some o := fun b o e => Heap.get?_push_of_some _ e
  exact q _ _ _ _ _ _ (IsRange.new _ _ _ _ _ _ _) (st.at_ fun b o e => Heap.get?_push_of_some _ e)
end
section
variable {osc : Scope} {C : Ctx (.fn osc)} {ρ : Rho} {η : Hp} {iter : Expr}
/-- the ints from 0 up to n -/
def upTo (n : Nat) : List PV := (List.range n).map fun (i : Nat) => PV.int (i : Int)
theorem Cs.range {n : Nat} (hi : ER C ρ η iter n) (hx : n ≤ 1000) : Cs C ρ η iter (upTo n) [] η := fun elt x s cl Fin h2 ok s' Er m st hg F9 hF => by
  refine hi ok s' _ Er m st fun r g tk t u v hr st1 => ?_
  obtain ⟨news, F, N, hm, hl, hn⟩ := st1
  refine LCg.CompSrc.range (n := n) rfl F N hr ?_ ?_ (by rw [sizeLine_eq]; omega) fun g2 => ?_
  · exact small_one (by omega) (by omega) (by omega) (by omega)
  · rw [rangeSize_one]; split <;> omega
  · have e : (upTo n).length = n := by rw [upTo, List.length_map, List.length_range]
    conv => arg 16; rw [← e]
    refine rest_go [] ok h2 _ (fun nw => trivial) _ (Fin := fun ys η' => Fin ys η' ∧ ys.length = (upTo n).length) (fun ys vys η' n' iy hl' hn' hF' => ?_) _ [] η news [] 0 (fun j p e v hv => ?_) .nil hl hn ?_
    · exact hF g2 tk ys vys η' n' iy hl' hn' hF'.1 hF'.2
    · obtain ⟨t', rfl⟩ := hv
      rw [upTo, List.getElem?_map] at e
      obtain ⟨i, hi, rfl⟩ := Option.map_eq_some_iff.mp e
      obtain ⟨_, rfl⟩ := List.getElem?_eq_some_iff.mp hi
      exact ⟨t', by simp⟩
    · simpa using hg.len
end
end Mine
end
section
open PySem PySem.W PyProof.Rows PySem.Calls
set_option Elab.async false
set_option linter.unusedVariables false
set_option maxRecDepth 100000
namespace Mine
theorem mem_lookup {α : Type} {n : Str} {b : α} : ∀ {l : List (Str × α)}, l.lookup n = some b → (n, b) ∈ l
  | [], h => nomatch h
  | (x, c) :: r, h => by
    rw [List.lookup_cons] at h
    by_cases e : n = x
    · subst e
      simp at h
      exact h ▸ .head _
    · rw [show (n == x) = false from beq_eq_false_iff_ne.mpr e] at h
      exact .tail _ (mem_lookup h)
theorem cf_facts : ∀ (names : List (Str × NameKind)) (n : Nat) (acc : List (Str × Addr)), (∀ q ∈ acc, q.2 < n) → (acc.map (·.2)).Nodup → ((cellsFrom n names acc).map (·.2)).Nodup ∧ ∀ q ∈ cellsFrom n names acc, q ∈ acc ∨ n ≤ q.2
  | [], n, acc, h1, h2 => ⟨h2, fun q hq => .inl hq⟩
  | (x, kd) :: r, n, acc, h1, h2 => by
    unfold cellsFrom
    split
    · have z := cf_facts r (n + 1) ((x, n) :: acc) (fun q hq => by
        rcases List.mem_cons.mp hq with rfl | hq
        · exact Nat.lt_succ_self _
        · exact Nat.lt_succ_of_lt (h1 q hq)) (by
        rw [List.map_cons]
        refine List.nodup_cons.mpr ⟨fun m => ?_, h2⟩
        obtain ⟨q, hq, e⟩ := List.mem_map.mp m
        have := h1 q hq
        rw [e] at this
        exact Nat.lt_irrefl _ this)
      refine ⟨z.1, fun q hq => ?_⟩
      rcases z.2 q hq with hq | hq
      · rcases List.mem_cons.mp hq with rfl | hq
        · exact .inr (Nat.le_refl _)
        · exact .inl hq
      · exact .inr (Nat.le_of_succ_le hq)
    · exact cf_facts r n acc h1 h2
theorem bindC_get {K : Str → Option NameKind} {n : Str} (hk : K n ≠ some .local) : ∀ {ps : List PV} {vs : List Value}, AreV ps vs → ∀ (names : List Str) (m : Str → Option Value), names.Nodup →
    ((names.zip ps).lookup n = none ∧ bindC K (names.zip vs) m n = m n) ∨ ∃ p v, (names.zip ps).lookup n = some p ∧ bindC K (names.zip vs) m n = some v ∧ Is p v := by
  intro ps vs h
  induction h with
  | nil => intro names m _; left; cases names <;> exact ⟨rfl, rfl⟩
  | @cons p v ps vs i is ih =>
    intro names m hn
    cases names with
    | nil => exact .inl ⟨rfl, rfl⟩
    | cons x xs =>
      have hn' := List.nodup_cons.mp hn
      show (((x, p) :: xs.zip ps).lookup n = none ∧ bindC K (xs.zip vs) _ n = m n) ∨ ∃ p' v', ((x, p) :: xs.zip ps).lookup n = some p' ∧ bindC K (xs.zip vs) _ n = some v' ∧ Is p' v'
      rw [List.lookup_cons]
      by_cases hx : n = x
      · subst hx
        rw [show (n == n) = true from beq_self_eq_true n]
        right
        rcases ih xs (if K n = some .local then m else fun y => if y = n then some v else m y) hn'.2 with ⟨e1, e2⟩ | ⟨p', v', e1, e2, e3⟩
        · refine ⟨p, v, rfl, e2.trans ?_, i⟩
          rw [if_neg hk, if_pos rfl]
        · exact absurd (List.of_mem_zip (mem_lookup e1)).1 hn'.1
      · rw [show (n == x) = false from beq_eq_false_iff_ne.mpr hx]
        rcases ih xs (if K x = some .local then m else fun y => if y = x then some v else m y) hn'.2 with ⟨e1, e2⟩ | z
        · refine .inl ⟨e1, e2.trans ?_⟩
          split
          · rfl
          · exact if_neg hx
        · exact .inr z
theorem bindL_get {K : Str → Option NameKind} {n : Str} (hk : K n = some .local) : ∀ {ps : List PV} {vs : List Value}, AreV ps vs → ∀ (names : List Str) (m : Str → Option Value), names.Nodup →
    ((names.zip ps).lookup n = none ∧ bindL K (names.zip vs) m n = m n) ∨ ∃ p v, (names.zip ps).lookup n = some p ∧ bindL K (names.zip vs) m n = some v ∧ Is p v := by
  intro ps vs h
  induction h with
  | nil => intro names m _; left; cases names <;> exact ⟨rfl, rfl⟩
  | @cons p v ps vs i is ih =>
    intro names m hn
    cases names with
    | nil => exact .inl ⟨rfl, rfl⟩
    | cons x xs =>
      have hn' := List.nodup_cons.mp hn
      show (((x, p) :: xs.zip ps).lookup n = none ∧ bindL K (xs.zip vs) _ n = m n) ∨ ∃ p' v', ((x, p) :: xs.zip ps).lookup n = some p' ∧ bindL K (xs.zip vs) _ n = some v' ∧ Is p' v'
      rw [List.lookup_cons]
      by_cases hx : n = x
      · subst hx
        rw [show (n == n) = true from beq_self_eq_true n]
        right
        rcases ih xs (if K n = some .local then fun y => if y = n then some v else m y else m) hn'.2 with ⟨e1, e2⟩ | ⟨p', v', e1, e2, e3⟩
        · refine ⟨p, v, rfl, e2.trans ?_, i⟩
          rw [if_pos hk, if_pos rfl]
        · exact absurd (List.of_mem_zip (mem_lookup e1)).1 hn'.1
      · rw [show (n == x) = false from beq_eq_false_iff_ne.mpr hx]
        rcases ih xs (if K x = some .local then fun y => if y = x then some v else m y else m) hn'.2 with ⟨e1, e2⟩ | z
        · refine .inl ⟨e1, e2.trans ?_⟩
          split
          · exact if_neg hx
          · rfl
        · exact .inr z
/-- the names of a def's call that are locals -/
def locs (sc : Scope) : List (Str × PV) → Rho
  | [] => []
  | (x, p) :: r => if sc.names.lookup x == some .local then (x, p) :: locs sc r else locs sc r
theorem locs_get {sc : Scope} {x : Str} {p : PV} : ∀ {l : List (Str × PV)}, (locs sc l).lookup x = some p → sc.names.lookup x = some .local ∧ l.lookup x = some p
  | [], h => nomatch h
  | (y, q) :: r, h => by
    unfold locs at h
    rw [List.lookup_cons]
    split at h
    · rename_i hy
      rw [List.lookup_cons] at h
      by_cases e : x = y
      · subst e
        simp at h ⊢
        exact ⟨by simpa using hy, h⟩
      · rw [show (x == y) = false from beq_eq_false_iff_ne.mpr e] at h ⊢
        exact locs_get h
    · rename_i hy
      have z := locs_get h
      have e : x ≠ y := fun e => hy (by rw [← e, z.1]; rfl)
      rw [show (x == y) = false from beq_eq_false_iff_ne.mpr e]
      exact z
/-- the cells of a def's call -/
def cellsH (z : List (Str × PV)) (cl : List (Str × Addr)) : Hp := cl.map fun y => (y.2, .cell (z.lookup y.1))
theorem LedOf.app {η η' : Hp} {n n' : Led} (h : LedOf η n) (h' : LedOf η' n') : LedOf (η ++ η') (n ++ n') := by
  induction h with
  | nil => exact h'
  | cons a _ ih => exact .cons a ih
theorem cells_led {names : List Str} {ps : List PV} {vs : List Value} {K : Str → Option NameKind} (iv : AreV ps vs) (hn : names.Nodup) : ∀ {cs : List (Str × Addr)} {cells : Led}, (∀ y ∈ cs, K y.1 ≠ some .local) → CellsAre (bindC K (names.zip vs) fun _ => none) cs cells → LedOf (cellsH (names.zip ps) cs) cells := by
  intro cs cells hk h
  induction h with
  | nil => exact .nil
  | @cons n c o cs cells hd _ ih =>
    refine .cons ?_ (ih fun y hy => hk y (.tail _ hy))
    rcases bindC_get (hk _ (.head _)) iv names (fun _ => none) hn with ⟨e1, e2⟩ | ⟨p, v, e1, e2, e3⟩
    · show IsO (.cell ((names.zip ps).lookup n)) o
      rw [e1]
      exact hd.trans (by rw [e2])
    · show IsO (.cell ((names.zip ps).lookup n)) o
      rw [e1]
      exact ⟨v, hd.trans (by rw [e2]), e3⟩
section
variable {f : Addr} {k : Nat} {ps : List PV} {η : Hp} {Φ : PV → Hp → Prop} {name qual : Str} {params : Arguments} {body : List Stmt} {scope : Scope} {dV kV doc pm cdv ct oc : Value} {an od : Option Addr} {osl : Array (Option Value)}
theorem Fn.enterC (names : List Str) (ρ₀ : Rho) (hρ : locs scope (names.zip ps) = ρ₀) (ho : ∀ P, List.lookup f (kK P) = some ⟨oc, od, .func (fnOf name qual params body scope dV kV doc pm an cdv ct), osl⟩) (hcd : ∀ P, codeIn (kK P) cdv qual = true)
    (hb : ∀ s vs, AreV ps vs → BindsTo s (fnOf name qual params body scope dV kV doc pm an cdv ct) ⟨vs, []⟩ (names.zip vs))
    (hn : names.Nodup) (hl : ∀ x ∈ names, (scope.names.lookup x == some .local || scope.names.lookup x == some .cell) = true) (hcs : ∀ y ∈ cellsFrom 0 scope.names [], scope.names.lookup y.1 ≠ some .local) (hnd : ((cellsFrom 0 scope.names []).map (·.1)).Nodup)
    (hco : scope.isCoroutine = false) (hgen : scope.isGenerator = false) (hk : scope.kind = .function) (k1 : 1 ≤ k)
    (h : ∀ C : Ctx (.fn scope), k ≤ C.k + 1 → C.cl = cellsFrom (C.L + 1) scope.names [] → R C ρ₀ (cellsH (names.zip ps) C.cl ++ η) body (Back Φ)) : Fn f k ps η Φ := fun sc C hkC ok ρ s vs Q Er iv st q => by
  subst hρ
  have hr := ok.hd
  have hu := ok.hu
  obtain ⟨m, news, F, N, hm, hld, hnn⟩ := st
  refine wpAny_call (code_defC ok.B F ok.X N ok.T rfl rfl ok.hk (ho _) (hcd _) (by show C.dp < _; omega) (hb s vs iv) (List.all_eq_true.mpr fun y hy => hl _ (List.of_mem_zip hy).1) hnd (fun g L' h₁ tk cells FG F' N' Y B' X' T' low => ?_) hco hgen hk)
  have hkd : ∀ x, (envOfC qual scope L' f cdv).kindOf x = scope.names.lookup x := fun _ => rfl
  have names_eq : ∀ (a b : Nat) (l : List (Str × NameKind)) (u v : List (Str × Addr)), u.map (·.1) = v.map (·.1) → (cellsFrom a l u).map (·.1) = (cellsFrom b l v).map (·.1) := by
    intro a b l
    induction l generalizing a b with
    | nil => intro u v e; exact e
    | cons y r ih =>
      intro u v e
      obtain ⟨x, kd⟩ := y
      unfold cellsFrom
      split
      · exact ih _ _ _ _ (by rw [List.map_cons, List.map_cons, e])
      · exact ih _ _ _ _ e
  have hcs' : ∀ y ∈ cellsFrom (L' + 1) scope.names [], (envOfC qual scope L' f cdv).kindOf y.1 ≠ some .local := fun y hy => by
    have z : y.1 ∈ (cellsFrom (L' + 1) scope.names []).map (·.1) := List.mem_map_of_mem (f := Prod.fst) hy
    rw [names_eq (L' + 1) 0 _ _ [] rfl] at z
    obtain ⟨w, hw, e⟩ := List.mem_map.mp z
    rw [hkd, ← e]
    exact hcs w hw
  have CL := cells_led iv hn hcs' Y
  have cf := cf_facts scope.names (L' + 1) [] (fun _ h => nomatch h) .nil
  have hkeys : (cellsH (names.zip ps) (cellsFrom (L' + 1) scope.names [])).map (·.1) = (cellsFrom (L' + 1) scope.names []).map (·.2) := by
    unfold cellsH; rw [List.map_map]; rfl
  have hnd2 : ((cellsH (names.zip ps) (cellsFrom (L' + 1) scope.names []) ++ η).map (·.1) ++ C.hid.map (·.1)).Nodup := by
    rw [List.map_append, List.append_assoc, hkeys]
    refine List.nodup_append.mpr ⟨cf.1, hnn, fun u hu v hv e => ?_⟩
    subst e
    obtain ⟨y, hy, e⟩ := List.mem_map.mp hu
    have hy2 : L' + 1 ≤ y.2 := (cf.2 y hy).resolve_left fun h => nomatch h
    have hv' : u ∈ (C.all news).map (·.1) := by
      rw [Ctx.all, List.map_append, hld.keys]; exact hv
    obtain ⟨q, hq, e2⟩ := List.mem_map.mp hv'
    have hq2 := low q hq
    rw [e2, ← e] at hq2
    exact Nat.lt_irrefl _ (Nat.lt_trans hq2 hy2)
  refine h ⟨C.w, C.mean, C.mg, C.mb, C.dp + 1, C.un + 3, C.k - 1, C.gd, qual, f, cdv, cellsFrom (L' + 1) scope.names [], C.fenv :: C.outer, C.A, C.base, g, L', C.hid, 0, [], fun _ => none, fun _ => none⟩ (by show k ≤ C.k - 1 + 1; omega) rfl
    ⟨B', X', T', hk, by show C.dp + 1 + (C.k - 1) < _; omega, by show C.un + 3 + 8 * (C.k - 1) + 70 < _; omega, trivial⟩ _ _ _
    ⟨_, cells ++ news, F', fun z hz => N' z (by rw [Ctx.all, ← List.append_assoc]; exact hz), ⟨trivial, fun x p e => ?_⟩, CL.app hld, hnd2⟩ (fun fl flv ρ' η' h' tk' w i st' => ?_)
  · have z := locs_get e
    rcases bindL_get (K := (envOfC qual scope L' f cdv).kindOf) (by rw [hkd]; exact z.1) iv names (fun _ => none) hn with ⟨e1, _⟩ | ⟨p', v, e1, e2, e3⟩
    · rw [z.2] at e1; cases e1
    · rw [z.2] at e1; cases e1
      exact ⟨v, e2, e3⟩
  have go : ∀ p v, Is p v → (∃ η'', List.Sublist η'' η' ∧ Φ p η'') → LeaveK C.h₀ C.L m g (fun r s' => match r with | .ok (.ret v) => Q v s' | .ok _ => False | .error e => Er e s') v (Sh s h' tk') := fun p v i ⟨η'', hs, w⟩ => by
    obtain ⟨m', news', F2, N2, hm2, hl2, hn2⟩ := st'.sub hs
    exact leaveK_ F2 N2 fun F3 N3 => q p v η'' h' tk' w i ⟨m, news', F3, N3, hm, hl2, hn2⟩
  cases fl with
  | next => obtain rfl : flv = .next := i; exact go .non .none rfl w
  | brk => exact w.elim
  | cont => exact w.elim
  | ret p => obtain ⟨v, rfl, i⟩ := i; exact go p v i w
end
end Mine
end
section
open PySem PySem.W PyProof.Rows PySem.Calls
set_option Elab.async false
set_option linter.unusedVariables false
set_option maxRecDepth 100000
namespace Mine
section
variable {osc s : Scope} {C : Ctx (.fn osc)} {η : Hp} {elt : Expr} {x : Str} {cl : List (Str × Addr)}
/-- every turn's value is known, and no turn changes the ledger -/
theorem CompGo.pure (g : PV → PV) : ∀ (r ys : List PV), (∀ p ∈ r, ∀ C' : Ctx (.comp osc s), C'.w = C.w → C'.k = C.k → C'.ccl = cl → V C' [(x, p)] η elt (g p)) → CompGo C s cl elt x (fun ys' η' => ys' = ys ++ r.map g ∧ η' = η) r ys η := by
  intro r
  induction r with
  | nil => intro ys h; exact ⟨by rw [List.map_nil, List.append_nil], rfl⟩
  | cons p r ih =>
    intro ys h C' h1 h2 h3
    refine (h p (.head _) C' h1 h2 h3).mono fun q η' e => ?_
    have z := ih (ys ++ [g p]) fun p' hp' => h p' (.tail _ hp')
    rw [e.1, e.2]
    rwa [List.append_assoc] at z
/-- the turns change the ledger, from a state to the next one -/
theorem CompGo.inv (I : List PV → Hp → Prop) : ∀ (r ys : List PV) (η : Hp), I ys η → (∀ p ∈ r, ∀ ys η, I ys η → ∀ C' : Ctx (.comp osc s), C'.w = C.w → C'.k = C.k → C'.ccl = cl → E C' [(x, p)] η elt fun q η' => I (ys ++ [q]) η') → CompGo C s cl elt x I r ys η
  | [], ys, η, i, h => i
  | p :: r, ys, η, i, h => fun C' h1 h2 h3 => (h p (.head _) ys η i C' h1 h2 h3).mono fun q η' i' => CompGo.inv I r (ys ++ [q]) η' i' fun p' hp' => h p' (.tail _ hp')
end
end Mine
end
section
open PySem PySem.W PyProof.Rows PySem.Calls
set_option Elab.async false
set_option linter.unusedVariables false
set_option maxRecDepth 100000
namespace Mine
/-! for over a list of the ledger's, for over a range -/
abbrev Ctx.hide {sc : Scope} (C : Ctx (.fn sc)) (l : Led) : Ctx (.fn sc) := { C with hid := l ++ C.hid }
section
variable {sc : Scope} {C : Ctx (.fn sc)} {ρ : Rho} {η : Hp} {h h' : Heap} {I : Addr} {oI oI' : Obj} {mid : Led}
theorem Ctx.Ok.hide (ok : C.Ok) (l : Led) : (C.hide l).Ok := ⟨ok.B, ok.X, ok.T, ok.hk, ok.hd, ok.hu, trivial⟩
theorem St.iter (st : St (C.hide ((I, oI) :: mid)) ρ η h) (hk : ∀ b o, b ≠ I → h.get? b = some o → h'.get? b = some o) (e : h'.get? I = some oI') : St (C.hide ((I, oI') :: mid)) ρ η h' := by
  obtain ⟨m, news, F, N, hm, hl, hn⟩ := st
  have zI := N (I, oI) (List.mem_append_right _ (.head _))
  have hn' := List.nodup_append.mp hn
  have hc : (I :: (mid ++ C.hid).map (·.1)).Nodup := hn'.2.1
  refine ⟨m, news, LCg.fr_but F (fun b o hb => hk b o (by simpa using hb)) zI.2.1.symm zI.2.2, fun p hp => ?_, hm, hl, hn⟩
  rcases List.mem_append.mp hp with hp | hp
  · have z := N p (List.mem_append_left _ hp)
    refine ⟨hk _ _ (fun q => ?_) z.1, z.2⟩
    have : p.1 ∈ η.map (·.1) := by rw [← hl.keys]; exact List.mem_map_of_mem (f := Prod.fst) hp
    exact hn'.2.2 _ this I (.head _) q
  · rcases List.mem_cons.mp hp with rfl | hp
    · exact ⟨e, zI.2⟩
    · have z := N p (List.mem_append_right _ (.tail _ hp))
      refine ⟨hk _ _ (fun q => ?_) z.1, z.2⟩
      exact (List.nodup_cons.mp hc).1 (q ▸ List.mem_map_of_mem (f := Prod.fst) hp)
theorem St.unhide (st : St (C.hide ((I, oI) :: mid)) ρ η h) : St (C.hide mid) ρ η h := by
  obtain ⟨m, news, F, N, hm, hl, hn⟩ := st
  refine ⟨m, news, F, fun p hp => N p ?_, hm, hl, ?_⟩
  · rcases List.mem_append.mp hp with hp | hp
    · exact List.mem_append_left _ hp
    · exact List.mem_append_right _ (.tail _ hp)
  · exact List.Sublist.nodup ((List.Sublist.refl _).append (.cons _ (.refl _))) hn
theorem St.back {a : Addr} {x : HO} {o : Obj} (st : St (C.hide [(a, o)]) ρ η h) (i : IsO x o) : St C ρ ((a, x) :: η) h := by
  obtain ⟨m, news, F, N, hm, hl, hn⟩ := st
  refine ⟨m, (a, o) :: news, F, fun p hp => N p ?_, hm, .cons i hl, nodup_mid' hn⟩
  rcases List.mem_cons.mp hp with rfl | hp
  · exact List.mem_append_right _ (.head _)
  · rcases List.mem_append.mp hp with hp | hp
    · exact List.mem_append_left _ hp
    · exact List.mem_append_right _ (.tail _ hp)
theorem St.put {a : Addr} {x : HO} (st : St C ρ ((a, x) :: η) h) : ∃ o, IsO x o ∧ St (C.hide [(a, o)]) ρ η h := by
  obtain ⟨m, news, F, N, hm, hl, hn⟩ := st
  cases hl with
  | @cons _ _ o _ n hx hl =>
    refine ⟨o, hx, m, n, F, fun p hp => N p ?_, hm, hl, nodup_mid hn⟩
    rcases List.mem_append.mp hp with hp | hp
    · exact .tail _ (List.mem_append_left _ hp)
    · rcases List.mem_cons.mp hp with rfl | hp
      · exact .head _
      · exact .tail _ (List.mem_append_right _ hp)
theorem St.grow (st : St C ρ η h) (o : Obj) (ho : o.isFreed = false := by rfl) : St (C.hide [(h.objs.size, o)]) ρ η (h.push o) := by
  obtain ⟨m, news, F, N, hm, hl, hn⟩ := st
  have up : ∀ b o', h.get? b = some o' → (h.push o).get? b = some o' := fun b o' e => Heap.get?_push_of_some _ e
  refine ⟨m, news, F.keeps up, fun p hp => ?_, hm, hl, ?_⟩
  · rcases List.mem_append.mp hp with hp | hp
    · exact N.grown up p (List.mem_append_left _ hp)
    · rcases List.mem_cons.mp hp with rfl | hp
      · exact ⟨Heap.get?_push_size _ ho, Ne.symm (Nat.ne_of_lt F.ns.lt), next_is_new F⟩
      · exact N.grown up p (List.mem_append_right _ hp)
  · refine nodup_mid (a := h.objs.size) (List.nodup_cons.mpr ⟨fun mm => ?_, hn⟩)
    have mm' : h.objs.size ∈ (C.all news).map (·.1) := by rw [Ctx.all, List.map_append, hl.keys]; exact mm
    obtain ⟨q, hq, e⟩ := List.mem_map.mp mm'
    have := Heap.lt_size (N q hq).1
    rw [e] at this
    exact Nat.lt_irrefl _ this
theorem St.hid {l : Led} (st : St (C.hide l) ρ η h) : ∀ p ∈ l, h.get? p.1 = some p.2 := by
  obtain ⟨m, news, F, N, hm, hl, hn⟩ := st
  exact fun p hp => (N p (List.mem_append_right _ (List.mem_append_left _ hp))).1
/-- what a turn of a for leaves -/
def TurnF (J : Rho → Hp → Prop) (Rt : Rho → Hp → PV → Prop) (ρ : Rho) (η : Hp) : Flo → Prop
  | .next => J ρ η
  | .cont => J ρ η
  | .brk => False
  | .ret p => Rt ρ η p
theorem for_core {x : Str} {px : Pos} {body : List Stmt} (ok : C.Ok) {fp : List Addr} {n : Nat} {P : Nat → Value → Prop} {Sx : Nat → Heap → Prop} (mid : Led) (W : Walks Challenge.rw_pb0513_01.row.prog C.w C.A I fp [I] n P Sx)
    (hIo : ∀ i h, Sx i h → ∃ o, h.get? I = some o) (hS : ∀ i h h' o, Sx i h → h.get? I = some o → h'.get? I = some o → (∀ p ∈ mid, h'.get? p.1 = some p.2) → Sx i h')
    (item : Nat → PV) (hP : ∀ i v, i < n → P i v → Is (item i) v) (hx : sc.names.lookup x = some .local) {σ : Type} (ρ0 : σ → Rho) (η0 : σ → Hp) (Inv : Nat → σ → Prop) (Rt : Rho → Hp → PV → Prop) {s : Shared} {Rz : Result → Shared → Prop} (c : σ) (h0 : Inv 0 c)
    (st : St (C.hide ((I, oI) :: mid)) (ρ0 c) (η0 c) s.heap) (hst : Sx 0 s.heap)
    (step : ∀ i c, i < n → Inv i c → ∀ C' : Ctx (.fn sc), C'.w = C.w → C'.k = C.k → C'.cl = C.cl → R C' ((x, item i) :: ρ0 c) (η0 c) body (TurnF (fun ρ' η' => ∃ c', SubE ρ' (ρ0 c') ∧ List.Sublist (η0 c') η' ∧ Inv (i + 1) c') Rt))
    (done : ∀ c h tk, Inv n c → St (C.hide mid) (ρ0 c) (η0 c) h → Rz (.ok .next) (Sh s h tk)) (rets : ∀ p v ρ η h tk, Rt ρ η p → Is p v → St (C.hide mid) ρ η h → Rz (.ok (.ret v)) (Sh s h tk)) :
    codeAny C.M C.A (.forLoop (.Name x px) (.ref I) body [] C.env) Rz s := by
  refine codeAny_forLoop (fun k s' => ∃ h tk oI c i, s' = Sh s h tk ∧ St (C.hide ((I, oI) :: mid)) (ρ0 c) (η0 c) h ∧ Sx i h ∧ Inv i c ∧ i ≤ n ∧ k = n + 1 - i) ?_ (n + 1) ⟨s.heap, s.toks, oI, c, 0, rfl, st, hst, h0, Nat.zero_le _, rfl⟩ (fun _ => rfl)
  rintro k s' ⟨h, tk, oI, c, i, rfl, st, hst, hI, hi, rfl⟩
  by_cases hlt : i < n
  · refine W.item i _ _ _ hlt hst fun v h₁ tk₁ hPv hst₁ hk₁ => ?_
    obtain ⟨oI₁, e₁⟩ := hIo _ _ hst₁
    have st₁ : St (C.hide ((I, oI₁) :: mid)) (ρ0 c) (η0 c) h₁ := st.iter (fun b o hb => hk₁ b o (by simpa using hb)) e₁
    refine assign_Name ((Sto.loc (C := C.hide ((I, oI₁) :: mid)) hx) (ok.hide _) (Sh s h₁ tk₁) v _ _ (hP i v hlt hPv) st₁ fun h₂ tk₂ st₂ => ?_)
    have hst₂ : Sx (i + 1) h₂ := hS _ _ _ _ hst₁ e₁ (st₂.hid _ (.head _)) fun p hp => st₂.hid _ (.tail _ hp)
    refine step i c hlt hI (C.hide ((I, oI₁) :: mid)) rfl rfl rfl (ok.hide _) _ _ _ st₂ fun f fl ρ' η' h₃ tk₃ w iw st₃ => ?_
    have nx : (∃ c', SubE ρ' (ρ0 c') ∧ List.Sublist (η0 c') η' ∧ Inv (i + 1) c') → ∃ m, m < n + 1 - i ∧ ∃ h tk oI c i, Sh (Sh s h₁ tk₁) h₃ tk₃ = Sh s h tk ∧ St (C.hide ((I, oI) :: mid)) (ρ0 c) (η0 c) h ∧ Sx i h ∧ Inv i c ∧ i ≤ n ∧ m = n + 1 - i := fun ⟨c', w1, w2, w3⟩ =>
      ⟨n + 1 - (i + 1), by omega, h₃, tk₃, oI₁, c', i + 1, rfl, st₃.env w1 w2, hS _ _ _ _ hst₂ (st₂.hid _ (.head _)) (st₃.hid _ (.head _)) (fun p hp => st₃.hid _ (.tail _ hp)), w3, hlt, rfl⟩
    cases f with
    | next => obtain rfl : fl = .next := iw; exact nx w
    | cont => obtain rfl : fl = .cont := iw; exact nx w
    | brk => exact w.elim
    | ret p => obtain ⟨v, rfl, iv⟩ := iw; exact rets p v ρ' η' h₃ tk₃ w iv st₃.unhide
  · obtain rfl : i = n := by omega
    refine W.done _ _ _ hst fun h₁ tk₁ hk₁ => wpAny_execs_nil ?_
    refine done c h₁ tk₁ hI ?_
    have e₁ := st
    obtain ⟨m, news, F, N, hm, hl, hn⟩ := st
    have zI := N (I, oI) (List.mem_append_right _ (.head _))
    have hn' := List.nodup_append.mp hn
    have hc : (I :: (mid ++ C.hid).map (·.1)).Nodup := hn'.2.1
    refine ⟨m, news, LCg.fr_but F hk₁ zI.2.1.symm zI.2.2, fun p hp => ?_, hm, hl, List.Sublist.nodup ((List.Sublist.refl _).append (.cons _ (.refl _))) hn⟩
    rcases List.mem_append.mp hp with hp | hp
    · have z := N p (List.mem_append_left _ hp)
      refine ⟨hk₁ _ _ (fun q => ?_) z.1, z.2⟩
      have : p.1 ∈ (η0 c).map (·.1) := by rw [← hl.keys]; exact List.mem_map_of_mem (f := Prod.fst) hp
      exact hn'.2.2 _ this I (.head _) (List.mem_singleton.mp q)
    · have z := N p (List.mem_append_right _ (.tail _ hp))
      refine ⟨hk₁ _ _ (fun q => ?_) z.1, z.2⟩
      exact (List.nodup_cons.mp hc).1 ((List.mem_singleton.mp q) ▸ List.mem_map_of_mem (f := Prod.fst) hp)
end
section
variable {sc : Scope} {C : Ctx (.fn sc)} {ρ : Rho} {η : Hp} {x : Str} {px pos : Pos} {iter : Expr} {body ss : List Stmt} {Ψ : Rho → Hp → Flo → Prop}
theorem R.forL {a : Addr} {xs : List PV} (hv : V C ρ ((a, .lst xs) :: η) iter (.ref a)) (hx : sc.names.lookup x = some .local) {σ : Type} (ρ0 : σ → Rho) (η0 : σ → Hp) (Inv : Nat → σ → Prop) (c : σ) (h0 : Inv 0 c) (hr : SubE ρ (ρ0 c)) (hs : List.Sublist (η0 c) η)
    (step : ∀ i c p, xs[i]? = some p → Inv i c → ∀ C' : Ctx (.fn sc), C'.w = C.w → C'.k = C.k → C'.cl = C.cl → R C' ((x, p) :: ρ0 c) (η0 c) body (TurnF (fun ρ' η' => ∃ c', SubE ρ' (ρ0 c') ∧ List.Sublist (η0 c') η' ∧ Inv (i + 1) c') fun ρ η p => Ψ ρ ((a, .lst xs) :: η) (.ret p)))
    (done : ∀ c, Inv xs.length c → R C (ρ0 c) ((a, .lst xs) :: η0 c) ss Ψ) (hf : ∀ z, foldedSetIterable iter C.env z = pure z) : R C ρ ((a, .lst xs) :: η) (.For (.Name x px) iter body [] pos :: ss) Ψ := fun ok s Q Er st q => by
  refine wpAny_execs_cons (wpAny_For (hv ok s _ _ st fun p v η1 h1 tk1 w i st1 => ?_) hf)
  obtain ⟨rfl, rfl⟩ := w
  obtain rfl : v = .ref a := i
  obtain ⟨o, io, st2⟩ := st1.put
  obtain ⟨vs, sn, rfl, ivs⟩ := io
  have ga := st2.hid _ (.head _)
  have hL : h1.IsList a vs.toArray := ⟨_, ga, rfl, sn, rfl⟩
  refine wpAny_pyIter_list (s := Sh s h1 tk1) hL ?_
  have hlt : a < h1.objs.size := Heap.lt_size ga
  have st3 := st2.grow { cls := .type "list_iterator", data := .fields #[.ref a, .int 0 0] }
  refine for_core (oI := { cls := .type "list_iterator", data := .fields #[.ref a, .int 0 0] }) ok [(a, listOf vs.toArray sn)] (Walks.list rfl h1.objs.size a (Nat.ne_of_lt hlt) vs.toArray) (fun i h st => by obtain ⟨o, e, _⟩ := st.1; exact ⟨o, e⟩)
    (fun i h h' o st e e' hm => ⟨by obtain ⟨o', q, r⟩ := st.1; rw [e] at q; cases q; exact ⟨o, e', r⟩, ⟨_, hm _ (.head _), rfl, sn, rfl⟩⟩) (fun i => xs.getD i .non) (fun i v hi hv => ?_) hx ρ0 η0 Inv (fun ρ η p => Ψ ρ ((a, .lst xs) :: η) (.ret p)) c h0
    (s := Sh s (h1.push _) tk1) (st3.env hr hs) ⟨⟨_, Heap.get?_push_size _ rfl, rfl, rfl⟩, hL.push _⟩ (fun i c hi hI C' e1 e2 e3 => ?_) (fun c h tk hI st => ?_) fun p v ρ η h tk w i st => ?_
  · have hi' : i < xs.length := by rw [← ivs.len]; simpa using hi
    obtain ⟨v', e1, e2⟩ := ivs.get (List.getElem?_eq_getElem hi')
    have hv' : vs[i]? = some v := by simpa using hv
    rw [e1] at hv'
    cases hv'
    rw [List.getD_eq_getElem?_getD, List.getElem?_eq_getElem hi']
    exact e2
  · have hi' : i < xs.length := by rw [← ivs.len]; simpa using hi
    refine step i c _ ?_ hI C' e1 e2 e3
    rw [List.getD_eq_getElem?_getD, List.getElem?_eq_getElem hi']; rfl
  · have e : vs.toArray.size = xs.length := by rw [List.size_toArray, ivs.len]
    rw [e] at hI
    exact done c hI ok _ Q Er (st.back (x := .lst xs) ⟨vs, sn, rfl, ivs⟩) q
  · exact q (.ret p) (.ret v) ρ _ h tk w ⟨v, rfl, i⟩ (st.back (x := .lst xs) ⟨vs, sn, rfl, ivs⟩)
theorem R.forR {n : Nat} (hi : ER C ρ η iter n) (hn : n ≤ 1000) (hx : sc.names.lookup x = some .local) {σ : Type} (ρ0 : σ → Rho) (η0 : σ → Hp) (Inv : Nat → σ → Prop) (c : σ) (h0 : Inv 0 c) (hr : SubE ρ (ρ0 c)) (hs : List.Sublist (η0 c) η)
    (step : ∀ i c, i < n → Inv i c → ∀ C' : Ctx (.fn sc), C'.w = C.w → C'.k = C.k → C'.cl = C.cl → R C' ((x, .int i) :: ρ0 c) (η0 c) body (TurnF (fun ρ' η' => ∃ c', SubE ρ' (ρ0 c') ∧ List.Sublist (η0 c') η' ∧ Inv (i + 1) c') fun ρ η p => Ψ ρ η (.ret p)))
    (done : ∀ c, Inv n c → R C (ρ0 c) (η0 c) ss Ψ) (hf : ∀ z, foldedSetIterable iter C.env z = pure z) : R C ρ η (.For (.Name x px) iter body [] pos :: ss) Ψ := fun ok s Q Er st q => by
  obtain ⟨m, st⟩ := st
  refine wpAny_execs_cons (wpAny_For (hi ok s _ _ m st fun r h1 tk1 t u v hr1 st1 => ?_) hf)
  have hz : Builtin.Range.rangeSize 0 n 1 = ((n : Nat) : Int) := by rw [rangeSize_one]; split <;> omega
  refine wpAny_pyIter_range (s := Sh s h1 tk1) hr1 (small_one (by omega) (by omega) (by omega) (by omega)) ?_
  have st2 : St C ρ η h1 := ⟨m, st1⟩
  have st3 := st2.grow { cls := .type "range_iterator", data := .fields #[rawInt 0, rawInt (Builtin.Range.rangeSize 0 n 1), rawInt 1] }
  refine for_core (oI := { cls := .type "range_iterator", data := .fields #[rawInt 0, rawInt (Builtin.Range.rangeSize 0 n 1), rawInt 1] }) ok [] (LCg.range_walks rfl 0 n) (fun i h st => ⟨_, st⟩)
    (fun i h h' o st e e' hm => ?_) (fun i => .int i) (fun i v hi hv => ?_) hx ρ0 η0 Inv (fun ρ η p => Ψ ρ η (.ret p)) c h0
    (s := Sh s (h1.push _) tk1) (st3.env hr hs) ?_ (fun i c hi hI C' e1 e2 e3 => step i c hi hI C' e1 e2 e3) (fun c h tk hI st => done c hI ok _ Q Er st q) fun p v ρ η h tk w i st => q (.ret p) (.ret v) ρ η h tk w ⟨v, rfl, i⟩ st
  · have st' : h.get? h1.objs.size = some _ := st
    show h'.get? h1.objs.size = some _
    rw [e', ← e]; exact st'
  · obtain ⟨t', rfl⟩ := hv
    exact ⟨t', by simp⟩
  · show IsRangeIter _ _ _ _ _
    rw [hz]; simpa using Heap.get?_push_size _ rfl
end
end Mine
end
section
open PySem PySem.W PyProof.Rows PySem.Calls
set_option Elab.async false
set_option linter.unusedVariables false
set_option maxRecDepth 100000
namespace Mine
/-! a comprehension over zip of two lists of the ledger's, its element pure -/
def atH (h : Heap) (as : List Addr) : Led := as.map fun b => (b, (h.get? b).getD default)
theorem atH_mem {h : Heap} {as : List Addr} {b : Addr} {o : Obj} (hb : b ∈ as) (e : h.get? b = some o) : (b, o) ∈ atH h as := List.mem_map.mpr ⟨b, hb, by rw [e]; rfl⟩
theorem atH_keys (h : Heap) (as : List Addr) : (atH h as).map (·.1) = as := by
  unfold atH
  rw [List.map_map]
  exact List.map_id _
theorem atH_news {h₀ h : Heap} {L : Addr} {as : List Addr} (hn : ∀ c ∈ as, c ≠ L ∧ h₀.get? c = none) (he : ∀ c ∈ as, ∃ o, h.get? c = some o) : News h₀ L h (atH h as) := fun p hp => by
  obtain ⟨b, hb, rfl⟩ := List.mem_map.mp hp
  obtain ⟨o, e⟩ := he b hb
  exact ⟨by show h.get? b = some ((h.get? b).getD default); rw [e]; rfl, hn b hb⟩
abbrev ZS (z TI TO i1 i2 l1 l2 : Addr) (xs ys : Array Value) (i : Nat) (h : Heap) : Prop :=
  IsZip h z TI TO .none ∧ IsPair h TI (.ref i1) (.ref i2) ∧ (∃ a b, IsPair h TO a b) ∧ h.IsListIter i1 l1 i ∧ h.IsListIter i2 l2 i ∧ h.IsList l1 xs ∧ h.IsList l2 ys
section
variable {osc s : Scope} {C : Ctx (.fn osc)} {ρ : Rho} {η₀ : Hp} {elt iter : Expr} {x y : Str} {px py tp pos : Pos} {kk : Nat} {cl : List (Str × Addr)} {g : PV → PV → PV} {xs ys : List PV} {a b z TI TO i1 i2 D Cd : Addr} {oa ob : Obj} {vs us : List Value} {m : Str → Option Value}
theorem zip_loop (ok : C.Ok) (hkind : s.kind = .function) (hx : s.names.lookup x = some .local) (hy : s.names.lookup y = some .local) (hxy : ¬ x = y) (hz : min xs.length ys.length ≤ 1000)
    (hel : ∀ (i : Nat) (p q : PV), xs[i]? = some p → ys[i]? = some q → ∀ C' : Ctx (.comp osc s), C'.w = C.w → C'.k = C.k → C'.ccl = cl → V C' [(y, q), (x, p)] η₀ elt (g p q))
    (Dd : ZipApart z TI TO i1 i2 a b) (ivs : AreV xs vs) (ius : AreV ys us) (nd : (η₀.map (·.1) ++ (Cd :: D :: z :: TO :: TI :: i2 :: i1 :: a :: b :: C.hid.map (·.1))).Nodup)
    (hnew : ∀ c ∈ [Cd, D, z, TO, TI, i2, i1], c ≠ C.L ∧ C.h₀.get? c = none) {s' : Shared} {RR : Result → Shared → Prop}
    (done : ∀ h tk m₂ n vys, Fr C.h₀ C.L h m → h.Ns Cd m₂ → LedOf η₀ n → News C.h₀ C.L h (n ++ ((D, LCg.lst vys) :: (a, oa) :: (b, ob) :: C.hid)) → AreV (List.zipWith g xs ys) vys → RR (.ok .next) (Sh s' h tk)) {h : Heap} {tk : Nat} {m₂ : Str → Option Value} {n : Led}
    (h0 : ZS z TI TO i1 i2 a b vs.toArray us.toArray 0 h) (F : Fr C.h₀ C.L h m) (hn₂ : h.Ns Cd m₂) (hl : LedOf η₀ n) (N : News C.h₀ C.L h (n ++ ((D, LCg.lst []) :: (a, oa) :: (b, ob) :: C.hid))) :
    codeAny C.M C.A (.compLoop (.ListComp elt [⟨.Tuple [.Name x px, .Name y py] kk tp, iter, [], 0⟩] s pos) 0 (.ref z) (.ref D) (compEnvC s cl Cd C.env)) RR (Sh s' h tk) := by
  have W := WalksT.zip2 (prog := Challenge.rw_pb0513_01.row.prog) (w := C.w) (A := C.A) rfl z TI TO i1 i2 a b Dd vs.toArray us.toArray
  have hlen : min vs.toArray.size us.toArray.size = min xs.length ys.length := by rw [List.size_toArray, List.size_toArray, ivs.len, ius.len]
  rw [hlen] at W
  generalize hN : min xs.length ys.length = N9 at W
  have nd' := List.nodup_append.mp nd
  have nCd := List.nodup_cons.mp nd'.2.1
  have nD := List.nodup_cons.mp nCd.2
  have wrnew : ∀ c ∈ [z, TO, i1, i2], c ≠ C.L ∧ C.h₀.get? c = none := fun c hc => hnew c (by simp at hc ⊢; rcases hc with rfl | rfl | rfl | rfl <;> simp)
  have hLw : C.L ∉ [z, TO, i1, i2] := fun hm => (wrnew _ hm).1 rfl
  have oldw : ∀ c o, C.h₀.get? c = some o → c ∉ [z, TO, i1, i2] := fun c o e hm => by rw [(wrnew c hm).2] at e; cases e
  have subw : ∀ c ∈ [z, TO, i1, i2], c ∈ D :: z :: TO :: TI :: i2 :: i1 :: a :: b :: C.hid.map (·.1) := fun c hc => by simp at hc ⊢; rcases hc with rfl | rfl | rfl | rfl <;> simp
  have hCdL : Cd ≠ C.L := (hnew Cd (.head _)).1
  have hDL : D ≠ C.L := (hnew D (.tail _ (.head _))).1
  have keyN : ∀ {n : Led} {vys : List Value}, LedOf η₀ n → ∀ p ∈ n ++ ((D, LCg.lst vys) :: (a, oa) :: (b, ob) :: C.hid), p.1 ∈ η₀.map (·.1) ∨ p.1 = D ∨ p.1 = a ∨ p.1 = b ∨ p.1 ∈ C.hid.map (·.1) := fun {n vys} hl p hp => by
    rcases List.mem_append.mp hp with hp | hp
    · exact .inl (by rw [← hl.keys]; exact List.mem_map_of_mem (f := Prod.fst) hp)
    · rcases List.mem_cons.mp hp with rfl | hp
      · exact .inr (.inl rfl)
      · rcases List.mem_cons.mp hp with rfl | hp
        · exact .inr (.inr (.inl rfl))
        · rcases List.mem_cons.mp hp with rfl | hp
          · exact .inr (.inr (.inr (.inl rfl)))
          · exact .inr (.inr (.inr (.inr (List.mem_map_of_mem (f := Prod.fst) hp))))
  have offw : ∀ {n : Led} {vys : List Value}, LedOf η₀ n → ∀ p ∈ n ++ ((D, LCg.lst vys) :: (a, oa) :: (b, ob) :: C.hid), p.1 ∉ [z, TO, i1, i2] := fun {n vys} hl p hp hm => by
    have ndz := List.nodup_cons.mp nD.2
    have ndTO := List.nodup_cons.mp ndz.2
    have ndTI := List.nodup_cons.mp ndTO.2
    have ndi2 := List.nodup_cons.mp ndTI.2
    have ndi1 := List.nodup_cons.mp ndi2.2
    rcases keyN hl p hp with h | h
    · exact nd'.2.2 _ h _ (.tail _ (subw _ hm)) rfl
    · have hD : p.1 ≠ D → p.1 ∈ a :: b :: C.hid.map (·.1) := fun hd => by
        rcases h with h | h | h | h
        · exact absurd h hd
        · rw [h]; exact .head _
        · rw [h]; exact .tail _ (.head _)
        · exact .tail _ (.tail _ h)
      by_cases hd : p.1 = D
      · rw [hd] at hm
        refine nD.1 ?_
        simp at hm ⊢
        rcases hm with rfl | rfl | rfl | rfl <;> simp
      · have hh := hD hd
        simp only [List.mem_cons, List.not_mem_nil, or_false] at hm
        rcases hm with e | e | e | e
        · exact ndz.1 (e ▸ .tail _ (.tail _ (.tail _ (.tail _ hh))))
        · exact ndTO.1 (e ▸ .tail _ (.tail _ (.tail _ hh)))
        · exact ndi1.1 (e ▸ hh)
        · exact ndi2.1 (e ▸ .tail _ hh)
  have offC : ∀ {n : Led} {vys : List Value}, LedOf η₀ n → ∀ p ∈ n ++ ((D, LCg.lst vys) :: (a, oa) :: (b, ob) :: C.hid), p.1 ≠ Cd := fun {n vys} hl p hp e => by
    rcases keyN hl p hp with h | h
    · exact nd'.2.2 _ h _ (.head _) e
    · refine nCd.1 ?_
      rw [← e]
      rcases h with h | h | h | h
      · rw [h]; exact .head _
      · rw [h]; simp
      · rw [h]; simp
      · simp [h]
  have hCdw : Cd ∉ [z, TO, i1, i2] := fun hm => nCd.1 (subw _ hm)
  have hDw : D ∉ [z, TO, i1, i2] := fun hm => nD.1 (by simp at hm ⊢; rcases hm with rfl | rfl | rfl | rfl <;> simp)
  have hCdD : Cd ≠ D := fun e => nCd.1 (e ▸ .head _)
  refine kcp_loop (fun k s9 => ∃ h tk i vys m₂ n, s9 = Sh s' h tk ∧ i ≤ N9 ∧ k = N9 + 1 - i ∧ AreV ((List.zipWith g xs ys).take i) vys ∧ ZS z TI TO i1 i2 a b vs.toArray us.toArray i h ∧ Fr C.h₀ C.L h m ∧ h.Ns Cd m₂ ∧ LedOf η₀ n ∧ News C.h₀ C.L h (n ++ ((D, LCg.lst vys) :: (a, oa) :: (b, ob) :: C.hid)))
    ?_ (N9 + 1) ⟨h, tk, 0, [], m₂, n, rfl, Nat.zero_le _, rfl, .nil, h0, F, hn₂, hl, N⟩
  rintro k s9 ⟨h, tk, i, vys, m₂, n, rfl, hi, rfl, hv, hst, F, hn₂, hl, N⟩
  by_cases hlt : i < N9
  · refine W.item i _ _ _ hlt hst fun T vals h₁ tk₁ hPv hTs hTup hMid hk₁ => ?_
    obtain ⟨v1, v2, e1, e2, rfl⟩ := hPv
    refine W.go _ _ _ i T _ _ _ hMid fun h₂ hst₂ hk₂ => ?_
    have hTw := W.apart i T _ hMid
    have hT₂ : h₂.IsTuple T #[v1, v2] := by
      obtain ⟨o, ho, r⟩ := hTup
      exact ⟨o, hk₂ _ _ hTw ho, r⟩
    have up₂ : ∀ c o, c ∉ [z, TO, i1, i2] → h.get? c = some o → h₂.get? c = some o := fun c o hc e => hk₂ _ _ hc (hk₁ _ _ hc e)
    refine kcp_assign (env := compEnvC s cl Cd C.env) (s := Sh (Sh s' h tk) h₂ tk₁) rfl hT₂ (lookup_relabel_local hx) (lookup_relabel_local hy) (by simp [compEnvC, relabel, hkind]) (hn₂.at' fun o e => up₂ _ o hCdw e) fun h₃ tk₃ hn₃ hk₃ => ?_
    replace hk₃ : ∀ c o, c ≠ Cd → h₂.get? c = some o → h₃.get? c = some o := hk₃
    have up₃ : ∀ c o, c ∉ [z, TO, i1, i2] → c ≠ Cd → h.get? c = some o → h₃.get? c = some o := fun c o hc h' e => hk₃ c o h' (up₂ c o hc e)
    have hst₃ : ZS z TI TO i1 i2 a b vs.toArray us.toArray (i + 1) h₃ := W.frame _ _ _ hst₂ fun c hc o e => hk₃ c o (fun q => nCd.1 (q ▸ by simp at hc ⊢; rcases hc with rfl | rfl | rfl | rfl | rfl | rfl | rfl <;> simp)) e
    obtain ⟨oC, heC, hoC⟩ := LCg.ns_obj hn₃
    have F₃ : Fr C.h₀ C.L h₃ m := ⟨F.ns.at' fun o e => up₃ _ o hLw (Ne.symm hCdL) e, fun c o e => up₃ c o (oldw c o e) (fun q => by rw [q, (hnew Cd (.head _)).2] at e; cases e) (F.keep c o e), F.above⟩
    have N₃ : News C.h₀ C.L h₃ (n ++ ((D, LCg.lst vys) :: (a, oa) :: (b, ob) :: C.hid)) := fun p hp => ⟨up₃ _ _ (offw hl p hp) (offC hl p hp) (N p hp).1, (N p hp).2⟩
    have s3z : ∀ c ∈ [z, TO, TI, i2, i1], ∃ o, h₃.get? c = some o := fun c hc => by
      obtain ⟨q1, q2, ⟨_, _, q3⟩, ⟨_, q4, _⟩, ⟨_, q5, _⟩, _⟩ := hst₃
      simp at hc
      rcases hc with rfl | rfl | rfl | rfl | rfl
      · exact ⟨_, q1⟩
      · exact ⟨_, q3⟩
      · exact ⟨_, q2⟩
      · exact ⟨_, q5⟩
      · exact ⟨_, q4⟩
    have Nz : News C.h₀ C.L h₃ (atH h₃ [z, TO, TI, i2, i1]) := atH_news (fun c hc => hnew c (.tail _ (.tail _ hc))) s3z
    obtain ⟨p, ep, ip⟩ : ∃ p, xs[i]? = some p ∧ Is p v1 := by
      have hi' : i < xs.length := by omega
      obtain ⟨v', q1, q2⟩ := ivs.get (List.getElem?_eq_getElem hi')
      have e1' : vs[i]? = some v1 := by simpa using e1
      rw [q1] at e1'; cases e1'
      exact ⟨_, List.getElem?_eq_getElem hi', q2⟩
    obtain ⟨q, eq, iq⟩ : ∃ q, ys[i]? = some q ∧ Is q v2 := by
      have hi' : i < ys.length := by omega
      obtain ⟨v', q1, q2⟩ := ius.get (List.getElem?_eq_getElem hi')
      have e2' : us[i]? = some v2 := by simpa using e2
      rw [q1] at e2'; cases e2'
      exact ⟨_, List.getElem?_eq_getElem hi', q2⟩
    let C' : Ctx (.comp osc s) := ⟨C.w, C.mean, C.mg, C.mb, C.dp, C.un, C.k, C.gd, C.cn, C.a, C.ccd, C.cl, C.outer, C.A₀, C.base, C.h₀, C.L, (Cd, oC) :: (D, LCg.lst vys) :: (atH h₃ [z, TO, TI, i2, i1] ++ ((a, oa) :: (b, ob) :: C.hid)), Cd, cl, fun w => if w = y then some v2 else if w = x then some v1 else m₂ w, m⟩
    have ok' : C'.Ok := ⟨ok.B, ok.X, ok.T, ok.hk, ok.hd, ok.hu, hkind, oC, .head _, hoC⟩
    have hall : ∀ n : Led, C'.all n = n ++ ((Cd, oC) :: (D, LCg.lst vys) :: (atH h₃ [z, TO, TI, i2, i1] ++ ((a, oa) :: (b, ob) :: C.hid))) := fun _ => rfl
    have nd3 : (η₀.map (·.1) ++ C'.hid.map (·.1)).Nodup := by
      show (η₀.map (·.1) ++ (Cd :: D :: (atH h₃ [z, TO, TI, i2, i1] ++ ((a, oa) :: (b, ob) :: C.hid)).map (·.1))).Nodup
      rw [List.map_append, atH_keys]
      exact nd
    have st : St C' [(y, q), (x, p)] η₀ h₃ := by
      refine ⟨m, n, F₃, fun u hu => ?_, ⟨rfl, fun w r e => ?_⟩, hl, nd3⟩
      · rw [hall] at hu
        rcases List.mem_append.mp hu with hu | hu
        · exact N₃ u (List.mem_append_left _ hu)
        · rcases List.mem_cons.mp hu with rfl | hu
          · exact ⟨heC, hnew Cd (.head _)⟩
          · rcases List.mem_cons.mp hu with rfl | hu
            · exact N₃ _ (List.mem_append_right _ (.head _))
            · rcases List.mem_append.mp hu with hu | hu
              · exact Nz u hu
              · exact N₃ u (List.mem_append_right _ (.tail _ hu))
      · show ∃ v, (if w = y then some v2 else if w = x then some v1 else m₂ w) = some v ∧ Is r v
        rw [List.lookup_cons] at e
        by_cases hw : w = y
        · subst hw
          simp at e
          exact ⟨v2, if_pos rfl, e ▸ iq⟩
        · rw [show (w == y) = false from beq_eq_false_iff_ne.mpr hw] at e
          replace e : List.lookup w [(x, p)] = some r := e
          rw [List.lookup_cons] at e
          by_cases hw2 : w = x
          · subst hw2
            simp at e
            exact ⟨v1, by rw [if_neg hw, if_pos rfl], e ▸ ip⟩
          · rw [show (w == x) = false from beq_eq_false_iff_ne.mpr hw2] at e; simp at e
    refine hel i p q ep eq C' rfl rfl rfl ok' _ _ _ st fun r v η' h₄ tk₄ hw iv st₄ => ?_
    obtain ⟨rfl, rfl⟩ := hw
    obtain ⟨m', n', F₄, N₄, hm', hl', hn'⟩ := st₄
    obtain rfl : m' = m := hm'.1
    rw [hall] at N₄
    have hid₄ : ∀ u ∈ (Cd, oC) :: (D, LCg.lst vys) :: (atH h₃ [z, TO, TI, i2, i1] ++ ((a, oa) :: (b, ob) :: C.hid)), h₄.get? u.1 = some u.2 ∧ u.1 ≠ C.L ∧ C.h₀.get? u.1 = none := fun u hu => N₄ u (List.mem_append_right _ hu)
    have zC := (hid₄ _ (.head _)).1
    have zD := (hid₄ _ (.tail _ (.head _))).1
    have hab : ∀ c ∈ [z, TO, TI, i2, i1], ∀ o, h₃.get? c = some o → h₄.get? c = some o := fun c hc o e => (hid₄ (c, o) (.tail _ (.tail _ (List.mem_append_left _ (atH_mem hc e))))).1
    have za : h₃.get? a = some oa := (N₃ (a, oa) (List.mem_append_right _ (.tail _ (.head _)))).1
    have zb : h₃.get? b = some ob := (N₃ (b, ob) (List.mem_append_right _ (.tail _ (.tail _ (.head _))))).1
    have hst₄ : ZS z TI TO i1 i2 a b vs.toArray us.toArray (i + 1) h₄ := W.frame _ _ _ hst₃ fun c hc o e => by
      simp only [List.mem_cons, List.not_mem_nil, or_false] at hc
      rcases hc with rfl | rfl | rfl | rfl | rfl | rfl | rfl
      · exact hab _ (by simp) o e
      · exact hab _ (by simp) o e
      · exact hab _ (by simp) o e
      · exact hab _ (by simp) o e
      · exact hab _ (by simp) o e
      · rw [za] at e; cases e
        exact (hid₄ (c, oa) (.tail _ (.tail _ (List.mem_append_right _ (.head _))))).1
      · rw [zb] at e; cases e
        exact (hid₄ (c, ob) (.tail _ (.tail _ (List.mem_append_right _ (.tail _ (.head _)))))).1
    have hvl : vys.length = i := by
      rw [hv.len, List.length_take, List.length_zipWith, hN]; omega
    refine append_at (s := Sh (Sh (Sh (Sh s' h tk) h₂ tk₁) h₃ tk₃) h₄ tk₄) (hsz := by show vys.toArray.size ≤ sizeLine; rw [List.size_toArray, hvl, sizeLine_eq]; omega) zD fun h₅ hs₅ hD₅ => ?_
    refine ⟨N9 + 1 - (i + 1), by omega, h₅, tk₄, i + 1, vys ++ [v], _, n', rfl, hlt, rfl, ?_, ?_, F₄.change hs₅ hDL (hnew D (.tail _ (.head _))).2, (hoC.ns zC).sameBut hs₅ hCdD, hl', fun u hu => ?_⟩
    · have e3 : (List.zipWith g xs ys)[i]? = some (g p q) := by rw [List.getElem?_zipWith, ep, eq]
      rw [List.take_add_one, e3]
      exact hv.app (.cons iv .nil)
    · refine W.frame _ _ _ hst₄ fun c hc o e => hs₅.extBut _ _ (fun q => nD.1 (q ▸ by simp at hc ⊢; rcases hc with rfl | rfl | rfl | rfl | rfl | rfl | rfl <;> simp)) e
    · have hne : ∀ {u : Addr}, u ∈ η'.map (·.1) ∨ u ∈ a :: b :: C.hid.map (·.1) → u ≠ D := fun {u} hu e => by
        rcases hu with hu | hu
        · exact nd'.2.2 _ hu _ (.tail _ (.head _)) e
        · exact nD.1 (e ▸ .tail _ (.tail _ (.tail _ (.tail _ (.tail _ hu)))))
      rcases List.mem_append.mp hu with hu | hu
      · have zz := N₄ u (List.mem_append_left _ hu)
        exact ⟨hs₅.extBut _ _ (hne (.inl (by rw [← hl'.keys]; exact List.mem_map_of_mem (f := Prod.fst) hu))) zz.1, zz.2⟩
      · rcases List.mem_cons.mp hu with rfl | hu
        · exact ⟨hD₅.trans (congrArg some (LCg.lst_snoc vys v)), hnew D (.tail _ (.head _))⟩
        · have zz := hid₄ u (.tail _ (.tail _ (List.mem_append_right _ hu)))
          refine ⟨hs₅.extBut _ _ (hne (.inr ?_)) zz.1, zz.2⟩
          have := List.mem_map_of_mem (f := Prod.fst) hu
          exact this
  · obtain rfl : i = N9 := by omega
    refine W.done _ _ _ hst fun h₁ tk₁ hk₁ => ?_
    refine done h₁ tk₁ m₂ n vys ⟨F.ns.at' fun o e => hk₁ _ o hLw e, fun c o e => hk₁ c o (oldw c o e) (F.keep c o e), F.above⟩ (hn₂.at' fun o e => hk₁ _ o hCdw e) hl (fun p hp => ⟨hk₁ _ _ (offw hl p hp) (N p hp).1, (N p hp).2⟩) ?_
    rwa [List.take_of_length_le (by rw [List.length_zipWith, hN]; exact Nat.le_refl _)] at hv
end
end Mine
end
section
open PySem PySem.W PyProof.Rows PySem.Calls
set_option Elab.async false
set_option linter.unusedVariables false
set_option maxRecDepth 100000
namespace Mine
theorem nodup_up {as bs : List Addr} {n k : Nat} (hk : k = n) (h : (as ++ bs).Nodup ∧ ∀ p ∈ as ++ bs, p < n) : (as ++ k :: bs).Nodup ∧ ∀ p ∈ as ++ k :: bs, p < n + 1 := by
  subst hk
  refine ⟨nodup_mid (List.nodup_cons.mpr ⟨fun m => Nat.lt_irrefl _ (h.2 _ m), h.1⟩), fun p hp => ?_⟩
  rcases List.mem_append.mp hp with hp | hp
  · exact Nat.lt_succ_of_lt (h.2 p (List.mem_append_left _ hp))
  · rcases List.mem_cons.mp hp with rfl | hp
    · exact Nat.lt_succ_self _
    · exact Nat.lt_succ_of_lt (h.2 p (List.mem_append_right _ hp))
/-- the side facts of a block's scope, two names -/
def compOk2 (s : Scope) (x y : Str) : Bool := s.names.all (fun z => z.2 != .cell) && s.kind == .function && s.names.all (fun z => z.2 != .local || s.names.lookup z.1 == some .local) && s.names.lookup x == some .local && s.names.lookup y == some .local && x != y
theorem compOk2_out {s : Scope} {x y : Str} (h : compOk2 s x y = true) : (∀ y ∈ s.names, y.2 ≠ .cell) ∧ s.kind = .function ∧ (∀ y ∈ s.names, y.2 = .local → s.names.lookup y.1 = some .local) ∧ s.names.lookup x = some .local ∧ s.names.lookup y = some .local ∧ ¬ x = y := by
  simp only [compOk2, Bool.and_eq_true, List.all_eq_true, bne_iff_ne, beq_iff_eq, Bool.or_eq_true] at h
  exact ⟨h.1.1.1.1.1, h.1.1.1.1.2, fun y hy e => (h.1.1.1.2 y hy).elim (fun z => absurd e z) id, h.1.1.2, h.1.2, h.2⟩
section
variable {osc s : Scope} {C : Ctx (.fn osc)} {ρ : Rho} {η₀ : Hp} {elt iter : Expr} {x y x1 x2 : Str} {px py tp pos p1 p2 zpos cpos : Pos} {kk : Nat} {cl : List (Str × Addr)} {g : PV → PV → PV} {xs ys : List PV} {a b : Addr} {m : Str → Option Value}
theorem zip_first (ok : C.Ok) (hc : compOk2 s x y = true) (hz : min xs.length ys.length ≤ 1000) (h1 : look1 (.fn osc) ρ x1 = some (.ref a)) (h2 : look1 (.fn osc) ρ x2 = some (.ref b)) (hg : isGlob (.fn osc) "zip" = true) (hb : ∀ P, nsIn (kK P) mainGlobals "zip" = some none)
    (hel : ∀ (i : Nat) (p q : PV), xs[i]? = some p → ys[i]? = some q → ∀ C' : Ctx (.comp osc s), C'.w = C.w → C'.k = C.k → C'.ccl = cl → V C' [(y, q), (x, p)] η₀ elt (g p q))
    {s' : Shared} {Er : Value → Shared → Prop} {RR : Value → Addr → Result → Shared → Prop} (st : StM C ρ ((a, .lst xs) :: (b, .lst ys) :: η₀) m s'.heap)
    (hRR : ∀ D Cd h tk m₂ n, Fr C.h₀ C.L h m → h.Ns Cd m₂ → Cd ≠ C.L → C.h₀.get? Cd = none → LedOf ((D, .lst (List.zipWith g xs ys)) :: (a, .lst xs) :: (b, .lst ys) :: η₀) n → News C.h₀ C.L h (n ++ C.hid) → (∀ p ∈ n ++ C.hid, p.1 ≠ Cd) →
      ((((D, HO.lst (List.zipWith g xs ys)) :: (a, .lst xs) :: (b, .lst ys) :: η₀).map (·.1)) ++ C.hid.map (·.1)).Nodup → RR (.ref D) Cd (.ok .next) (Sh s' h tk)) :
    wpAny C.M C.A (eval (.Call (.Name "zip" zpos) [.Name x1 p1, .Name x2 p2] [] cpos) C.env) (fun xv s₁ => wpAny C.M C.A (pyIter xv) (fun it s₂ => wpAny C.M C.A (newList []) (fun acc s₃ => wpAny C.M C.A (newFunctionEnv s C.env.globals cl [] C.env.qual none .none (some C.env)) (fun cenv s₄ =>
      codeAny C.M C.A (.compStart (.ListComp elt [⟨.Tuple [.Name x px, .Name y py] kk tp, iter, [], 0⟩] s pos) 0 it acc { cenv with scope := relabel s C.env }) (RR acc cenv.locals) s₄) Er s₃) Er s₂) Er s₁) Er s' := by
  obtain ⟨c1, c2, c3, c4, c5, c6⟩ := compOk2_out hc
  refine Call_ ?_ (by rfl)
  have F := st.choose_spec.1
  have hk : (Shape.fn osc).names.lookup ("zip" : Str) = some .globalImplicit := by
    unfold isGlob at hg
    split at hg
    · assumption
    · cases hg
  refine Name_function_global (kind_env ok) (kindOf_env.trans hk) (loadGlobal_builtin (env := C.env) (by rw [globals_env]; exact ok.T.g.keeps F.keep) (mg_none_of ok.X ok.T.g (hb _)) (by rw [builtins_env]; exact ok.T.b.keeps F.keep) ((ok.T.builtins "zip" (by decide)).trans boot_zip) ?_) (by rfl)
  refine PyProof.Rows.callWith_type1 ?_
  refine spliced_more (EM.lo (Φ := fun p η1 => p = .ref a ∧ η1 = (a, .lst xs) :: (b, .lst ys) :: η₀) h1 ⟨rfl, rfl⟩ ok s' _ Er m st fun p v η1 g1 tk1 w iv st => ?_) (by rfl)
  obtain ⟨rfl, rfl⟩ := w
  obtain rfl : v = .ref a := iv
  refine spliced_more (EM.lo (Φ := fun p η1 => p = .ref b ∧ η1 = (a, .lst xs) :: (b, .lst ys) :: η₀) h2 ⟨rfl, rfl⟩ ok _ _ Er m st fun p v η1 g1 tk1 w iv st => ?_) (by rfl)
  obtain ⟨rfl, rfl⟩ := w
  obtain rfl : v = .ref b := iv
  refine spliced_none ?_
  clear F
  obtain ⟨news, F, N, hm, hl, hn⟩ := st
  cases hl with
  | @cons _ _ oa _ _ hxa hl =>
    cases hl with
    | @cons _ _ ob _ n hxb hl =>
    obtain ⟨vs, sa, rfl, ivs⟩ := hxa
    obtain ⟨us, sb, rfl, ius⟩ := hxb
    have ga := N _ (.head _)
    have gb := N _ (.tail _ (.head _))
    have la : g1.IsList a vs.toArray := ⟨_, ga.1, rfl, sa, rfl⟩
    have lb : g1.IsList b us.toArray := ⟨_, gb.1, rfl, sb, rfl⟩
    have hlt1 : a < g1.objs.size := Heap.lt_size ga.1
    have hlt2 : b < g1.objs.size := Heap.lt_size gb.1
    refine call_zip_2 la lb fun h' hz' hTI hTO hi1 hi2 hsz hk => ?_
    replace hsz : h'.objs.size = g1.objs.size + 5 := hsz
    refine wpAny_pyIter_zip hz' ?_
    refine wpAny_newObj_type (wpAny_newFunctionEnv c1 (by intro y hy; simp at hy) (fun h₁ hns₁ hsb₁ => ?_) c2)
    dsimp only at hns₁ hsb₁ ⊢
    generalize hH2 : h'.push { cls := .type "list", dict := none, data := .seq ([] : List Value).toArray } = H2 at hns₁ hsb₁ ⊢
    have hC : H2.objs.size = g1.objs.size + 6 := by rw [← hH2, Heap.size_push, hsz]
    have up : ∀ b o, g1.get? b = some o → h₁.get? b = some o := fun b o e => hsb₁.extBut b o (by rw [hC]; exact Nat.ne_of_lt (Nat.lt_of_lt_of_le (Heap.lt_size e) (Nat.le_add_right _ _))) (Heap.get?_push_of_some _ (hH2 ▸ Heap.get?_push_of_some _ (hk b o e)))
    have up2 : ∀ b o, h'.get? b = some o → h₁.get? b = some o := fun b o e => hsb₁.extBut b o (by rw [hC, ← Nat.succ_eq_add_one, show g1.objs.size + 5 = h'.objs.size from hsz.symm]; exact Nat.ne_of_lt (Nat.lt_succ_of_lt (Heap.lt_size e))) (Heap.get?_push_of_some _ (hH2 ▸ Heap.get?_push_of_some _ e))
    have hacc : h₁.get? h'.objs.size = some (LCg.lst []) := hsb₁.extBut _ _ (by rw [hC, hsz]; exact Nat.ne_of_lt (Nat.lt_succ_self (g1.objs.size + 5))) (Heap.get?_push_of_some _ (hH2 ▸ Heap.get?_push_size _ rfl))
    rw [hsz] at hacc ⊢
    rw [hC] at hns₁ ⊢
    have fresh : ∀ j, C.h₀.get? (g1.objs.size + j) = none ∧ g1.objs.size + j ≠ C.L := fun j => by
      have hL := F.ns.lt
      exact ⟨Heap.get?_none_of_le (Nat.le_trans F.above (Nat.le_trans (Nat.le_of_lt hL) (Nat.le_add_right _ _))), fun e => Nat.lt_irrefl C.L (Nat.lt_of_lt_of_le hL (e ▸ Nat.le_add_right _ _))⟩
    have nd0 : (η₀.map (·.1) ++ (a :: b :: C.hid.map (·.1))).Nodup ∧ ∀ p ∈ η₀.map (·.1) ++ (a :: b :: C.hid.map (·.1)), p < g1.objs.size := by
      have q1 : (b :: η₀.map (·.1) ++ C.hid.map (·.1)).Nodup := (List.nodup_cons.mp hn).2
      have q2 : (a :: (b :: η₀.map (·.1) ++ C.hid.map (·.1))).Nodup := hn
      refine ⟨nodup_mid (List.nodup_cons.mpr ⟨fun mm => (List.nodup_cons.mp q2).1 ?_, nodup_mid q1⟩), fun p hp => ?_⟩
      · rcases List.mem_append.mp mm with mm | mm
        · exact .tail _ (List.mem_append_left _ mm)
        · rcases List.mem_cons.mp mm with mm | mm
          · rw [mm]; exact .head _
          · exact .tail _ (List.mem_append_right _ mm)
      · rcases List.mem_append.mp hp with hp | hp
        · rw [← hl.keys] at hp
          obtain ⟨q, hq, rfl⟩ := List.mem_map.mp hp
          exact Heap.lt_size (N q (.tail _ (.tail _ (List.mem_append_left _ hq)))).1
        · rcases List.mem_cons.mp hp with rfl | hp
          · exact hlt1
          · rcases List.mem_cons.mp hp with rfl | hp
            · exact hlt2
            · obtain ⟨q, hq, rfl⟩ := List.mem_map.mp hp
              exact Heap.lt_size (N q (.tail _ (.tail _ (List.mem_append_right _ hq)))).1
    have nd7 := nodup_up (k := g1.objs.size + 6) rfl (nodup_up (k := g1.objs.size + 5) rfl (nodup_up (k := g1.objs.size + 4) rfl (nodup_up (k := g1.objs.size + 3) rfl (nodup_up (k := g1.objs.size + 2) rfl (nodup_up (k := g1.objs.size + 1) rfl (nodup_up (k := g1.objs.size) rfl nd0))))))
    have hnew : ∀ c ∈ [g1.objs.size + 6, g1.objs.size + 5, g1.objs.size + 4, g1.objs.size + 3, g1.objs.size + 2, g1.objs.size + 1, g1.objs.size], c ≠ C.L ∧ C.h₀.get? c = none := fun c hc => by
      simp only [List.mem_cons, List.not_mem_nil, or_false] at hc
      rcases hc with rfl | rfl | rfl | rfl | rfl | rfl | rfl
      · exact (fresh 6).symm
      · exact (fresh 5).symm
      · exact (fresh 4).symm
      · exact (fresh 3).symm
      · exact (fresh 2).symm
      · exact (fresh 1).symm
      · exact (fresh 0).symm
    have hz1 : ZS (g1.objs.size + 4) (g1.objs.size + 2) (g1.objs.size + 3) g1.objs.size (g1.objs.size + 1) a b vs.toArray us.toArray 0 h₁ :=
      ⟨up2 _ _ hz', up2 _ _ hTI, ⟨_, _, up2 _ _ hTO⟩, hi1.at fun o e => up2 _ o e, hi2.at fun o e => up2 _ o e, la.at fun o e => up _ o e, lb.at fun o e => up _ o e⟩
    have loop : ∀ s₃ : Shared, s₃ = { (Sh (Sh s' g1 tk1) h' tk1) with heap := h₁, toks := tk1 + ([] : List (Str × Value)).length } → codeAny C.M C.A (.compLoop (.ListComp elt [⟨.Tuple [.Name x px, .Name y py] kk tp, iter, [], 0⟩] s pos) 0 (.ref (g1.objs.size + 4)) (.ref (g1.objs.size + 5)) (compEnvC s cl (g1.objs.size + 6) C.env)) (RR (.ref (g1.objs.size + 5)) (g1.objs.size + 6)) s₃ := by
      rintro s₃ rfl
      refine zip_loop (s' := s') (tk := tk1) (oa := listOf vs.toArray sa) (ob := listOf us.toArray sb) ok c2 c4 c5 c6 hz hel (ktu_apart _ _ _ hlt1 hlt2) ivs ius nd7.1 hnew (fun h tk m₂ n vys F' hn' hl' N' iv => ?_) hz1 (F.keeps up) hns₁ hl fun p hp => ?_
      · refine hRR _ _ h tk m₂ ((_, LCg.lst vys) :: (a, listOf vs.toArray sa) :: (b, listOf us.toArray sb) :: n) F' hn' (fresh 6).2 (fresh 6).1 (.cons ⟨vys, vys.length, rfl, iv⟩ (.cons ⟨vs, sa, rfl, ivs⟩ (.cons ⟨us, sb, rfl, ius⟩ hl'))) (fun p hp => N' p ?_) (fun p hp => ?_) ?_
        · rcases List.mem_cons.mp hp with rfl | hp
          · exact List.mem_append_right _ (.head _)
          · rcases List.mem_cons.mp hp with rfl | hp
            · exact List.mem_append_right _ (.tail _ (.head _))
            · rcases List.mem_cons.mp hp with rfl | hp
              · exact List.mem_append_right _ (.tail _ (.tail _ (.head _)))
              · rcases List.mem_append.mp hp with hp | hp
                · exact List.mem_append_left _ hp
                · exact List.mem_append_right _ (.tail _ (.tail _ (.tail _ hp)))
        · have hb7 : p.1 = g1.objs.size + 5 ∨ p.1 < g1.objs.size := by
            rcases List.mem_cons.mp hp with rfl | hp
            · exact .inl rfl
            · right
              refine nd0.2 _ ?_
              rcases List.mem_cons.mp hp with rfl | hp
              · exact List.mem_append_right _ (.head _)
              · rcases List.mem_cons.mp hp with rfl | hp
                · exact List.mem_append_right _ (.tail _ (.head _))
                · rcases List.mem_append.mp hp with hp | hp
                  · refine List.mem_append_left _ ?_
                    rw [← hl'.keys]; exact List.mem_map_of_mem (f := Prod.fst) hp
                  · exact List.mem_append_right _ (.tail _ (.tail _ (List.mem_map_of_mem (f := Prod.fst) hp)))
          rcases hb7 with h | h
          · exact fun e => Nat.ne_of_lt (Nat.lt_succ_self (g1.objs.size + 5)) (h.symm.trans e)
          · exact Nat.ne_of_lt (Nat.lt_of_lt_of_le h (Nat.le_add_right _ _))
        · refine List.nodup_cons.mpr ⟨fun mm => ?_, hn⟩
          have q2 : ∀ p ∈ (a :: b :: η₀.map (·.1)) ++ C.hid.map (·.1), p < g1.objs.size := fun p hp => nd0.2 p (by
            simp only [List.cons_append, List.mem_cons, List.mem_append] at hp ⊢
            rcases hp with h | h | h | h
            · exact .inr (.inl h)
            · exact .inr (.inr (.inl h))
            · exact .inl h
            · exact .inr (.inr (.inr h)))
          exact absurd (q2 _ mm) (Nat.not_lt.mpr (Nat.le_add_right _ _))
      · rcases List.mem_append.mp hp with hp | hp
        · exact (N.grown up) p (.tail _ (.tail _ (List.mem_append_left _ hp)))
        · rcases List.mem_cons.mp hp with rfl | hp
          · exact ⟨hacc, (fresh 5).symm⟩
          · rcases List.mem_cons.mp hp with rfl | hp
            · exact (N.grown up) _ (.head _)
            · rcases List.mem_cons.mp hp with rfl | hp
              · exact (N.grown up) _ (.tail _ (.head _))
              · exact (N.grown up) p (.tail _ (.tail _ (List.mem_append_right _ hp)))
    exact codeAny_compStart_list (loop _ rfl) (wpAny_pyIter_zip hz1.1 (loop _ rfl))
end
section
variable {osc s : Scope} {C : Ctx (.fn osc)} {ρ : Rho} {η₀ : Hp} {elt iter : Expr} {x y x1 x2 w : Str} {px py tp pos p1 p2 zpos cpos pw spos : Pos} {kk : Nat} {cl : List (Str × Addr)} {xs ys : List PV} {a b : Addr} {m : Str → Option Value} {Φ : PV → Hp → Prop} {ss : List Stmt} {Ψ : Rho → Hp → Flo → Prop}
theorem E.zip (g : PV → PV → PV) (hcl : closureFor s C.env = pure cl) (hc : compOk2 s x y = true) (hz : min xs.length ys.length ≤ 1000) (h1 : look1 (.fn osc) ρ x1 = some (.ref a)) (h2 : look1 (.fn osc) ρ x2 = some (.ref b)) (hg : isGlob (.fn osc) "zip" = true) (hb : ∀ P, nsIn (kK P) mainGlobals "zip" = some none)
    (hel : ∀ (i : Nat) (p q : PV), xs[i]? = some p → ys[i]? = some q → ∀ C' : Ctx (.comp osc s), C'.w = C.w → C'.k = C.k → C'.ccl = cl → V C' [(y, q), (x, p)] η₀ elt (g p q))
    (k : ∀ l, Φ (.ref l) ((l, .lst (List.zipWith g xs ys)) :: (a, .lst xs) :: (b, .lst ys) :: η₀)) (hs : ∀ z, foldedSetIterable (.Call (.Name "zip" zpos) [.Name x1 p1, .Name x2 p2] [] cpos) C.env z = pure z) :
    E C ρ ((a, .lst xs) :: (b, .lst ys) :: η₀) (.ListComp elt [⟨.Tuple [.Name x px, .Name y py] kk tp, .Call (.Name "zip" zpos) [.Name x1 p1, .Name x2 p2] [] cpos, [], 0⟩] s pos) Φ := fun ok s' Q Er st q => by
  obtain ⟨c1, c2, c3, c4, c5, c6⟩ := compOk2_out hc
  obtain ⟨m, st⟩ := st
  have hm := st.choose_spec.2.2.1
  rw [eval_ListComp]
  refine wpAny_comprehension_free (use := none) rfl hs hcl c2 c3 (zip_first ok hc hz h1 h2 hg hb hel st fun D Cd h tk m₂ n F hn hCL hC0 hl N off nd => ?_)
  refine ⟨m₂, hn, fun h'' hs'' => q (.ref D) (.ref D) _ h'' tk (k D) rfl ⟨m, n, F.change hs'' hCL hC0, fun p hp => ⟨hs''.extBut _ _ (off p hp) (N p hp).1, (N p hp).2⟩, hm, hl, nd⟩⟩
theorem R.zipA (g : PV → PV → PV) (hsw : swapsWith (.ListComp elt [⟨.Tuple [.Name x px, .Name y py] kk tp, .Call (.Name "zip" zpos) [.Name x1 p1, .Name x2 p2] [] cpos, [], 0⟩] s pos) (some (.Name w pw)) spos.line C.env = pure true)
    (hcl : closureFor s C.env = pure cl) (hc : compOk2 s x y = true) (hw : osc.names.lookup w = some .local) (hz : min xs.length ys.length ≤ 1000) (h1 : look1 (.fn osc) ρ x1 = some (.ref a)) (h2 : look1 (.fn osc) ρ x2 = some (.ref b)) (hg : isGlob (.fn osc) "zip" = true) (hb : ∀ P, nsIn (kK P) mainGlobals "zip" = some none)
    (hel : ∀ (i : Nat) (p q : PV), xs[i]? = some p → ys[i]? = some q → ∀ C' : Ctx (.comp osc s), C'.w = C.w → C'.k = C.k → C'.ccl = cl → V C' [(y, q), (x, p)] η₀ elt (g p q))
    (k : ∀ l, R C ((w, .ref l) :: ρ) ((l, .lst (List.zipWith g xs ys)) :: (a, .lst xs) :: (b, .lst ys) :: η₀) ss Ψ) (hs : ∀ z, foldedSetIterable (.Call (.Name "zip" zpos) [.Name x1 p1, .Name x2 p2] [] cpos) C.env z = pure z) :
    R C ρ ((a, .lst xs) :: (b, .lst ys) :: η₀) (.Assign [.Name w pw] (.ListComp elt [⟨.Tuple [.Name x px, .Name y py] kk tp, .Call (.Name "zip" zpos) [.Name x1 p1, .Name x2 p2] [] cpos, [], 0⟩] s pos) spos :: ss) Ψ := fun ok s' Q Er st q => by
  obtain ⟨c1, c2, c3, c4, c5, c6⟩ := compOk2_out hc
  obtain ⟨m, st⟩ := st
  have hm := st.choose_spec.2.2.1
  refine wpAny_execs_cons ?_
  rw [exec_Assign_Name_used _ _ _ _ hsw]
  refine wpAny_bind (wpAny_standAt (wpAny_bind ?_))
  show wpAny _ C.A (do let _ ← comprehension (.ListComp elt [⟨.Tuple [.Name x px, .Name y py] kk tp, .Call (.Name "zip" zpos) [.Name x1 p1, .Name x2 p2] [] cpos, [], 0⟩] s pos) s C.env _ (newList []) false (eval (.Call (.Name "zip" zpos) [.Name x1 p1, .Name x2 p2] [] cpos) C.env) (some (PySem.assign (.Name w pw) C.env))) _ _ s'
  refine wpAny_bind (wpAny_mono (wpAny_comprehension_free (use := some (PySem.assign (.Name w pw) C.env)) (Q := fun _ s'' => wpAny C.M C.A (execs ss C.env) Q Er s'') rfl hs hcl c2 c3 (zip_first ok hc hz h1 h2 hg hb hel st fun D Cd h tk m₂ n F hn hCL hC0 hl N off nd => ?_)) (fun _ _ hq => wpAny_pure (wpAny_pure hq)) fun _ _ e => e)
  show wpAny _ C.A (PySem.assign (.Name w pw) C.env (.ref D)) _ _ _
  refine wpAny_assign_Name (wpAny_storeName_local (env := C.env) (kindOf_env.trans hw) F.ns (fun h₂ hn₂ hs₂ => ?_) (by rw [kind_env ok]; rfl))
  have hL₀ : C.h₀.get? C.L = none := Heap.get?_none_of_le F.above
  have F₂ : Fr C.h₀ C.L h₂ (fun z => if z = w then some (.ref D) else m z) := ⟨hn₂, fun b o e => hs₂.extBut b o (fun q => by rw [q] at e; exact absurd (e.symm.trans hL₀) (by simp)) (F.keep b o e), F.above⟩
  refine ⟨m₂, hn.sameBut hs₂ hCL, fun h'' hs'' => ?_⟩
  refine k D ok _ Q Er ⟨_, n, F₂.change hs'' hCL hC0, fun p hp => ⟨hs''.extBut _ _ (off p hp) (hs₂.extBut _ _ (N p hp).2.1 (N p hp).1), (N p hp).2⟩, ⟨trivial, fun z p' e => ?_⟩, hl, nd⟩ q
  rw [List.lookup_cons] at e
  by_cases hz : z = w
  · subst hz
    simp at e
    exact ⟨.ref D, if_pos rfl, by subst e; rfl⟩
  · rw [show (z == w) = false from beq_eq_false_iff_ne.mpr hz] at e
    obtain ⟨v, a, b⟩ := hm.2 z p' e
    exact ⟨v, (if_neg hz).trans a, b⟩
end
end Mine
end
section
open PySem PySem.W PyProof.Rows PySem.Calls
set_option Elab.async false
set_option linter.unusedVariables false
set_option maxRecDepth 100000
namespace Mine
theorem intL_of : ∀ {ns : List Int} {vs : List Value}, IntsAre vs ns → AreV (intL ns) vs
  | [], _, h => by cases h; exact .nil
  | n :: r, _, h => by
    cases h with
    | cons _ t h => exact .cons ⟨t, rfl⟩ (intL_of h)
theorem AreV.take {xs : List PV} {vs : List Value} (h : AreV xs vs) : ∀ k : Nat, AreV (xs.take k) (vs.take k) := by
  induction h with
  | nil => intro k; simp; exact .nil
  | cons i _ ih =>
    intro k
    cases k with
    | zero => exact .nil
    | succ k => exact .cons i (ih k)
theorem AreV.drop {xs : List PV} {vs : List Value} (h : AreV xs vs) : ∀ k : Nat, AreV (xs.drop k) (vs.drop k) := by
  induction h with
  | nil => intro k; simp; exact .nil
  | cons i h ih =>
    intro k
    cases k with
    | zero => exact .cons i h
    | succ k => exact ih k
abbrev boolL (bs : List Bool) : List PV := bs.map PV.bool
theorem boolL_are : ∀ {bs : List Bool} {vs : List Value}, AreV (boolL bs) vs → LSm.BoolsAre vs bs
  | [], _, h => by cases h; exact .nil
  | b :: r, _, h => by
    cases h with
    | cons i h =>
      cases i
      exact .cons b (boolL_are h)
section
variable {sc : Shape} {C : Ctx sc} {ρ : Rho} {η : Hp} {e ef e0 : Expr} {es : List Expr} {p : PV} {x : Str} {a : Addr} {xs : List PV} {k ck : Nat} {pos p1 cp sp up xpos : Pos} {Φ : PV → Hp → Prop} {id T : String} {n : Int}
theorem EM.ofM (h : ∀ m, C.Ok → ∀ (s : Shared) (Q : Value → Shared → Prop) (Er : Value → Shared → Prop), StM C ρ η m s.heap → (∀ p v η' h' tk', Φ p η' → Is p v → StM C ρ η' m h' → Q v (Sh s h' tk')) → wpAny C.M C.A (eval e C.env) Q Er s) : E C ρ η e Φ := fun ok s Q Er ⟨m, st⟩ q =>
  h m ok s Q Er st fun p v η' h' tk' w i st' => q p v η' h' tk' w i ⟨m, st'⟩
theorem EM.toE (h : EM C ρ η e Φ) : E C ρ η e Φ := EM.ofM fun m ok s Q Er st q => h ok s Q Er m st q
theorem part_some {M : Model} {A : Around} {env : Env} {s : Shared} {e : Expr} {Q : Value → Shared → Prop} {Er : Value → Shared → Prop} (h : wpAny M A (eval e env) Q Er s) : wpAny M A (evalPart (some e) env) Q Er s := h
theorem part_none {M : Model} {A : Around} {env : Env} {s : Shared} {Q : Value → Shared → Prop} {Er : Value → Shared → Prop} (h : Q .none s) : wpAny M A (evalPart none env) Q Er s := wpAny_pure h
/-- a new object at the head -/
theorem StM.new {m : Str → Option Value} {h h' : Heap} {news : Led} {l : Addr} {o : Obj} {y : HO} (F : Fr C.h₀ C.L h' m) (N : News C.h₀ C.L h' ((l, o) :: C.all news)) (lt : ∀ q ∈ C.all news, q.1 < l) (hm : C.Nm ρ m) (hl : LedOf η news) (i : IsO y o) (hn : (η.map (·.1) ++ C.hid.map (·.1)).Nodup) : StM C ρ ((l, y) :: η) m h' :=
  ⟨_ :: news, F, N, hm, .cons i hl, fresh_key (C := C) (h := h) hl lt hn⟩
theorem EM.sliceTo (hx : look1 sc ρ x = some (.ref a)) (hm : (a, HO.lst xs) ∈ η) (hn : n = (k : Int)) (hk : k ≤ xs.length) (hz : xs.length ≤ 1000) (K : ∀ l, Φ (.ref l) ((l, .lst (xs.take k)) :: η)) : EM C ρ η (.Subscript (.Name x p1) (.Slice none (some (.Constant (.int n) ck cp)) none sp) pos) Φ := fun ok s Q Er m st q => by
  subst hn
  refine Subscript_ (EM.lo (Φ := fun p η1 => p = .ref a ∧ η1 = η) hx ⟨rfl, rfl⟩ ok s _ Er m st fun p v η1 h1 tk1 w i st1 => ?_)
  obtain ⟨rfl, rfl⟩ := w
  obtain rfl : v = .ref a := i
  refine wpAny_Slice (part_none (part_some (wpAny_Constant_int (part_none ?_))))
  obtain ⟨news, F, N, hmm, hl, hnn⟩ := st1
  obtain ⟨o, ho, vs, sn, rfl, iv⟩ := hl.get hm
  refine slice_list (s := Sh (Sh s h1 tk1) h1 (tk1 + 1)) F N ⟨_, (N _ (List.mem_append_left _ ho)).1, rfl, sn, rfl⟩ .none (.int _ _) (fun h' F' N' => ?_) (by with_unfolding_all rfl) (by intro _; with_unfolding_all rfl) (by rw [List.size_toArray, iv.len, sizeLine_eq]; omega)
  rw [slicePick_upto _ _ (by rw [List.size_toArray, iv.len]; exact hk)] at N'
  refine q (.ref _) _ _ h' _ (K _) rfl (StM.new (h := h1) F' N' (fun p hp => Nat.lt_succ_of_lt (Heap.lt_size (N p hp).1)) hmm hl ⟨vs.take k, 0, rfl, iv.take k⟩ hnn)
theorem EM.sliceFrom (hx : look1 sc ρ x = some (.ref a)) (hm : (a, HO.lst xs) ∈ η) (hn : n = (k : Int)) (hk : k ≤ xs.length) (hz : xs.length ≤ 1000) (K : ∀ l, Φ (.ref l) ((l, .lst (xs.drop k)) :: η)) : EM C ρ η (.Subscript (.Name x p1) (.Slice (some (.Constant (.int n) ck cp)) none none sp) pos) Φ := fun ok s Q Er m st q => by
  subst hn
  refine Subscript_ (EM.lo (Φ := fun p η1 => p = .ref a ∧ η1 = η) hx ⟨rfl, rfl⟩ ok s _ Er m st fun p v η1 h1 tk1 w i st1 => ?_)
  obtain ⟨rfl, rfl⟩ := w
  obtain rfl : v = .ref a := i
  refine wpAny_Slice (part_some (wpAny_Constant_int (part_none (part_none ?_))))
  obtain ⟨news, F, N, hmm, hl, hnn⟩ := st1
  obtain ⟨o, ho, vs, sn, rfl, iv⟩ := hl.get hm
  refine slice_list (s := Sh (Sh s h1 tk1) h1 (tk1 + 1)) F N ⟨_, (N _ (List.mem_append_left _ ho)).1, rfl, sn, rfl⟩ (.int _ _) .none (fun h' F' N' => ?_) (by with_unfolding_all rfl) (by intro _; with_unfolding_all rfl) (by rw [List.size_toArray, iv.len, sizeLine_eq]; omega)
  rw [slicePick_from _ _ (by rw [List.size_toArray, iv.len]; exact hk)] at N'
  refine q (.ref _) _ _ h' _ (K _) rfl (StM.new (h := h1) F' N' (fun p hp => Nat.lt_succ_of_lt (Heap.lt_size (N p hp).1)) hmm hl ⟨vs.drop k, 0, rfl, iv.drop k⟩ hnn)
theorem EM.rev (hx : look1 sc ρ x = some (.ref a)) (hm : (a, HO.lst xs) ∈ η) (hz : xs.length ≤ 1000) (K : ∀ l, Φ (.ref l) ((l, .lst xs.reverse) :: η)) : EM C ρ η (.Subscript (.Name x p1) (.Slice none none (some (.UnaryOp .USub (.Constant (.int 1) ck cp) up)) sp) pos) Φ := fun ok s Q Er m st q => by
  refine Subscript_ (EM.lo (Φ := fun p η1 => p = .ref a ∧ η1 = η) hx ⟨rfl, rfl⟩ ok s _ Er m st fun p v η1 h1 tk1 w i st1 => ?_)
  obtain ⟨rfl, rfl⟩ := w
  obtain rfl : v = .ref a := i
  refine wpAny_Slice (part_none (part_none (part_some (UnaryOp_ (wpAny_Constant_int (neg_int ?_))))))
  obtain ⟨news, F, N, hmm, hl, hnn⟩ := st1
  obtain ⟨o, ho, vs, sn, rfl, iv⟩ := hl.get hm
  refine krv_lit (s := Sh (Sh s h1 tk1) h1 (tk1 + 1 + 1)) F N ⟨_, (N _ (List.mem_append_left _ ho)).1, rfl, sn, rfl⟩ (.int _ _) rfl (fun D h' F' N' lt => ?_) (by with_unfolding_all rfl) (by intro _; with_unfolding_all rfl) (by rw [List.size_toArray, iv.len, sizeLine_eq]; omega)
  refine q (.ref _) _ _ h' _ (K _) rfl (StM.new (h := h1) F' N' lt hmm hl ⟨vs.reverse, 0, rfl, iv.rev⟩ hnn)
/-- a built-in type is called -/
def BltT {sc : Shape} (C : Ctx sc) (T : String) (ps : List PV) (η : Hp) (Φ : PV → Hp → Prop) : Prop :=
  C.Ok → ∀ (ρ : Rho) (s : Shared) (vs : List Value) (Q : Value → Shared → Prop) (Er : Value → Shared → Prop), AreV ps vs → St C ρ η s.heap → (∀ p v η' h' tk', Φ p η' → Is p v → St C ρ η' h' → Q v (Sh s h' tk')) → wpAny C.M C.A (PySem.call (.type T) vs) Q Er s
theorem E.ty (hf : V C ρ η ef (.val (.type T))) (h : Es C ρ η (e0 :: es) fun ps η1 => BltT C T ps η1 Φ)
    (he : eval (.Call ef (e0 :: es) [] pos) C.env = (do callWith pos (← eval ef C.env) [] (backTo pos (starEach (e0 :: es) C.env)) (backToKw pos (keywordEach [] C.env))) := by rfl)
    (hs : starEach (e0 :: es) C.env = (false, eval e0 C.env) :: starEach es C.env := by rfl) (hp : (backTo pos (starEach es C.env)).any (·.1) = false := by rfl) : E C ρ η (.Call ef (e0 :: es) [] pos) Φ := fun ok s Q Er st q =>
  Call_ (hf ok s _ Er st fun p v η1 h1 tk1 ⟨e1, e2⟩ i st1 => by
    subst e1 e2
    obtain rfl : v = .type T := i
    exact PyProof.Rows.callWith_type1 (h ok _ pos _ Er st1 fun ps vs η2 h2 tk2 w2 is st2 => w2 ok ρ _ vs Q Er is st2 q) hs hp) he
theorem BltT.list (hm : (a, HO.lst xs) ∈ η) (hz : xs.length ≤ 1000) (K : ∀ l, Φ (.ref l) ((l, .lst xs) :: η)) : BltT C "list" [.ref a] η Φ := fun ok ρ s vs Q Er i st q => by
  cases i with
  | cons i1 i =>
    cases i
    cases i1
    obtain ⟨m, news, F, N, hmm, hl, hn⟩ := st
    obtain ⟨o, ho, us, sn, rfl, iv⟩ := hl.get hm
    refine list_copyK F N ⟨_, (N _ (List.mem_append_left _ ho)).1, rfl, sn, rfl⟩ (fun D c h' F' N' lt => ?_) (by rw [List.size_toArray, iv.len, sizeLine_eq]; omega)
    exact q (.ref D) _ _ h' _ (K D) rfl ⟨m, StM.new (h := s.heap) F' N' lt hmm hl ⟨us, c, rfl, iv⟩ hn⟩
theorem BltT.tuple (hm : (a, HO.lst xs) ∈ η) (hz : xs.length ≤ 1000) (K : ∀ l, Φ (.ref l) ((l, .tup xs) :: η)) : BltT C "tuple" [.ref a] η Φ := fun ok ρ s vs Q Er i st q => by
  cases i with
  | cons i1 i =>
    cases i
    cases i1
    obtain ⟨m, news, F, N, hmm, hl, hn⟩ := st
    obtain ⟨o, ho, us, sn, rfl, iv⟩ := hl.get hm
    refine kde_tupleOf F N (items := us.toArray) ⟨_, (N _ (List.mem_append_left _ ho)).1, rfl, sn, rfl⟩ (by rw [List.size_toArray, iv.len]; omega) rfl (fun D h' F' N' lt => ?_)
    exact q (.ref D) _ _ h' _ (K D) rfl ⟨m, StM.new (h := s.heap) F' N' lt hmm hl ⟨us, by simp, iv⟩ hn⟩
theorem BltT.int (K : Φ (.int n) η) : BltT C "int" [.int n] η Φ := fun ok ρ s vs Q Er i st q => by
  cases i with
  | cons i1 i => cases i; obtain ⟨t, rfl⟩ := i1; exact call_int_int (q _ _ η s.heap s.toks K ⟨t, rfl⟩ st)
theorem Blt.all {bs : List Bool} (hm : (a, HO.lst (boolL bs)) ∈ η) (K : Φ (.bool (bs.all _root_.id)) η) : Blt C "all" [.ref a] η Φ := fun ok ρ s vs Q Er i st q => by
  cases i with
  | cons i1 i =>
    cases i
    cases i1
    obtain ⟨m, news, F, N, hmm, hl, hn⟩ := st
    obtain ⟨o, ho, us, sn, rfl, iv⟩ := hl.get hm
    exact LSm.all_bools F N rfl ⟨_, (N _ (List.mem_append_left _ ho)).1, rfl, sn, rfl⟩ (boolL_are iv) fun h' tk F' N' => q (.bool _) _ η h' tk K rfl ⟨m, news, F', N', hmm, hl, hn⟩
theorem Blt.max {ns : List Int} (hm : (a, HO.lst (intL ns)) ∈ η) (h0 : 0 < ns.length) (K : ∀ M, M ∈ ns → (∀ b, b ∈ ns → b ≤ M) → Φ (.int M) η) : Blt C "max" [.ref a] η Φ := fun ok ρ s vs Q Er i st q => by
  cases i with
  | cons i1 i =>
    cases i
    cases i1
    obtain ⟨m, news, F, N, hmm, hl, hn⟩ := st
    obtain ⟨o, ho, us, sn, rfl, iv⟩ := hl.get hm
    exact max_list_N rfl F N ⟨_, (N _ (List.mem_append_left _ ho)).1, rfl, sn, rfl⟩ (intL_are iv) h0 fun h' M t tk F' N' h1 h2 => q (.int M) _ η h' tk (K M h1 h2) ⟨t, rfl⟩ ⟨m, news, F', N', hmm, hl, hn⟩
theorem Blt.len (hm : (a, HO.lst xs) ∈ η) (hz : xs.length ≤ 1000) (K : Φ (.int (xs.length : Int)) η) : Blt C "len" [.ref a] η Φ := fun ok ρ s vs Q Er i st q => by
  cases i with
  | cons i1 i =>
    cases i
    cases i1
    have st' := st
    obtain ⟨m, news, F, N, hmm, hl, hn⟩ := st
    obtain ⟨o, ho, us, sn, rfl, iv⟩ := hl.get hm
    have e : us.toArray.size = xs.length := by rw [List.size_toArray, iv.len]
    refine PyProof.Rows.len_list ⟨_, (N _ (List.mem_append_left _ ho)).1, rfl, sn, rfl⟩ (by rw [e]; omega) ?_
    rw [e]
    exact q (.int _) _ η s.heap _ K ⟨_, rfl⟩ st'
/-- list + list -/
theorem E.addL {e1 e2 : Expr} (h : E C ρ η e1 fun p1 η1 => E C ρ η1 e2 fun p2 η2 => ∃ a b ns ms, p1 = .ref a ∧ p2 = .ref b ∧ (a, HO.lst (intL ns)) ∈ η2 ∧ (b, HO.lst (intL ms)) ∈ η2 ∧ ns.length + ms.length ≤ 1000 ∧ ∀ l, Φ (.ref l) ((l, .lst (intL (ns ++ ms))) :: η2)) : E C ρ η (.BinOp e1 .Add e2 pos) Φ :=
  E.bind2 h (fun _ _ _ => wpAny_BinOp) fun p1 p2 η2 ⟨a, b, ns, ms, e1, e2, ha, hb, hz, K⟩ ok s v1 v2 Q Er i1 i2 st q => by
    subst e1 e2
    cases i1; cases i2
    obtain ⟨m, news, F, N, hmm, hl, hn⟩ := st
    obtain ⟨vs, l1, j1⟩ := isList_of (C := C) (m := m) N hl ha
    obtain ⟨us, l2, j2⟩ := isList_of (C := C) (m := m) N hl hb
    refine add_lists_ints F N l1 l2 j1 j2 (fun h' F' N' j => ?_) (by rw [sizeLine_eq]; omega)
    exact q (.ref _) _ _ h' _ (K _) rfl ⟨m, StM.new (h := s.heap) F' N' (fun p hp => Heap.lt_size (N p hp).1) hmm hl ⟨vs ++ us, 0, rfl, intL_of j⟩ hn⟩
end
end Mine
end
section
open PySem PySem.W PyProof.Rows PySem.Calls PySem.Builtin
set_option Elab.async false
set_option linter.unusedVariables false
set_option maxRecDepth 100000
namespace Mine
section
open Builtin
theorem jn_slot : Slot "bytes" "join" "bytes.join" :=
  .of (owner := "bytes") (n := "join") (by rw [typeLookup_type, builtinLookup_eq_fast]; kernel_rfl) (by decide +kernel) (by decide +kernel) (by decide +kernel)
    (by first | exact .inl (by decide +kernel) | exact .inr (by decide +kernel)) (by rw [isSubtype_type]; kernel_rfl)
theorem jn_type : typeOf (.builtin "bytes.join") = pure (.type "method_descriptor") := by show builtinType _ = _; rw [builtinType_eq_fast]; kernel_rfl
theorem jn_entry : entryFor table "bytes.join" = some Builtin.«bytes.join» := entryFor_of_tree (by kernel_rfl)
theorem jn_args (a b : Value) : argsOk "bytes.join" ⟨[a, b], []⟩ := by
  unfold argsOk; rw [signature?_of (id := "bytes.join") (n := ['n', 'i', 'o', 'j']) (o := ['s', 'e', 't', 'y', 'b']) (by kernel_rfl) FB.owner_bytes]; kernel_rfl
theorem jn_take {id : String} {b : Array UInt8} {t : Tok} : Bytes.takeBufferQuiet? id (.bytes b t) 0 = pure (some (b, none)) := by
  unfold Bytes.takeBufferQuiet? Bytes.takeBuffer?
  rw [KBy.special_eq KBy.look_buffer, KBy.own_buffer]
  show ((do let r ← (Bytes.buffer? id (.bytes b t) (full := (0 : Int) == Bytes.fullReadOnly)); pure (r.map (·, none)) : Sem (Option (Array UInt8 × Option Value))).attempt >>= _) = _
  rw [show ((0 : Int) == Bytes.fullReadOnly) = false by decide, KBy.buffer_eq]
  rfl
theorem jn_letGo {M : Model} {A : Around} {E : Value → Shared → Prop} {keep : List Value} : ∀ {taken : List (Value × Option Value)} {s : Shared} {Q : Unit → Shared → Prop}, (∀ p ∈ taken, p.2 = none) → Q () s → wpAny M A (Bytes.joinLetGo taken keep) Q E s
  | [], _, _, _, q => wpAny_pure q
  | (x, w) :: r, s, Q, h, q => by
    obtain rfl : w = none := h _ (.head _)
    unfold Bytes.joinLetGo
    exact wpAny_bind (wpAny_letGo (jn_letGo (fun p hp => h p (.tail _ hp)) q))
theorem jn_for {M : Model} {A : Around} {E : Value → Shared → Prop} {β : Type} {f : Nat → β → Sem (ForInStep β)} (P : Nat → β → Shared → Prop) (n : Nat) (step : ∀ i st s, i < n → P i st s → wpAny M A (f i st) (fun r s' => ∃ st', r = .yield st' ∧ P (i + 1) st' s') E s) :
    ∀ (k i : Nat) (st : β) (s : Shared) (Q : β → Shared → Prop), i + k = n → P i st s → (∀ st s, P n st s → Q st s) → wpAny M A (forIn (List.range' i k 1) st f) Q E s
  | 0, i, st, s, Q, e, h, q => by
    obtain rfl : i = n := e
    rw [List.range'_zero, List.forIn_nil]
    exact wpAny_pure (q _ _ h)
  | k + 1, i, st, s, Q, e, h, q => by
    rw [List.range'_succ, List.forIn_cons]
    refine wpAny_bind (wpAny_mono (step i st s (by omega) h) (fun r s' h' => ?_) fun _ _ e => e)
    obtain ⟨st', rfl, h'⟩ := h'
    exact jn_for P n step k (i + 1) st' s' Q (by omega) h' q
theorem jn_range {β : Type} {f : Nat → β → Sem (ForInStep β)} {n : Nat} {b : β} : (forIn [:n] b f : Sem β) = forIn (List.range' 0 n 1) b f := by
  rw [Std.Legacy.Range.forIn_eq_forIn_range']; simp [Std.Legacy.Range.size]
theorem byt_at {ps : List (Array UInt8)} {vs : List Value} (hv : AreV (ps.map PV.byt) vs) {i : Nat} (hi : i < ps.length) : ∃ p t, ps[i]? = some p ∧ vs[i]? = some (.bytes p t) := by
  obtain ⟨v, e, t, rfl⟩ := hv.get (i := i) (p := .byt ps[i]) (by simp [hi])
  exact ⟨ps[i], t, List.getElem?_eq_getElem hi, e⟩
theorem jn_meets (b : Array UInt8) (t : Tok) (a : Addr) (ps : List (Array UInt8)) (vs : List Value) (hv : AreV (ps.map PV.byt) vs) (h2 : 2 ≤ ps.length) :
    Meets («bytes.join» ⟨[.bytes b t, .ref a], []⟩) (fun _ R s => s.heap.IsList a vs.toArray ∧ (Bytes.joined b ps).size ≤ 16777216 ∧ ps.foldl (fun n p => n + p.size) (b.size * (ps.length - 1)) ≤ 16777216 ∧ ∀ t' k, R (.ok (.ret (.bytes (Bytes.joined b ps) t'))) { s with toks := k }) := by
  refine .of_wp fun prog w A R s hS => ?_
  obtain ⟨hl, hsz, hsz2, h⟩ := hS
  obtain ⟨o, ho, hc, n, hd⟩ := id hl
  show wpAny _ _ (Bytes.joinItems (.ref a) >>= fun seq => _) _ _ s
  refine wpAny_bind ?_
  unfold Bytes.joinItems
  refine wpAny_bind (wpAny_typeOf hl.typeIs ?_)
  refine bm_if_true (by decide) (wpAny_pure ?_)
  refine wpAny_bind (wpAny_seqItems ho hd ?_)
  have hlen : vs.length = ps.length := by rw [hv.len, List.length_map]
  refine bm_if_true (by decide) ?_
  obtain ⟨v0, v1, vr, rfl⟩ : ∃ v0 v1 vr, vs = v0 :: v1 :: vr := by
    match vs, hlen with
    | [], e => simp at e; omega
    | [_], e => simp at e; omega
    | v0 :: v1 :: vr, _ => exact ⟨v0, v1, vr, rfl⟩
  refine wpAny_bind ?_
  generalize v0 :: v1 :: vr = vs at *
  rw [jn_range]
  refine jn_for (fun i st s' => st = ((ps.take i).toArray, (vs.take i).map fun v => (v, none)) ∧ s' = s) vs.toArray.size (fun i st s' hi hst => ?_) _ 0 _ _ _ (by omega) ⟨by simp, rfl⟩ (fun st s' hst => ?_)
  · obtain ⟨rfl, rfl⟩ := hst
    have hi' : i < ps.length := by rw [← hlen]; simpa using hi
    obtain ⟨p, u, ep, ev⟩ := byt_at hv hi'
    refine wpAny_bind (wpAny_seqItems ho hd ?_)
    dsimp only
    have e1 : vs.toArray.getD i Value.none = .bytes p u := by
      rw [Array.getD_eq_getD_getElem?]; simp [ev]
    rw [e1]
    refine bm_if_false ?_ ?_
    · rw [Bool.or_eq_false_iff]
      refine ⟨by decide, List.any_eq_false.mpr fun x hx => ?_⟩
      obtain ⟨v, hv', rfl⟩ := List.mem_map.mp hx
      obtain ⟨j, hj⟩ := List.mem_iff_getElem?.mp (List.mem_of_mem_take hv')
      have hj' : j < ps.length := by
        rw [← hlen]
        exact (List.getElem?_eq_some_iff.mp hj).1
      obtain ⟨p', u', _, e⟩ := byt_at hv hj'
      rw [hj] at e
      cases e
      exact Bool.false_ne_true
    · refine wpAny_bind (wpAny_holding (wpAny_of_eq jn_take ?_))
      dsimp only
      refine wpAny_bind (wpAny_seqItems ho hd ?_)
      dsimp only
      refine bm_if_false (by simp) (wpAny_pure ⟨_, rfl, ?_, rfl⟩)
      rw [List.take_add_one, List.take_add_one, ep, ev]
      simp
  · obtain ⟨rfl, rfl⟩ := hst
    dsimp only
    have e2 : vs.toArray.size = ps.length := by simpa using hlen
    rw [e2, List.take_of_length_le (Nat.le_refl _), List.take_of_length_le (Nat.le_of_eq hlen)]
    refine wpAny_bind (wpAny_of_eq (a := b) rfl ?_)
    refine bm_if_false (KBy.tooLong_not ?_) ?_
    · simpa using hsz2
    · refine wpAny_bind (wpAny_mkBytes ?_ (by rw [sizeLine_eq]; exact hsz))
      refine wpAny_bind (wpAny_holding (wpAny_point ?_))
      refine wpAny_bind (jn_letGo (fun p hp => ?_) (wpAny_pure ⟨_, rfl, h _ _⟩))
      obtain ⟨v, _, rfl⟩ := List.mem_map.mp hp
      rfl
end
theorem byteArr_ints (b : Array UInt8) : byteArr (KBw.bInts b) = b := by
  unfold byteArr KBw.bInts
  rw [List.map_map]
  have : ((fun n : Int => n.toNat.toUInt8) ∘ fun c : UInt8 => (c.toNat : Int)) = _root_.id := by
    funext c
    show c.toNat.toUInt8 = c
    simp
  rw [this]
  simp
theorem byteArr_app (ns ms : List Int) : byteArr (ns ++ ms) = byteArr ns ++ byteArr ms := by simp [byteArr]
abbrev bytI (ns : List Int) : PV := .byt (byteArr ns)
abbrev InB (ns : List Int) : Prop := ∀ n ∈ ns, 0 ≤ n ∧ n < 256
section
variable {sc : Shape} {C : Ctx sc} {ρ : Rho} {η : Hp} {e ef e0 : Expr} {es : List Expr} {p : PV} {x : Str} {a : Addr} {xs : List PV} {k ck : Nat} {pos p1 cp sp up xpos apos : Pos} {Φ : PV → Hp → Prop} {ns ms : List Int}
theorem V.byc {l : List UInt8} : V C ρ η (.Constant (.bytes l) ck pos) (.byt l.toArray) := V.at fun _ _ _ _ _ _ _ _ _ _ q => Constant_bytes (q _ _ ⟨_, rfl⟩)
theorem Bin.addB (h : ns.length + ms.length ≤ 100000) : Bin .Add (bytI ns) (bytI ms) (bytI (ns ++ ms)) := fun _ _ _ _ _ _ _ ⟨_, e1⟩ ⟨_, e2⟩ q => by
  subst e1 e2
  refine KBy.add_bytes (by rw [byteArr_size, byteArr_size]; omega) fun t' k => ?_
  rw [← byteArr_app]
  exact q _ _ ⟨_, rfl⟩
theorem Cmp.eqY : Cmp .Eq (bytI ns) (bytI ms) ((byteArr ns).toList == (byteArr ms).toList) := fun _ _ _ _ _ _ _ ⟨_, e1⟩ ⟨_, e2⟩ q => by subst e1 e2; exact eq_bytes (q _)
theorem Cmp.neY : Cmp .NotEq (bytI ns) (bytI ms) ((byteArr ns).toList != (byteArr ms).toList) := fun _ _ _ _ _ _ _ ⟨_, e1⟩ ⟨_, e2⟩ q => by subst e1 e2; exact ne_bytes (q _)
theorem Blt.lenB (h : ns.length ≤ 100000) (K : Φ (.int (ns.length : Int)) η) : Blt C "len" [bytI ns] η Φ := fun ok ρ s vs Q Er i st q => by
  cases i with
  | cons i1 i =>
    cases i
    obtain ⟨t, rfl⟩ := i1
    refine len_bytes (by rw [byteArr_size]; omega) ?_
    rw [byteArr_size]
    exact q _ _ η s.heap _ K ⟨_, rfl⟩ st
theorem BltT.bytes (hm : (a, HO.lst (intL ns)) ∈ η) (hr : InB ns) (hz : ns.length ≤ 1000) (K : Φ (bytI ns) η) : BltT C "bytes" [.ref a] η Φ := fun ok ρ s vs Q Er i st q => by
  cases i with
  | cons i1 i =>
    cases i
    cases i1
    obtain ⟨m, news, F, N, hmm, hl, hn⟩ := st
    obtain ⟨o, ho, us, sn, rfl, iv⟩ := hl.get hm
    refine call_bytes_ints ⟨_, (N _ (List.mem_append_left _ ho)).1, rfl, sn, rfl⟩ (intL_are iv) hr (by rw [iv.len, List.length_map, sizeLine_eq]; omega) rfl fun h' t k hk => ?_
    exact q _ _ η h' _ K ⟨t, rfl⟩ ⟨m, news, F.keeps hk, fun p hp => ⟨hk _ _ (N p hp).1, (N p hp).2⟩, hmm, hl, hn⟩
/-- the last sign of bytes and the like -/
theorem V.itemB {i : Int} {ei : Expr} (h1 : V C ρ η e (bytI ns)) (h2 : V C ρ η ei (.int i)) (hr : InB ns) (hz : ns.length ≤ 100000) (h0 : 0 ≤ i) (hi : i < ns.length) (hs : noSlice ei = true) (ht : ∀ b t r, letTemporaryGo e (.bytes b t) r = pure ()) : V C ρ η (.Subscript e ei pos) (.int (ns.getD i.toNat 0)) :=
  E.bind2 (Ψ := fun a b η2 => a = bytI ns ∧ b = .int i ∧ η2 = η) (h1.up (h2.up ⟨rfl, rfl, rfl⟩)) (fun _ _ _ => Subscript_) fun p1 p2 η2 ⟨e1, e2, e3⟩ ok s v1 v2 Q Er i1 i2 st q => by
    subst e1 e2 e3
    obtain ⟨t, rfl⟩ := i1
    obtain ⟨u, rfl⟩ := i2
    refine KBw.item_K (KBa.ints_make hr) (by omega) h0 hi (fun t' k _ _ => q _ _ η2 s.heap k ⟨rfl, rfl⟩ ⟨t', rfl⟩ st) ?_ ?_
    · cases ei <;> first | rfl | cases hs
    · exact ht _ _
theorem V.fromB {n : Int} (h1 : V C ρ η e (bytI ns)) (hn : n = (k : Int)) (hr : InB ns) (hz : ns.length ≤ 100000) (ht : ∀ b t r, letTemporaryGo e (.bytes b t) r = pure ()) : V C ρ η (.Subscript e (.Slice (some (.Constant (.int n) ck cp)) none none sp) pos) (bytI (ns.drop k)) := fun ok s Q Er st q => by
  subst hn
  refine Subscript_ (h1 ok s _ Er st fun p v η1 g1 tk1 w i st1 => ?_)
  obtain ⟨rfl, rfl⟩ := w
  obtain ⟨t, rfl⟩ := i
  refine wpAny_Slice (part_some (wpAny_Constant_int (part_none (part_none ?_))))
  obtain ⟨m, news, F, N, hmm, hl, hnn⟩ := st1
  refine KBc.slice_K (s := Sh (Sh s g1 tk1) g1 (tk1 + 1)) F N (KBa.ints_make hr) (.int _ _) .none (by omega) (fun h' t' k' F' N' e9 => ?_) (by with_unfolding_all rfl) (ht _ _)
  have e8 := congrArg byteArr e9
  rw [byteArr_ints] at e8
  rw [e8]
  have e7 : List.take ((none : Option Int).elim ns.length (clipAt ns.length) - (some (k : Int)).elim 0 (clipAt ns.length)) (List.drop ((some (k : Int)).elim 0 (clipAt ns.length)) ns) = ns.drop k := by
    show List.take (ns.length - clipAt ns.length k) (List.drop (clipAt ns.length k) ns) = _
    rw [clipAt_nat, kmk_drop_min]
    refine List.take_of_length_le ?_
    rw [List.length_drop]
    omega
  rw [e7]
  exact q _ _ η1 h' k' ⟨rfl, rfl⟩ ⟨t', rfl⟩ ⟨m, news, F', N', hmm, hl, hnn⟩
theorem V.toB {j : Int} {ej : Expr} (h1 : V C ρ η e (bytI ns)) (h2 : V C ρ η ej (.int j)) (h0 : 0 ≤ j) (hr : InB ns) (hz : ns.length ≤ 100000) (ht : ∀ b t r, letTemporaryGo e (.bytes b t) r = pure ()) : V C ρ η (.Subscript e (.Slice none (some ej) none sp) pos) (bytI (ns.take j.toNat)) := fun ok s Q Er st q => by
  refine Subscript_ (h1 ok s _ Er st fun p v η1 g1 tk1 w i st1 => ?_)
  obtain ⟨rfl, rfl⟩ := w
  obtain ⟨t, rfl⟩ := i
  refine wpAny_Slice (part_none (part_some (h2 ok _ _ Er st1 fun p v η2 g2 tk2 w i st2 => part_none ?_)))
  obtain ⟨rfl, rfl⟩ := w
  obtain ⟨u, rfl⟩ := i
  obtain ⟨m, news, F, N, hmm, hl, hnn⟩ := st2
  refine KBc.slice_K (s := Sh (Sh (Sh s g1 tk1) g2 tk2) g2 tk2) F N (KBa.ints_make hr) .none (.int _ _) (by omega) (fun h' t' k' F' N' e9 => ?_) (by with_unfolding_all rfl) (ht _ _)
  have e8 := congrArg byteArr e9
  rw [byteArr_ints] at e8
  rw [e8]
  have e7 : List.take ((some j).elim ns.length (clipAt ns.length) - (none : Option Int).elim 0 (clipAt ns.length)) (List.drop ((none : Option Int).elim 0 (clipAt ns.length)) ns) = ns.take j.toNat := by
    show List.take (clipAt ns.length j - 0) (List.drop 0 ns) = _
    obtain ⟨c, rfl⟩ := Int.eq_ofNat_of_zero_le h0
    rw [clipAt_nat, List.drop_zero, Nat.sub_zero, kmk_take_min]
    rfl
  rw [e7]
  exact q _ _ η2 h' k' ⟨rfl, rfl⟩ ⟨t', rfl⟩ ⟨m, news, F', N', hmm, hl, hnn⟩
/-- b' '.join([..]) -/
theorem E.join {ks : List UInt8} {pss : List (Array UInt8)} (hp : (apos.endLine == pos.line) = true) (hn : notStar e = true)
    (h : E C ρ η e fun p η1 => ∃ a, p = .ref a ∧ (a, HO.lst (pss.map PV.byt)) ∈ η1 ∧ 2 ≤ pss.length ∧ (Bytes.joined ks.toArray pss).size ≤ 100000 ∧ pss.foldl (fun n p => n + p.size) (ks.toArray.size * (pss.length - 1)) ≤ 100000 ∧ Φ (.byt (Bytes.joined ks.toArray pss)) η1) :
    E C ρ η (.Call (.Attribute (.Constant (.bytes ks) ck cp) "join" apos) [e] [] pos) Φ := fun ok s Q Er st q => by
  refine MethodCall_ (V.byc ok s _ Er st fun p v η1 h1 tk1 w i st1 => ?_) (mcall_eq rfl (form1 hn) hp)
  obtain ⟨rfl, rfl⟩ := w
  obtain ⟨t, rfl⟩ := i
  refine KBd.method_of _ (typeIs_bytes _ _ _) jn_slot jn_type KBd.noRef ?_
  refine callWith_method1 ?_ (star_plain hn) rfl
  refine (Es.cons (Ξ := fun ps η' => ∃ a, ps = [.ref a] ∧ (a, HO.lst (pss.map PV.byt)) ∈ η' ∧ 2 ≤ pss.length ∧ (Bytes.joined ks.toArray pss).size ≤ 100000 ∧ pss.foldl (fun n p => n + p.size) (ks.toArray.size * (pss.length - 1)) ≤ 100000 ∧ Φ (.byt (Bytes.joined ks.toArray pss)) η')
    (h.mono fun p η2 ⟨a, e1, h2, h3, h4, h5, h6⟩ => Es.nil ⟨a, by rw [e1], h2, h3, h4, h5, h6⟩) (star_plain hn)) ok _ pos _ Er st1 fun ps vs η2 h2 tk2 w2 is st2 => ?_
  obtain ⟨a, rfl, hm, k2, k3, k4, K⟩ := w2
  cases is with
  | cons i1 is =>
    cases is
    cases i1
    have st3 := st2
    obtain ⟨m, news, F, N, hmm, hl, hnn⟩ := st2
    obtain ⟨o, ho, us, sn, rfl, iv⟩ := hl.get hm
    exact call_meets jn_slot (typeIs_bytes _ _ _) jn_entry (jn_args _ _) (jn_meets _ t a pss us iv k2) ⟨⟨_, (N _ (List.mem_append_left _ ho)).1, rfl, sn, rfl⟩, by omega, by omega, fun t' k => q _ _ η2 h2 k K ⟨t', rfl⟩ st3⟩
end
end Mine
end
section
open PySem PySem.W PyProof.Rows PySem.Calls
set_option Elab.async false
set_option linter.unusedVariables false
set_option maxRecDepth 100000
namespace Mine
/-! a comprehension over a list that is made for it (a slice) -/
section
variable {osc : Scope} {C : Ctx (.fn osc)} {ρ : Rho} {η : Hp} {iter : Expr}
def CsN {osc : Scope} (C : Ctx (.fn osc)) (ρ : Rho) (η : Hp) (iter : Expr) (xs : List PV) (η₀ : Hp) : Prop :=
  ∀ (elt : Expr) (x : Str) (s : Scope) (cl : List (Str × Addr)) (Fin : List PV → Hp → Prop), s.kind = .function → C.Ok → ∀ (s' : Shared) (Er : Value → Shared → Prop) (m : Str → Option Value), StM C ρ η m s'.heap → CompGo C s cl elt x Fin xs [] η₀ →
    ∀ F9 : Shared → List Value → Led → Prop, (∀ ex g tk ys vys η' n', AreV ys vys → LedOf (ex :: η') n' → ((ex :: η').map (·.1) ++ C.hid.map (·.1)).Nodup → Fin ys η' → ys.length = xs.length → F9 (Sh s' g tk) vys (n' ++ C.hid)) →
    wpAny C.M C.A (eval iter C.env) (LCg.CompSrc Challenge.rw_pb0513_01.row.prog C.w C.A C.h₀ C.L m C.env elt x s cl F9) Er s'
theorem CsN.list {xs : List PV} {η₀ : Hp} (hi : EM C ρ η iter fun p η1 => ∃ a, p = .ref a ∧ η1 = (a, .lst xs) :: η₀) (hx : xs.length ≤ 1000) : CsN C ρ η iter xs η₀ := fun elt x s cl Fin h2 ok s' Er m st hg F9 hF => by
  refine hi ok s' _ Er m st fun p v η1 g tk w iv st1 => ?_
  obtain ⟨a, rfl, rfl⟩ := w
  obtain rfl : v = .ref a := iv
  obtain ⟨news, F, N, hm, hl, hn⟩ := st1
  cases hl with
  | @cons _ _ o _ n hx0 hl =>
    obtain ⟨vs, sn, rfl, ivs⟩ := hx0
    refine LCg.CompSrc.ledger (its := vs.toArray) (k := sn) rfl F N (.head _) (by rw [List.size_toArray, ivs.len, sizeLine_eq]; omega) fun g2 => ?_
    have e : vs.toArray.size = xs.length := by rw [List.size_toArray, ivs.len]
    rw [e]
    refine rest_go [(a, listOf vs.toArray sn)] ok h2 _ (fun nw => .inr ⟨_, .head _, rfl, _, rfl⟩) _ (Fin := fun ys η' => Fin ys η' ∧ ys.length = xs.length) (fun ys vys η' n' iy hl' hn' hF' => ?_) xs [] η₀ n [] 0 (fun j p e v hv => ?_) .nil hl (nodup_mid hn) ?_
    · exact hF (a, .lst xs) g2 tk ys vys η' (_ :: n') iy (LedOf.cons ⟨vs, sn, rfl, ivs⟩ hl') (nodup_mid' hn') hF'.1 hF'.2
    · obtain ⟨v', a1, a2⟩ := ivs.get e
      have hv' : vs.toArray[0 + j]? = some v := hv
      rw [Nat.zero_add] at hv'
      have hv2 : vs[j]? = some v := by simpa using hv'
      rw [a1] at hv2
      cases hv2
      exact a2
    · simpa using hg.len
section
variable {s : Scope} {elt : Expr} {x y : Str} {px py pos spos : Pos} {cl : List (Str × Addr)} {Fin : List PV → Hp → Prop} {xs : List PV} {η₀ : Hp} {ss : List Stmt} {Ψ : Rho → Hp → Flo → Prop}
/-- y = [elt for x in iter], written on one line, the source dropped -/
theorem R.compN (hsw : swapsWith (.ListComp elt [⟨.Name x px, iter, [], 0⟩] s pos) (some (.Name y py)) spos.line C.env = pure true) (hcl : closureFor s C.env = pure cl) (hc : compOk s x = true) (hy : osc.names.lookup y = some .local) (hi : CsN C ρ η iter xs η₀) (hx : xs.length ≤ 1000)
    (hg : CompGo C s cl elt x Fin xs [] η₀) (hf : ∀ ys η', Fin ys η' → ys.length = xs.length → ∀ l, R C ((y, .ref l) :: ρ) ((l, .lst ys) :: η') ss Ψ) (hs : ∀ z, foldedSetIterable iter C.env z = pure z) :
    R C ρ η (.Assign [.Name y py] (.ListComp elt [⟨.Name x px, iter, [], 0⟩] s pos) spos :: ss) Ψ := fun ok s' Q Er st q => by
  obtain ⟨h1, h2, h3, h4⟩ := compOk_out hc
  obtain ⟨m, st⟩ := st
  have hm := st.choose_spec.2.2.1
  refine wpAny_execs_cons (LCg.Assign_ListComp_U st.choose_spec.1 rfl hsw hcl h1 h2 h3 h4 (kindOf_env.trans hy) ?_ (hi elt x s cl Fin h2 ok s' Er m st hg _ fun ex g tk ys vys η' n' iy hl' hn' hF hlen => ?_) hs)
  · rw [kind_env ok]; rfl
  intro D h tk F' N' o1
  have st' : St C ((y, .ref D) :: ρ) ((D, .lst ys) :: ex :: η') h := by
    refine ⟨_, _ :: n', F', fun z hz => N' z hz, ?_, LedOf.cons ⟨vys, vys.length, rfl, iy⟩ hl', ?_⟩
    · refine ⟨trivial, fun z p' e => ?_⟩
      rw [List.lookup_cons] at e
      by_cases hz : z = y
      · subst hz
        simp at e
        exact ⟨.ref D, if_pos rfl, by subst e; rfl⟩
      · rw [show (z == y) = false from beq_eq_false_iff_ne.mpr hz] at e
        obtain ⟨v, a, b⟩ := hm.2 z p' e
        exact ⟨v, (if_neg hz).trans a, b⟩
    show (D :: ((ex :: η').map (·.1) ++ C.hid.map (·.1))).Nodup
    refine List.nodup_cons.mpr ⟨fun mm => ?_, hn'⟩
    have mm' : D ∈ (n' ++ C.hid).map (·.1) := by rw [List.map_append, hl'.keys]; exact mm
    obtain ⟨z, hz, e2⟩ := List.mem_map.mp mm'
    exact off1_of o1 z hz e2
  exact hf ys η' hF hlen D ok _ Q Er (st'.sub (.cons_cons _ (.cons _ (.refl _)))) q
end
end
/-! a slice of a list that stood before the call -/
theorem EM.sliceBase {sc : Shape} {C : Ctx sc} {ρ : Rho} {η : Hp} {x : Str} {a : Addr} {vs : List Value} {ns : List Int} {n : Int} {k ck : Nat} {pos p1 cp sp : Pos} {Φ : PV → Hp → Prop} (hx : look1 sc ρ x = some (.ref a)) (hb : C.h₀.IsList a vs.toArray) (hi : IntsAre vs ns) (hn : n = (k : Int)) (hz : ns.length ≤ 1000)
    (K : ∀ l, Φ (.ref l) ((l, .lst (intL (ns.take k))) :: η)) : EM C ρ η (.Subscript (.Name x p1) (.Slice none (some (.Constant (.int n) ck cp)) none sp) pos) Φ := fun ok s Q Er m st q => by
  subst hn
  refine Subscript_ (EM.lo (Φ := fun p η1 => p = .ref a ∧ η1 = η) hx ⟨rfl, rfl⟩ ok s _ Er m st fun p v η1 h1 tk1 w i st1 => ?_)
  obtain ⟨rfl, rfl⟩ := w
  obtain rfl : v = .ref a := i
  refine wpAny_Slice (part_none (part_some (wpAny_Constant_int (part_none ?_))))
  obtain ⟨news, F, N, hmm, hl, hnn⟩ := st1
  refine slice_list (s := Sh (Sh s h1 tk1) h1 (tk1 + 1)) F N (hb.at fun o e => F.keep a o e) .none (.int _ _) (fun h' F' N' => ?_) (by with_unfolding_all rfl) (by intro _; with_unfolding_all rfl) (by rw [List.size_toArray, hi.length, sizeLine_eq]; omega)
  have e := kmk_upto (y := (k : Int)) hi (Int.natCast_nonneg k)
  refine q (.ref _) _ _ h' _ (K _) rfl (StM.new (h := h1) F' N' (fun p hp => Nat.lt_succ_of_lt (Heap.lt_size (N p hp).1)) hmm hl ⟨(slicePick vs.toArray none (some (k : Int)) none).toList, 0, by rw [Array.toArray_toList], intL_of (by simpa using e)⟩ hnn)
section
variable {sc : Shape} {C : Ctx sc} {η : Hp}
/-- None, or a new tuple of an int and a bool -/
def RQ (o : Option (Int × Bool)) (η : Hp) (p : PV) (η' : Hp) : Prop := match o with
  | none => p = .non ∧ η' = η
  | some (q, b) => ∃ l, p = .ref l ∧ η' = (l, .tup [.int q, .bool b]) :: η
theorem CmpH.neQ {o : Option (Int × Bool)} {p1 p2 : PV} {η1 η2 : Hp} (h1 : RQ o η p1 η1) (h2 : RQ o η1 p2 η2) : CmpH C η2 .NotEq p1 p2 false := fun ok ρ Er s v1 v2 Q e1 e2 st q => by
  have hu := ok.hu
  have hu' : C.A.units + 64 < cLine := by show C.un + 64 < _; omega
  match o, h1, h2 with
  | none, ⟨h1, _⟩, ⟨h2, _⟩ =>
    subst h1 h2
    obtain rfl : v1 = .none := e1
    obtain rfl : v2 = .none := e2
    exact ne_dataH .none .none rfl rfl hu' (q s.toks)
  | some (n, b), ⟨l1, h1, h3⟩, ⟨l2, h2, h4⟩ =>
    subst h1 h2 h3 h4
    obtain rfl : v1 = .ref l1 := e1
    obtain rfl : v2 = .ref l2 := e2
    obtain ⟨m, news, F, N, hmm, hl, hn⟩ := st
    have rd : ∀ {l : Addr}, (l, HO.tup [.int n, .bool b]) ∈ (l2, HO.tup [.int n, .bool b]) :: (l1, HO.tup [.int n, .bool b]) :: η → ∃ as, Reads s.heap (.ref l) (.tuple [.int n, .bool b]) as := fun {l} hm => by
      obtain ⟨o, ho, vs, rfl, iv⟩ := hl.get hm
      cases iv with
      | cons i1 iv => cases iv with
        | cons i2 iv =>
          cases iv
          obtain ⟨t, rfl⟩ := i1
          cases i2
          exact ⟨_, reads_tuple_at (N _ (List.mem_append_left _ ho)).1 rfl rfl (.cons (.int n t) (.cons (.bool b) .nil))⟩
    obtain ⟨a1, r1⟩ := rd (l := l1) (.tail _ (.head _))
    obtain ⟨a2, r2⟩ := rd (l := l2) (.head _)
    have hs : SeqAt.shaped (.tuple [.int n, .bool b]) = true := by
      simp [SeqAt.shaped, PyData.canLay0, PyData.canLayAll0, PyData.depth, PyData.depthAll]
    refine ne_dataH r1 r2 hs hs hu' ?_
    have e : (PyData.tuple [.int n, .bool b]).eqv (.tuple [.int n, .bool b]) = true := by
      simp [PyData.eqv, PyData.eqvAll]
    rw [e]
    exact q s.toks
theorem Bin.subB {c d : Bool} : Bin .Sub (.bool c) (.bool d) (.int ((if c = true then 1 else 0) - if d = true then 1 else 0)) := fun _ _ _ _ _ _ _ e1 e2 q => by cases e1; cases e2; exact PyProof.Rows.sub_bool (q _ _ ⟨_, rfl⟩)
end
end Mine
end
section
open PySem PySem.W PyProof.Rows PySem.Calls
set_option Elab.async false
set_option linter.unusedVariables false
set_option maxRecDepth 100000
namespace Mine
section
variable {f : Addr} {k : Nat} {ps ps' : List PV} {η : Hp} {Φ : PV → Hp → Prop} {name qual : Str} {params : Arguments} {body : List Stmt} {scope : Scope} {dV kV doc pm cdv ct oc : Value} {an od : Option Addr} {osl : Array (Option Value)}
theorem Fn.enterD (names : List Str) (ρ₀ : Rho) (hρ : locs scope (names.zip ps') = ρ₀) (ho : ∀ P, List.lookup f (kK P) = some ⟨oc, od, .func (fnOf name qual params body scope dV kV doc pm an cdv ct), osl⟩) (hcd : ∀ P, codeIn (kK P) cdv qual = true)
    (hb : ∀ P s vs, AreV ps vs → (kK P).In s.heap → ∃ vs', AreV ps' vs' ∧ BindsTo s (fnOf name qual params body scope dV kV doc pm an cdv ct) ⟨vs, []⟩ (names.zip vs'))
    (hn : names.Nodup) (hl : ∀ x ∈ names, (scope.names.lookup x == some .local || scope.names.lookup x == some .cell) = true) (hcs : ∀ y ∈ cellsFrom 0 scope.names [], scope.names.lookup y.1 ≠ some .local) (hnd : ((cellsFrom 0 scope.names []).map (·.1)).Nodup)
    (hco : scope.isCoroutine = false) (hgen : scope.isGenerator = false) (hk : scope.kind = .function) (k1 : 1 ≤ k)
    (h : ∀ C : Ctx (.fn scope), k ≤ C.k + 1 → C.cl = cellsFrom (C.L + 1) scope.names [] → R C ρ₀ (cellsH (names.zip ps') C.cl ++ η) body (Back Φ)) : Fn f k ps η Φ := fun sc C hkC ok ρ s vs Q Er iv st q => by
  subst hρ
  have hr := ok.hd
  have hu := ok.hu
  obtain ⟨m, news, F, N, hm, hld, hnn⟩ := st
  obtain ⟨vs', iv', hb'⟩ := hb _ s vs iv (ok.X.keeps F.keep)
  refine wpAny_call (code_defC ok.B F ok.X N ok.T rfl rfl ok.hk (ho _) (hcd _) (by show C.dp < _; omega) hb' (List.all_eq_true.mpr fun y hy => hl _ (List.of_mem_zip hy).1) hnd (fun g L' h₁ tk cells FG F' N' Y B' X' T' low => ?_) hco hgen hk)
  have hkd : ∀ x, (envOfC qual scope L' f cdv).kindOf x = scope.names.lookup x := fun _ => rfl
  have names_eq : ∀ (a b : Nat) (l : List (Str × NameKind)) (u v : List (Str × Addr)), u.map (·.1) = v.map (·.1) → (cellsFrom a l u).map (·.1) = (cellsFrom b l v).map (·.1) := by
    intro a b l
    induction l generalizing a b with
    | nil => intro u v e; exact e
    | cons y r ih =>
      intro u v e
      obtain ⟨x, kd⟩ := y
      unfold cellsFrom
      split
      · exact ih _ _ _ _ (by rw [List.map_cons, List.map_cons, e])
      · exact ih _ _ _ _ e
  have hcs' : ∀ y ∈ cellsFrom (L' + 1) scope.names [], (envOfC qual scope L' f cdv).kindOf y.1 ≠ some .local := fun y hy => by
    have z : y.1 ∈ (cellsFrom (L' + 1) scope.names []).map (·.1) := List.mem_map_of_mem (f := Prod.fst) hy
    rw [names_eq (L' + 1) 0 _ _ [] rfl] at z
    obtain ⟨w, hw, e⟩ := List.mem_map.mp z
    rw [hkd, ← e]
    exact hcs w hw
  have CL := cells_led iv' hn hcs' Y
  have cf := cf_facts scope.names (L' + 1) [] (fun _ h => nomatch h) .nil
  have hkeys : (cellsH (names.zip ps') (cellsFrom (L' + 1) scope.names [])).map (·.1) = (cellsFrom (L' + 1) scope.names []).map (·.2) := by
    unfold cellsH; rw [List.map_map]; rfl
  have hnd2 : ((cellsH (names.zip ps') (cellsFrom (L' + 1) scope.names []) ++ η).map (·.1) ++ C.hid.map (·.1)).Nodup := by
    rw [List.map_append, List.append_assoc, hkeys]
    refine List.nodup_append.mpr ⟨cf.1, hnn, fun u hu v hv e => ?_⟩
    subst e
    obtain ⟨y, hy, e⟩ := List.mem_map.mp hu
    have hy2 : L' + 1 ≤ y.2 := (cf.2 y hy).resolve_left fun h => nomatch h
    have hv' : u ∈ (C.all news).map (·.1) := by
      rw [Ctx.all, List.map_append, hld.keys]; exact hv
    obtain ⟨q, hq, e2⟩ := List.mem_map.mp hv'
    have hq2 := low q hq
    rw [e2, ← e] at hq2
    exact Nat.lt_irrefl _ (Nat.lt_trans hq2 hy2)
  refine h ⟨C.w, C.mean, C.mg, C.mb, C.dp + 1, C.un + 3, C.k - 1, C.gd, qual, f, cdv, cellsFrom (L' + 1) scope.names [], C.fenv :: C.outer, C.A, C.base, g, L', C.hid, 0, [], fun _ => none, fun _ => none⟩ (by show k ≤ C.k - 1 + 1; omega) rfl
    ⟨B', X', T', hk, by show C.dp + 1 + (C.k - 1) < _; omega, by show C.un + 3 + 8 * (C.k - 1) + 70 < _; omega, trivial⟩ _ _ _
    ⟨_, cells ++ news, F', fun z hz => N' z (by rw [Ctx.all, ← List.append_assoc]; exact hz), ⟨trivial, fun x p e => ?_⟩, CL.app hld, hnd2⟩ (fun fl flv ρ' η' h' tk' w i st' => ?_)
  · have z := locs_get e
    rcases bindL_get (K := (envOfC qual scope L' f cdv).kindOf) (by rw [hkd]; exact z.1) iv' names (fun _ => none) hn with ⟨e1, _⟩ | ⟨p', v, e1, e2, e3⟩
    · rw [z.2] at e1; cases e1
    · rw [z.2] at e1; cases e1
      exact ⟨v, e2, e3⟩
  have go : ∀ p v, Is p v → (∃ η'', List.Sublist η'' η' ∧ Φ p η'') → LeaveK C.h₀ C.L m g (fun r s' => match r with | .ok (.ret v) => Q v s' | .ok _ => False | .error e => Er e s') v (Sh s h' tk') := fun p v i ⟨η'', hs, w⟩ => by
    obtain ⟨m', news', F2, N2, hm2, hl2, hn2⟩ := st'.sub hs
    exact leaveK_ F2 N2 fun F3 N3 => q p v η'' h' tk' w i ⟨m, news', F3, N3, hm, hl2, hn2⟩
  cases fl with
  | next => obtain rfl : flv = .next := i; exact go .non .none rfl w
  | brk => exact w.elim
  | cont => exact w.elim
  | ret p => obtain ⟨v, rfl, i⟩ := i; exact go p v i w
end
end Mine
end
section
open PySem PySem.W PyProof.Rows PySem.Calls
set_option Elab.async false
set_option linter.unusedVariables false
set_option maxRecDepth 100000
namespace Mine
section
variable {sc : Shape} {C : Ctx sc} {ρ : Rho} {η : Hp} {e r1 r2 : Expr} {p0 p1 p2 : PV} {op1 op2 : CmpOp} {b1 b2 : Bool} {pos : Pos}
/-- a chain of two comparisons -/
theorem V.chain (h0 : V C ρ η e p0) (h1 : V C ρ η r1 p1) (h2 : V C ρ η r2 p2) (c1 : Cmp op1 p0 p1 b1) (c2 : Cmp op2 p1 p2 b2) (hm : lastMarks [op1, op2] [r1, r2] = false) : V C ρ η (.Compare e [op1, op2] [r1, r2] pos) (.bool (b1 && b2)) := fun ok s Q Er st q => by
  refine Compare_chain (h0 ok s _ Er st fun q0 v0 η0 g0 tk0 w0 i0 st0 => ?_) hm
  obtain ⟨rfl, rfl⟩ := w0
  refine chain_link (h1 ok _ _ Er st0 fun q1 v1 η1 g1 tk1 w1 i1 st1 => ?_)
  obtain ⟨rfl, rfl⟩ := w1
  refine c1 _ _ Er _ v0 v1 _ i0 i1 fun tk2 => wpAny_truthy_bool ?_
  cases b1 with
  | false => exact q _ _ _ _ _ ⟨rfl, rfl⟩ rfl st1
  | true =>
    rw [if_pos rfl]
    refine chain_last (h2 ok _ _ Er st1 fun q2 v2 η2 g2 tk3 w2 i2 st2 => ?_)
    obtain ⟨rfl, rfl⟩ := w2
    exact c2 _ _ Er _ v1 v2 _ i1 i2 fun tk4 => q _ _ _ _ _ ⟨rfl, rfl⟩ (by show Value.bool b2 = Value.bool (true && b2); rw [Bool.true_and]) st2
theorem W.chain (h0 : V C ρ η e p0) (h1 : V C ρ η r1 p1) (h2 : V C ρ η r2 p2) (c1 : Cmp op1 p0 p1 b1) (c2 : Cmp op2 p1 p2 b2) (hm : lastMarks [op1, op2] [r1, r2] = false) : W C ρ η (.Compare e [op1, op2] [r1, r2] pos) (b1 && b2) := fun ok s Q Er st q => by
  refine isTrue_chain (h0 ok s _ Er st fun q0 v0 η0 g0 tk0 w0 i0 st0 => ?_) hm
  obtain ⟨rfl, rfl⟩ := w0
  refine test_link (h1 ok _ _ Er st0 fun q1 v1 η1 g1 tk1 w1 i1 st1 => ?_)
  obtain ⟨rfl, rfl⟩ := w1
  refine c1 _ _ Er _ v0 v1 _ i0 i1 fun tk2 => wpAny_truthy_bool ?_
  cases b1 with
  | false => exact q _ _ _ _ ⟨rfl, rfl⟩ st1
  | true =>
    rw [if_pos rfl]
    refine test_last (h2 ok _ _ Er st1 fun q2 v2 η2 g2 tk3 w2 i2 st2 => ?_)
    obtain ⟨rfl, rfl⟩ := w2
    exact c2 _ _ Er _ v1 v2 _ i1 i2 fun tk4 => wpAny_truthy_bool (q _ _ _ _ ⟨(Bool.true_and _).symm, rfl⟩ st2)
end
end Mine
end
section
open PySem PySem.W PyProof.Rows PySem.Calls
set_option Elab.async false
set_option linter.unusedVariables false
set_option maxRecDepth 100000
namespace Mine
section
variable {sc : Shape} {C : Ctx sc} {ρ : Rho} {η η2 : Hp} {e e1 e2 : Expr} {pos p1 : Pos} {f : Addr} {k : Nat} {ps : List PV} {p : PV} {Φ Φ' : PV → Hp → Prop} {Θ Θ' : Bool → Hp → Prop} {body ss : List Stmt} {Ψ : Rho → Hp → Flo → Prop} {K : Hp → Prop}
theorem Fn.out (h : Fn f k ps η Φ) (m : ∀ p η', Φ p η' → ∃ η'', η'.Perm η'' ∧ Φ' p η'') : Fn f k ps η Φ' := fun sc C hk ok ρ s vs Q Er iv st q => h sc C hk ok ρ s vs Q Er iv st fun p v η' h' tk' w i st' => by
  obtain ⟨η'', hp, w'⟩ := m p η' w
  exact q p v η'' h' tk' w' i (st'.perm hp)
theorem Fn.inOut (hp : η.Perm η2) (h : Fn f k ps η2 fun q η' => q = p ∧ η' = η2) : Pure f k ps η p := (Fn.perm hp h).out fun q η' ⟨e1, e2⟩ => ⟨η, by rw [e2]; exact hp.symm, e1, rfl⟩
theorem T.mono (h : T C ρ η e Θ) (m : ∀ b η', Θ b η' → Θ' b η') : T C ρ η e Θ' := fun ok s Q Er st q => h ok s Q Er st fun b η' h' tk' w st' => q b η' h' tk' (m _ _ w) st'
/-- a branch that is not taken -/
theorem R.ifn (h : T C ρ η e fun b η1 => b = false ∧ R C ρ η1 ss Ψ) : R C ρ η (.If e body [] pos :: ss) Ψ := R.ife (h.mono fun b η' ⟨e1, e2⟩ => ⟨fun h => (by rw [e1] at h; cases h), fun _ => R.nil e2⟩)
theorem T.orf (h : T C ρ η e1 fun b η1 => b = false ∧ T C ρ η1 e2 fun b η2 => b = false ∧ K η2) : T C ρ η (.BoolOp .Or [e1, e2] pos) fun b η' => b = false ∧ K η' :=
  T.or (h.mono fun b η' ⟨e1, w⟩ => ⟨fun h => (by rw [e1] at h; cases h), fun _ => T.or (w.mono fun b η' ⟨e1, w⟩ => ⟨fun h => (by rw [e1] at h; cases h), fun _ => T.or0 ⟨rfl, w⟩⟩)⟩)
theorem Cmp.neB {c d : Bool} : Cmp .NotEq (.bool c) (.bool d) (c != d) := fun _ _ _ _ _ _ _ e1 e2 q => by cases e1; cases e2; exact ne_bool (q _)
end
theorem perm_two {α : Type} {x y : α} (p1 p2 p3 : List α) : (p1 ++ x :: (p2 ++ y :: p3)).Perm (x :: y :: (p1 ++ (p2 ++ p3))) :=
  List.perm_middle.trans (.cons _ (((List.Perm.refl p1).append List.perm_middle).trans List.perm_middle))
end Mine
end
section
open PySem PySem.W PyProof.Rows
set_option Elab.async false
namespace Mine
abbrev bits := Builtin.Int.intBits
/-- n over b, to the nearest whole number, halves away from nought -/
def rnd (n b : Int) : Int := if (n < 0) = (b < 0) then (((2 * n.natAbs + b.natAbs) / (2 * b.natAbs) : Nat) : Int) else -(((2 * n.natAbs + b.natAbs) / (2 * b.natAbs) : Nat) : Int)
theorem noPy {x y : Int} {k : Nat} (h : bits y ≤ k) (hk : k ≤ 8999) : Builtin.divisionGoesByPylong x y = false := by
  refine PyProof.noPylong_of_log2 ?_
  by_cases h0 : y.natAbs = 0
  · rw [h0]; decide +kernel
  · exact (Nat.log2_lt h0).mpr (Nat.lt_of_lt_of_le (intBits_le_iff.mp h) (Nat.pow_le_pow_right (by decide) (by omega)))
theorem abs_ite (n : Int) : (if n < 0 then -n else n) = ((n.natAbs : Nat) : Int) := by split <;> omega
theorem near_div (N B : Nat) (hB : 0 < B) : (2 * N + B) / (2 * B) = if B ≤ 2 * (N % B) then N / B + 1 else N / B := by
  have e := Nat.div_add_mod N B
  have r := Nat.mod_lt N hB
  generalize N / B = q at *
  generalize N % B = k at *
  subst e
  have e2 : 2 * (B * q + k) + B = 2 * k + B + q * (2 * B) := by rw [Nat.mul_add, ← Nat.mul_assoc, Nat.mul_comm q]; omega
  rw [e2, Nat.add_mul_div_right _ _ (by omega)]
  split
  · rw [show (2 * k + B) / (2 * B) = 1 from Nat.div_eq_of_lt_le (by omega) (by omega)]; omega
  · rw [Nat.div_eq_of_lt (by omega)]; omega
theorem abs_fdiv (n b : Int) : (if n < 0 then -n else n).fdiv (if b < 0 then -b else b) = ((n.natAbs / b.natAbs : Nat) : Int) := by
  rw [abs_ite, abs_ite]; exact (Int.ofNat_fdiv _ _).symm
theorem abs_fmod (n b : Int) : (if n < 0 then -n else n).fmod (if b < 0 then -b else b) = ((n.natAbs % b.natAbs : Nat) : Int) := by
  rw [abs_ite, abs_ite]; rw [Int.fmod_eq_emod_of_nonneg _ (by omega)]; exact (Int.natCast_emod _ _).symm
theorem sgn_iff (n b : Int) : (decide (n < 0) == decide (b < 0)) = true ↔ (n < 0) = (b < 0) := by
  rw [beq_iff_eq, decide_eq_decide, eq_iff_iff]
theorem part_end {n b x : Int} {c : Bool} (h1 : (decide (n < 0) == decide (b < 0)) = c)
    (hx : x = if c = true then (((2 * n.natAbs + b.natAbs) / (2 * b.natAbs) : Nat) : Int) else -(((2 * n.natAbs + b.natAbs) / (2 * b.natAbs) : Nat) : Int)) : x = rnd n b := by
  rw [hx, rnd]
  cases c with
  | true => rw [if_pos rfl, if_pos ((sgn_iff n b).mp h1)]
  | false => rw [if_neg Bool.false_ne_true, if_neg fun q => by rw [(sgn_iff n b).mpr q] at h1; cases h1]
theorem part_up {n b x : Int} (h0 : b ≠ 0) {c : Bool} (h1 : (decide (n < 0) == decide (b < 0)) = c) (h2 : (if b < 0 then -b else b) ≤ 2 * (if n < 0 then -n else n).fmod (if b < 0 then -b else b))
    (hx : x = if c = true then (if n < 0 then -n else n).fdiv (if b < 0 then -b else b) + 1 else -((if n < 0 then -n else n).fdiv (if b < 0 then -b else b) + 1)) : x = rnd n b := by
  refine part_end h1 ?_
  rw [hx, abs_fdiv, near_div _ _ (show 0 < b.natAbs by omega)]
  rw [abs_fmod, abs_ite] at h2
  rw [if_pos (show b.natAbs ≤ 2 * (n.natAbs % b.natAbs) by omega)]
  rfl
theorem part_low {n b x : Int} (h0 : b ≠ 0) {c : Bool} (h1 : (decide (n < 0) == decide (b < 0)) = c) (h2 : ¬ (if b < 0 then -b else b) ≤ 2 * (if n < 0 then -n else n).fmod (if b < 0 then -b else b))
    (hx : x = if c = true then (if n < 0 then -n else n).fdiv (if b < 0 then -b else b) else -((if n < 0 then -n else n).fdiv (if b < 0 then -b else b))) : x = rnd n b := by
  refine part_end h1 ?_
  rw [hx, abs_fdiv, near_div _ _ (show 0 < b.natAbs by omega)]
  rw [abs_fmod, abs_ite] at h2
  rw [if_neg (show ¬ b.natAbs ≤ 2 * (n.natAbs % b.natAbs) by omega)]
theorem div_end {n b x : Int} {c : Bool} (h1 : (decide (n < 0) == decide (b < 0)) = c)
    (hx : x = if c = true then ((2 * if n < 0 then -n else n) + if b < 0 then -b else b).fdiv (2 * if b < 0 then -b else b) else -(((2 * if n < 0 then -n else n) + if b < 0 then -b else b).fdiv (2 * if b < 0 then -b else b))) : PV.int x = PV.int (rnd n b) := by
  refine congrArg PV.int (part_end h1 ?_)
  rw [hx]
  have e : ((2 * if n < 0 then -n else n) + if b < 0 then -b else b).fdiv (2 * if b < 0 then -b else b) = (((2 * n.natAbs + b.natAbs) / (2 * b.natAbs) : Nat) : Int) := by
    rw [abs_ite, abs_ite]
    exact (Int.ofNat_fdiv _ _).symm
  rw [e]
theorem layB {x : Int} {k : Nat} (h : bits x ≤ k) (hk : Nat.ble k 1000000 = true) : PyData.layable0 (.int x) = true := by
  have h1 := Nat.le_of_ble_eq_true hk
  have hw : PyData.weight (.int x) = bits x := by simp only [PyData.weight, bits, Builtin.Int.intBits]
  have h2 : PyData.weight (.int x) ≤ 2 ^ 20 := by rw [hw]; omega
  simp only [PyData.layable0, PyData.canLay0, Bool.true_and, Bool.and_eq_true, decide_eq_true_eq]
  exact ⟨by simp [PyData.depth], h2⟩
theorem mulB {a b : Int} {m n : Nat} (ha : bits a ≤ m) (hb : bits b ≤ n) (h : Nat.ble (m + n) 1000000 = true) : IntMulOk a b :=
  PyProof.Rows.mulOk_of_bits ha hb (Nat.le_trans (Nat.le_of_ble_eq_true h) (by decide))
theorem noPyB {x y : Int} {k : Nat} (h : bits y ≤ k) (hk : Nat.ble k 8999 = true) : Builtin.divisionGoesByPylong x y = false := noPy h (Nat.le_of_ble_eq_true hk)
theorem rnd_abs (n b : Int) (h0 : b ≠ 0) : (rnd n b).natAbs ≤ n.natAbs + 1 := by
  have h : (2 * n.natAbs + b.natAbs) / (2 * b.natAbs) ≤ n.natAbs + 1 := by
    rw [near_div _ _ (by omega)]
    have := Nat.div_le_self n.natAbs b.natAbs
    split <;> omega
  unfold rnd
  generalize (2 * n.natAbs + b.natAbs) / (2 * b.natAbs) = q at *
  split
  · rw [Int.natAbs_natCast]; exact h
  · rw [Int.natAbs_neg, Int.natAbs_natCast]; exact h
theorem bits_rnd {n b : Int} {k : Nat} (h : bits n ≤ k) : bits (rnd n b) ≤ k + 1 := by
  by_cases h0 : b = 0
  · subst h0
    have e : rnd n 0 = 0 := by unfold rnd; split <;> simp
    rw [e]
    exact Nat.le_trans (by decide : bits 0 ≤ 0) (Nat.zero_le _)
  · have h1 := intBits_le_iff.mp h
    refine intBits_le_iff.mpr ?_
    have h2 := rnd_abs n b h0
    rw [Nat.pow_succ]
    have : 0 < 2 ^ k := Nat.two_pow_pos k
    generalize 2 ^ k = z at *
    omega
theorem bits_of_abs {x : Int} {k : Nat} (h : x.natAbs < 2 ^ k) : bits x ≤ k := intBits_le_iff.mpr h
end Mine
end
section
open PySem PySem.W PyProof.Rows PySem.Calls
set_option Elab.async false
set_option linter.unusedVariables false
set_option maxRecDepth 100000
set_option maxHeartbeats 4000000
namespace Mine
theorem i_decimal_octets : IsFn "decimal_octets" 54 := ⟨fun P => by kernel_rfl, fun P => by kernel_rfl⟩
theorem i_divided : IsFn "divided" 61 := ⟨fun P => by kernel_rfl, fun P => by kernel_rfl⟩
theorem i_number_octets : IsFn "number_octets" 68 := ⟨fun P => by kernel_rfl, fun P => by kernel_rfl⟩
theorem i_whole_root : IsFn "whole_root" 75 := ⟨fun P => by kernel_rfl, fun P => by kernel_rfl⟩
theorem i_root : IsFn "root" 82 := ⟨fun P => by kernel_rfl, fun P => by kernel_rfl⟩
theorem i_matrix_quotient : IsFn "matrix_quotient" 89 := ⟨fun P => by kernel_rfl, fun P => by kernel_rfl⟩
theorem i_identity : IsFn "identity" 96 := ⟨fun P => by kernel_rfl, fun P => by kernel_rfl⟩
theorem i_scaling : IsFn "scaling" 103 := ⟨fun P => by kernel_rfl, fun P => by kernel_rfl⟩
theorem i_matrix_copy : IsFn "matrix_copy" 108 := ⟨fun P => by kernel_rfl, fun P => by kernel_rfl⟩
theorem i_concat : IsFn "concat" 115 := ⟨fun P => by kernel_rfl, fun P => by kernel_rfl⟩
theorem i_determinant : IsFn "determinant" 122 := ⟨fun P => by kernel_rfl, fun P => by kernel_rfl⟩
theorem i_is_singular : IsFn "is_singular" 129 := ⟨fun P => by kernel_rfl, fun P => by kernel_rfl⟩
theorem i_delta_transform : IsFn "delta_transform" 136 := ⟨fun P => by kernel_rfl, fun P => by kernel_rfl⟩
theorem i_is_identity : IsFn "is_identity" 143 := ⟨fun P => by kernel_rfl, fun P => by kernel_rfl⟩
theorem i_is_upright : IsFn "is_upright" 150 := ⟨fun P => by kernel_rfl, fun P => by kernel_rfl⟩
theorem i_is_mirror : IsFn "is_mirror" 157 := ⟨fun P => by kernel_rfl, fun P => by kernel_rfl⟩
theorem i_matrix_scale : IsFn "matrix_scale" 164 := ⟨fun P => by kernel_rfl, fun P => by kernel_rfl⟩
theorem i_matrix_stretch : IsFn "matrix_stretch" 171 := ⟨fun P => by kernel_rfl, fun P => by kernel_rfl⟩
theorem i_matrix_length : IsFn "matrix_length" 178 := ⟨fun P => by kernel_rfl, fun P => by kernel_rfl⟩
theorem i_matrix_root : IsFn "matrix_root" 185 := ⟨fun P => by kernel_rfl, fun P => by kernel_rfl⟩
theorem i_is_near : IsFn "is_near" 191 := ⟨fun P => by kernel_rfl, fun P => by kernel_rfl⟩
theorem i_matrix_between : IsFn "matrix_between" 198 := ⟨fun P => by kernel_rfl, fun P => by kernel_rfl⟩
theorem i_default_matrix : IsFn "default_matrix" 205 := ⟨fun P => by kernel_rfl, fun P => by kernel_rfl⟩
theorem i_image_matrix : IsFn "image_matrix" 212 := ⟨fun P => by kernel_rfl, fun P => by kernel_rfl⟩
theorem i_font_matrix : IsFn "font_matrix" 219 := ⟨fun P => by kernel_rfl, fun P => by kernel_rfl⟩
theorem i_matrix_octets : IsFn "matrix_octets" 224 := ⟨fun P => by kernel_rfl, fun P => by kernel_rfl⟩
theorem i_turns_of : IsFn "turns_of" 231 := ⟨fun P => by kernel_rfl, fun P => by kernel_rfl⟩
theorem i_law_draw : IsFn "_law_draw" 238 := ⟨fun P => by kernel_rfl, fun P => by kernel_rfl⟩
theorem i_law_number : IsFn "_law_number" 245 := ⟨fun P => by kernel_rfl, fun P => by kernel_rfl⟩
theorem i_law_part : IsFn "_law_part" 252 := ⟨fun P => by kernel_rfl, fun P => by kernel_rfl⟩
theorem i_law_looks_right : IsFn "_law_looks_right" 257 := ⟨fun P => by kernel_rfl, fun P => by kernel_rfl⟩
theorem i_law_between_right : IsFn "_law_between_right" 262 := ⟨fun P => by kernel_rfl, fun P => by kernel_rfl⟩
theorem i_law_made_right : IsFn "_law_made_right" 267 := ⟨fun P => by kernel_rfl, fun P => by kernel_rfl⟩
theorem i_law_written : IsFn "_law_written" 274 := ⟨fun P => by kernel_rfl, fun P => by kernel_rfl⟩
theorem i_law_quarters : IsFn "_law_quarters" 279 := ⟨fun P => by kernel_rfl, fun P => by kernel_rfl⟩
theorem g_abs (P : Params) : nsIn (kK P) mainGlobals "abs" = some none := by kernel_rfl
theorem g_divmod (P : Params) : nsIn (kK P) mainGlobals "divmod" = some none := by kernel_rfl
theorem g_zip (P : Params) : nsIn (kK P) mainGlobals "zip" = some none := by kernel_rfl
theorem g_all (P : Params) : nsIn (kK P) mainGlobals "all" = some none := by kernel_rfl
theorem g_max (P : Params) : nsIn (kK P) mainGlobals "max" = some none := by kernel_rfl
theorem g_int (P : Params) : nsIn (kK P) mainGlobals "int" = some none := by kernel_rfl
theorem g_list (P : Params) : nsIn (kK P) mainGlobals "list" = some none := by kernel_rfl
theorem g_bytes (P : Params) : nsIn (kK P) mainGlobals "bytes" = some none := by kernel_rfl
theorem g_len (P : Params) : nsIn (kK P) mainGlobals "len" = some none := by kernel_rfl
theorem g_range (P : Params) : nsIn (kK P) mainGlobals "range" = some none := by kernel_rfl
theorem g_grain : ∃ t, ∀ P, nsIn (kK P) mainGlobals "GRAIN" = some (some (.int 1000000 t)) := ⟨189, fun P => by kernel_rfl⟩
theorem g_lone : ∃ t, ∀ P, nsIn (kK P) mainGlobals "_law_one" = some (some (.int 1000000 t)) := ⟨471, fun P => by kernel_rfl⟩
theorem g_integer : ∃ t, ∀ P, nsIn (kK P) mainGlobals "INTEGER" = some (some (.str "integer" t)) := ⟨247, fun P => by kernel_rfl⟩
section
variable {sc : Shape} {C : Ctx sc} {ρ : Rho} {η : Hp} {pos : Pos}
theorem V.grain (hg : isGlob sc "GRAIN" = true) : V C ρ η (.Name "GRAIN" pos) (.int 1000000) := V.gl (g_grain.choose_spec _) ⟨_, rfl⟩ hg
theorem V.lone (hg : isGlob sc "_law_one" = true) : V C ρ η (.Name "_law_one" pos) (.int 1000000) := V.gl (g_lone.choose_spec _) ⟨_, rfl⟩ hg
theorem V.integer (hg : isGlob sc "INTEGER" = true) : V C ρ η (.Name "INTEGER" pos) (.str "integer") := V.gl (g_integer.choose_spec _) ⟨_, rfl⟩ hg
end
end Mine
end
section
open PySem PySem.W PyProof.Rows PySem.Calls
set_option Elab.async false
set_option linter.unusedVariables false
set_option maxRecDepth 100000
set_option maxHeartbeats 4000000
namespace Mine
theorem warm_F1 : PySem.Challenge.rw_pb0513_01.Holds → kK = kK := by
  k_fill
  intro _; rfl
theorem f_divided (η : Hp) (n b : Int) (b_n : bits n ≤ 500) (b_b : bits b ≤ 100) (h0 : b ≠ 0) : Pure 61 1 [.int n, .int b] η (.int (rnd n b)) := by
  refine' Fn.enter2 "number" "by" (fun P => ?ho) (fun P => ?hcd) (fun s v1 v2 => ?hb) ?he ?h
  case ho => exact rfl
  case hcd => kernel_rfl
  case hb => exact BindsTo.of_eq rfl
  case he => rfl
  intro C hC
  refine' R.tupS ["size", "parts"] (E.tup (Vs.up (ps := [.int (if n < 0 then -n else n), .int (if b < 0 then -b else b)]) ?vs ⟨Nat.le_of_ble_eq_true rfl, fun l => ⟨_, _, rfl, .head _, rfl, _, _, .cons (Sto.loc rfl) (.cons (Sto.loc rfl) .nil), R.drop ?_⟩⟩)) rfl rfl
  case vs => (with_reducible repeat' first
    | exact V.int
    | (refine' V.lo ?a9; (case a9 => with_unfolding_all exact rfl))
    | (refine' V.grain ?g9; (case g9 => with_unfolding_all exact rfl)) | (refine' V.lone ?g9; (case g9 => with_unfolding_all exact rfl))
    | refine' V.bin ?_ ?_ ?_
    | refine' V.una ?_ ?_
    | (refine' V.cmp ?_ ?_ ?_ ?d9; (case d9 => with_unfolding_all exact rfl))
    | (refine' W.cmp ?_ ?_ ?_ ?d9; (case d9 => with_unfolding_all exact rfl))
    | refine' V.iti ?_ ?_ ?_
    | (refine' V.abs (g_abs _) ?g9 ?_ ?n9; (case g9 => with_unfolding_all exact rfl); (case n9 => with_unfolding_all exact rfl))
    | refine' V.itc ?_ ?_ ?_
    | exact V.boolc | exact V.nonec | refine' V.bone ?_ | (refine' V.band ?_ (fun _ => ?_)) | (refine' V.bor ?_ (fun _ => ?_)) | (refine' V.not ?_)
    | (refine' W.not ?_) | exact W.and0 | exact W.or0 | (refine' W.and ?_ (fun _ => ?_)) | (refine' W.or ?_ (fun _ => ?_))
    | (refine' W.of ?_ ?d9; (case d9 => with_unfolding_all exact rfl))
    | exact Vs.nil | (refine' Vs.cons ?_ ?n9 ?_; (case n9 => with_unfolding_all exact rfl))
    | exact Bin.add | exact Bin.sub | (refine' Bin.mul (mulB ?m9 ?n9 ?o9); (case m9 => (with_reducible repeat' first | exact b_n | exact b_b | refine' PyProof.Rows.bits_mul ?_ ?_ | refine' PyProof.Rows.bits_add ?_ ?_ | refine' PyProof.Rows.bits_sub ?_ ?_ | refine' PyProof.Rows.bits_neg ?_ | refine' PyProof.Rows.bits_ite ?_ ?_ | refine' bits_rnd ?_ | refine' PyProof.Rows.bits_fdiv ?_ | refine' PyProof.Rows.bits_fmod ?_ ?_ | exact Nat.le_refl _)); (case n9 => (with_reducible repeat' first | exact b_n | exact b_b | refine' PyProof.Rows.bits_mul ?_ ?_ | refine' PyProof.Rows.bits_add ?_ ?_ | refine' PyProof.Rows.bits_sub ?_ ?_ | refine' PyProof.Rows.bits_neg ?_ | refine' PyProof.Rows.bits_ite ?_ ?_ | refine' bits_rnd ?_ | refine' PyProof.Rows.bits_fdiv ?_ | refine' PyProof.Rows.bits_fmod ?_ ?_ | exact Nat.le_refl _)); (case o9 => with_unfolding_all exact rfl)) | (refine' Bin.mod ?m9; (case m9 => first | decide | exact h0 | omega)) | (refine' Bin.fdiv ?m9 (noPyB ?n9 ?o9); (case m9 => first | decide | omega); (case n9 => (with_reducible repeat' first | exact b_n | exact b_b | refine' PyProof.Rows.bits_mul ?_ ?_ | refine' PyProof.Rows.bits_add ?_ ?_ | refine' PyProof.Rows.bits_sub ?_ ?_ | refine' PyProof.Rows.bits_neg ?_ | refine' PyProof.Rows.bits_ite ?_ ?_ | refine' bits_rnd ?_ | refine' PyProof.Rows.bits_fdiv ?_ | refine' PyProof.Rows.bits_fmod ?_ ?_ | exact Nat.le_refl _)); (case o9 => with_unfolding_all exact rfl)) | exact Una.neg
    | exact Cmp.lt | exact Cmp.le | exact Cmp.gt | exact Cmp.ge | exact Cmp.eq | exact Cmp.ne | exact Cmp.eqB
    | exact ItemOf.lst hm | (with_unfolding_all exact ItemOf.lst (.head _)) | (with_unfolding_all exact ItemOf.lst (.tail _ (.head _))) | exact ItemOf.tup hm | (with_unfolding_all exact ItemOf.tup (.head _))
    | exact Nat.le_trans (Nat.le_of_ble_eq_true rfl) hC | ((show _ ≠ _); first | exact h0 | decide | omega)
        | (refine' Nat.le_trans ?m9 (Nat.le_of_ble_eq_true ?o9); (case m9 => (with_reducible repeat' first | exact b_n | exact b_b | refine' PyProof.Rows.bits_mul ?_ ?_ | refine' PyProof.Rows.bits_add ?_ ?_ | refine' PyProof.Rows.bits_sub ?_ ?_ | refine' PyProof.Rows.bits_neg ?_ | refine' PyProof.Rows.bits_ite ?_ ?_ | refine' bits_rnd ?_ | refine' PyProof.Rows.bits_fdiv ?_ | refine' PyProof.Rows.bits_fmod ?_ ?_ | exact Nat.le_refl _)); (case o9 => with_unfolding_all exact rfl))
    | (with_unfolding_all exact rfl))
  refine' R.as1 ?v9 ?k9 ?s9 ?_
  case v9 => (with_reducible repeat' first
    | exact V.int
    | (refine' V.lo ?a9; (case a9 => with_unfolding_all exact rfl))
    | (refine' V.grain ?g9; (case g9 => with_unfolding_all exact rfl)) | (refine' V.lone ?g9; (case g9 => with_unfolding_all exact rfl))
    | refine' V.bin ?_ ?_ ?_
    | refine' V.una ?_ ?_
    | (refine' V.cmp ?_ ?_ ?_ ?d9; (case d9 => with_unfolding_all exact rfl))
    | (refine' W.cmp ?_ ?_ ?_ ?d9; (case d9 => with_unfolding_all exact rfl))
    | refine' V.iti ?_ ?_ ?_
    | (refine' V.abs (g_abs _) ?g9 ?_ ?n9; (case g9 => with_unfolding_all exact rfl); (case n9 => with_unfolding_all exact rfl))
    | refine' V.itc ?_ ?_ ?_
    | exact V.boolc | exact V.nonec | refine' V.bone ?_ | (refine' V.band ?_ (fun _ => ?_)) | (refine' V.bor ?_ (fun _ => ?_)) | (refine' V.not ?_)
    | (refine' W.not ?_) | exact W.and0 | exact W.or0 | (refine' W.and ?_ (fun _ => ?_)) | (refine' W.or ?_ (fun _ => ?_))
    | (refine' W.of ?_ ?d9; (case d9 => with_unfolding_all exact rfl))
    | exact Vs.nil | (refine' Vs.cons ?_ ?n9 ?_; (case n9 => with_unfolding_all exact rfl))
    | exact Bin.add | exact Bin.sub | (refine' Bin.mul (mulB ?m9 ?n9 ?o9); (case m9 => (with_reducible repeat' first | exact b_n | exact b_b | refine' PyProof.Rows.bits_mul ?_ ?_ | refine' PyProof.Rows.bits_add ?_ ?_ | refine' PyProof.Rows.bits_sub ?_ ?_ | refine' PyProof.Rows.bits_neg ?_ | refine' PyProof.Rows.bits_ite ?_ ?_ | refine' bits_rnd ?_ | refine' PyProof.Rows.bits_fdiv ?_ | refine' PyProof.Rows.bits_fmod ?_ ?_ | exact Nat.le_refl _)); (case n9 => (with_reducible repeat' first | exact b_n | exact b_b | refine' PyProof.Rows.bits_mul ?_ ?_ | refine' PyProof.Rows.bits_add ?_ ?_ | refine' PyProof.Rows.bits_sub ?_ ?_ | refine' PyProof.Rows.bits_neg ?_ | refine' PyProof.Rows.bits_ite ?_ ?_ | refine' bits_rnd ?_ | refine' PyProof.Rows.bits_fdiv ?_ | refine' PyProof.Rows.bits_fmod ?_ ?_ | exact Nat.le_refl _)); (case o9 => with_unfolding_all exact rfl)) | (refine' Bin.mod ?m9; (case m9 => first | decide | exact h0 | omega)) | (refine' Bin.fdiv ?m9 (noPyB ?n9 ?o9); (case m9 => first | decide | omega); (case n9 => (with_reducible repeat' first | exact b_n | exact b_b | refine' PyProof.Rows.bits_mul ?_ ?_ | refine' PyProof.Rows.bits_add ?_ ?_ | refine' PyProof.Rows.bits_sub ?_ ?_ | refine' PyProof.Rows.bits_neg ?_ | refine' PyProof.Rows.bits_ite ?_ ?_ | refine' bits_rnd ?_ | refine' PyProof.Rows.bits_fdiv ?_ | refine' PyProof.Rows.bits_fmod ?_ ?_ | exact Nat.le_refl _)); (case o9 => with_unfolding_all exact rfl)) | exact Una.neg
    | exact Cmp.lt | exact Cmp.le | exact Cmp.gt | exact Cmp.ge | exact Cmp.eq | exact Cmp.ne | exact Cmp.eqB
    | exact ItemOf.lst hm | (with_unfolding_all exact ItemOf.lst (.head _)) | (with_unfolding_all exact ItemOf.lst (.tail _ (.head _))) | exact ItemOf.tup hm | (with_unfolding_all exact ItemOf.tup (.head _))
    | exact Nat.le_trans (Nat.le_of_ble_eq_true rfl) hC | ((show _ ≠ _); first | exact h0 | decide | omega)
        | (refine' Nat.le_trans ?m9 (Nat.le_of_ble_eq_true ?o9); (case m9 => (with_reducible repeat' first | exact b_n | exact b_b | refine' PyProof.Rows.bits_mul ?_ ?_ | refine' PyProof.Rows.bits_add ?_ ?_ | refine' PyProof.Rows.bits_sub ?_ ?_ | refine' PyProof.Rows.bits_neg ?_ | refine' PyProof.Rows.bits_ite ?_ ?_ | refine' bits_rnd ?_ | refine' PyProof.Rows.bits_fdiv ?_ | refine' PyProof.Rows.bits_fmod ?_ ?_ | exact Nat.le_refl _)); (case o9 => with_unfolding_all exact rfl))
    | (with_unfolding_all exact rfl))
  case k9 => with_unfolding_all exact rfl
  case s9 => with_unfolding_all exact rfl
  refine' R.ret (E.ite (W.up ?w ⟨fun h => V.up ?v1 (Back.r ⟨?e1, rfl⟩), fun h => V.up ?v2 (Back.r ⟨?e2, rfl⟩)⟩))
  case w => (with_reducible repeat' first
    | exact V.int
    | (refine' V.lo ?a9; (case a9 => with_unfolding_all exact rfl))
    | (refine' V.grain ?g9; (case g9 => with_unfolding_all exact rfl)) | (refine' V.lone ?g9; (case g9 => with_unfolding_all exact rfl))
    | refine' V.bin ?_ ?_ ?_
    | refine' V.una ?_ ?_
    | (refine' V.cmp ?_ ?_ ?_ ?d9; (case d9 => with_unfolding_all exact rfl))
    | (refine' W.cmp ?_ ?_ ?_ ?d9; (case d9 => with_unfolding_all exact rfl))
    | refine' V.iti ?_ ?_ ?_
    | (refine' V.abs (g_abs _) ?g9 ?_ ?n9; (case g9 => with_unfolding_all exact rfl); (case n9 => with_unfolding_all exact rfl))
    | refine' V.itc ?_ ?_ ?_
    | exact V.boolc | exact V.nonec | refine' V.bone ?_ | (refine' V.band ?_ (fun _ => ?_)) | (refine' V.bor ?_ (fun _ => ?_)) | (refine' V.not ?_)
    | (refine' W.not ?_) | exact W.and0 | exact W.or0 | (refine' W.and ?_ (fun _ => ?_)) | (refine' W.or ?_ (fun _ => ?_))
    | (refine' W.of ?_ ?d9; (case d9 => with_unfolding_all exact rfl))
    | exact Vs.nil | (refine' Vs.cons ?_ ?n9 ?_; (case n9 => with_unfolding_all exact rfl))
    | exact Bin.add | exact Bin.sub | (refine' Bin.mul (mulB ?m9 ?n9 ?o9); (case m9 => (with_reducible repeat' first | exact b_n | exact b_b | refine' PyProof.Rows.bits_mul ?_ ?_ | refine' PyProof.Rows.bits_add ?_ ?_ | refine' PyProof.Rows.bits_sub ?_ ?_ | refine' PyProof.Rows.bits_neg ?_ | refine' PyProof.Rows.bits_ite ?_ ?_ | refine' bits_rnd ?_ | refine' PyProof.Rows.bits_fdiv ?_ | refine' PyProof.Rows.bits_fmod ?_ ?_ | exact Nat.le_refl _)); (case n9 => (with_reducible repeat' first | exact b_n | exact b_b | refine' PyProof.Rows.bits_mul ?_ ?_ | refine' PyProof.Rows.bits_add ?_ ?_ | refine' PyProof.Rows.bits_sub ?_ ?_ | refine' PyProof.Rows.bits_neg ?_ | refine' PyProof.Rows.bits_ite ?_ ?_ | refine' bits_rnd ?_ | refine' PyProof.Rows.bits_fdiv ?_ | refine' PyProof.Rows.bits_fmod ?_ ?_ | exact Nat.le_refl _)); (case o9 => with_unfolding_all exact rfl)) | (refine' Bin.mod ?m9; (case m9 => first | decide | exact h0 | omega)) | (refine' Bin.fdiv ?m9 (noPyB ?n9 ?o9); (case m9 => first | decide | omega); (case n9 => (with_reducible repeat' first | exact b_n | exact b_b | refine' PyProof.Rows.bits_mul ?_ ?_ | refine' PyProof.Rows.bits_add ?_ ?_ | refine' PyProof.Rows.bits_sub ?_ ?_ | refine' PyProof.Rows.bits_neg ?_ | refine' PyProof.Rows.bits_ite ?_ ?_ | refine' bits_rnd ?_ | refine' PyProof.Rows.bits_fdiv ?_ | refine' PyProof.Rows.bits_fmod ?_ ?_ | exact Nat.le_refl _)); (case o9 => with_unfolding_all exact rfl)) | exact Una.neg
    | exact Cmp.lt | exact Cmp.le | exact Cmp.gt | exact Cmp.ge | exact Cmp.eq | exact Cmp.ne | exact Cmp.eqB
    | exact ItemOf.lst hm | (with_unfolding_all exact ItemOf.lst (.head _)) | (with_unfolding_all exact ItemOf.lst (.tail _ (.head _))) | exact ItemOf.tup hm | (with_unfolding_all exact ItemOf.tup (.head _))
    | exact Nat.le_trans (Nat.le_of_ble_eq_true rfl) hC | ((show _ ≠ _); first | exact h0 | decide | omega)
        | (refine' Nat.le_trans ?m9 (Nat.le_of_ble_eq_true ?o9); (case m9 => (with_reducible repeat' first | exact b_n | exact b_b | refine' PyProof.Rows.bits_mul ?_ ?_ | refine' PyProof.Rows.bits_add ?_ ?_ | refine' PyProof.Rows.bits_sub ?_ ?_ | refine' PyProof.Rows.bits_neg ?_ | refine' PyProof.Rows.bits_ite ?_ ?_ | refine' bits_rnd ?_ | refine' PyProof.Rows.bits_fdiv ?_ | refine' PyProof.Rows.bits_fmod ?_ ?_ | exact Nat.le_refl _)); (case o9 => with_unfolding_all exact rfl))
    | (with_unfolding_all exact rfl))
  case v1 => (with_reducible repeat' first
    | exact V.int
    | (refine' V.lo ?a9; (case a9 => with_unfolding_all exact rfl))
    | (refine' V.grain ?g9; (case g9 => with_unfolding_all exact rfl)) | (refine' V.lone ?g9; (case g9 => with_unfolding_all exact rfl))
    | refine' V.bin ?_ ?_ ?_
    | refine' V.una ?_ ?_
    | (refine' V.cmp ?_ ?_ ?_ ?d9; (case d9 => with_unfolding_all exact rfl))
    | (refine' W.cmp ?_ ?_ ?_ ?d9; (case d9 => with_unfolding_all exact rfl))
    | refine' V.iti ?_ ?_ ?_
    | (refine' V.abs (g_abs _) ?g9 ?_ ?n9; (case g9 => with_unfolding_all exact rfl); (case n9 => with_unfolding_all exact rfl))
    | refine' V.itc ?_ ?_ ?_
    | exact V.boolc | exact V.nonec | refine' V.bone ?_ | (refine' V.band ?_ (fun _ => ?_)) | (refine' V.bor ?_ (fun _ => ?_)) | (refine' V.not ?_)
    | (refine' W.not ?_) | exact W.and0 | exact W.or0 | (refine' W.and ?_ (fun _ => ?_)) | (refine' W.or ?_ (fun _ => ?_))
    | (refine' W.of ?_ ?d9; (case d9 => with_unfolding_all exact rfl))
    | exact Vs.nil | (refine' Vs.cons ?_ ?n9 ?_; (case n9 => with_unfolding_all exact rfl))
    | exact Bin.add | exact Bin.sub | (refine' Bin.mul (mulB ?m9 ?n9 ?o9); (case m9 => (with_reducible repeat' first | exact b_n | exact b_b | refine' PyProof.Rows.bits_mul ?_ ?_ | refine' PyProof.Rows.bits_add ?_ ?_ | refine' PyProof.Rows.bits_sub ?_ ?_ | refine' PyProof.Rows.bits_neg ?_ | refine' PyProof.Rows.bits_ite ?_ ?_ | refine' bits_rnd ?_ | refine' PyProof.Rows.bits_fdiv ?_ | refine' PyProof.Rows.bits_fmod ?_ ?_ | exact Nat.le_refl _)); (case n9 => (with_reducible repeat' first | exact b_n | exact b_b | refine' PyProof.Rows.bits_mul ?_ ?_ | refine' PyProof.Rows.bits_add ?_ ?_ | refine' PyProof.Rows.bits_sub ?_ ?_ | refine' PyProof.Rows.bits_neg ?_ | refine' PyProof.Rows.bits_ite ?_ ?_ | refine' bits_rnd ?_ | refine' PyProof.Rows.bits_fdiv ?_ | refine' PyProof.Rows.bits_fmod ?_ ?_ | exact Nat.le_refl _)); (case o9 => with_unfolding_all exact rfl)) | (refine' Bin.mod ?m9; (case m9 => first | decide | exact h0 | omega)) | (refine' Bin.fdiv ?m9 (noPyB ?n9 ?o9); (case m9 => first | decide | omega); (case n9 => (with_reducible repeat' first | exact b_n | exact b_b | refine' PyProof.Rows.bits_mul ?_ ?_ | refine' PyProof.Rows.bits_add ?_ ?_ | refine' PyProof.Rows.bits_sub ?_ ?_ | refine' PyProof.Rows.bits_neg ?_ | refine' PyProof.Rows.bits_ite ?_ ?_ | refine' bits_rnd ?_ | refine' PyProof.Rows.bits_fdiv ?_ | refine' PyProof.Rows.bits_fmod ?_ ?_ | exact Nat.le_refl _)); (case o9 => with_unfolding_all exact rfl)) | exact Una.neg
    | exact Cmp.lt | exact Cmp.le | exact Cmp.gt | exact Cmp.ge | exact Cmp.eq | exact Cmp.ne | exact Cmp.eqB
    | exact ItemOf.lst hm | (with_unfolding_all exact ItemOf.lst (.head _)) | (with_unfolding_all exact ItemOf.lst (.tail _ (.head _))) | exact ItemOf.tup hm | (with_unfolding_all exact ItemOf.tup (.head _))
    | exact Nat.le_trans (Nat.le_of_ble_eq_true rfl) hC | ((show _ ≠ _); first | exact h0 | decide | omega)
        | (refine' Nat.le_trans ?m9 (Nat.le_of_ble_eq_true ?o9); (case m9 => (with_reducible repeat' first | exact b_n | exact b_b | refine' PyProof.Rows.bits_mul ?_ ?_ | refine' PyProof.Rows.bits_add ?_ ?_ | refine' PyProof.Rows.bits_sub ?_ ?_ | refine' PyProof.Rows.bits_neg ?_ | refine' PyProof.Rows.bits_ite ?_ ?_ | refine' bits_rnd ?_ | refine' PyProof.Rows.bits_fdiv ?_ | refine' PyProof.Rows.bits_fmod ?_ ?_ | exact Nat.le_refl _)); (case o9 => with_unfolding_all exact rfl))
    | (with_unfolding_all exact rfl))
  case e1 => exact div_end h rfl
  case v2 => (with_reducible repeat' first
    | exact V.int
    | (refine' V.lo ?a9; (case a9 => with_unfolding_all exact rfl))
    | (refine' V.grain ?g9; (case g9 => with_unfolding_all exact rfl)) | (refine' V.lone ?g9; (case g9 => with_unfolding_all exact rfl))
    | refine' V.bin ?_ ?_ ?_
    | refine' V.una ?_ ?_
    | (refine' V.cmp ?_ ?_ ?_ ?d9; (case d9 => with_unfolding_all exact rfl))
    | (refine' W.cmp ?_ ?_ ?_ ?d9; (case d9 => with_unfolding_all exact rfl))
    | refine' V.iti ?_ ?_ ?_
    | (refine' V.abs (g_abs _) ?g9 ?_ ?n9; (case g9 => with_unfolding_all exact rfl); (case n9 => with_unfolding_all exact rfl))
    | refine' V.itc ?_ ?_ ?_
    | exact V.boolc | exact V.nonec | refine' V.bone ?_ | (refine' V.band ?_ (fun _ => ?_)) | (refine' V.bor ?_ (fun _ => ?_)) | (refine' V.not ?_)
    | (refine' W.not ?_) | exact W.and0 | exact W.or0 | (refine' W.and ?_ (fun _ => ?_)) | (refine' W.or ?_ (fun _ => ?_))
    | (refine' W.of ?_ ?d9; (case d9 => with_unfolding_all exact rfl))
    | exact Vs.nil | (refine' Vs.cons ?_ ?n9 ?_; (case n9 => with_unfolding_all exact rfl))
    | exact Bin.add | exact Bin.sub | (refine' Bin.mul (mulB ?m9 ?n9 ?o9); (case m9 => (with_reducible repeat' first | exact b_n | exact b_b | refine' PyProof.Rows.bits_mul ?_ ?_ | refine' PyProof.Rows.bits_add ?_ ?_ | refine' PyProof.Rows.bits_sub ?_ ?_ | refine' PyProof.Rows.bits_neg ?_ | refine' PyProof.Rows.bits_ite ?_ ?_ | refine' bits_rnd ?_ | refine' PyProof.Rows.bits_fdiv ?_ | refine' PyProof.Rows.bits_fmod ?_ ?_ | exact Nat.le_refl _)); (case n9 => (with_reducible repeat' first | exact b_n | exact b_b | refine' PyProof.Rows.bits_mul ?_ ?_ | refine' PyProof.Rows.bits_add ?_ ?_ | refine' PyProof.Rows.bits_sub ?_ ?_ | refine' PyProof.Rows.bits_neg ?_ | refine' PyProof.Rows.bits_ite ?_ ?_ | refine' bits_rnd ?_ | refine' PyProof.Rows.bits_fdiv ?_ | refine' PyProof.Rows.bits_fmod ?_ ?_ | exact Nat.le_refl _)); (case o9 => with_unfolding_all exact rfl)) | (refine' Bin.mod ?m9; (case m9 => first | decide | exact h0 | omega)) | (refine' Bin.fdiv ?m9 (noPyB ?n9 ?o9); (case m9 => first | decide | omega); (case n9 => (with_reducible repeat' first | exact b_n | exact b_b | refine' PyProof.Rows.bits_mul ?_ ?_ | refine' PyProof.Rows.bits_add ?_ ?_ | refine' PyProof.Rows.bits_sub ?_ ?_ | refine' PyProof.Rows.bits_neg ?_ | refine' PyProof.Rows.bits_ite ?_ ?_ | refine' bits_rnd ?_ | refine' PyProof.Rows.bits_fdiv ?_ | refine' PyProof.Rows.bits_fmod ?_ ?_ | exact Nat.le_refl _)); (case o9 => with_unfolding_all exact rfl)) | exact Una.neg
    | exact Cmp.lt | exact Cmp.le | exact Cmp.gt | exact Cmp.ge | exact Cmp.eq | exact Cmp.ne | exact Cmp.eqB
    | exact ItemOf.lst hm | (with_unfolding_all exact ItemOf.lst (.head _)) | (with_unfolding_all exact ItemOf.lst (.tail _ (.head _))) | exact ItemOf.tup hm | (with_unfolding_all exact ItemOf.tup (.head _))
    | exact Nat.le_trans (Nat.le_of_ble_eq_true rfl) hC | ((show _ ≠ _); first | exact h0 | decide | omega)
        | (refine' Nat.le_trans ?m9 (Nat.le_of_ble_eq_true ?o9); (case m9 => (with_reducible repeat' first | exact b_n | exact b_b | refine' PyProof.Rows.bits_mul ?_ ?_ | refine' PyProof.Rows.bits_add ?_ ?_ | refine' PyProof.Rows.bits_sub ?_ ?_ | refine' PyProof.Rows.bits_neg ?_ | refine' PyProof.Rows.bits_ite ?_ ?_ | refine' bits_rnd ?_ | refine' PyProof.Rows.bits_fdiv ?_ | refine' PyProof.Rows.bits_fmod ?_ ?_ | exact Nat.le_refl _)); (case o9 => with_unfolding_all exact rfl))
    | (with_unfolding_all exact rfl))
  case e2 => exact div_end h rfl
theorem f_part (η : Hp) (n b : Int) (b_n : bits n ≤ 500) (b_b : bits b ≤ 100) (h0 : b ≠ 0) : Pure 252 1 [.int n, .int b] η (.int (rnd n b)) := by
  refine' Fn.enter2 "number" "by" (fun P => ?ho) (fun P => ?hcd) (fun s v1 v2 => ?hb) ?he ?h
  case ho => exact rfl
  case hcd => kernel_rfl
  case hb => exact BindsTo.of_eq rfl
  case he => rfl
  intro C hC
  refine' R.tupU ["whole", "rest"] [("whole", _), ("rest", _)] ?ue rfl rfl rfl rfl
  case ue =>
    refine' E.blt (V.bl g_divmod boot_divmod rfl rfl (by decide)) (Vs.up (ps := [.int (if n < 0 then -n else n), .int (if b < 0 then -b else b)]) ?vs (Blt.divmod ?h0 ?hp fun l => ⟨_, _, rfl, .head _, rfl, _, _, .cons (Sto.loc rfl) (.cons (Sto.loc rfl) .nil), R.drop ?_⟩)) rfl rfl rfl
    case vs => (with_reducible repeat' first
    | exact V.int
    | (refine' V.lo ?a9; (case a9 => with_unfolding_all exact rfl))
    | (refine' V.grain ?g9; (case g9 => with_unfolding_all exact rfl)) | (refine' V.lone ?g9; (case g9 => with_unfolding_all exact rfl))
    | refine' V.bin ?_ ?_ ?_
    | refine' V.una ?_ ?_
    | (refine' V.cmp ?_ ?_ ?_ ?d9; (case d9 => with_unfolding_all exact rfl))
    | (refine' W.cmp ?_ ?_ ?_ ?d9; (case d9 => with_unfolding_all exact rfl))
    | refine' V.iti ?_ ?_ ?_
    | (refine' V.abs (g_abs _) ?g9 ?_ ?n9; (case g9 => with_unfolding_all exact rfl); (case n9 => with_unfolding_all exact rfl))
    | refine' V.itc ?_ ?_ ?_
    | exact V.boolc | exact V.nonec | refine' V.bone ?_ | (refine' V.band ?_ (fun _ => ?_)) | (refine' V.bor ?_ (fun _ => ?_)) | (refine' V.not ?_)
    | (refine' W.not ?_) | exact W.and0 | exact W.or0 | (refine' W.and ?_ (fun _ => ?_)) | (refine' W.or ?_ (fun _ => ?_))
    | (refine' W.of ?_ ?d9; (case d9 => with_unfolding_all exact rfl))
    | exact Vs.nil | (refine' Vs.cons ?_ ?n9 ?_; (case n9 => with_unfolding_all exact rfl))
    | exact Bin.add | exact Bin.sub | (refine' Bin.mul (mulB ?m9 ?n9 ?o9); (case m9 => (with_reducible repeat' first | exact b_n | exact b_b | refine' PyProof.Rows.bits_mul ?_ ?_ | refine' PyProof.Rows.bits_add ?_ ?_ | refine' PyProof.Rows.bits_sub ?_ ?_ | refine' PyProof.Rows.bits_neg ?_ | refine' PyProof.Rows.bits_ite ?_ ?_ | refine' bits_rnd ?_ | refine' PyProof.Rows.bits_fdiv ?_ | refine' PyProof.Rows.bits_fmod ?_ ?_ | exact Nat.le_refl _)); (case n9 => (with_reducible repeat' first | exact b_n | exact b_b | refine' PyProof.Rows.bits_mul ?_ ?_ | refine' PyProof.Rows.bits_add ?_ ?_ | refine' PyProof.Rows.bits_sub ?_ ?_ | refine' PyProof.Rows.bits_neg ?_ | refine' PyProof.Rows.bits_ite ?_ ?_ | refine' bits_rnd ?_ | refine' PyProof.Rows.bits_fdiv ?_ | refine' PyProof.Rows.bits_fmod ?_ ?_ | exact Nat.le_refl _)); (case o9 => with_unfolding_all exact rfl)) | (refine' Bin.mod ?m9; (case m9 => first | decide | exact h0 | omega)) | (refine' Bin.fdiv ?m9 (noPyB ?n9 ?o9); (case m9 => first | decide | omega); (case n9 => (with_reducible repeat' first | exact b_n | exact b_b | refine' PyProof.Rows.bits_mul ?_ ?_ | refine' PyProof.Rows.bits_add ?_ ?_ | refine' PyProof.Rows.bits_sub ?_ ?_ | refine' PyProof.Rows.bits_neg ?_ | refine' PyProof.Rows.bits_ite ?_ ?_ | refine' bits_rnd ?_ | refine' PyProof.Rows.bits_fdiv ?_ | refine' PyProof.Rows.bits_fmod ?_ ?_ | exact Nat.le_refl _)); (case o9 => with_unfolding_all exact rfl)) | exact Una.neg
    | exact Cmp.lt | exact Cmp.le | exact Cmp.gt | exact Cmp.ge | exact Cmp.eq | exact Cmp.ne | exact Cmp.eqB
    | exact ItemOf.lst hm | (with_unfolding_all exact ItemOf.lst (.head _)) | (with_unfolding_all exact ItemOf.lst (.tail _ (.head _))) | exact ItemOf.tup hm | (with_unfolding_all exact ItemOf.tup (.head _))
    | exact Nat.le_trans (Nat.le_of_ble_eq_true rfl) hC | ((show _ ≠ _); first | exact h0 | decide | omega)
        | (refine' Nat.le_trans ?m9 (Nat.le_of_ble_eq_true ?o9); (case m9 => (with_reducible repeat' first | exact b_n | exact b_b | refine' PyProof.Rows.bits_mul ?_ ?_ | refine' PyProof.Rows.bits_add ?_ ?_ | refine' PyProof.Rows.bits_sub ?_ ?_ | refine' PyProof.Rows.bits_neg ?_ | refine' PyProof.Rows.bits_ite ?_ ?_ | refine' bits_rnd ?_ | refine' PyProof.Rows.bits_fdiv ?_ | refine' PyProof.Rows.bits_fmod ?_ ?_ | exact Nat.le_refl _)); (case o9 => with_unfolding_all exact rfl))
    | (with_unfolding_all exact rfl))
    case h0 => omega
    case hp => exact noPyB (k := 100) (PyProof.Rows.bits_of_natAbs_le (by omega) b_b) rfl
    refine R.if1 (b := decide ((if b < 0 then -b else b) ≤ 2 * (if n < 0 then -n else n).fmod (if b < 0 then -b else b))) ?t (fun hc => ?ka) (fun hc => R.nil ?kb)
    case t => (with_reducible repeat' first
    | exact V.int
    | (refine' V.lo ?a9; (case a9 => with_unfolding_all exact rfl))
    | (refine' V.grain ?g9; (case g9 => with_unfolding_all exact rfl)) | (refine' V.lone ?g9; (case g9 => with_unfolding_all exact rfl))
    | refine' V.bin ?_ ?_ ?_
    | refine' V.una ?_ ?_
    | (refine' V.cmp ?_ ?_ ?_ ?d9; (case d9 => with_unfolding_all exact rfl))
    | (refine' W.cmp ?_ ?_ ?_ ?d9; (case d9 => with_unfolding_all exact rfl))
    | refine' V.iti ?_ ?_ ?_
    | (refine' V.abs (g_abs _) ?g9 ?_ ?n9; (case g9 => with_unfolding_all exact rfl); (case n9 => with_unfolding_all exact rfl))
    | refine' V.itc ?_ ?_ ?_
    | exact V.boolc | exact V.nonec | refine' V.bone ?_ | (refine' V.band ?_ (fun _ => ?_)) | (refine' V.bor ?_ (fun _ => ?_)) | (refine' V.not ?_)
    | (refine' W.not ?_) | exact W.and0 | exact W.or0 | (refine' W.and ?_ (fun _ => ?_)) | (refine' W.or ?_ (fun _ => ?_))
    | (refine' W.of ?_ ?d9; (case d9 => with_unfolding_all exact rfl))
    | exact Vs.nil | (refine' Vs.cons ?_ ?n9 ?_; (case n9 => with_unfolding_all exact rfl))
    | exact Bin.add | exact Bin.sub | (refine' Bin.mul (mulB ?m9 ?n9 ?o9); (case m9 => (with_reducible repeat' first | exact b_n | exact b_b | refine' PyProof.Rows.bits_mul ?_ ?_ | refine' PyProof.Rows.bits_add ?_ ?_ | refine' PyProof.Rows.bits_sub ?_ ?_ | refine' PyProof.Rows.bits_neg ?_ | refine' PyProof.Rows.bits_ite ?_ ?_ | refine' bits_rnd ?_ | refine' PyProof.Rows.bits_fdiv ?_ | refine' PyProof.Rows.bits_fmod ?_ ?_ | exact Nat.le_refl _)); (case n9 => (with_reducible repeat' first | exact b_n | exact b_b | refine' PyProof.Rows.bits_mul ?_ ?_ | refine' PyProof.Rows.bits_add ?_ ?_ | refine' PyProof.Rows.bits_sub ?_ ?_ | refine' PyProof.Rows.bits_neg ?_ | refine' PyProof.Rows.bits_ite ?_ ?_ | refine' bits_rnd ?_ | refine' PyProof.Rows.bits_fdiv ?_ | refine' PyProof.Rows.bits_fmod ?_ ?_ | exact Nat.le_refl _)); (case o9 => with_unfolding_all exact rfl)) | (refine' Bin.mod ?m9; (case m9 => first | decide | exact h0 | omega)) | (refine' Bin.fdiv ?m9 (noPyB ?n9 ?o9); (case m9 => first | decide | omega); (case n9 => (with_reducible repeat' first | exact b_n | exact b_b | refine' PyProof.Rows.bits_mul ?_ ?_ | refine' PyProof.Rows.bits_add ?_ ?_ | refine' PyProof.Rows.bits_sub ?_ ?_ | refine' PyProof.Rows.bits_neg ?_ | refine' PyProof.Rows.bits_ite ?_ ?_ | refine' bits_rnd ?_ | refine' PyProof.Rows.bits_fdiv ?_ | refine' PyProof.Rows.bits_fmod ?_ ?_ | exact Nat.le_refl _)); (case o9 => with_unfolding_all exact rfl)) | exact Una.neg
    | exact Cmp.lt | exact Cmp.le | exact Cmp.gt | exact Cmp.ge | exact Cmp.eq | exact Cmp.ne | exact Cmp.eqB
    | exact ItemOf.lst hm | (with_unfolding_all exact ItemOf.lst (.head _)) | (with_unfolding_all exact ItemOf.lst (.tail _ (.head _))) | exact ItemOf.tup hm | (with_unfolding_all exact ItemOf.tup (.head _))
    | exact Nat.le_trans (Nat.le_of_ble_eq_true rfl) hC | ((show _ ≠ _); first | exact h0 | decide | omega)
        | (refine' Nat.le_trans ?m9 (Nat.le_of_ble_eq_true ?o9); (case m9 => (with_reducible repeat' first | exact b_n | exact b_b | refine' PyProof.Rows.bits_mul ?_ ?_ | refine' PyProof.Rows.bits_add ?_ ?_ | refine' PyProof.Rows.bits_sub ?_ ?_ | refine' PyProof.Rows.bits_neg ?_ | refine' PyProof.Rows.bits_ite ?_ ?_ | refine' bits_rnd ?_ | refine' PyProof.Rows.bits_fdiv ?_ | refine' PyProof.Rows.bits_fmod ?_ ?_ | exact Nat.le_refl _)); (case o9 => with_unfolding_all exact rfl))
    | (with_unfolding_all exact rfl))
    case ka =>
      refine' R.as1 ?v9 ?k9 ?s9 ?_
      case v9 => (with_reducible repeat' first
    | exact V.int
    | (refine' V.lo ?a9; (case a9 => with_unfolding_all exact rfl))
    | (refine' V.grain ?g9; (case g9 => with_unfolding_all exact rfl)) | (refine' V.lone ?g9; (case g9 => with_unfolding_all exact rfl))
    | refine' V.bin ?_ ?_ ?_
    | refine' V.una ?_ ?_
    | (refine' V.cmp ?_ ?_ ?_ ?d9; (case d9 => with_unfolding_all exact rfl))
    | (refine' W.cmp ?_ ?_ ?_ ?d9; (case d9 => with_unfolding_all exact rfl))
    | refine' V.iti ?_ ?_ ?_
    | (refine' V.abs (g_abs _) ?g9 ?_ ?n9; (case g9 => with_unfolding_all exact rfl); (case n9 => with_unfolding_all exact rfl))
    | refine' V.itc ?_ ?_ ?_
    | exact V.boolc | exact V.nonec | refine' V.bone ?_ | (refine' V.band ?_ (fun _ => ?_)) | (refine' V.bor ?_ (fun _ => ?_)) | (refine' V.not ?_)
    | (refine' W.not ?_) | exact W.and0 | exact W.or0 | (refine' W.and ?_ (fun _ => ?_)) | (refine' W.or ?_ (fun _ => ?_))
    | (refine' W.of ?_ ?d9; (case d9 => with_unfolding_all exact rfl))
    | exact Vs.nil | (refine' Vs.cons ?_ ?n9 ?_; (case n9 => with_unfolding_all exact rfl))
    | exact Bin.add | exact Bin.sub | (refine' Bin.mul (mulB ?m9 ?n9 ?o9); (case m9 => (with_reducible repeat' first | exact b_n | exact b_b | refine' PyProof.Rows.bits_mul ?_ ?_ | refine' PyProof.Rows.bits_add ?_ ?_ | refine' PyProof.Rows.bits_sub ?_ ?_ | refine' PyProof.Rows.bits_neg ?_ | refine' PyProof.Rows.bits_ite ?_ ?_ | refine' bits_rnd ?_ | refine' PyProof.Rows.bits_fdiv ?_ | refine' PyProof.Rows.bits_fmod ?_ ?_ | exact Nat.le_refl _)); (case n9 => (with_reducible repeat' first | exact b_n | exact b_b | refine' PyProof.Rows.bits_mul ?_ ?_ | refine' PyProof.Rows.bits_add ?_ ?_ | refine' PyProof.Rows.bits_sub ?_ ?_ | refine' PyProof.Rows.bits_neg ?_ | refine' PyProof.Rows.bits_ite ?_ ?_ | refine' bits_rnd ?_ | refine' PyProof.Rows.bits_fdiv ?_ | refine' PyProof.Rows.bits_fmod ?_ ?_ | exact Nat.le_refl _)); (case o9 => with_unfolding_all exact rfl)) | (refine' Bin.mod ?m9; (case m9 => first | decide | exact h0 | omega)) | (refine' Bin.fdiv ?m9 (noPyB ?n9 ?o9); (case m9 => first | decide | omega); (case n9 => (with_reducible repeat' first | exact b_n | exact b_b | refine' PyProof.Rows.bits_mul ?_ ?_ | refine' PyProof.Rows.bits_add ?_ ?_ | refine' PyProof.Rows.bits_sub ?_ ?_ | refine' PyProof.Rows.bits_neg ?_ | refine' PyProof.Rows.bits_ite ?_ ?_ | refine' bits_rnd ?_ | refine' PyProof.Rows.bits_fdiv ?_ | refine' PyProof.Rows.bits_fmod ?_ ?_ | exact Nat.le_refl _)); (case o9 => with_unfolding_all exact rfl)) | exact Una.neg
    | exact Cmp.lt | exact Cmp.le | exact Cmp.gt | exact Cmp.ge | exact Cmp.eq | exact Cmp.ne | exact Cmp.eqB
    | exact ItemOf.lst hm | (with_unfolding_all exact ItemOf.lst (.head _)) | (with_unfolding_all exact ItemOf.lst (.tail _ (.head _))) | exact ItemOf.tup hm | (with_unfolding_all exact ItemOf.tup (.head _))
    | exact Nat.le_trans (Nat.le_of_ble_eq_true rfl) hC | ((show _ ≠ _); first | exact h0 | decide | omega)
        | (refine' Nat.le_trans ?m9 (Nat.le_of_ble_eq_true ?o9); (case m9 => (with_reducible repeat' first | exact b_n | exact b_b | refine' PyProof.Rows.bits_mul ?_ ?_ | refine' PyProof.Rows.bits_add ?_ ?_ | refine' PyProof.Rows.bits_sub ?_ ?_ | refine' PyProof.Rows.bits_neg ?_ | refine' PyProof.Rows.bits_ite ?_ ?_ | refine' bits_rnd ?_ | refine' PyProof.Rows.bits_fdiv ?_ | refine' PyProof.Rows.bits_fmod ?_ ?_ | exact Nat.le_refl _)); (case o9 => with_unfolding_all exact rfl))
    | (with_unfolding_all exact rfl))
      case k9 => with_unfolding_all exact rfl
      case s9 => with_unfolding_all exact rfl
      refine R.nil ?_
      refine' R.ret (E.ite (W.up ?w ⟨fun h => V.up ?v1 (Back.r ⟨?e1, rfl⟩), fun h => V.up ?v2 (Back.r ⟨?e2, rfl⟩)⟩))
      case w => (with_reducible repeat' first
    | exact V.int
    | (refine' V.lo ?a9; (case a9 => with_unfolding_all exact rfl))
    | (refine' V.grain ?g9; (case g9 => with_unfolding_all exact rfl)) | (refine' V.lone ?g9; (case g9 => with_unfolding_all exact rfl))
    | refine' V.bin ?_ ?_ ?_
    | refine' V.una ?_ ?_
    | (refine' V.cmp ?_ ?_ ?_ ?d9; (case d9 => with_unfolding_all exact rfl))
    | (refine' W.cmp ?_ ?_ ?_ ?d9; (case d9 => with_unfolding_all exact rfl))
    | refine' V.iti ?_ ?_ ?_
    | (refine' V.abs (g_abs _) ?g9 ?_ ?n9; (case g9 => with_unfolding_all exact rfl); (case n9 => with_unfolding_all exact rfl))
    | refine' V.itc ?_ ?_ ?_
    | exact V.boolc | exact V.nonec | refine' V.bone ?_ | (refine' V.band ?_ (fun _ => ?_)) | (refine' V.bor ?_ (fun _ => ?_)) | (refine' V.not ?_)
    | (refine' W.not ?_) | exact W.and0 | exact W.or0 | (refine' W.and ?_ (fun _ => ?_)) | (refine' W.or ?_ (fun _ => ?_))
    | (refine' W.of ?_ ?d9; (case d9 => with_unfolding_all exact rfl))
    | exact Vs.nil | (refine' Vs.cons ?_ ?n9 ?_; (case n9 => with_unfolding_all exact rfl))
    | exact Bin.add | exact Bin.sub | (refine' Bin.mul (mulB ?m9 ?n9 ?o9); (case m9 => (with_reducible repeat' first | exact b_n | exact b_b | refine' PyProof.Rows.bits_mul ?_ ?_ | refine' PyProof.Rows.bits_add ?_ ?_ | refine' PyProof.Rows.bits_sub ?_ ?_ | refine' PyProof.Rows.bits_neg ?_ | refine' PyProof.Rows.bits_ite ?_ ?_ | refine' bits_rnd ?_ | refine' PyProof.Rows.bits_fdiv ?_ | refine' PyProof.Rows.bits_fmod ?_ ?_ | exact Nat.le_refl _)); (case n9 => (with_reducible repeat' first | exact b_n | exact b_b | refine' PyProof.Rows.bits_mul ?_ ?_ | refine' PyProof.Rows.bits_add ?_ ?_ | refine' PyProof.Rows.bits_sub ?_ ?_ | refine' PyProof.Rows.bits_neg ?_ | refine' PyProof.Rows.bits_ite ?_ ?_ | refine' bits_rnd ?_ | refine' PyProof.Rows.bits_fdiv ?_ | refine' PyProof.Rows.bits_fmod ?_ ?_ | exact Nat.le_refl _)); (case o9 => with_unfolding_all exact rfl)) | (refine' Bin.mod ?m9; (case m9 => first | decide | exact h0 | omega)) | (refine' Bin.fdiv ?m9 (noPyB ?n9 ?o9); (case m9 => first | decide | omega); (case n9 => (with_reducible repeat' first | exact b_n | exact b_b | refine' PyProof.Rows.bits_mul ?_ ?_ | refine' PyProof.Rows.bits_add ?_ ?_ | refine' PyProof.Rows.bits_sub ?_ ?_ | refine' PyProof.Rows.bits_neg ?_ | refine' PyProof.Rows.bits_ite ?_ ?_ | refine' bits_rnd ?_ | refine' PyProof.Rows.bits_fdiv ?_ | refine' PyProof.Rows.bits_fmod ?_ ?_ | exact Nat.le_refl _)); (case o9 => with_unfolding_all exact rfl)) | exact Una.neg
    | exact Cmp.lt | exact Cmp.le | exact Cmp.gt | exact Cmp.ge | exact Cmp.eq | exact Cmp.ne | exact Cmp.eqB
    | exact ItemOf.lst hm | (with_unfolding_all exact ItemOf.lst (.head _)) | (with_unfolding_all exact ItemOf.lst (.tail _ (.head _))) | exact ItemOf.tup hm | (with_unfolding_all exact ItemOf.tup (.head _))
    | exact Nat.le_trans (Nat.le_of_ble_eq_true rfl) hC | ((show _ ≠ _); first | exact h0 | decide | omega)
        | (refine' Nat.le_trans ?m9 (Nat.le_of_ble_eq_true ?o9); (case m9 => (with_reducible repeat' first | exact b_n | exact b_b | refine' PyProof.Rows.bits_mul ?_ ?_ | refine' PyProof.Rows.bits_add ?_ ?_ | refine' PyProof.Rows.bits_sub ?_ ?_ | refine' PyProof.Rows.bits_neg ?_ | refine' PyProof.Rows.bits_ite ?_ ?_ | refine' bits_rnd ?_ | refine' PyProof.Rows.bits_fdiv ?_ | refine' PyProof.Rows.bits_fmod ?_ ?_ | exact Nat.le_refl _)); (case o9 => with_unfolding_all exact rfl))
    | (with_unfolding_all exact rfl))
      case v1 => (with_reducible repeat' first
    | exact V.int
    | (refine' V.lo ?a9; (case a9 => with_unfolding_all exact rfl))
    | (refine' V.grain ?g9; (case g9 => with_unfolding_all exact rfl)) | (refine' V.lone ?g9; (case g9 => with_unfolding_all exact rfl))
    | refine' V.bin ?_ ?_ ?_
    | refine' V.una ?_ ?_
    | (refine' V.cmp ?_ ?_ ?_ ?d9; (case d9 => with_unfolding_all exact rfl))
    | (refine' W.cmp ?_ ?_ ?_ ?d9; (case d9 => with_unfolding_all exact rfl))
    | refine' V.iti ?_ ?_ ?_
    | (refine' V.abs (g_abs _) ?g9 ?_ ?n9; (case g9 => with_unfolding_all exact rfl); (case n9 => with_unfolding_all exact rfl))
    | refine' V.itc ?_ ?_ ?_
    | exact V.boolc | exact V.nonec | refine' V.bone ?_ | (refine' V.band ?_ (fun _ => ?_)) | (refine' V.bor ?_ (fun _ => ?_)) | (refine' V.not ?_)
    | (refine' W.not ?_) | exact W.and0 | exact W.or0 | (refine' W.and ?_ (fun _ => ?_)) | (refine' W.or ?_ (fun _ => ?_))
    | (refine' W.of ?_ ?d9; (case d9 => with_unfolding_all exact rfl))
    | exact Vs.nil | (refine' Vs.cons ?_ ?n9 ?_; (case n9 => with_unfolding_all exact rfl))
    | exact Bin.add | exact Bin.sub | (refine' Bin.mul (mulB ?m9 ?n9 ?o9); (case m9 => (with_reducible repeat' first | exact b_n | exact b_b | refine' PyProof.Rows.bits_mul ?_ ?_ | refine' PyProof.Rows.bits_add ?_ ?_ | refine' PyProof.Rows.bits_sub ?_ ?_ | refine' PyProof.Rows.bits_neg ?_ | refine' PyProof.Rows.bits_ite ?_ ?_ | refine' bits_rnd ?_ | refine' PyProof.Rows.bits_fdiv ?_ | refine' PyProof.Rows.bits_fmod ?_ ?_ | exact Nat.le_refl _)); (case n9 => (with_reducible repeat' first | exact b_n | exact b_b | refine' PyProof.Rows.bits_mul ?_ ?_ | refine' PyProof.Rows.bits_add ?_ ?_ | refine' PyProof.Rows.bits_sub ?_ ?_ | refine' PyProof.Rows.bits_neg ?_ | refine' PyProof.Rows.bits_ite ?_ ?_ | refine' bits_rnd ?_ | refine' PyProof.Rows.bits_fdiv ?_ | refine' PyProof.Rows.bits_fmod ?_ ?_ | exact Nat.le_refl _)); (case o9 => with_unfolding_all exact rfl)) | (refine' Bin.mod ?m9; (case m9 => first | decide | exact h0 | omega)) | (refine' Bin.fdiv ?m9 (noPyB ?n9 ?o9); (case m9 => first | decide | omega); (case n9 => (with_reducible repeat' first | exact b_n | exact b_b | refine' PyProof.Rows.bits_mul ?_ ?_ | refine' PyProof.Rows.bits_add ?_ ?_ | refine' PyProof.Rows.bits_sub ?_ ?_ | refine' PyProof.Rows.bits_neg ?_ | refine' PyProof.Rows.bits_ite ?_ ?_ | refine' bits_rnd ?_ | refine' PyProof.Rows.bits_fdiv ?_ | refine' PyProof.Rows.bits_fmod ?_ ?_ | exact Nat.le_refl _)); (case o9 => with_unfolding_all exact rfl)) | exact Una.neg
    | exact Cmp.lt | exact Cmp.le | exact Cmp.gt | exact Cmp.ge | exact Cmp.eq | exact Cmp.ne | exact Cmp.eqB
    | exact ItemOf.lst hm | (with_unfolding_all exact ItemOf.lst (.head _)) | (with_unfolding_all exact ItemOf.lst (.tail _ (.head _))) | exact ItemOf.tup hm | (with_unfolding_all exact ItemOf.tup (.head _))
    | exact Nat.le_trans (Nat.le_of_ble_eq_true rfl) hC | ((show _ ≠ _); first | exact h0 | decide | omega)
        | (refine' Nat.le_trans ?m9 (Nat.le_of_ble_eq_true ?o9); (case m9 => (with_reducible repeat' first | exact b_n | exact b_b | refine' PyProof.Rows.bits_mul ?_ ?_ | refine' PyProof.Rows.bits_add ?_ ?_ | refine' PyProof.Rows.bits_sub ?_ ?_ | refine' PyProof.Rows.bits_neg ?_ | refine' PyProof.Rows.bits_ite ?_ ?_ | refine' bits_rnd ?_ | refine' PyProof.Rows.bits_fdiv ?_ | refine' PyProof.Rows.bits_fmod ?_ ?_ | exact Nat.le_refl _)); (case o9 => with_unfolding_all exact rfl))
    | (with_unfolding_all exact rfl))
      case e1 => exact congrArg PV.int (part_up h0 h (of_decide_eq_true hc) rfl)
      case v2 => (with_reducible repeat' first
    | exact V.int
    | (refine' V.lo ?a9; (case a9 => with_unfolding_all exact rfl))
    | (refine' V.grain ?g9; (case g9 => with_unfolding_all exact rfl)) | (refine' V.lone ?g9; (case g9 => with_unfolding_all exact rfl))
    | refine' V.bin ?_ ?_ ?_
    | refine' V.una ?_ ?_
    | (refine' V.cmp ?_ ?_ ?_ ?d9; (case d9 => with_unfolding_all exact rfl))
    | (refine' W.cmp ?_ ?_ ?_ ?d9; (case d9 => with_unfolding_all exact rfl))
    | refine' V.iti ?_ ?_ ?_
    | (refine' V.abs (g_abs _) ?g9 ?_ ?n9; (case g9 => with_unfolding_all exact rfl); (case n9 => with_unfolding_all exact rfl))
    | refine' V.itc ?_ ?_ ?_
    | exact V.boolc | exact V.nonec | refine' V.bone ?_ | (refine' V.band ?_ (fun _ => ?_)) | (refine' V.bor ?_ (fun _ => ?_)) | (refine' V.not ?_)
    | (refine' W.not ?_) | exact W.and0 | exact W.or0 | (refine' W.and ?_ (fun _ => ?_)) | (refine' W.or ?_ (fun _ => ?_))
    | (refine' W.of ?_ ?d9; (case d9 => with_unfolding_all exact rfl))
    | exact Vs.nil | (refine' Vs.cons ?_ ?n9 ?_; (case n9 => with_unfolding_all exact rfl))
    | exact Bin.add | exact Bin.sub | (refine' Bin.mul (mulB ?m9 ?n9 ?o9); (case m9 => (with_reducible repeat' first | exact b_n | exact b_b | refine' PyProof.Rows.bits_mul ?_ ?_ | refine' PyProof.Rows.bits_add ?_ ?_ | refine' PyProof.Rows.bits_sub ?_ ?_ | refine' PyProof.Rows.bits_neg ?_ | refine' PyProof.Rows.bits_ite ?_ ?_ | refine' bits_rnd ?_ | refine' PyProof.Rows.bits_fdiv ?_ | refine' PyProof.Rows.bits_fmod ?_ ?_ | exact Nat.le_refl _)); (case n9 => (with_reducible repeat' first | exact b_n | exact b_b | refine' PyProof.Rows.bits_mul ?_ ?_ | refine' PyProof.Rows.bits_add ?_ ?_ | refine' PyProof.Rows.bits_sub ?_ ?_ | refine' PyProof.Rows.bits_neg ?_ | refine' PyProof.Rows.bits_ite ?_ ?_ | refine' bits_rnd ?_ | refine' PyProof.Rows.bits_fdiv ?_ | refine' PyProof.Rows.bits_fmod ?_ ?_ | exact Nat.le_refl _)); (case o9 => with_unfolding_all exact rfl)) | (refine' Bin.mod ?m9; (case m9 => first | decide | exact h0 | omega)) | (refine' Bin.fdiv ?m9 (noPyB ?n9 ?o9); (case m9 => first | decide | omega); (case n9 => (with_reducible repeat' first | exact b_n | exact b_b | refine' PyProof.Rows.bits_mul ?_ ?_ | refine' PyProof.Rows.bits_add ?_ ?_ | refine' PyProof.Rows.bits_sub ?_ ?_ | refine' PyProof.Rows.bits_neg ?_ | refine' PyProof.Rows.bits_ite ?_ ?_ | refine' bits_rnd ?_ | refine' PyProof.Rows.bits_fdiv ?_ | refine' PyProof.Rows.bits_fmod ?_ ?_ | exact Nat.le_refl _)); (case o9 => with_unfolding_all exact rfl)) | exact Una.neg
    | exact Cmp.lt | exact Cmp.le | exact Cmp.gt | exact Cmp.ge | exact Cmp.eq | exact Cmp.ne | exact Cmp.eqB
    | exact ItemOf.lst hm | (with_unfolding_all exact ItemOf.lst (.head _)) | (with_unfolding_all exact ItemOf.lst (.tail _ (.head _))) | exact ItemOf.tup hm | (with_unfolding_all exact ItemOf.tup (.head _))
    | exact Nat.le_trans (Nat.le_of_ble_eq_true rfl) hC | ((show _ ≠ _); first | exact h0 | decide | omega)
        | (refine' Nat.le_trans ?m9 (Nat.le_of_ble_eq_true ?o9); (case m9 => (with_reducible repeat' first | exact b_n | exact b_b | refine' PyProof.Rows.bits_mul ?_ ?_ | refine' PyProof.Rows.bits_add ?_ ?_ | refine' PyProof.Rows.bits_sub ?_ ?_ | refine' PyProof.Rows.bits_neg ?_ | refine' PyProof.Rows.bits_ite ?_ ?_ | refine' bits_rnd ?_ | refine' PyProof.Rows.bits_fdiv ?_ | refine' PyProof.Rows.bits_fmod ?_ ?_ | exact Nat.le_refl _)); (case o9 => with_unfolding_all exact rfl))
    | (with_unfolding_all exact rfl))
      case e2 => exact congrArg PV.int (part_up h0 h (of_decide_eq_true hc) rfl)
    case kb =>
      refine' R.ret (E.ite (W.up ?w ⟨fun h => V.up ?v1 (Back.r ⟨?e1, rfl⟩), fun h => V.up ?v2 (Back.r ⟨?e2, rfl⟩)⟩))
      case w => (with_reducible repeat' first
    | exact V.int
    | (refine' V.lo ?a9; (case a9 => with_unfolding_all exact rfl))
    | (refine' V.grain ?g9; (case g9 => with_unfolding_all exact rfl)) | (refine' V.lone ?g9; (case g9 => with_unfolding_all exact rfl))
    | refine' V.bin ?_ ?_ ?_
    | refine' V.una ?_ ?_
    | (refine' V.cmp ?_ ?_ ?_ ?d9; (case d9 => with_unfolding_all exact rfl))
    | (refine' W.cmp ?_ ?_ ?_ ?d9; (case d9 => with_unfolding_all exact rfl))
    | refine' V.iti ?_ ?_ ?_
    | (refine' V.abs (g_abs _) ?g9 ?_ ?n9; (case g9 => with_unfolding_all exact rfl); (case n9 => with_unfolding_all exact rfl))
    | refine' V.itc ?_ ?_ ?_
    | exact V.boolc | exact V.nonec | refine' V.bone ?_ | (refine' V.band ?_ (fun _ => ?_)) | (refine' V.bor ?_ (fun _ => ?_)) | (refine' V.not ?_)
    | (refine' W.not ?_) | exact W.and0 | exact W.or0 | (refine' W.and ?_ (fun _ => ?_)) | (refine' W.or ?_ (fun _ => ?_))
    | (refine' W.of ?_ ?d9; (case d9 => with_unfolding_all exact rfl))
    | exact Vs.nil | (refine' Vs.cons ?_ ?n9 ?_; (case n9 => with_unfolding_all exact rfl))
    | exact Bin.add | exact Bin.sub | (refine' Bin.mul (mulB ?m9 ?n9 ?o9); (case m9 => (with_reducible repeat' first | exact b_n | exact b_b | refine' PyProof.Rows.bits_mul ?_ ?_ | refine' PyProof.Rows.bits_add ?_ ?_ | refine' PyProof.Rows.bits_sub ?_ ?_ | refine' PyProof.Rows.bits_neg ?_ | refine' PyProof.Rows.bits_ite ?_ ?_ | refine' bits_rnd ?_ | refine' PyProof.Rows.bits_fdiv ?_ | refine' PyProof.Rows.bits_fmod ?_ ?_ | exact Nat.le_refl _)); (case n9 => (with_reducible repeat' first | exact b_n | exact b_b | refine' PyProof.Rows.bits_mul ?_ ?_ | refine' PyProof.Rows.bits_add ?_ ?_ | refine' PyProof.Rows.bits_sub ?_ ?_ | refine' PyProof.Rows.bits_neg ?_ | refine' PyProof.Rows.bits_ite ?_ ?_ | refine' bits_rnd ?_ | refine' PyProof.Rows.bits_fdiv ?_ | refine' PyProof.Rows.bits_fmod ?_ ?_ | exact Nat.le_refl _)); (case o9 => with_unfolding_all exact rfl)) | (refine' Bin.mod ?m9; (case m9 => first | decide | exact h0 | omega)) | (refine' Bin.fdiv ?m9 (noPyB ?n9 ?o9); (case m9 => first | decide | omega); (case n9 => (with_reducible repeat' first | exact b_n | exact b_b | refine' PyProof.Rows.bits_mul ?_ ?_ | refine' PyProof.Rows.bits_add ?_ ?_ | refine' PyProof.Rows.bits_sub ?_ ?_ | refine' PyProof.Rows.bits_neg ?_ | refine' PyProof.Rows.bits_ite ?_ ?_ | refine' bits_rnd ?_ | refine' PyProof.Rows.bits_fdiv ?_ | refine' PyProof.Rows.bits_fmod ?_ ?_ | exact Nat.le_refl _)); (case o9 => with_unfolding_all exact rfl)) | exact Una.neg
    | exact Cmp.lt | exact Cmp.le | exact Cmp.gt | exact Cmp.ge | exact Cmp.eq | exact Cmp.ne | exact Cmp.eqB
    | exact ItemOf.lst hm | (with_unfolding_all exact ItemOf.lst (.head _)) | (with_unfolding_all exact ItemOf.lst (.tail _ (.head _))) | exact ItemOf.tup hm | (with_unfolding_all exact ItemOf.tup (.head _))
    | exact Nat.le_trans (Nat.le_of_ble_eq_true rfl) hC | ((show _ ≠ _); first | exact h0 | decide | omega)
        | (refine' Nat.le_trans ?m9 (Nat.le_of_ble_eq_true ?o9); (case m9 => (with_reducible repeat' first | exact b_n | exact b_b | refine' PyProof.Rows.bits_mul ?_ ?_ | refine' PyProof.Rows.bits_add ?_ ?_ | refine' PyProof.Rows.bits_sub ?_ ?_ | refine' PyProof.Rows.bits_neg ?_ | refine' PyProof.Rows.bits_ite ?_ ?_ | refine' bits_rnd ?_ | refine' PyProof.Rows.bits_fdiv ?_ | refine' PyProof.Rows.bits_fmod ?_ ?_ | exact Nat.le_refl _)); (case o9 => with_unfolding_all exact rfl))
    | (with_unfolding_all exact rfl))
      case v1 => (with_reducible repeat' first
    | exact V.int
    | (refine' V.lo ?a9; (case a9 => with_unfolding_all exact rfl))
    | (refine' V.grain ?g9; (case g9 => with_unfolding_all exact rfl)) | (refine' V.lone ?g9; (case g9 => with_unfolding_all exact rfl))
    | refine' V.bin ?_ ?_ ?_
    | refine' V.una ?_ ?_
    | (refine' V.cmp ?_ ?_ ?_ ?d9; (case d9 => with_unfolding_all exact rfl))
    | (refine' W.cmp ?_ ?_ ?_ ?d9; (case d9 => with_unfolding_all exact rfl))
    | refine' V.iti ?_ ?_ ?_
    | (refine' V.abs (g_abs _) ?g9 ?_ ?n9; (case g9 => with_unfolding_all exact rfl); (case n9 => with_unfolding_all exact rfl))
    | refine' V.itc ?_ ?_ ?_
    | exact V.boolc | exact V.nonec | refine' V.bone ?_ | (refine' V.band ?_ (fun _ => ?_)) | (refine' V.bor ?_ (fun _ => ?_)) | (refine' V.not ?_)
    | (refine' W.not ?_) | exact W.and0 | exact W.or0 | (refine' W.and ?_ (fun _ => ?_)) | (refine' W.or ?_ (fun _ => ?_))
    | (refine' W.of ?_ ?d9; (case d9 => with_unfolding_all exact rfl))
    | exact Vs.nil | (refine' Vs.cons ?_ ?n9 ?_; (case n9 => with_unfolding_all exact rfl))
    | exact Bin.add | exact Bin.sub | (refine' Bin.mul (mulB ?m9 ?n9 ?o9); (case m9 => (with_reducible repeat' first | exact b_n | exact b_b | refine' PyProof.Rows.bits_mul ?_ ?_ | refine' PyProof.Rows.bits_add ?_ ?_ | refine' PyProof.Rows.bits_sub ?_ ?_ | refine' PyProof.Rows.bits_neg ?_ | refine' PyProof.Rows.bits_ite ?_ ?_ | refine' bits_rnd ?_ | refine' PyProof.Rows.bits_fdiv ?_ | refine' PyProof.Rows.bits_fmod ?_ ?_ | exact Nat.le_refl _)); (case n9 => (with_reducible repeat' first | exact b_n | exact b_b | refine' PyProof.Rows.bits_mul ?_ ?_ | refine' PyProof.Rows.bits_add ?_ ?_ | refine' PyProof.Rows.bits_sub ?_ ?_ | refine' PyProof.Rows.bits_neg ?_ | refine' PyProof.Rows.bits_ite ?_ ?_ | refine' bits_rnd ?_ | refine' PyProof.Rows.bits_fdiv ?_ | refine' PyProof.Rows.bits_fmod ?_ ?_ | exact Nat.le_refl _)); (case o9 => with_unfolding_all exact rfl)) | (refine' Bin.mod ?m9; (case m9 => first | decide | exact h0 | omega)) | (refine' Bin.fdiv ?m9 (noPyB ?n9 ?o9); (case m9 => first | decide | omega); (case n9 => (with_reducible repeat' first | exact b_n | exact b_b | refine' PyProof.Rows.bits_mul ?_ ?_ | refine' PyProof.Rows.bits_add ?_ ?_ | refine' PyProof.Rows.bits_sub ?_ ?_ | refine' PyProof.Rows.bits_neg ?_ | refine' PyProof.Rows.bits_ite ?_ ?_ | refine' bits_rnd ?_ | refine' PyProof.Rows.bits_fdiv ?_ | refine' PyProof.Rows.bits_fmod ?_ ?_ | exact Nat.le_refl _)); (case o9 => with_unfolding_all exact rfl)) | exact Una.neg
    | exact Cmp.lt | exact Cmp.le | exact Cmp.gt | exact Cmp.ge | exact Cmp.eq | exact Cmp.ne | exact Cmp.eqB
    | exact ItemOf.lst hm | (with_unfolding_all exact ItemOf.lst (.head _)) | (with_unfolding_all exact ItemOf.lst (.tail _ (.head _))) | exact ItemOf.tup hm | (with_unfolding_all exact ItemOf.tup (.head _))
    | exact Nat.le_trans (Nat.le_of_ble_eq_true rfl) hC | ((show _ ≠ _); first | exact h0 | decide | omega)
        | (refine' Nat.le_trans ?m9 (Nat.le_of_ble_eq_true ?o9); (case m9 => (with_reducible repeat' first | exact b_n | exact b_b | refine' PyProof.Rows.bits_mul ?_ ?_ | refine' PyProof.Rows.bits_add ?_ ?_ | refine' PyProof.Rows.bits_sub ?_ ?_ | refine' PyProof.Rows.bits_neg ?_ | refine' PyProof.Rows.bits_ite ?_ ?_ | refine' bits_rnd ?_ | refine' PyProof.Rows.bits_fdiv ?_ | refine' PyProof.Rows.bits_fmod ?_ ?_ | exact Nat.le_refl _)); (case o9 => with_unfolding_all exact rfl))
    | (with_unfolding_all exact rfl))
      case e1 => exact congrArg PV.int (part_low h0 h (of_decide_eq_false hc) rfl)
      case v2 => (with_reducible repeat' first
    | exact V.int
    | (refine' V.lo ?a9; (case a9 => with_unfolding_all exact rfl))
    | (refine' V.grain ?g9; (case g9 => with_unfolding_all exact rfl)) | (refine' V.lone ?g9; (case g9 => with_unfolding_all exact rfl))
    | refine' V.bin ?_ ?_ ?_
    | refine' V.una ?_ ?_
    | (refine' V.cmp ?_ ?_ ?_ ?d9; (case d9 => with_unfolding_all exact rfl))
    | (refine' W.cmp ?_ ?_ ?_ ?d9; (case d9 => with_unfolding_all exact rfl))
    | refine' V.iti ?_ ?_ ?_
    | (refine' V.abs (g_abs _) ?g9 ?_ ?n9; (case g9 => with_unfolding_all exact rfl); (case n9 => with_unfolding_all exact rfl))
    | refine' V.itc ?_ ?_ ?_
    | exact V.boolc | exact V.nonec | refine' V.bone ?_ | (refine' V.band ?_ (fun _ => ?_)) | (refine' V.bor ?_ (fun _ => ?_)) | (refine' V.not ?_)
    | (refine' W.not ?_) | exact W.and0 | exact W.or0 | (refine' W.and ?_ (fun _ => ?_)) | (refine' W.or ?_ (fun _ => ?_))
    | (refine' W.of ?_ ?d9; (case d9 => with_unfolding_all exact rfl))
    | exact Vs.nil | (refine' Vs.cons ?_ ?n9 ?_; (case n9 => with_unfolding_all exact rfl))
    | exact Bin.add | exact Bin.sub | (refine' Bin.mul (mulB ?m9 ?n9 ?o9); (case m9 => (with_reducible repeat' first | exact b_n | exact b_b | refine' PyProof.Rows.bits_mul ?_ ?_ | refine' PyProof.Rows.bits_add ?_ ?_ | refine' PyProof.Rows.bits_sub ?_ ?_ | refine' PyProof.Rows.bits_neg ?_ | refine' PyProof.Rows.bits_ite ?_ ?_ | refine' bits_rnd ?_ | refine' PyProof.Rows.bits_fdiv ?_ | refine' PyProof.Rows.bits_fmod ?_ ?_ | exact Nat.le_refl _)); (case n9 => (with_reducible repeat' first | exact b_n | exact b_b | refine' PyProof.Rows.bits_mul ?_ ?_ | refine' PyProof.Rows.bits_add ?_ ?_ | refine' PyProof.Rows.bits_sub ?_ ?_ | refine' PyProof.Rows.bits_neg ?_ | refine' PyProof.Rows.bits_ite ?_ ?_ | refine' bits_rnd ?_ | refine' PyProof.Rows.bits_fdiv ?_ | refine' PyProof.Rows.bits_fmod ?_ ?_ | exact Nat.le_refl _)); (case o9 => with_unfolding_all exact rfl)) | (refine' Bin.mod ?m9; (case m9 => first | decide | exact h0 | omega)) | (refine' Bin.fdiv ?m9 (noPyB ?n9 ?o9); (case m9 => first | decide | omega); (case n9 => (with_reducible repeat' first | exact b_n | exact b_b | refine' PyProof.Rows.bits_mul ?_ ?_ | refine' PyProof.Rows.bits_add ?_ ?_ | refine' PyProof.Rows.bits_sub ?_ ?_ | refine' PyProof.Rows.bits_neg ?_ | refine' PyProof.Rows.bits_ite ?_ ?_ | refine' bits_rnd ?_ | refine' PyProof.Rows.bits_fdiv ?_ | refine' PyProof.Rows.bits_fmod ?_ ?_ | exact Nat.le_refl _)); (case o9 => with_unfolding_all exact rfl)) | exact Una.neg
    | exact Cmp.lt | exact Cmp.le | exact Cmp.gt | exact Cmp.ge | exact Cmp.eq | exact Cmp.ne | exact Cmp.eqB
    | exact ItemOf.lst hm | (with_unfolding_all exact ItemOf.lst (.head _)) | (with_unfolding_all exact ItemOf.lst (.tail _ (.head _))) | exact ItemOf.tup hm | (with_unfolding_all exact ItemOf.tup (.head _))
    | exact Nat.le_trans (Nat.le_of_ble_eq_true rfl) hC | ((show _ ≠ _); first | exact h0 | decide | omega)
        | (refine' Nat.le_trans ?m9 (Nat.le_of_ble_eq_true ?o9); (case m9 => (with_reducible repeat' first | exact b_n | exact b_b | refine' PyProof.Rows.bits_mul ?_ ?_ | refine' PyProof.Rows.bits_add ?_ ?_ | refine' PyProof.Rows.bits_sub ?_ ?_ | refine' PyProof.Rows.bits_neg ?_ | refine' PyProof.Rows.bits_ite ?_ ?_ | refine' bits_rnd ?_ | refine' PyProof.Rows.bits_fdiv ?_ | refine' PyProof.Rows.bits_fmod ?_ ?_ | exact Nat.le_refl _)); (case o9 => with_unfolding_all exact rfl))
    | (with_unfolding_all exact rfl))
      case e2 => exact congrArg PV.int (part_low h0 h (of_decide_eq_false hc) rfl)
end Mine
end
section
open PySem PySem.W PyProof.Rows PySem.Calls
set_option Elab.async false
set_option linter.unusedVariables false
set_option maxRecDepth 100000
set_option maxHeartbeats 4000000
namespace Mine
theorem warm_F2 : PySem.Challenge.rw_pb0513_01.Holds → kK = kK := by
  k_fill
  intro _; rfl
theorem f_identity {η : Hp} : MkL 96 1 [] η (intL [1000000, 0, 0, 1000000, 0, 0]) := by
  refine' Fn.enter0  (fun P => ?ho) (fun P => ?hcd) (fun s  => ?hb) ?he ?h
  case ho => exact rfl
  case hcd => kernel_rfl
  case hb => exact BindsTo.of_eq rfl
  case he => rfl
  intro C hC
  refine' R.reL (ps := [.int 1000000, .int 0, .int 0, .int 1000000, .int 0, .int 0]) ?vs rfl fun l => ⟨l, rfl, rfl⟩
  case vs => (with_reducible repeat' first
    | exact V.int
    | (refine' V.lo ?a9; (case a9 => with_unfolding_all exact rfl))
    | (refine' V.grain ?g9; (case g9 => with_unfolding_all exact rfl)) | (refine' V.lone ?g9; (case g9 => with_unfolding_all exact rfl))
    | refine' V.bin ?_ ?_ ?_
    | refine' V.una ?_ ?_
    | (refine' V.cmp ?_ ?_ ?_ ?d9; (case d9 => with_unfolding_all exact rfl))
    | (refine' W.cmp ?_ ?_ ?_ ?d9; (case d9 => with_unfolding_all exact rfl))
    | refine' V.iti ?_ ?_ ?_
    | (refine' V.abs (g_abs _) ?g9 ?_ ?n9; (case g9 => with_unfolding_all exact rfl); (case n9 => with_unfolding_all exact rfl))
    | refine' V.itc ?_ ?_ ?_
    | exact V.boolc | exact V.nonec | refine' V.bone ?_ | (refine' V.band ?_ (fun _ => ?_)) | (refine' V.bor ?_ (fun _ => ?_)) | (refine' V.not ?_)
    | (refine' W.not ?_) | exact W.and0 | exact W.or0 | (refine' W.and ?_ (fun _ => ?_)) | (refine' W.or ?_ (fun _ => ?_))
    | (refine' W.of ?_ ?d9; (case d9 => with_unfolding_all exact rfl))
    | exact Vs.nil | (refine' Vs.cons ?_ ?n9 ?_; (case n9 => with_unfolding_all exact rfl))
    | exact Bin.add | exact Bin.sub | (refine' Bin.mul (mulB ?m9 ?n9 ?o9); (case m9 => (with_reducible repeat' first  | refine' PyProof.Rows.bits_mul ?_ ?_ | refine' PyProof.Rows.bits_add ?_ ?_ | refine' PyProof.Rows.bits_sub ?_ ?_ | refine' PyProof.Rows.bits_neg ?_ | refine' PyProof.Rows.bits_ite ?_ ?_ | refine' bits_rnd ?_ | refine' PyProof.Rows.bits_fdiv ?_ | refine' PyProof.Rows.bits_fmod ?_ ?_ | exact Nat.le_refl _)); (case n9 => (with_reducible repeat' first  | refine' PyProof.Rows.bits_mul ?_ ?_ | refine' PyProof.Rows.bits_add ?_ ?_ | refine' PyProof.Rows.bits_sub ?_ ?_ | refine' PyProof.Rows.bits_neg ?_ | refine' PyProof.Rows.bits_ite ?_ ?_ | refine' bits_rnd ?_ | refine' PyProof.Rows.bits_fdiv ?_ | refine' PyProof.Rows.bits_fmod ?_ ?_ | exact Nat.le_refl _)); (case o9 => with_unfolding_all exact rfl)) | (refine' Bin.mod ?m9; (case m9 => first | decide | exact h0 | omega)) | (refine' Bin.fdiv ?m9 (noPyB ?n9 ?o9); (case m9 => first | decide | omega); (case n9 => (with_reducible repeat' first  | refine' PyProof.Rows.bits_mul ?_ ?_ | refine' PyProof.Rows.bits_add ?_ ?_ | refine' PyProof.Rows.bits_sub ?_ ?_ | refine' PyProof.Rows.bits_neg ?_ | refine' PyProof.Rows.bits_ite ?_ ?_ | refine' bits_rnd ?_ | refine' PyProof.Rows.bits_fdiv ?_ | refine' PyProof.Rows.bits_fmod ?_ ?_ | exact Nat.le_refl _)); (case o9 => with_unfolding_all exact rfl)) | exact Una.neg
    | exact Cmp.lt | exact Cmp.le | exact Cmp.gt | exact Cmp.ge | exact Cmp.eq | exact Cmp.ne | exact Cmp.eqB
    | exact ItemOf.lst hm | (with_unfolding_all exact ItemOf.lst (.head _)) | (with_unfolding_all exact ItemOf.lst (.tail _ (.head _))) | exact ItemOf.tup hm | (with_unfolding_all exact ItemOf.tup (.head _))
    | exact Nat.le_trans (Nat.le_of_ble_eq_true rfl) hC | ((show _ ≠ _); first | exact h0 | decide | omega)
        | (refine' Nat.le_trans ?m9 (Nat.le_of_ble_eq_true ?o9); (case m9 => (with_reducible repeat' first  | refine' PyProof.Rows.bits_mul ?_ ?_ | refine' PyProof.Rows.bits_add ?_ ?_ | refine' PyProof.Rows.bits_sub ?_ ?_ | refine' PyProof.Rows.bits_neg ?_ | refine' PyProof.Rows.bits_ite ?_ ?_ | refine' bits_rnd ?_ | refine' PyProof.Rows.bits_fdiv ?_ | refine' PyProof.Rows.bits_fmod ?_ ?_ | exact Nat.le_refl _)); (case o9 => with_unfolding_all exact rfl))
    | (refine' V.call i_divided ?g9 ?_ ?_ (f_divided _ _ _ ?_ ?_ ?_); (case g9 => with_unfolding_all exact rfl))
    | (refine' V.call i_determinant ?g9 ?_ ?_ (f_determinant ?_ ?_ ?_ ?_ ?_); (case g9 => with_unfolding_all exact rfl))
    | (refine' V.call i_is_upright ?g9 ?_ ?_ (f_is_upright ?_); (case g9 => with_unfolding_all exact rfl))
    | (refine' V.call i_is_singular ?g9 ?_ ?_ (f_is_singular ?_ ?_ ?_ ?_ ?_); (case g9 => with_unfolding_all exact rfl))
    | exact hm
    | (with_unfolding_all exact rfl))
theorem f_scaling {η : Hp} (x y : Int) : MkL 103 1 [.int x, .int y] η (intL [x, 0, 0, y, 0, 0]) := by
  refine' Fn.enter2 "x" "y" (fun P => ?ho) (fun P => ?hcd) (fun s v1 v2 => ?hb) ?he ?h
  case ho => exact rfl
  case hcd => kernel_rfl
  case hb => exact BindsTo.of_eq rfl
  case he => rfl
  intro C hC
  refine' R.reL (ps := [.int x, .int 0, .int 0, .int y, .int 0, .int 0]) ?vs rfl fun l => ⟨l, rfl, rfl⟩
  case vs => (with_reducible repeat' first
    | exact V.int
    | (refine' V.lo ?a9; (case a9 => with_unfolding_all exact rfl))
    | (refine' V.grain ?g9; (case g9 => with_unfolding_all exact rfl)) | (refine' V.lone ?g9; (case g9 => with_unfolding_all exact rfl))
    | refine' V.bin ?_ ?_ ?_
    | refine' V.una ?_ ?_
    | (refine' V.cmp ?_ ?_ ?_ ?d9; (case d9 => with_unfolding_all exact rfl))
    | (refine' W.cmp ?_ ?_ ?_ ?d9; (case d9 => with_unfolding_all exact rfl))
    | refine' V.iti ?_ ?_ ?_
    | (refine' V.abs (g_abs _) ?g9 ?_ ?n9; (case g9 => with_unfolding_all exact rfl); (case n9 => with_unfolding_all exact rfl))
    | refine' V.itc ?_ ?_ ?_
    | exact V.boolc | exact V.nonec | refine' V.bone ?_ | (refine' V.band ?_ (fun _ => ?_)) | (refine' V.bor ?_ (fun _ => ?_)) | (refine' V.not ?_)
    | (refine' W.not ?_) | exact W.and0 | exact W.or0 | (refine' W.and ?_ (fun _ => ?_)) | (refine' W.or ?_ (fun _ => ?_))
    | (refine' W.of ?_ ?d9; (case d9 => with_unfolding_all exact rfl))
    | exact Vs.nil | (refine' Vs.cons ?_ ?n9 ?_; (case n9 => with_unfolding_all exact rfl))
    | exact Bin.add | exact Bin.sub | (refine' Bin.mul (mulB ?m9 ?n9 ?o9); (case m9 => (with_reducible repeat' first  | refine' PyProof.Rows.bits_mul ?_ ?_ | refine' PyProof.Rows.bits_add ?_ ?_ | refine' PyProof.Rows.bits_sub ?_ ?_ | refine' PyProof.Rows.bits_neg ?_ | refine' PyProof.Rows.bits_ite ?_ ?_ | refine' bits_rnd ?_ | refine' PyProof.Rows.bits_fdiv ?_ | refine' PyProof.Rows.bits_fmod ?_ ?_ | exact Nat.le_refl _)); (case n9 => (with_reducible repeat' first  | refine' PyProof.Rows.bits_mul ?_ ?_ | refine' PyProof.Rows.bits_add ?_ ?_ | refine' PyProof.Rows.bits_sub ?_ ?_ | refine' PyProof.Rows.bits_neg ?_ | refine' PyProof.Rows.bits_ite ?_ ?_ | refine' bits_rnd ?_ | refine' PyProof.Rows.bits_fdiv ?_ | refine' PyProof.Rows.bits_fmod ?_ ?_ | exact Nat.le_refl _)); (case o9 => with_unfolding_all exact rfl)) | (refine' Bin.mod ?m9; (case m9 => first | decide | exact h0 | omega)) | (refine' Bin.fdiv ?m9 (noPyB ?n9 ?o9); (case m9 => first | decide | omega); (case n9 => (with_reducible repeat' first  | refine' PyProof.Rows.bits_mul ?_ ?_ | refine' PyProof.Rows.bits_add ?_ ?_ | refine' PyProof.Rows.bits_sub ?_ ?_ | refine' PyProof.Rows.bits_neg ?_ | refine' PyProof.Rows.bits_ite ?_ ?_ | refine' bits_rnd ?_ | refine' PyProof.Rows.bits_fdiv ?_ | refine' PyProof.Rows.bits_fmod ?_ ?_ | exact Nat.le_refl _)); (case o9 => with_unfolding_all exact rfl)) | exact Una.neg
    | exact Cmp.lt | exact Cmp.le | exact Cmp.gt | exact Cmp.ge | exact Cmp.eq | exact Cmp.ne | exact Cmp.eqB
    | exact ItemOf.lst hm | (with_unfolding_all exact ItemOf.lst (.head _)) | (with_unfolding_all exact ItemOf.lst (.tail _ (.head _))) | exact ItemOf.tup hm | (with_unfolding_all exact ItemOf.tup (.head _))
    | exact Nat.le_trans (Nat.le_of_ble_eq_true rfl) hC | ((show _ ≠ _); first | exact h0 | decide | omega)
        | (refine' Nat.le_trans ?m9 (Nat.le_of_ble_eq_true ?o9); (case m9 => (with_reducible repeat' first  | refine' PyProof.Rows.bits_mul ?_ ?_ | refine' PyProof.Rows.bits_add ?_ ?_ | refine' PyProof.Rows.bits_sub ?_ ?_ | refine' PyProof.Rows.bits_neg ?_ | refine' PyProof.Rows.bits_ite ?_ ?_ | refine' bits_rnd ?_ | refine' PyProof.Rows.bits_fdiv ?_ | refine' PyProof.Rows.bits_fmod ?_ ?_ | exact Nat.le_refl _)); (case o9 => with_unfolding_all exact rfl))
    | (refine' V.call i_divided ?g9 ?_ ?_ (f_divided _ _ _ ?_ ?_ ?_); (case g9 => with_unfolding_all exact rfl))
    | (refine' V.call i_determinant ?g9 ?_ ?_ (f_determinant ?_ ?_ ?_ ?_ ?_); (case g9 => with_unfolding_all exact rfl))
    | (refine' V.call i_is_upright ?g9 ?_ ?_ (f_is_upright ?_); (case g9 => with_unfolding_all exact rfl))
    | (refine' V.call i_is_singular ?g9 ?_ ?_ (f_is_singular ?_ ?_ ?_ ?_ ?_); (case g9 => with_unfolding_all exact rfl))
    | exact hm
    | (with_unfolding_all exact rfl))
section
variable {η : Hp} {a : Addr} {m0 m1 m2 m3 m4 m5 : Int}
theorem f_determinant (hm : (a, HO.lst (intL [m0, m1, m2, m3, m4, m5])) ∈ η) (b_m0 : bits m0 ≤ 40) (b_m1 : bits m1 ≤ 40) (b_m2 : bits m2 ≤ 40) (b_m3 : bits m3 ≤ 40) : Pure 122 1 [.ref a] η (.int (m0 * m3 - m1 * m2)) := by
  refine' Fn.enter1 "m" (fun P => ?ho) (fun P => ?hcd) (fun s v1 => ?hb) ?he ?h
  case ho => exact rfl
  case hcd => kernel_rfl
  case hb => exact BindsTo.of_eq rfl
  case he => rfl
  intro C hC
  refine' R.re1 ?v ⟨rfl, rfl⟩
  case v => (with_reducible repeat' first
    | exact V.int
    | (refine' V.lo ?a9; (case a9 => with_unfolding_all exact rfl))
    | (refine' V.grain ?g9; (case g9 => with_unfolding_all exact rfl)) | (refine' V.lone ?g9; (case g9 => with_unfolding_all exact rfl))
    | refine' V.bin ?_ ?_ ?_
    | refine' V.una ?_ ?_
    | (refine' V.cmp ?_ ?_ ?_ ?d9; (case d9 => with_unfolding_all exact rfl))
    | (refine' W.cmp ?_ ?_ ?_ ?d9; (case d9 => with_unfolding_all exact rfl))
    | refine' V.iti ?_ ?_ ?_
    | (refine' V.abs (g_abs _) ?g9 ?_ ?n9; (case g9 => with_unfolding_all exact rfl); (case n9 => with_unfolding_all exact rfl))
    | refine' V.itc ?_ ?_ ?_
    | exact V.boolc | exact V.nonec | refine' V.bone ?_ | (refine' V.band ?_ (fun _ => ?_)) | (refine' V.bor ?_ (fun _ => ?_)) | (refine' V.not ?_)
    | (refine' W.not ?_) | exact W.and0 | exact W.or0 | (refine' W.and ?_ (fun _ => ?_)) | (refine' W.or ?_ (fun _ => ?_))
    | (refine' W.of ?_ ?d9; (case d9 => with_unfolding_all exact rfl))
    | exact Vs.nil | (refine' Vs.cons ?_ ?n9 ?_; (case n9 => with_unfolding_all exact rfl))
    | exact Bin.add | exact Bin.sub | (refine' Bin.mul (mulB ?m9 ?n9 ?o9); (case m9 => (with_reducible repeat' first | exact b_m0 | exact b_m1 | exact b_m2 | exact b_m3 | refine' PyProof.Rows.bits_mul ?_ ?_ | refine' PyProof.Rows.bits_add ?_ ?_ | refine' PyProof.Rows.bits_sub ?_ ?_ | refine' PyProof.Rows.bits_neg ?_ | refine' PyProof.Rows.bits_ite ?_ ?_ | refine' bits_rnd ?_ | refine' PyProof.Rows.bits_fdiv ?_ | refine' PyProof.Rows.bits_fmod ?_ ?_ | exact Nat.le_refl _)); (case n9 => (with_reducible repeat' first | exact b_m0 | exact b_m1 | exact b_m2 | exact b_m3 | refine' PyProof.Rows.bits_mul ?_ ?_ | refine' PyProof.Rows.bits_add ?_ ?_ | refine' PyProof.Rows.bits_sub ?_ ?_ | refine' PyProof.Rows.bits_neg ?_ | refine' PyProof.Rows.bits_ite ?_ ?_ | refine' bits_rnd ?_ | refine' PyProof.Rows.bits_fdiv ?_ | refine' PyProof.Rows.bits_fmod ?_ ?_ | exact Nat.le_refl _)); (case o9 => with_unfolding_all exact rfl)) | (refine' Bin.mod ?m9; (case m9 => first | decide | exact h0 | omega)) | (refine' Bin.fdiv ?m9 (noPyB ?n9 ?o9); (case m9 => first | decide | omega); (case n9 => (with_reducible repeat' first | exact b_m0 | exact b_m1 | exact b_m2 | exact b_m3 | refine' PyProof.Rows.bits_mul ?_ ?_ | refine' PyProof.Rows.bits_add ?_ ?_ | refine' PyProof.Rows.bits_sub ?_ ?_ | refine' PyProof.Rows.bits_neg ?_ | refine' PyProof.Rows.bits_ite ?_ ?_ | refine' bits_rnd ?_ | refine' PyProof.Rows.bits_fdiv ?_ | refine' PyProof.Rows.bits_fmod ?_ ?_ | exact Nat.le_refl _)); (case o9 => with_unfolding_all exact rfl)) | exact Una.neg
    | exact Cmp.lt | exact Cmp.le | exact Cmp.gt | exact Cmp.ge | exact Cmp.eq | exact Cmp.ne | exact Cmp.eqB
    | exact ItemOf.lst hm | (with_unfolding_all exact ItemOf.lst (.head _)) | (with_unfolding_all exact ItemOf.lst (.tail _ (.head _))) | exact ItemOf.tup hm | (with_unfolding_all exact ItemOf.tup (.head _))
    | exact Nat.le_trans (Nat.le_of_ble_eq_true rfl) hC | ((show _ ≠ _); first | exact h0 | decide | omega)
        | (refine' Nat.le_trans ?m9 (Nat.le_of_ble_eq_true ?o9); (case m9 => (with_reducible repeat' first | exact b_m0 | exact b_m1 | exact b_m2 | exact b_m3 | refine' PyProof.Rows.bits_mul ?_ ?_ | refine' PyProof.Rows.bits_add ?_ ?_ | refine' PyProof.Rows.bits_sub ?_ ?_ | refine' PyProof.Rows.bits_neg ?_ | refine' PyProof.Rows.bits_ite ?_ ?_ | refine' bits_rnd ?_ | refine' PyProof.Rows.bits_fdiv ?_ | refine' PyProof.Rows.bits_fmod ?_ ?_ | exact Nat.le_refl _)); (case o9 => with_unfolding_all exact rfl))
    | (refine' V.call i_divided ?g9 ?_ ?_ (f_divided _ _ _ ?_ ?_ ?_); (case g9 => with_unfolding_all exact rfl))
    | (refine' V.call i_determinant ?g9 ?_ ?_ (f_determinant ?_ ?_ ?_ ?_ ?_); (case g9 => with_unfolding_all exact rfl))
    | (refine' V.call i_is_upright ?g9 ?_ ?_ (f_is_upright ?_); (case g9 => with_unfolding_all exact rfl))
    | (refine' V.call i_is_singular ?g9 ?_ ?_ (f_is_singular ?_ ?_ ?_ ?_ ?_); (case g9 => with_unfolding_all exact rfl))
    | exact hm
    | (with_unfolding_all exact rfl))
theorem f_is_singular (hm : (a, HO.lst (intL [m0, m1, m2, m3, m4, m5])) ∈ η) (b_m0 : bits m0 ≤ 40) (b_m1 : bits m1 ≤ 40) (b_m2 : bits m2 ≤ 40) (b_m3 : bits m3 ≤ 40) : Pure 129 2 [.ref a] η (.bool (m0 * m3 - m1 * m2 == 0)) := by
  refine' Fn.enter1 "m" (fun P => ?ho) (fun P => ?hcd) (fun s v1 => ?hb) ?he ?h
  case ho => exact rfl
  case hcd => kernel_rfl
  case hb => exact BindsTo.of_eq rfl
  case he => rfl
  intro C hC
  refine' R.re1 ?v ⟨rfl, rfl⟩
  case v => (with_reducible repeat' first
    | exact V.int
    | (refine' V.lo ?a9; (case a9 => with_unfolding_all exact rfl))
    | (refine' V.grain ?g9; (case g9 => with_unfolding_all exact rfl)) | (refine' V.lone ?g9; (case g9 => with_unfolding_all exact rfl))
    | refine' V.bin ?_ ?_ ?_
    | refine' V.una ?_ ?_
    | (refine' V.cmp ?_ ?_ ?_ ?d9; (case d9 => with_unfolding_all exact rfl))
    | (refine' W.cmp ?_ ?_ ?_ ?d9; (case d9 => with_unfolding_all exact rfl))
    | refine' V.iti ?_ ?_ ?_
    | (refine' V.abs (g_abs _) ?g9 ?_ ?n9; (case g9 => with_unfolding_all exact rfl); (case n9 => with_unfolding_all exact rfl))
    | refine' V.itc ?_ ?_ ?_
    | exact V.boolc | exact V.nonec | refine' V.bone ?_ | (refine' V.band ?_ (fun _ => ?_)) | (refine' V.bor ?_ (fun _ => ?_)) | (refine' V.not ?_)
    | (refine' W.not ?_) | exact W.and0 | exact W.or0 | (refine' W.and ?_ (fun _ => ?_)) | (refine' W.or ?_ (fun _ => ?_))
    | (refine' W.of ?_ ?d9; (case d9 => with_unfolding_all exact rfl))
    | exact Vs.nil | (refine' Vs.cons ?_ ?n9 ?_; (case n9 => with_unfolding_all exact rfl))
    | exact Bin.add | exact Bin.sub | (refine' Bin.mul (mulB ?m9 ?n9 ?o9); (case m9 => (with_reducible repeat' first | exact b_m0 | exact b_m1 | exact b_m2 | exact b_m3 | refine' PyProof.Rows.bits_mul ?_ ?_ | refine' PyProof.Rows.bits_add ?_ ?_ | refine' PyProof.Rows.bits_sub ?_ ?_ | refine' PyProof.Rows.bits_neg ?_ | refine' PyProof.Rows.bits_ite ?_ ?_ | refine' bits_rnd ?_ | refine' PyProof.Rows.bits_fdiv ?_ | refine' PyProof.Rows.bits_fmod ?_ ?_ | exact Nat.le_refl _)); (case n9 => (with_reducible repeat' first | exact b_m0 | exact b_m1 | exact b_m2 | exact b_m3 | refine' PyProof.Rows.bits_mul ?_ ?_ | refine' PyProof.Rows.bits_add ?_ ?_ | refine' PyProof.Rows.bits_sub ?_ ?_ | refine' PyProof.Rows.bits_neg ?_ | refine' PyProof.Rows.bits_ite ?_ ?_ | refine' bits_rnd ?_ | refine' PyProof.Rows.bits_fdiv ?_ | refine' PyProof.Rows.bits_fmod ?_ ?_ | exact Nat.le_refl _)); (case o9 => with_unfolding_all exact rfl)) | (refine' Bin.mod ?m9; (case m9 => first | decide | exact h0 | omega)) | (refine' Bin.fdiv ?m9 (noPyB ?n9 ?o9); (case m9 => first | decide | omega); (case n9 => (with_reducible repeat' first | exact b_m0 | exact b_m1 | exact b_m2 | exact b_m3 | refine' PyProof.Rows.bits_mul ?_ ?_ | refine' PyProof.Rows.bits_add ?_ ?_ | refine' PyProof.Rows.bits_sub ?_ ?_ | refine' PyProof.Rows.bits_neg ?_ | refine' PyProof.Rows.bits_ite ?_ ?_ | refine' bits_rnd ?_ | refine' PyProof.Rows.bits_fdiv ?_ | refine' PyProof.Rows.bits_fmod ?_ ?_ | exact Nat.le_refl _)); (case o9 => with_unfolding_all exact rfl)) | exact Una.neg
    | exact Cmp.lt | exact Cmp.le | exact Cmp.gt | exact Cmp.ge | exact Cmp.eq | exact Cmp.ne | exact Cmp.eqB
    | exact ItemOf.lst hm | (with_unfolding_all exact ItemOf.lst (.head _)) | (with_unfolding_all exact ItemOf.lst (.tail _ (.head _))) | exact ItemOf.tup hm | (with_unfolding_all exact ItemOf.tup (.head _))
    | exact Nat.le_trans (Nat.le_of_ble_eq_true rfl) hC | ((show _ ≠ _); first | exact h0 | decide | omega)
        | (refine' Nat.le_trans ?m9 (Nat.le_of_ble_eq_true ?o9); (case m9 => (with_reducible repeat' first | exact b_m0 | exact b_m1 | exact b_m2 | exact b_m3 | refine' PyProof.Rows.bits_mul ?_ ?_ | refine' PyProof.Rows.bits_add ?_ ?_ | refine' PyProof.Rows.bits_sub ?_ ?_ | refine' PyProof.Rows.bits_neg ?_ | refine' PyProof.Rows.bits_ite ?_ ?_ | refine' bits_rnd ?_ | refine' PyProof.Rows.bits_fdiv ?_ | refine' PyProof.Rows.bits_fmod ?_ ?_ | exact Nat.le_refl _)); (case o9 => with_unfolding_all exact rfl))
    | (refine' V.call i_divided ?g9 ?_ ?_ (f_divided _ _ _ ?_ ?_ ?_); (case g9 => with_unfolding_all exact rfl))
    | (refine' V.call i_determinant ?g9 ?_ ?_ (f_determinant ?_ ?_ ?_ ?_ ?_); (case g9 => with_unfolding_all exact rfl))
    | (refine' V.call i_is_upright ?g9 ?_ ?_ (f_is_upright ?_); (case g9 => with_unfolding_all exact rfl))
    | (refine' V.call i_is_singular ?g9 ?_ ?_ (f_is_singular ?_ ?_ ?_ ?_ ?_); (case g9 => with_unfolding_all exact rfl))
    | exact hm
    | (with_unfolding_all exact rfl))
theorem f_is_mirror (hm : (a, HO.lst (intL [m0, m1, m2, m3, m4, m5])) ∈ η) (b_m0 : bits m0 ≤ 40) (b_m1 : bits m1 ≤ 40) (b_m2 : bits m2 ≤ 40) (b_m3 : bits m3 ≤ 40) : Pure 157 2 [.ref a] η (.bool (decide (m0 * m3 - m1 * m2 < 0))) := by
  refine' Fn.enter1 "m" (fun P => ?ho) (fun P => ?hcd) (fun s v1 => ?hb) ?he ?h
  case ho => exact rfl
  case hcd => kernel_rfl
  case hb => exact BindsTo.of_eq rfl
  case he => rfl
  intro C hC
  refine' R.re1 ?v ⟨rfl, rfl⟩
  case v => (with_reducible repeat' first
    | exact V.int
    | (refine' V.lo ?a9; (case a9 => with_unfolding_all exact rfl))
    | (refine' V.grain ?g9; (case g9 => with_unfolding_all exact rfl)) | (refine' V.lone ?g9; (case g9 => with_unfolding_all exact rfl))
    | refine' V.bin ?_ ?_ ?_
    | refine' V.una ?_ ?_
    | (refine' V.cmp ?_ ?_ ?_ ?d9; (case d9 => with_unfolding_all exact rfl))
    | (refine' W.cmp ?_ ?_ ?_ ?d9; (case d9 => with_unfolding_all exact rfl))
    | refine' V.iti ?_ ?_ ?_
    | (refine' V.abs (g_abs _) ?g9 ?_ ?n9; (case g9 => with_unfolding_all exact rfl); (case n9 => with_unfolding_all exact rfl))
    | refine' V.itc ?_ ?_ ?_
    | exact V.boolc | exact V.nonec | refine' V.bone ?_ | (refine' V.band ?_ (fun _ => ?_)) | (refine' V.bor ?_ (fun _ => ?_)) | (refine' V.not ?_)
    | (refine' W.not ?_) | exact W.and0 | exact W.or0 | (refine' W.and ?_ (fun _ => ?_)) | (refine' W.or ?_ (fun _ => ?_))
    | (refine' W.of ?_ ?d9; (case d9 => with_unfolding_all exact rfl))
    | exact Vs.nil | (refine' Vs.cons ?_ ?n9 ?_; (case n9 => with_unfolding_all exact rfl))
    | exact Bin.add | exact Bin.sub | (refine' Bin.mul (mulB ?m9 ?n9 ?o9); (case m9 => (with_reducible repeat' first | exact b_m0 | exact b_m1 | exact b_m2 | exact b_m3 | refine' PyProof.Rows.bits_mul ?_ ?_ | refine' PyProof.Rows.bits_add ?_ ?_ | refine' PyProof.Rows.bits_sub ?_ ?_ | refine' PyProof.Rows.bits_neg ?_ | refine' PyProof.Rows.bits_ite ?_ ?_ | refine' bits_rnd ?_ | refine' PyProof.Rows.bits_fdiv ?_ | refine' PyProof.Rows.bits_fmod ?_ ?_ | exact Nat.le_refl _)); (case n9 => (with_reducible repeat' first | exact b_m0 | exact b_m1 | exact b_m2 | exact b_m3 | refine' PyProof.Rows.bits_mul ?_ ?_ | refine' PyProof.Rows.bits_add ?_ ?_ | refine' PyProof.Rows.bits_sub ?_ ?_ | refine' PyProof.Rows.bits_neg ?_ | refine' PyProof.Rows.bits_ite ?_ ?_ | refine' bits_rnd ?_ | refine' PyProof.Rows.bits_fdiv ?_ | refine' PyProof.Rows.bits_fmod ?_ ?_ | exact Nat.le_refl _)); (case o9 => with_unfolding_all exact rfl)) | (refine' Bin.mod ?m9; (case m9 => first | decide | exact h0 | omega)) | (refine' Bin.fdiv ?m9 (noPyB ?n9 ?o9); (case m9 => first | decide | omega); (case n9 => (with_reducible repeat' first | exact b_m0 | exact b_m1 | exact b_m2 | exact b_m3 | refine' PyProof.Rows.bits_mul ?_ ?_ | refine' PyProof.Rows.bits_add ?_ ?_ | refine' PyProof.Rows.bits_sub ?_ ?_ | refine' PyProof.Rows.bits_neg ?_ | refine' PyProof.Rows.bits_ite ?_ ?_ | refine' bits_rnd ?_ | refine' PyProof.Rows.bits_fdiv ?_ | refine' PyProof.Rows.bits_fmod ?_ ?_ | exact Nat.le_refl _)); (case o9 => with_unfolding_all exact rfl)) | exact Una.neg
    | exact Cmp.lt | exact Cmp.le | exact Cmp.gt | exact Cmp.ge | exact Cmp.eq | exact Cmp.ne | exact Cmp.eqB
    | exact ItemOf.lst hm | (with_unfolding_all exact ItemOf.lst (.head _)) | (with_unfolding_all exact ItemOf.lst (.tail _ (.head _))) | exact ItemOf.tup hm | (with_unfolding_all exact ItemOf.tup (.head _))
    | exact Nat.le_trans (Nat.le_of_ble_eq_true rfl) hC | ((show _ ≠ _); first | exact h0 | decide | omega)
        | (refine' Nat.le_trans ?m9 (Nat.le_of_ble_eq_true ?o9); (case m9 => (with_reducible repeat' first | exact b_m0 | exact b_m1 | exact b_m2 | exact b_m3 | refine' PyProof.Rows.bits_mul ?_ ?_ | refine' PyProof.Rows.bits_add ?_ ?_ | refine' PyProof.Rows.bits_sub ?_ ?_ | refine' PyProof.Rows.bits_neg ?_ | refine' PyProof.Rows.bits_ite ?_ ?_ | refine' bits_rnd ?_ | refine' PyProof.Rows.bits_fdiv ?_ | refine' PyProof.Rows.bits_fmod ?_ ?_ | exact Nat.le_refl _)); (case o9 => with_unfolding_all exact rfl))
    | (refine' V.call i_divided ?g9 ?_ ?_ (f_divided _ _ _ ?_ ?_ ?_); (case g9 => with_unfolding_all exact rfl))
    | (refine' V.call i_determinant ?g9 ?_ ?_ (f_determinant ?_ ?_ ?_ ?_ ?_); (case g9 => with_unfolding_all exact rfl))
    | (refine' V.call i_is_upright ?g9 ?_ ?_ (f_is_upright ?_); (case g9 => with_unfolding_all exact rfl))
    | (refine' V.call i_is_singular ?g9 ?_ ?_ (f_is_singular ?_ ?_ ?_ ?_ ?_); (case g9 => with_unfolding_all exact rfl))
    | exact hm
    | (with_unfolding_all exact rfl))
end
end Mine
end
section
open PySem PySem.W PyProof.Rows PySem.Calls
set_option Elab.async false
set_option linter.unusedVariables false
set_option maxRecDepth 100000
set_option maxHeartbeats 4000000
namespace Mine
theorem warm_F3 : PySem.Challenge.rw_pb0513_01.Holds → kK = kK := by
  k_fill
  intro _; rfl
theorem rnd_neg (n b : Int) (h0 : b ≠ 0) : rnd (-n) (-b) = rnd n b := by
  unfold rnd
  rw [Int.natAbs_neg, Int.natAbs_neg]
  by_cases hn : n = 0
  · subst hn
    have e : (2 * (0 : Int).natAbs + b.natAbs) / (2 * b.natAbs) = 0 := Nat.div_eq_of_lt (by omega)
    rw [e]; simp
  · have e : ((-n < 0) = (-b < 0)) = ((n < 0) = (b < 0)) := by
      rw [eq_iff_iff, eq_iff_iff, eq_iff_iff]; omega
    simp only [e]
theorem f_matrix_quotient (η : Hp) (n b : Int) (b_n : bits n ≤ 500) (b_b : bits b ≤ 100) (h0 : b ≠ 0) : Pure 89 2 [.int n, .int b] η (.int (rnd n b)) := by
  refine' Fn.enter2 "number" "by" (fun P => ?ho) (fun P => ?hcd) (fun s v1 v2 => ?hb) ?he ?h
  case ho => exact rfl
  case hcd => kernel_rfl
  case hb => exact BindsTo.of_eq rfl
  case he => rfl
  intro C hC
  refine' R.ret (E.ite (W.up ?w ⟨fun h => ?k1, fun h => ?k2⟩))
  case w => (with_reducible repeat' first
    | exact V.int
    | (refine' V.lo ?a9; (case a9 => with_unfolding_all exact rfl))
    | (refine' V.grain ?g9; (case g9 => with_unfolding_all exact rfl)) | (refine' V.lone ?g9; (case g9 => with_unfolding_all exact rfl))
    | refine' V.bin ?_ ?_ ?_
    | refine' V.una ?_ ?_
    | (refine' V.cmp ?_ ?_ ?_ ?d9; (case d9 => with_unfolding_all exact rfl))
    | (refine' W.cmp ?_ ?_ ?_ ?d9; (case d9 => with_unfolding_all exact rfl))
    | refine' V.iti ?_ ?_ ?_
    | (refine' V.abs (g_abs _) ?g9 ?_ ?n9; (case g9 => with_unfolding_all exact rfl); (case n9 => with_unfolding_all exact rfl))
    | refine' V.itc ?_ ?_ ?_
    | exact V.boolc | exact V.nonec | refine' V.bone ?_ | (refine' V.band ?_ (fun _ => ?_)) | (refine' V.bor ?_ (fun _ => ?_)) | (refine' V.not ?_)
    | (refine' W.not ?_) | exact W.and0 | exact W.or0 | (refine' W.and ?_ (fun _ => ?_)) | (refine' W.or ?_ (fun _ => ?_))
    | (refine' W.of ?_ ?d9; (case d9 => with_unfolding_all exact rfl))
    | exact Vs.nil | (refine' Vs.cons ?_ ?n9 ?_; (case n9 => with_unfolding_all exact rfl))
    | exact Bin.add | exact Bin.sub | (refine' Bin.mul (mulB ?m9 ?n9 ?o9); (case m9 => (with_reducible repeat' first | exact b_n | exact b_b | refine' PyProof.Rows.bits_mul ?_ ?_ | refine' PyProof.Rows.bits_add ?_ ?_ | refine' PyProof.Rows.bits_sub ?_ ?_ | refine' PyProof.Rows.bits_neg ?_ | refine' PyProof.Rows.bits_ite ?_ ?_ | refine' bits_rnd ?_ | refine' PyProof.Rows.bits_fdiv ?_ | refine' PyProof.Rows.bits_fmod ?_ ?_ | exact Nat.le_refl _)); (case n9 => (with_reducible repeat' first | exact b_n | exact b_b | refine' PyProof.Rows.bits_mul ?_ ?_ | refine' PyProof.Rows.bits_add ?_ ?_ | refine' PyProof.Rows.bits_sub ?_ ?_ | refine' PyProof.Rows.bits_neg ?_ | refine' PyProof.Rows.bits_ite ?_ ?_ | refine' bits_rnd ?_ | refine' PyProof.Rows.bits_fdiv ?_ | refine' PyProof.Rows.bits_fmod ?_ ?_ | exact Nat.le_refl _)); (case o9 => with_unfolding_all exact rfl)) | (refine' Bin.mod ?m9; (case m9 => first | decide | exact h0 | omega)) | (refine' Bin.fdiv ?m9 (noPyB ?n9 ?o9); (case m9 => first | decide | omega); (case n9 => (with_reducible repeat' first | exact b_n | exact b_b | refine' PyProof.Rows.bits_mul ?_ ?_ | refine' PyProof.Rows.bits_add ?_ ?_ | refine' PyProof.Rows.bits_sub ?_ ?_ | refine' PyProof.Rows.bits_neg ?_ | refine' PyProof.Rows.bits_ite ?_ ?_ | refine' bits_rnd ?_ | refine' PyProof.Rows.bits_fdiv ?_ | refine' PyProof.Rows.bits_fmod ?_ ?_ | exact Nat.le_refl _)); (case o9 => with_unfolding_all exact rfl)) | exact Una.neg
    | exact Cmp.lt | exact Cmp.le | exact Cmp.gt | exact Cmp.ge | exact Cmp.eq | exact Cmp.ne | exact Cmp.eqB
    | exact ItemOf.lst hm | (with_unfolding_all exact ItemOf.lst (.head _)) | (with_unfolding_all exact ItemOf.lst (.tail _ (.head _))) | exact ItemOf.tup hm | (with_unfolding_all exact ItemOf.tup (.head _))
    | exact Nat.le_trans (Nat.le_of_ble_eq_true rfl) hC | ((show _ ≠ _); first | exact h0 | decide | omega)
        | (refine' Nat.le_trans ?m9 (Nat.le_of_ble_eq_true ?o9); (case m9 => (with_reducible repeat' first | exact b_n | exact b_b | refine' PyProof.Rows.bits_mul ?_ ?_ | refine' PyProof.Rows.bits_add ?_ ?_ | refine' PyProof.Rows.bits_sub ?_ ?_ | refine' PyProof.Rows.bits_neg ?_ | refine' PyProof.Rows.bits_ite ?_ ?_ | refine' bits_rnd ?_ | refine' PyProof.Rows.bits_fdiv ?_ | refine' PyProof.Rows.bits_fmod ?_ ?_ | exact Nat.le_refl _)); (case o9 => with_unfolding_all exact rfl))
    | (refine' V.call i_divided ?g9 ?_ ?_ (f_divided _ _ _ ?_ ?_ ?_); (case g9 => with_unfolding_all exact rfl))
    | (exact ItemOf.lst hn)
    | (with_unfolding_all exact rfl))
  case k1 =>
    refine' V.up (V.call i_divided rfl ?vs ?hk (f_divided _ (-n) (-b) (PyProof.Rows.bits_neg b_n) (PyProof.Rows.bits_neg b_b) ?h0)) (Back.r ⟨congrArg PV.int (rnd_neg n b h0), rfl⟩)
    case vs => (with_reducible repeat' first
    | exact V.int
    | (refine' V.lo ?a9; (case a9 => with_unfolding_all exact rfl))
    | (refine' V.grain ?g9; (case g9 => with_unfolding_all exact rfl)) | (refine' V.lone ?g9; (case g9 => with_unfolding_all exact rfl))
    | refine' V.bin ?_ ?_ ?_
    | refine' V.una ?_ ?_
    | (refine' V.cmp ?_ ?_ ?_ ?d9; (case d9 => with_unfolding_all exact rfl))
    | (refine' W.cmp ?_ ?_ ?_ ?d9; (case d9 => with_unfolding_all exact rfl))
    | refine' V.iti ?_ ?_ ?_
    | (refine' V.abs (g_abs _) ?g9 ?_ ?n9; (case g9 => with_unfolding_all exact rfl); (case n9 => with_unfolding_all exact rfl))
    | refine' V.itc ?_ ?_ ?_
    | exact V.boolc | exact V.nonec | refine' V.bone ?_ | (refine' V.band ?_ (fun _ => ?_)) | (refine' V.bor ?_ (fun _ => ?_)) | (refine' V.not ?_)
    | (refine' W.not ?_) | exact W.and0 | exact W.or0 | (refine' W.and ?_ (fun _ => ?_)) | (refine' W.or ?_ (fun _ => ?_))
    | (refine' W.of ?_ ?d9; (case d9 => with_unfolding_all exact rfl))
    | exact Vs.nil | (refine' Vs.cons ?_ ?n9 ?_; (case n9 => with_unfolding_all exact rfl))
    | exact Bin.add | exact Bin.sub | (refine' Bin.mul (mulB ?m9 ?n9 ?o9); (case m9 => (with_reducible repeat' first | exact b_n | exact b_b | refine' PyProof.Rows.bits_mul ?_ ?_ | refine' PyProof.Rows.bits_add ?_ ?_ | refine' PyProof.Rows.bits_sub ?_ ?_ | refine' PyProof.Rows.bits_neg ?_ | refine' PyProof.Rows.bits_ite ?_ ?_ | refine' bits_rnd ?_ | refine' PyProof.Rows.bits_fdiv ?_ | refine' PyProof.Rows.bits_fmod ?_ ?_ | exact Nat.le_refl _)); (case n9 => (with_reducible repeat' first | exact b_n | exact b_b | refine' PyProof.Rows.bits_mul ?_ ?_ | refine' PyProof.Rows.bits_add ?_ ?_ | refine' PyProof.Rows.bits_sub ?_ ?_ | refine' PyProof.Rows.bits_neg ?_ | refine' PyProof.Rows.bits_ite ?_ ?_ | refine' bits_rnd ?_ | refine' PyProof.Rows.bits_fdiv ?_ | refine' PyProof.Rows.bits_fmod ?_ ?_ | exact Nat.le_refl _)); (case o9 => with_unfolding_all exact rfl)) | (refine' Bin.mod ?m9; (case m9 => first | decide | exact h0 | omega)) | (refine' Bin.fdiv ?m9 (noPyB ?n9 ?o9); (case m9 => first | decide | omega); (case n9 => (with_reducible repeat' first | exact b_n | exact b_b | refine' PyProof.Rows.bits_mul ?_ ?_ | refine' PyProof.Rows.bits_add ?_ ?_ | refine' PyProof.Rows.bits_sub ?_ ?_ | refine' PyProof.Rows.bits_neg ?_ | refine' PyProof.Rows.bits_ite ?_ ?_ | refine' bits_rnd ?_ | refine' PyProof.Rows.bits_fdiv ?_ | refine' PyProof.Rows.bits_fmod ?_ ?_ | exact Nat.le_refl _)); (case o9 => with_unfolding_all exact rfl)) | exact Una.neg
    | exact Cmp.lt | exact Cmp.le | exact Cmp.gt | exact Cmp.ge | exact Cmp.eq | exact Cmp.ne | exact Cmp.eqB
    | exact ItemOf.lst hm | (with_unfolding_all exact ItemOf.lst (.head _)) | (with_unfolding_all exact ItemOf.lst (.tail _ (.head _))) | exact ItemOf.tup hm | (with_unfolding_all exact ItemOf.tup (.head _))
    | exact Nat.le_trans (Nat.le_of_ble_eq_true rfl) hC | ((show _ ≠ _); first | exact h0 | decide | omega)
        | (refine' Nat.le_trans ?m9 (Nat.le_of_ble_eq_true ?o9); (case m9 => (with_reducible repeat' first | exact b_n | exact b_b | refine' PyProof.Rows.bits_mul ?_ ?_ | refine' PyProof.Rows.bits_add ?_ ?_ | refine' PyProof.Rows.bits_sub ?_ ?_ | refine' PyProof.Rows.bits_neg ?_ | refine' PyProof.Rows.bits_ite ?_ ?_ | refine' bits_rnd ?_ | refine' PyProof.Rows.bits_fdiv ?_ | refine' PyProof.Rows.bits_fmod ?_ ?_ | exact Nat.le_refl _)); (case o9 => with_unfolding_all exact rfl))
    | (refine' V.call i_divided ?g9 ?_ ?_ (f_divided _ _ _ ?_ ?_ ?_); (case g9 => with_unfolding_all exact rfl))
    | (exact ItemOf.lst hn)
    | (with_unfolding_all exact rfl))
    case hk => exact Nat.le_trans (Nat.le_of_ble_eq_true rfl) hC
    case h0 => omega
  case k2 =>
    refine' V.up (V.call i_divided rfl ?vs ?hk (f_divided _ n b b_n b_b h0)) (Back.r ⟨rfl, rfl⟩)
    case vs => (with_reducible repeat' first
    | exact V.int
    | (refine' V.lo ?a9; (case a9 => with_unfolding_all exact rfl))
    | (refine' V.grain ?g9; (case g9 => with_unfolding_all exact rfl)) | (refine' V.lone ?g9; (case g9 => with_unfolding_all exact rfl))
    | refine' V.bin ?_ ?_ ?_
    | refine' V.una ?_ ?_
    | (refine' V.cmp ?_ ?_ ?_ ?d9; (case d9 => with_unfolding_all exact rfl))
    | (refine' W.cmp ?_ ?_ ?_ ?d9; (case d9 => with_unfolding_all exact rfl))
    | refine' V.iti ?_ ?_ ?_
    | (refine' V.abs (g_abs _) ?g9 ?_ ?n9; (case g9 => with_unfolding_all exact rfl); (case n9 => with_unfolding_all exact rfl))
    | refine' V.itc ?_ ?_ ?_
    | exact V.boolc | exact V.nonec | refine' V.bone ?_ | (refine' V.band ?_ (fun _ => ?_)) | (refine' V.bor ?_ (fun _ => ?_)) | (refine' V.not ?_)
    | (refine' W.not ?_) | exact W.and0 | exact W.or0 | (refine' W.and ?_ (fun _ => ?_)) | (refine' W.or ?_ (fun _ => ?_))
    | (refine' W.of ?_ ?d9; (case d9 => with_unfolding_all exact rfl))
    | exact Vs.nil | (refine' Vs.cons ?_ ?n9 ?_; (case n9 => with_unfolding_all exact rfl))
    | exact Bin.add | exact Bin.sub | (refine' Bin.mul (mulB ?m9 ?n9 ?o9); (case m9 => (with_reducible repeat' first | exact b_n | exact b_b | refine' PyProof.Rows.bits_mul ?_ ?_ | refine' PyProof.Rows.bits_add ?_ ?_ | refine' PyProof.Rows.bits_sub ?_ ?_ | refine' PyProof.Rows.bits_neg ?_ | refine' PyProof.Rows.bits_ite ?_ ?_ | refine' bits_rnd ?_ | refine' PyProof.Rows.bits_fdiv ?_ | refine' PyProof.Rows.bits_fmod ?_ ?_ | exact Nat.le_refl _)); (case n9 => (with_reducible repeat' first | exact b_n | exact b_b | refine' PyProof.Rows.bits_mul ?_ ?_ | refine' PyProof.Rows.bits_add ?_ ?_ | refine' PyProof.Rows.bits_sub ?_ ?_ | refine' PyProof.Rows.bits_neg ?_ | refine' PyProof.Rows.bits_ite ?_ ?_ | refine' bits_rnd ?_ | refine' PyProof.Rows.bits_fdiv ?_ | refine' PyProof.Rows.bits_fmod ?_ ?_ | exact Nat.le_refl _)); (case o9 => with_unfolding_all exact rfl)) | (refine' Bin.mod ?m9; (case m9 => first | decide | exact h0 | omega)) | (refine' Bin.fdiv ?m9 (noPyB ?n9 ?o9); (case m9 => first | decide | omega); (case n9 => (with_reducible repeat' first | exact b_n | exact b_b | refine' PyProof.Rows.bits_mul ?_ ?_ | refine' PyProof.Rows.bits_add ?_ ?_ | refine' PyProof.Rows.bits_sub ?_ ?_ | refine' PyProof.Rows.bits_neg ?_ | refine' PyProof.Rows.bits_ite ?_ ?_ | refine' bits_rnd ?_ | refine' PyProof.Rows.bits_fdiv ?_ | refine' PyProof.Rows.bits_fmod ?_ ?_ | exact Nat.le_refl _)); (case o9 => with_unfolding_all exact rfl)) | exact Una.neg
    | exact Cmp.lt | exact Cmp.le | exact Cmp.gt | exact Cmp.ge | exact Cmp.eq | exact Cmp.ne | exact Cmp.eqB
    | exact ItemOf.lst hm | (with_unfolding_all exact ItemOf.lst (.head _)) | (with_unfolding_all exact ItemOf.lst (.tail _ (.head _))) | exact ItemOf.tup hm | (with_unfolding_all exact ItemOf.tup (.head _))
    | exact Nat.le_trans (Nat.le_of_ble_eq_true rfl) hC | ((show _ ≠ _); first | exact h0 | decide | omega)
        | (refine' Nat.le_trans ?m9 (Nat.le_of_ble_eq_true ?o9); (case m9 => (with_reducible repeat' first | exact b_n | exact b_b | refine' PyProof.Rows.bits_mul ?_ ?_ | refine' PyProof.Rows.bits_add ?_ ?_ | refine' PyProof.Rows.bits_sub ?_ ?_ | refine' PyProof.Rows.bits_neg ?_ | refine' PyProof.Rows.bits_ite ?_ ?_ | refine' bits_rnd ?_ | refine' PyProof.Rows.bits_fdiv ?_ | refine' PyProof.Rows.bits_fmod ?_ ?_ | exact Nat.le_refl _)); (case o9 => with_unfolding_all exact rfl))
    | (refine' V.call i_divided ?g9 ?_ ?_ (f_divided _ _ _ ?_ ?_ ?_); (case g9 => with_unfolding_all exact rfl))
    | (exact ItemOf.lst hn)
    | (with_unfolding_all exact rfl))
    case hk => exact Nat.le_trans (Nat.le_of_ble_eq_true rfl) hC
section
variable {η : Hp} {a b : Addr} {m0 m1 m2 m3 m4 m5 n0 n1 n2 n3 n4 n5 : Int}
theorem f_is_upright (hm : (a, HO.lst (intL [m0, m1, m2, m3, m4, m5])) ∈ η) : Pure 150 1 [.ref a] η (.bool ((m1 == 0 && m2 == 0) || (m0 == 0 && m3 == 0))) := by
  refine' Fn.enter1 "m" (fun P => ?ho) (fun P => ?hcd) (fun s v1 => ?hb) ?he ?h
  case ho => exact rfl
  case hcd => kernel_rfl
  case hb => exact BindsTo.of_eq rfl
  case he => rfl
  intro C hC
  refine' R.re1 ?v ⟨rfl, rfl⟩
  case v => (with_reducible repeat' first
    | exact V.int
    | (refine' V.lo ?a9; (case a9 => with_unfolding_all exact rfl))
    | (refine' V.grain ?g9; (case g9 => with_unfolding_all exact rfl)) | (refine' V.lone ?g9; (case g9 => with_unfolding_all exact rfl))
    | refine' V.bin ?_ ?_ ?_
    | refine' V.una ?_ ?_
    | (refine' V.cmp ?_ ?_ ?_ ?d9; (case d9 => with_unfolding_all exact rfl))
    | (refine' W.cmp ?_ ?_ ?_ ?d9; (case d9 => with_unfolding_all exact rfl))
    | refine' V.iti ?_ ?_ ?_
    | (refine' V.abs (g_abs _) ?g9 ?_ ?n9; (case g9 => with_unfolding_all exact rfl); (case n9 => with_unfolding_all exact rfl))
    | refine' V.itc ?_ ?_ ?_
    | exact V.boolc | exact V.nonec | refine' V.bone ?_ | (refine' V.band ?_ (fun _ => ?_)) | (refine' V.bor ?_ (fun _ => ?_)) | (refine' V.not ?_)
    | (refine' W.not ?_) | exact W.and0 | exact W.or0 | (refine' W.and ?_ (fun _ => ?_)) | (refine' W.or ?_ (fun _ => ?_))
    | (refine' W.of ?_ ?d9; (case d9 => with_unfolding_all exact rfl))
    | exact Vs.nil | (refine' Vs.cons ?_ ?n9 ?_; (case n9 => with_unfolding_all exact rfl))
    | exact Bin.add | exact Bin.sub | (refine' Bin.mul (mulB ?m9 ?n9 ?o9); (case m9 => (with_reducible repeat' first  | refine' PyProof.Rows.bits_mul ?_ ?_ | refine' PyProof.Rows.bits_add ?_ ?_ | refine' PyProof.Rows.bits_sub ?_ ?_ | refine' PyProof.Rows.bits_neg ?_ | refine' PyProof.Rows.bits_ite ?_ ?_ | refine' bits_rnd ?_ | refine' PyProof.Rows.bits_fdiv ?_ | refine' PyProof.Rows.bits_fmod ?_ ?_ | exact Nat.le_refl _)); (case n9 => (with_reducible repeat' first  | refine' PyProof.Rows.bits_mul ?_ ?_ | refine' PyProof.Rows.bits_add ?_ ?_ | refine' PyProof.Rows.bits_sub ?_ ?_ | refine' PyProof.Rows.bits_neg ?_ | refine' PyProof.Rows.bits_ite ?_ ?_ | refine' bits_rnd ?_ | refine' PyProof.Rows.bits_fdiv ?_ | refine' PyProof.Rows.bits_fmod ?_ ?_ | exact Nat.le_refl _)); (case o9 => with_unfolding_all exact rfl)) | (refine' Bin.mod ?m9; (case m9 => first | decide | exact h0 | omega)) | (refine' Bin.fdiv ?m9 (noPyB ?n9 ?o9); (case m9 => first | decide | omega); (case n9 => (with_reducible repeat' first  | refine' PyProof.Rows.bits_mul ?_ ?_ | refine' PyProof.Rows.bits_add ?_ ?_ | refine' PyProof.Rows.bits_sub ?_ ?_ | refine' PyProof.Rows.bits_neg ?_ | refine' PyProof.Rows.bits_ite ?_ ?_ | refine' bits_rnd ?_ | refine' PyProof.Rows.bits_fdiv ?_ | refine' PyProof.Rows.bits_fmod ?_ ?_ | exact Nat.le_refl _)); (case o9 => with_unfolding_all exact rfl)) | exact Una.neg
    | exact Cmp.lt | exact Cmp.le | exact Cmp.gt | exact Cmp.ge | exact Cmp.eq | exact Cmp.ne | exact Cmp.eqB
    | exact ItemOf.lst hm | (with_unfolding_all exact ItemOf.lst (.head _)) | (with_unfolding_all exact ItemOf.lst (.tail _ (.head _))) | exact ItemOf.tup hm | (with_unfolding_all exact ItemOf.tup (.head _))
    | exact Nat.le_trans (Nat.le_of_ble_eq_true rfl) hC | ((show _ ≠ _); first | exact h0 | decide | omega)
        | (refine' Nat.le_trans ?m9 (Nat.le_of_ble_eq_true ?o9); (case m9 => (with_reducible repeat' first  | refine' PyProof.Rows.bits_mul ?_ ?_ | refine' PyProof.Rows.bits_add ?_ ?_ | refine' PyProof.Rows.bits_sub ?_ ?_ | refine' PyProof.Rows.bits_neg ?_ | refine' PyProof.Rows.bits_ite ?_ ?_ | refine' bits_rnd ?_ | refine' PyProof.Rows.bits_fdiv ?_ | refine' PyProof.Rows.bits_fmod ?_ ?_ | exact Nat.le_refl _)); (case o9 => with_unfolding_all exact rfl))
    | (refine' V.call i_divided ?g9 ?_ ?_ (f_divided _ _ _ ?_ ?_ ?_); (case g9 => with_unfolding_all exact rfl))
    | (exact ItemOf.lst hn)
    | (with_unfolding_all exact rfl))
theorem f_delta (x y : Int) (hm : (a, HO.lst (intL [m0, m1, m2, m3, m4, m5])) ∈ η) (b_m0 : bits m0 ≤ 40) (b_m1 : bits m1 ≤ 40) (b_m2 : bits m2 ≤ 40) (b_m3 : bits m3 ≤ 40) (b_x : bits x ≤ 40) (b_y : bits y ≤ 40) : MkT 136 2 [.ref a, .int x, .int y] η [.int (rnd (m0 * x + m2 * y) 1000000), .int (rnd (m1 * x + m3 * y) 1000000)] := by
  refine' Fn.enter3 "m" "x" "y" (fun P => ?ho) (fun P => ?hcd) (fun s v1 v2 v3 => ?hb) ?he ?h
  case ho => exact rfl
  case hcd => kernel_rfl
  case hb => exact BindsTo.of_eq rfl
  case he => rfl
  intro C hC
  refine' R.reT (ps := [.int (rnd (m0 * x + m2 * y) 1000000), .int (rnd (m1 * x + m3 * y) 1000000)]) ?vs rfl fun l => ⟨l, rfl, rfl⟩
  case vs => (with_reducible repeat' first
    | exact V.int
    | (refine' V.lo ?a9; (case a9 => with_unfolding_all exact rfl))
    | (refine' V.grain ?g9; (case g9 => with_unfolding_all exact rfl)) | (refine' V.lone ?g9; (case g9 => with_unfolding_all exact rfl))
    | refine' V.bin ?_ ?_ ?_
    | refine' V.una ?_ ?_
    | (refine' V.cmp ?_ ?_ ?_ ?d9; (case d9 => with_unfolding_all exact rfl))
    | (refine' W.cmp ?_ ?_ ?_ ?d9; (case d9 => with_unfolding_all exact rfl))
    | refine' V.iti ?_ ?_ ?_
    | (refine' V.abs (g_abs _) ?g9 ?_ ?n9; (case g9 => with_unfolding_all exact rfl); (case n9 => with_unfolding_all exact rfl))
    | refine' V.itc ?_ ?_ ?_
    | exact V.boolc | exact V.nonec | refine' V.bone ?_ | (refine' V.band ?_ (fun _ => ?_)) | (refine' V.bor ?_ (fun _ => ?_)) | (refine' V.not ?_)
    | (refine' W.not ?_) | exact W.and0 | exact W.or0 | (refine' W.and ?_ (fun _ => ?_)) | (refine' W.or ?_ (fun _ => ?_))
    | (refine' W.of ?_ ?d9; (case d9 => with_unfolding_all exact rfl))
    | exact Vs.nil | (refine' Vs.cons ?_ ?n9 ?_; (case n9 => with_unfolding_all exact rfl))
    | exact Bin.add | exact Bin.sub | (refine' Bin.mul (mulB ?m9 ?n9 ?o9); (case m9 => (with_reducible repeat' first | exact b_m0 | exact b_m1 | exact b_m2 | exact b_m3 | exact b_x | exact b_y | refine' PyProof.Rows.bits_mul ?_ ?_ | refine' PyProof.Rows.bits_add ?_ ?_ | refine' PyProof.Rows.bits_sub ?_ ?_ | refine' PyProof.Rows.bits_neg ?_ | refine' PyProof.Rows.bits_ite ?_ ?_ | refine' bits_rnd ?_ | refine' PyProof.Rows.bits_fdiv ?_ | refine' PyProof.Rows.bits_fmod ?_ ?_ | exact Nat.le_refl _)); (case n9 => (with_reducible repeat' first | exact b_m0 | exact b_m1 | exact b_m2 | exact b_m3 | exact b_x | exact b_y | refine' PyProof.Rows.bits_mul ?_ ?_ | refine' PyProof.Rows.bits_add ?_ ?_ | refine' PyProof.Rows.bits_sub ?_ ?_ | refine' PyProof.Rows.bits_neg ?_ | refine' PyProof.Rows.bits_ite ?_ ?_ | refine' bits_rnd ?_ | refine' PyProof.Rows.bits_fdiv ?_ | refine' PyProof.Rows.bits_fmod ?_ ?_ | exact Nat.le_refl _)); (case o9 => with_unfolding_all exact rfl)) | (refine' Bin.mod ?m9; (case m9 => first | decide | exact h0 | omega)) | (refine' Bin.fdiv ?m9 (noPyB ?n9 ?o9); (case m9 => first | decide | omega); (case n9 => (with_reducible repeat' first | exact b_m0 | exact b_m1 | exact b_m2 | exact b_m3 | exact b_x | exact b_y | refine' PyProof.Rows.bits_mul ?_ ?_ | refine' PyProof.Rows.bits_add ?_ ?_ | refine' PyProof.Rows.bits_sub ?_ ?_ | refine' PyProof.Rows.bits_neg ?_ | refine' PyProof.Rows.bits_ite ?_ ?_ | refine' bits_rnd ?_ | refine' PyProof.Rows.bits_fdiv ?_ | refine' PyProof.Rows.bits_fmod ?_ ?_ | exact Nat.le_refl _)); (case o9 => with_unfolding_all exact rfl)) | exact Una.neg
    | exact Cmp.lt | exact Cmp.le | exact Cmp.gt | exact Cmp.ge | exact Cmp.eq | exact Cmp.ne | exact Cmp.eqB
    | exact ItemOf.lst hm | (with_unfolding_all exact ItemOf.lst (.head _)) | (with_unfolding_all exact ItemOf.lst (.tail _ (.head _))) | exact ItemOf.tup hm | (with_unfolding_all exact ItemOf.tup (.head _))
    | exact Nat.le_trans (Nat.le_of_ble_eq_true rfl) hC | ((show _ ≠ _); first | exact h0 | decide | omega)
        | (refine' Nat.le_trans ?m9 (Nat.le_of_ble_eq_true ?o9); (case m9 => (with_reducible repeat' first | exact b_m0 | exact b_m1 | exact b_m2 | exact b_m3 | exact b_x | exact b_y | refine' PyProof.Rows.bits_mul ?_ ?_ | refine' PyProof.Rows.bits_add ?_ ?_ | refine' PyProof.Rows.bits_sub ?_ ?_ | refine' PyProof.Rows.bits_neg ?_ | refine' PyProof.Rows.bits_ite ?_ ?_ | refine' bits_rnd ?_ | refine' PyProof.Rows.bits_fdiv ?_ | refine' PyProof.Rows.bits_fmod ?_ ?_ | exact Nat.le_refl _)); (case o9 => with_unfolding_all exact rfl))
    | (refine' V.call i_divided ?g9 ?_ ?_ (f_divided _ _ _ ?_ ?_ ?_); (case g9 => with_unfolding_all exact rfl))
    | (exact ItemOf.lst hn)
    | (with_unfolding_all exact rfl))
theorem f_concat (hm : (a, HO.lst (intL [m0, m1, m2, m3, m4, m5])) ∈ η) (hn : (b, HO.lst (intL [n0, n1, n2, n3, n4, n5])) ∈ η)
   (b_m0 : bits m0 ≤ 40) (b_m1 : bits m1 ≤ 40) (b_m2 : bits m2 ≤ 40) (b_m3 : bits m3 ≤ 40) (b_m4 : bits m4 ≤ 40) (b_m5 : bits m5 ≤ 40) (b_n0 : bits n0 ≤ 40) (b_n1 : bits n1 ≤ 40) (b_n2 : bits n2 ≤ 40) (b_n3 : bits n3 ≤ 40) : MkL 115 2 [.ref a, .ref b] η (intL [rnd (m0 * n0 + m1 * n2) 1000000, rnd (m0 * n1 + m1 * n3) 1000000, rnd (m2 * n0 + m3 * n2) 1000000, rnd (m2 * n1 + m3 * n3) 1000000, rnd (m4 * n0 + m5 * n2) 1000000 + n4, rnd (m4 * n1 + m5 * n3) 1000000 + n5]) := by
  refine' Fn.enter2 "m" "n" (fun P => ?ho) (fun P => ?hcd) (fun s v1 v2 => ?hb) ?he ?h
  case ho => exact rfl
  case hcd => kernel_rfl
  case hb => exact BindsTo.of_eq rfl
  case he => rfl
  intro C hC
  refine' R.reL (ps := [.int (rnd (m0 * n0 + m1 * n2) 1000000), .int (rnd (m0 * n1 + m1 * n3) 1000000), .int (rnd (m2 * n0 + m3 * n2) 1000000), .int (rnd (m2 * n1 + m3 * n3) 1000000), .int (rnd (m4 * n0 + m5 * n2) 1000000 + n4), .int (rnd (m4 * n1 + m5 * n3) 1000000 + n5)]) ?vs rfl fun l => ⟨l, rfl, rfl⟩
  case vs => (with_reducible repeat' first
    | exact V.int
    | (refine' V.lo ?a9; (case a9 => with_unfolding_all exact rfl))
    | (refine' V.grain ?g9; (case g9 => with_unfolding_all exact rfl)) | (refine' V.lone ?g9; (case g9 => with_unfolding_all exact rfl))
    | refine' V.bin ?_ ?_ ?_
    | refine' V.una ?_ ?_
    | (refine' V.cmp ?_ ?_ ?_ ?d9; (case d9 => with_unfolding_all exact rfl))
    | (refine' W.cmp ?_ ?_ ?_ ?d9; (case d9 => with_unfolding_all exact rfl))
    | refine' V.iti ?_ ?_ ?_
    | (refine' V.abs (g_abs _) ?g9 ?_ ?n9; (case g9 => with_unfolding_all exact rfl); (case n9 => with_unfolding_all exact rfl))
    | refine' V.itc ?_ ?_ ?_
    | exact V.boolc | exact V.nonec | refine' V.bone ?_ | (refine' V.band ?_ (fun _ => ?_)) | (refine' V.bor ?_ (fun _ => ?_)) | (refine' V.not ?_)
    | (refine' W.not ?_) | exact W.and0 | exact W.or0 | (refine' W.and ?_ (fun _ => ?_)) | (refine' W.or ?_ (fun _ => ?_))
    | (refine' W.of ?_ ?d9; (case d9 => with_unfolding_all exact rfl))
    | exact Vs.nil | (refine' Vs.cons ?_ ?n9 ?_; (case n9 => with_unfolding_all exact rfl))
    | exact Bin.add | exact Bin.sub | (refine' Bin.mul (mulB ?m9 ?n9 ?o9); (case m9 => (with_reducible repeat' first | exact b_m0 | exact b_m1 | exact b_m2 | exact b_m3 | exact b_m4 | exact b_m5 | exact b_n0 | exact b_n1 | exact b_n2 | exact b_n3 | refine' PyProof.Rows.bits_mul ?_ ?_ | refine' PyProof.Rows.bits_add ?_ ?_ | refine' PyProof.Rows.bits_sub ?_ ?_ | refine' PyProof.Rows.bits_neg ?_ | refine' PyProof.Rows.bits_ite ?_ ?_ | refine' bits_rnd ?_ | refine' PyProof.Rows.bits_fdiv ?_ | refine' PyProof.Rows.bits_fmod ?_ ?_ | exact Nat.le_refl _)); (case n9 => (with_reducible repeat' first | exact b_m0 | exact b_m1 | exact b_m2 | exact b_m3 | exact b_m4 | exact b_m5 | exact b_n0 | exact b_n1 | exact b_n2 | exact b_n3 | refine' PyProof.Rows.bits_mul ?_ ?_ | refine' PyProof.Rows.bits_add ?_ ?_ | refine' PyProof.Rows.bits_sub ?_ ?_ | refine' PyProof.Rows.bits_neg ?_ | refine' PyProof.Rows.bits_ite ?_ ?_ | refine' bits_rnd ?_ | refine' PyProof.Rows.bits_fdiv ?_ | refine' PyProof.Rows.bits_fmod ?_ ?_ | exact Nat.le_refl _)); (case o9 => with_unfolding_all exact rfl)) | (refine' Bin.mod ?m9; (case m9 => first | decide | exact h0 | omega)) | (refine' Bin.fdiv ?m9 (noPyB ?n9 ?o9); (case m9 => first | decide | omega); (case n9 => (with_reducible repeat' first | exact b_m0 | exact b_m1 | exact b_m2 | exact b_m3 | exact b_m4 | exact b_m5 | exact b_n0 | exact b_n1 | exact b_n2 | exact b_n3 | refine' PyProof.Rows.bits_mul ?_ ?_ | refine' PyProof.Rows.bits_add ?_ ?_ | refine' PyProof.Rows.bits_sub ?_ ?_ | refine' PyProof.Rows.bits_neg ?_ | refine' PyProof.Rows.bits_ite ?_ ?_ | refine' bits_rnd ?_ | refine' PyProof.Rows.bits_fdiv ?_ | refine' PyProof.Rows.bits_fmod ?_ ?_ | exact Nat.le_refl _)); (case o9 => with_unfolding_all exact rfl)) | exact Una.neg
    | exact Cmp.lt | exact Cmp.le | exact Cmp.gt | exact Cmp.ge | exact Cmp.eq | exact Cmp.ne | exact Cmp.eqB
    | exact ItemOf.lst hm | (with_unfolding_all exact ItemOf.lst (.head _)) | (with_unfolding_all exact ItemOf.lst (.tail _ (.head _))) | exact ItemOf.tup hm | (with_unfolding_all exact ItemOf.tup (.head _))
    | exact Nat.le_trans (Nat.le_of_ble_eq_true rfl) hC | ((show _ ≠ _); first | exact h0 | decide | omega)
        | (refine' Nat.le_trans ?m9 (Nat.le_of_ble_eq_true ?o9); (case m9 => (with_reducible repeat' first | exact b_m0 | exact b_m1 | exact b_m2 | exact b_m3 | exact b_m4 | exact b_m5 | exact b_n0 | exact b_n1 | exact b_n2 | exact b_n3 | refine' PyProof.Rows.bits_mul ?_ ?_ | refine' PyProof.Rows.bits_add ?_ ?_ | refine' PyProof.Rows.bits_sub ?_ ?_ | refine' PyProof.Rows.bits_neg ?_ | refine' PyProof.Rows.bits_ite ?_ ?_ | refine' bits_rnd ?_ | refine' PyProof.Rows.bits_fdiv ?_ | refine' PyProof.Rows.bits_fmod ?_ ?_ | exact Nat.le_refl _)); (case o9 => with_unfolding_all exact rfl))
    | (refine' V.call i_divided ?g9 ?_ ?_ (f_divided _ _ _ ?_ ?_ ?_); (case g9 => with_unfolding_all exact rfl))
    | (exact ItemOf.lst hn)
    | (with_unfolding_all exact rfl))
theorem f_font (x : Int) (hm : (a, HO.lst (intL [m0, m1, m2, m3, m4, m5])) ∈ η) (b_m0 : bits m0 ≤ 40) (b_m1 : bits m1 ≤ 40) (b_m2 : bits m2 ≤ 40) (b_m3 : bits m3 ≤ 40) (b_m4 : bits m4 ≤ 40) (b_m5 : bits m5 ≤ 40) (b_x : bits x ≤ 40) :
    Fn 219 3 [.ref a, .int x] η fun p η' => ∃ l, p = .ref l ∧ η' = (l, HO.lst (intL [rnd (m0 * x) 1000000, rnd (m1 * x) 1000000, rnd (m2 * x) 1000000, rnd (m3 * x) 1000000, rnd (m4 * x) 1000000, rnd (m5 * x) 1000000])) :: η := by
  refine' Fn.enter2 "matrix" "size" (fun P => ?ho) (fun P => ?hcd) (fun s v1 v2 => ?hb) ?he ?h
  case ho => exact rfl
  case hcd => kernel_rfl
  case hb => exact BindsTo.of_eq rfl
  case he => rfl
  intro C hC
  refine' R.ret (E.fnE i_concat rfl rfl (k := 2) ?hk (Es.v ?v1 rfl (Es.x (E.fn i_scaling rfl (k := 1) ?v2 ?hk2 ((f_scaling x x).on fun l => Es.nil ?c)) rfl)))
  case hk => exact Nat.le_trans (Nat.le_of_ble_eq_true rfl) hC
  case v1 => (with_reducible repeat' first
    | exact V.int
    | (refine' V.lo ?a9; (case a9 => with_unfolding_all exact rfl))
    | (refine' V.grain ?g9; (case g9 => with_unfolding_all exact rfl)) | (refine' V.lone ?g9; (case g9 => with_unfolding_all exact rfl))
    | refine' V.bin ?_ ?_ ?_
    | refine' V.una ?_ ?_
    | (refine' V.cmp ?_ ?_ ?_ ?d9; (case d9 => with_unfolding_all exact rfl))
    | (refine' W.cmp ?_ ?_ ?_ ?d9; (case d9 => with_unfolding_all exact rfl))
    | refine' V.iti ?_ ?_ ?_
    | (refine' V.abs (g_abs _) ?g9 ?_ ?n9; (case g9 => with_unfolding_all exact rfl); (case n9 => with_unfolding_all exact rfl))
    | refine' V.itc ?_ ?_ ?_
    | exact V.boolc | exact V.nonec | refine' V.bone ?_ | (refine' V.band ?_ (fun _ => ?_)) | (refine' V.bor ?_ (fun _ => ?_)) | (refine' V.not ?_)
    | (refine' W.not ?_) | exact W.and0 | exact W.or0 | (refine' W.and ?_ (fun _ => ?_)) | (refine' W.or ?_ (fun _ => ?_))
    | (refine' W.of ?_ ?d9; (case d9 => with_unfolding_all exact rfl))
    | exact Vs.nil | (refine' Vs.cons ?_ ?n9 ?_; (case n9 => with_unfolding_all exact rfl))
    | exact Bin.add | exact Bin.sub | (refine' Bin.mul (mulB ?m9 ?n9 ?o9); (case m9 => (with_reducible repeat' first | exact b_m0 | exact b_m1 | exact b_m2 | exact b_m3 | exact b_m4 | exact b_m5 | exact b_x | refine' PyProof.Rows.bits_mul ?_ ?_ | refine' PyProof.Rows.bits_add ?_ ?_ | refine' PyProof.Rows.bits_sub ?_ ?_ | refine' PyProof.Rows.bits_neg ?_ | refine' PyProof.Rows.bits_ite ?_ ?_ | refine' bits_rnd ?_ | refine' PyProof.Rows.bits_fdiv ?_ | refine' PyProof.Rows.bits_fmod ?_ ?_ | exact Nat.le_refl _)); (case n9 => (with_reducible repeat' first | exact b_m0 | exact b_m1 | exact b_m2 | exact b_m3 | exact b_m4 | exact b_m5 | exact b_x | refine' PyProof.Rows.bits_mul ?_ ?_ | refine' PyProof.Rows.bits_add ?_ ?_ | refine' PyProof.Rows.bits_sub ?_ ?_ | refine' PyProof.Rows.bits_neg ?_ | refine' PyProof.Rows.bits_ite ?_ ?_ | refine' bits_rnd ?_ | refine' PyProof.Rows.bits_fdiv ?_ | refine' PyProof.Rows.bits_fmod ?_ ?_ | exact Nat.le_refl _)); (case o9 => with_unfolding_all exact rfl)) | (refine' Bin.mod ?m9; (case m9 => first | decide | exact h0 | omega)) | (refine' Bin.fdiv ?m9 (noPyB ?n9 ?o9); (case m9 => first | decide | omega); (case n9 => (with_reducible repeat' first | exact b_m0 | exact b_m1 | exact b_m2 | exact b_m3 | exact b_m4 | exact b_m5 | exact b_x | refine' PyProof.Rows.bits_mul ?_ ?_ | refine' PyProof.Rows.bits_add ?_ ?_ | refine' PyProof.Rows.bits_sub ?_ ?_ | refine' PyProof.Rows.bits_neg ?_ | refine' PyProof.Rows.bits_ite ?_ ?_ | refine' bits_rnd ?_ | refine' PyProof.Rows.bits_fdiv ?_ | refine' PyProof.Rows.bits_fmod ?_ ?_ | exact Nat.le_refl _)); (case o9 => with_unfolding_all exact rfl)) | exact Una.neg
    | exact Cmp.lt | exact Cmp.le | exact Cmp.gt | exact Cmp.ge | exact Cmp.eq | exact Cmp.ne | exact Cmp.eqB
    | exact ItemOf.lst hm | (with_unfolding_all exact ItemOf.lst (.head _)) | (with_unfolding_all exact ItemOf.lst (.tail _ (.head _))) | exact ItemOf.tup hm | (with_unfolding_all exact ItemOf.tup (.head _))
    | exact Nat.le_trans (Nat.le_of_ble_eq_true rfl) hC | ((show _ ≠ _); first | exact h0 | decide | omega)
        | (refine' Nat.le_trans ?m9 (Nat.le_of_ble_eq_true ?o9); (case m9 => (with_reducible repeat' first | exact b_m0 | exact b_m1 | exact b_m2 | exact b_m3 | exact b_m4 | exact b_m5 | exact b_x | refine' PyProof.Rows.bits_mul ?_ ?_ | refine' PyProof.Rows.bits_add ?_ ?_ | refine' PyProof.Rows.bits_sub ?_ ?_ | refine' PyProof.Rows.bits_neg ?_ | refine' PyProof.Rows.bits_ite ?_ ?_ | refine' bits_rnd ?_ | refine' PyProof.Rows.bits_fdiv ?_ | refine' PyProof.Rows.bits_fmod ?_ ?_ | exact Nat.le_refl _)); (case o9 => with_unfolding_all exact rfl))
    | (refine' V.call i_divided ?g9 ?_ ?_ (f_divided _ _ _ ?_ ?_ ?_); (case g9 => with_unfolding_all exact rfl))
    | (exact ItemOf.lst hn)
    | (with_unfolding_all exact rfl))
  case v2 => (with_reducible repeat' first
    | exact V.int
    | (refine' V.lo ?a9; (case a9 => with_unfolding_all exact rfl))
    | (refine' V.grain ?g9; (case g9 => with_unfolding_all exact rfl)) | (refine' V.lone ?g9; (case g9 => with_unfolding_all exact rfl))
    | refine' V.bin ?_ ?_ ?_
    | refine' V.una ?_ ?_
    | (refine' V.cmp ?_ ?_ ?_ ?d9; (case d9 => with_unfolding_all exact rfl))
    | (refine' W.cmp ?_ ?_ ?_ ?d9; (case d9 => with_unfolding_all exact rfl))
    | refine' V.iti ?_ ?_ ?_
    | (refine' V.abs (g_abs _) ?g9 ?_ ?n9; (case g9 => with_unfolding_all exact rfl); (case n9 => with_unfolding_all exact rfl))
    | refine' V.itc ?_ ?_ ?_
    | exact V.boolc | exact V.nonec | refine' V.bone ?_ | (refine' V.band ?_ (fun _ => ?_)) | (refine' V.bor ?_ (fun _ => ?_)) | (refine' V.not ?_)
    | (refine' W.not ?_) | exact W.and0 | exact W.or0 | (refine' W.and ?_ (fun _ => ?_)) | (refine' W.or ?_ (fun _ => ?_))
    | (refine' W.of ?_ ?d9; (case d9 => with_unfolding_all exact rfl))
    | exact Vs.nil | (refine' Vs.cons ?_ ?n9 ?_; (case n9 => with_unfolding_all exact rfl))
    | exact Bin.add | exact Bin.sub | (refine' Bin.mul (mulB ?m9 ?n9 ?o9); (case m9 => (with_reducible repeat' first | exact b_m0 | exact b_m1 | exact b_m2 | exact b_m3 | exact b_m4 | exact b_m5 | exact b_x | refine' PyProof.Rows.bits_mul ?_ ?_ | refine' PyProof.Rows.bits_add ?_ ?_ | refine' PyProof.Rows.bits_sub ?_ ?_ | refine' PyProof.Rows.bits_neg ?_ | refine' PyProof.Rows.bits_ite ?_ ?_ | refine' bits_rnd ?_ | refine' PyProof.Rows.bits_fdiv ?_ | refine' PyProof.Rows.bits_fmod ?_ ?_ | exact Nat.le_refl _)); (case n9 => (with_reducible repeat' first | exact b_m0 | exact b_m1 | exact b_m2 | exact b_m3 | exact b_m4 | exact b_m5 | exact b_x | refine' PyProof.Rows.bits_mul ?_ ?_ | refine' PyProof.Rows.bits_add ?_ ?_ | refine' PyProof.Rows.bits_sub ?_ ?_ | refine' PyProof.Rows.bits_neg ?_ | refine' PyProof.Rows.bits_ite ?_ ?_ | refine' bits_rnd ?_ | refine' PyProof.Rows.bits_fdiv ?_ | refine' PyProof.Rows.bits_fmod ?_ ?_ | exact Nat.le_refl _)); (case o9 => with_unfolding_all exact rfl)) | (refine' Bin.mod ?m9; (case m9 => first | decide | exact h0 | omega)) | (refine' Bin.fdiv ?m9 (noPyB ?n9 ?o9); (case m9 => first | decide | omega); (case n9 => (with_reducible repeat' first | exact b_m0 | exact b_m1 | exact b_m2 | exact b_m3 | exact b_m4 | exact b_m5 | exact b_x | refine' PyProof.Rows.bits_mul ?_ ?_ | refine' PyProof.Rows.bits_add ?_ ?_ | refine' PyProof.Rows.bits_sub ?_ ?_ | refine' PyProof.Rows.bits_neg ?_ | refine' PyProof.Rows.bits_ite ?_ ?_ | refine' bits_rnd ?_ | refine' PyProof.Rows.bits_fdiv ?_ | refine' PyProof.Rows.bits_fmod ?_ ?_ | exact Nat.le_refl _)); (case o9 => with_unfolding_all exact rfl)) | exact Una.neg
    | exact Cmp.lt | exact Cmp.le | exact Cmp.gt | exact Cmp.ge | exact Cmp.eq | exact Cmp.ne | exact Cmp.eqB
    | exact ItemOf.lst hm | (with_unfolding_all exact ItemOf.lst (.head _)) | (with_unfolding_all exact ItemOf.lst (.tail _ (.head _))) | exact ItemOf.tup hm | (with_unfolding_all exact ItemOf.tup (.head _))
    | exact Nat.le_trans (Nat.le_of_ble_eq_true rfl) hC | ((show _ ≠ _); first | exact h0 | decide | omega)
        | (refine' Nat.le_trans ?m9 (Nat.le_of_ble_eq_true ?o9); (case m9 => (with_reducible repeat' first | exact b_m0 | exact b_m1 | exact b_m2 | exact b_m3 | exact b_m4 | exact b_m5 | exact b_x | refine' PyProof.Rows.bits_mul ?_ ?_ | refine' PyProof.Rows.bits_add ?_ ?_ | refine' PyProof.Rows.bits_sub ?_ ?_ | refine' PyProof.Rows.bits_neg ?_ | refine' PyProof.Rows.bits_ite ?_ ?_ | refine' bits_rnd ?_ | refine' PyProof.Rows.bits_fdiv ?_ | refine' PyProof.Rows.bits_fmod ?_ ?_ | exact Nat.le_refl _)); (case o9 => with_unfolding_all exact rfl))
    | (refine' V.call i_divided ?g9 ?_ ?_ (f_divided _ _ _ ?_ ?_ ?_); (case g9 => with_unfolding_all exact rfl))
    | (exact ItemOf.lst hn)
    | (with_unfolding_all exact rfl))
  case hk2 => exact Nat.le_trans (Nat.le_of_ble_eq_true rfl) hC
  refine (f_concat (.tail _ hm) (.head _) b_m0 b_m1 b_m2 b_m3 b_m4 b_m5 b_x ?z1 ?z1 b_x).on fun l2 => ⟨(l2, _) :: η, .cons_cons _ (.cons _ (.refl _)), l2, rfl, ?_⟩
  case z1 => exact Nat.le_trans (by decide : bits 0 ≤ 0) (Nat.zero_le _)
  simp only [Int.mul_zero, Int.add_zero, Int.zero_add]
theorem f_is_identity (hm : (a, HO.lst (intL [m0, m1, m2, m3, m4, m5])) ∈ η) : Pure 143 2 [.ref a] η (.bool (decide ([m0, m1, m2, m3, m4, m5] = [1000000, 0, 0, 1000000, 0, 0]))) := by
  refine' Fn.enter1 "m" (fun P => ?ho) (fun P => ?hcd) (fun s v1 => ?hb) ?he ?h
  case ho => exact rfl
  case hcd => kernel_rfl
  case hb => exact BindsTo.of_eq rfl
  case he => rfl
  intro C hC
  refine' R.ret (E.cmpH (V.up ?v (E.fn i_identity rfl (k := 1) .nil ?hk (f_identity.on fun l => ⟨_, CmpH.eqL (.tail _ hm) (.head _), Back.s (.cons _ (.refl _)) ⟨rfl, rfl⟩⟩))) rfl)
  case v => (with_reducible repeat' first
    | exact V.int
    | (refine' V.lo ?a9; (case a9 => with_unfolding_all exact rfl))
    | (refine' V.grain ?g9; (case g9 => with_unfolding_all exact rfl)) | (refine' V.lone ?g9; (case g9 => with_unfolding_all exact rfl))
    | refine' V.bin ?_ ?_ ?_
    | refine' V.una ?_ ?_
    | (refine' V.cmp ?_ ?_ ?_ ?d9; (case d9 => with_unfolding_all exact rfl))
    | (refine' W.cmp ?_ ?_ ?_ ?d9; (case d9 => with_unfolding_all exact rfl))
    | refine' V.iti ?_ ?_ ?_
    | (refine' V.abs (g_abs _) ?g9 ?_ ?n9; (case g9 => with_unfolding_all exact rfl); (case n9 => with_unfolding_all exact rfl))
    | refine' V.itc ?_ ?_ ?_
    | exact V.boolc | exact V.nonec | refine' V.bone ?_ | (refine' V.band ?_ (fun _ => ?_)) | (refine' V.bor ?_ (fun _ => ?_)) | (refine' V.not ?_)
    | (refine' W.not ?_) | exact W.and0 | exact W.or0 | (refine' W.and ?_ (fun _ => ?_)) | (refine' W.or ?_ (fun _ => ?_))
    | (refine' W.of ?_ ?d9; (case d9 => with_unfolding_all exact rfl))
    | exact Vs.nil | (refine' Vs.cons ?_ ?n9 ?_; (case n9 => with_unfolding_all exact rfl))
    | exact Bin.add | exact Bin.sub | (refine' Bin.mul (mulB ?m9 ?n9 ?o9); (case m9 => (with_reducible repeat' first  | refine' PyProof.Rows.bits_mul ?_ ?_ | refine' PyProof.Rows.bits_add ?_ ?_ | refine' PyProof.Rows.bits_sub ?_ ?_ | refine' PyProof.Rows.bits_neg ?_ | refine' PyProof.Rows.bits_ite ?_ ?_ | refine' bits_rnd ?_ | refine' PyProof.Rows.bits_fdiv ?_ | refine' PyProof.Rows.bits_fmod ?_ ?_ | exact Nat.le_refl _)); (case n9 => (with_reducible repeat' first  | refine' PyProof.Rows.bits_mul ?_ ?_ | refine' PyProof.Rows.bits_add ?_ ?_ | refine' PyProof.Rows.bits_sub ?_ ?_ | refine' PyProof.Rows.bits_neg ?_ | refine' PyProof.Rows.bits_ite ?_ ?_ | refine' bits_rnd ?_ | refine' PyProof.Rows.bits_fdiv ?_ | refine' PyProof.Rows.bits_fmod ?_ ?_ | exact Nat.le_refl _)); (case o9 => with_unfolding_all exact rfl)) | (refine' Bin.mod ?m9; (case m9 => first | decide | exact h0 | omega)) | (refine' Bin.fdiv ?m9 (noPyB ?n9 ?o9); (case m9 => first | decide | omega); (case n9 => (with_reducible repeat' first  | refine' PyProof.Rows.bits_mul ?_ ?_ | refine' PyProof.Rows.bits_add ?_ ?_ | refine' PyProof.Rows.bits_sub ?_ ?_ | refine' PyProof.Rows.bits_neg ?_ | refine' PyProof.Rows.bits_ite ?_ ?_ | refine' bits_rnd ?_ | refine' PyProof.Rows.bits_fdiv ?_ | refine' PyProof.Rows.bits_fmod ?_ ?_ | exact Nat.le_refl _)); (case o9 => with_unfolding_all exact rfl)) | exact Una.neg
    | exact Cmp.lt | exact Cmp.le | exact Cmp.gt | exact Cmp.ge | exact Cmp.eq | exact Cmp.ne | exact Cmp.eqB
    | exact ItemOf.lst hm | (with_unfolding_all exact ItemOf.lst (.head _)) | (with_unfolding_all exact ItemOf.lst (.tail _ (.head _))) | exact ItemOf.tup hm | (with_unfolding_all exact ItemOf.tup (.head _))
    | exact Nat.le_trans (Nat.le_of_ble_eq_true rfl) hC | ((show _ ≠ _); first | exact h0 | decide | omega)
        | (refine' Nat.le_trans ?m9 (Nat.le_of_ble_eq_true ?o9); (case m9 => (with_reducible repeat' first  | refine' PyProof.Rows.bits_mul ?_ ?_ | refine' PyProof.Rows.bits_add ?_ ?_ | refine' PyProof.Rows.bits_sub ?_ ?_ | refine' PyProof.Rows.bits_neg ?_ | refine' PyProof.Rows.bits_ite ?_ ?_ | refine' bits_rnd ?_ | refine' PyProof.Rows.bits_fdiv ?_ | refine' PyProof.Rows.bits_fmod ?_ ?_ | exact Nat.le_refl _)); (case o9 => with_unfolding_all exact rfl))
    | (refine' V.call i_divided ?g9 ?_ ?_ (f_divided _ _ _ ?_ ?_ ?_); (case g9 => with_unfolding_all exact rfl))
    | (exact ItemOf.lst hn)
    | (with_unfolding_all exact rfl))
  case hk => exact Nat.le_trans (Nat.le_of_ble_eq_true rfl) hC
end
theorem f_default (η : Hp) (r h1 : Int) (d : Bool) (b_r : bits r ≤ 40) (b_h1 : bits h1 ≤ 40) : MkL 205 2 [.int r, .int h1, .bool d] η (intL (if d = true then [rnd (r * 1000000) 72, 0, 0, -rnd (r * 1000000) 72, 0, h1 * 1000000] else [rnd (r * 1000000) 72, 0, 0, rnd (r * 1000000) 72, 0, 0])) := by
  refine' Fn.enter3 "resolution" "height" "is_down" (fun P => ?ho) (fun P => ?hcd) (fun s v1 v2 v3 => ?hb) ?he ?h
  case ho => exact rfl
  case hcd => kernel_rfl
  case hb => exact BindsTo.of_eq rfl
  case he => rfl
  intro C hC
  refine' R.as1 ?v9 ?k9 ?s9 ?_
  case v9 => (with_reducible repeat' first
    | exact V.int
    | (refine' V.lo ?a9; (case a9 => with_unfolding_all exact rfl))
    | (refine' V.grain ?g9; (case g9 => with_unfolding_all exact rfl)) | (refine' V.lone ?g9; (case g9 => with_unfolding_all exact rfl))
    | refine' V.bin ?_ ?_ ?_
    | refine' V.una ?_ ?_
    | (refine' V.cmp ?_ ?_ ?_ ?d9; (case d9 => with_unfolding_all exact rfl))
    | (refine' W.cmp ?_ ?_ ?_ ?d9; (case d9 => with_unfolding_all exact rfl))
    | refine' V.iti ?_ ?_ ?_
    | (refine' V.abs (g_abs _) ?g9 ?_ ?n9; (case g9 => with_unfolding_all exact rfl); (case n9 => with_unfolding_all exact rfl))
    | refine' V.itc ?_ ?_ ?_
    | exact V.boolc | exact V.nonec | refine' V.bone ?_ | (refine' V.band ?_ (fun _ => ?_)) | (refine' V.bor ?_ (fun _ => ?_)) | (refine' V.not ?_)
    | (refine' W.not ?_) | exact W.and0 | exact W.or0 | (refine' W.and ?_ (fun _ => ?_)) | (refine' W.or ?_ (fun _ => ?_))
    | (refine' W.of ?_ ?d9; (case d9 => with_unfolding_all exact rfl))
    | exact Vs.nil | (refine' Vs.cons ?_ ?n9 ?_; (case n9 => with_unfolding_all exact rfl))
    | exact Bin.add | exact Bin.sub | (refine' Bin.mul (mulB ?m9 ?n9 ?o9); (case m9 => (with_reducible repeat' first | exact b_r | exact b_h1 | refine' PyProof.Rows.bits_mul ?_ ?_ | refine' PyProof.Rows.bits_add ?_ ?_ | refine' PyProof.Rows.bits_sub ?_ ?_ | refine' PyProof.Rows.bits_neg ?_ | refine' PyProof.Rows.bits_ite ?_ ?_ | refine' bits_rnd ?_ | refine' PyProof.Rows.bits_fdiv ?_ | refine' PyProof.Rows.bits_fmod ?_ ?_ | exact Nat.le_refl _)); (case n9 => (with_reducible repeat' first | exact b_r | exact b_h1 | refine' PyProof.Rows.bits_mul ?_ ?_ | refine' PyProof.Rows.bits_add ?_ ?_ | refine' PyProof.Rows.bits_sub ?_ ?_ | refine' PyProof.Rows.bits_neg ?_ | refine' PyProof.Rows.bits_ite ?_ ?_ | refine' bits_rnd ?_ | refine' PyProof.Rows.bits_fdiv ?_ | refine' PyProof.Rows.bits_fmod ?_ ?_ | exact Nat.le_refl _)); (case o9 => with_unfolding_all exact rfl)) | (refine' Bin.mod ?m9; (case m9 => first | decide | exact h0 | omega)) | (refine' Bin.fdiv ?m9 (noPyB ?n9 ?o9); (case m9 => first | decide | omega); (case n9 => (with_reducible repeat' first | exact b_r | exact b_h1 | refine' PyProof.Rows.bits_mul ?_ ?_ | refine' PyProof.Rows.bits_add ?_ ?_ | refine' PyProof.Rows.bits_sub ?_ ?_ | refine' PyProof.Rows.bits_neg ?_ | refine' PyProof.Rows.bits_ite ?_ ?_ | refine' bits_rnd ?_ | refine' PyProof.Rows.bits_fdiv ?_ | refine' PyProof.Rows.bits_fmod ?_ ?_ | exact Nat.le_refl _)); (case o9 => with_unfolding_all exact rfl)) | exact Una.neg
    | exact Cmp.lt | exact Cmp.le | exact Cmp.gt | exact Cmp.ge | exact Cmp.eq | exact Cmp.ne | exact Cmp.eqB
    | exact ItemOf.lst hm | (with_unfolding_all exact ItemOf.lst (.head _)) | (with_unfolding_all exact ItemOf.lst (.tail _ (.head _))) | exact ItemOf.tup hm | (with_unfolding_all exact ItemOf.tup (.head _))
    | exact Nat.le_trans (Nat.le_of_ble_eq_true rfl) hC | ((show _ ≠ _); first | exact h0 | decide | omega)
        | (refine' Nat.le_trans ?m9 (Nat.le_of_ble_eq_true ?o9); (case m9 => (with_reducible repeat' first | exact b_r | exact b_h1 | refine' PyProof.Rows.bits_mul ?_ ?_ | refine' PyProof.Rows.bits_add ?_ ?_ | refine' PyProof.Rows.bits_sub ?_ ?_ | refine' PyProof.Rows.bits_neg ?_ | refine' PyProof.Rows.bits_ite ?_ ?_ | refine' bits_rnd ?_ | refine' PyProof.Rows.bits_fdiv ?_ | refine' PyProof.Rows.bits_fmod ?_ ?_ | exact Nat.le_refl _)); (case o9 => with_unfolding_all exact rfl))
    | (refine' V.call i_divided ?g9 ?_ ?_ (f_divided _ _ _ ?_ ?_ ?_); (case g9 => with_unfolding_all exact rfl))
    | (exact ItemOf.lst hn)
    | (with_unfolding_all exact rfl))
  case k9 => with_unfolding_all exact rfl
  case s9 => with_unfolding_all exact rfl
  refine' R.ret (E.ite (W.up (b := d) ?w ⟨fun h => E.mkL (ps := [.int (rnd (r * 1000000) 72), .int (0), .int (0), .int (-rnd (r * 1000000) 72), .int (0), .int (h1 * 1000000)]) ?v1 rfl fun l => Back.r ⟨l, rfl, ?e1⟩, fun h => E.mkL (ps := [.int (rnd (r * 1000000) 72), .int (0), .int (0), .int (rnd (r * 1000000) 72), .int (0), .int (0)]) ?v2 rfl fun l => Back.r ⟨l, rfl, ?e2⟩⟩))
  case w => (with_reducible repeat' first
    | exact V.int
    | (refine' V.lo ?a9; (case a9 => with_unfolding_all exact rfl))
    | (refine' V.grain ?g9; (case g9 => with_unfolding_all exact rfl)) | (refine' V.lone ?g9; (case g9 => with_unfolding_all exact rfl))
    | refine' V.bin ?_ ?_ ?_
    | refine' V.una ?_ ?_
    | (refine' V.cmp ?_ ?_ ?_ ?d9; (case d9 => with_unfolding_all exact rfl))
    | (refine' W.cmp ?_ ?_ ?_ ?d9; (case d9 => with_unfolding_all exact rfl))
    | refine' V.iti ?_ ?_ ?_
    | (refine' V.abs (g_abs _) ?g9 ?_ ?n9; (case g9 => with_unfolding_all exact rfl); (case n9 => with_unfolding_all exact rfl))
    | refine' V.itc ?_ ?_ ?_
    | exact V.boolc | exact V.nonec | refine' V.bone ?_ | (refine' V.band ?_ (fun _ => ?_)) | (refine' V.bor ?_ (fun _ => ?_)) | (refine' V.not ?_)
    | (refine' W.not ?_) | exact W.and0 | exact W.or0 | (refine' W.and ?_ (fun _ => ?_)) | (refine' W.or ?_ (fun _ => ?_))
    | (refine' W.of ?_ ?d9; (case d9 => with_unfolding_all exact rfl))
    | exact Vs.nil | (refine' Vs.cons ?_ ?n9 ?_; (case n9 => with_unfolding_all exact rfl))
    | exact Bin.add | exact Bin.sub | (refine' Bin.mul (mulB ?m9 ?n9 ?o9); (case m9 => (with_reducible repeat' first | exact b_r | exact b_h1 | refine' PyProof.Rows.bits_mul ?_ ?_ | refine' PyProof.Rows.bits_add ?_ ?_ | refine' PyProof.Rows.bits_sub ?_ ?_ | refine' PyProof.Rows.bits_neg ?_ | refine' PyProof.Rows.bits_ite ?_ ?_ | refine' bits_rnd ?_ | refine' PyProof.Rows.bits_fdiv ?_ | refine' PyProof.Rows.bits_fmod ?_ ?_ | exact Nat.le_refl _)); (case n9 => (with_reducible repeat' first | exact b_r | exact b_h1 | refine' PyProof.Rows.bits_mul ?_ ?_ | refine' PyProof.Rows.bits_add ?_ ?_ | refine' PyProof.Rows.bits_sub ?_ ?_ | refine' PyProof.Rows.bits_neg ?_ | refine' PyProof.Rows.bits_ite ?_ ?_ | refine' bits_rnd ?_ | refine' PyProof.Rows.bits_fdiv ?_ | refine' PyProof.Rows.bits_fmod ?_ ?_ | exact Nat.le_refl _)); (case o9 => with_unfolding_all exact rfl)) | (refine' Bin.mod ?m9; (case m9 => first | decide | exact h0 | omega)) | (refine' Bin.fdiv ?m9 (noPyB ?n9 ?o9); (case m9 => first | decide | omega); (case n9 => (with_reducible repeat' first | exact b_r | exact b_h1 | refine' PyProof.Rows.bits_mul ?_ ?_ | refine' PyProof.Rows.bits_add ?_ ?_ | refine' PyProof.Rows.bits_sub ?_ ?_ | refine' PyProof.Rows.bits_neg ?_ | refine' PyProof.Rows.bits_ite ?_ ?_ | refine' bits_rnd ?_ | refine' PyProof.Rows.bits_fdiv ?_ | refine' PyProof.Rows.bits_fmod ?_ ?_ | exact Nat.le_refl _)); (case o9 => with_unfolding_all exact rfl)) | exact Una.neg
    | exact Cmp.lt | exact Cmp.le | exact Cmp.gt | exact Cmp.ge | exact Cmp.eq | exact Cmp.ne | exact Cmp.eqB
    | exact ItemOf.lst hm | (with_unfolding_all exact ItemOf.lst (.head _)) | (with_unfolding_all exact ItemOf.lst (.tail _ (.head _))) | exact ItemOf.tup hm | (with_unfolding_all exact ItemOf.tup (.head _))
    | exact Nat.le_trans (Nat.le_of_ble_eq_true rfl) hC | ((show _ ≠ _); first | exact h0 | decide | omega)
        | (refine' Nat.le_trans ?m9 (Nat.le_of_ble_eq_true ?o9); (case m9 => (with_reducible repeat' first | exact b_r | exact b_h1 | refine' PyProof.Rows.bits_mul ?_ ?_ | refine' PyProof.Rows.bits_add ?_ ?_ | refine' PyProof.Rows.bits_sub ?_ ?_ | refine' PyProof.Rows.bits_neg ?_ | refine' PyProof.Rows.bits_ite ?_ ?_ | refine' bits_rnd ?_ | refine' PyProof.Rows.bits_fdiv ?_ | refine' PyProof.Rows.bits_fmod ?_ ?_ | exact Nat.le_refl _)); (case o9 => with_unfolding_all exact rfl))
    | (refine' V.call i_divided ?g9 ?_ ?_ (f_divided _ _ _ ?_ ?_ ?_); (case g9 => with_unfolding_all exact rfl))
    | (exact ItemOf.lst hn)
    | (with_unfolding_all exact rfl))
  case v1 => (with_reducible repeat' first
    | exact V.int
    | (refine' V.lo ?a9; (case a9 => with_unfolding_all exact rfl))
    | (refine' V.grain ?g9; (case g9 => with_unfolding_all exact rfl)) | (refine' V.lone ?g9; (case g9 => with_unfolding_all exact rfl))
    | refine' V.bin ?_ ?_ ?_
    | refine' V.una ?_ ?_
    | (refine' V.cmp ?_ ?_ ?_ ?d9; (case d9 => with_unfolding_all exact rfl))
    | (refine' W.cmp ?_ ?_ ?_ ?d9; (case d9 => with_unfolding_all exact rfl))
    | refine' V.iti ?_ ?_ ?_
    | (refine' V.abs (g_abs _) ?g9 ?_ ?n9; (case g9 => with_unfolding_all exact rfl); (case n9 => with_unfolding_all exact rfl))
    | refine' V.itc ?_ ?_ ?_
    | exact V.boolc | exact V.nonec | refine' V.bone ?_ | (refine' V.band ?_ (fun _ => ?_)) | (refine' V.bor ?_ (fun _ => ?_)) | (refine' V.not ?_)
    | (refine' W.not ?_) | exact W.and0 | exact W.or0 | (refine' W.and ?_ (fun _ => ?_)) | (refine' W.or ?_ (fun _ => ?_))
    | (refine' W.of ?_ ?d9; (case d9 => with_unfolding_all exact rfl))
    | exact Vs.nil | (refine' Vs.cons ?_ ?n9 ?_; (case n9 => with_unfolding_all exact rfl))
    | exact Bin.add | exact Bin.sub | (refine' Bin.mul (mulB ?m9 ?n9 ?o9); (case m9 => (with_reducible repeat' first | exact b_r | exact b_h1 | refine' PyProof.Rows.bits_mul ?_ ?_ | refine' PyProof.Rows.bits_add ?_ ?_ | refine' PyProof.Rows.bits_sub ?_ ?_ | refine' PyProof.Rows.bits_neg ?_ | refine' PyProof.Rows.bits_ite ?_ ?_ | refine' bits_rnd ?_ | refine' PyProof.Rows.bits_fdiv ?_ | refine' PyProof.Rows.bits_fmod ?_ ?_ | exact Nat.le_refl _)); (case n9 => (with_reducible repeat' first | exact b_r | exact b_h1 | refine' PyProof.Rows.bits_mul ?_ ?_ | refine' PyProof.Rows.bits_add ?_ ?_ | refine' PyProof.Rows.bits_sub ?_ ?_ | refine' PyProof.Rows.bits_neg ?_ | refine' PyProof.Rows.bits_ite ?_ ?_ | refine' bits_rnd ?_ | refine' PyProof.Rows.bits_fdiv ?_ | refine' PyProof.Rows.bits_fmod ?_ ?_ | exact Nat.le_refl _)); (case o9 => with_unfolding_all exact rfl)) | (refine' Bin.mod ?m9; (case m9 => first | decide | exact h0 | omega)) | (refine' Bin.fdiv ?m9 (noPyB ?n9 ?o9); (case m9 => first | decide | omega); (case n9 => (with_reducible repeat' first | exact b_r | exact b_h1 | refine' PyProof.Rows.bits_mul ?_ ?_ | refine' PyProof.Rows.bits_add ?_ ?_ | refine' PyProof.Rows.bits_sub ?_ ?_ | refine' PyProof.Rows.bits_neg ?_ | refine' PyProof.Rows.bits_ite ?_ ?_ | refine' bits_rnd ?_ | refine' PyProof.Rows.bits_fdiv ?_ | refine' PyProof.Rows.bits_fmod ?_ ?_ | exact Nat.le_refl _)); (case o9 => with_unfolding_all exact rfl)) | exact Una.neg
    | exact Cmp.lt | exact Cmp.le | exact Cmp.gt | exact Cmp.ge | exact Cmp.eq | exact Cmp.ne | exact Cmp.eqB
    | exact ItemOf.lst hm | (with_unfolding_all exact ItemOf.lst (.head _)) | (with_unfolding_all exact ItemOf.lst (.tail _ (.head _))) | exact ItemOf.tup hm | (with_unfolding_all exact ItemOf.tup (.head _))
    | exact Nat.le_trans (Nat.le_of_ble_eq_true rfl) hC | ((show _ ≠ _); first | exact h0 | decide | omega)
        | (refine' Nat.le_trans ?m9 (Nat.le_of_ble_eq_true ?o9); (case m9 => (with_reducible repeat' first | exact b_r | exact b_h1 | refine' PyProof.Rows.bits_mul ?_ ?_ | refine' PyProof.Rows.bits_add ?_ ?_ | refine' PyProof.Rows.bits_sub ?_ ?_ | refine' PyProof.Rows.bits_neg ?_ | refine' PyProof.Rows.bits_ite ?_ ?_ | refine' bits_rnd ?_ | refine' PyProof.Rows.bits_fdiv ?_ | refine' PyProof.Rows.bits_fmod ?_ ?_ | exact Nat.le_refl _)); (case o9 => with_unfolding_all exact rfl))
    | (refine' V.call i_divided ?g9 ?_ ?_ (f_divided _ _ _ ?_ ?_ ?_); (case g9 => with_unfolding_all exact rfl))
    | (exact ItemOf.lst hn)
    | (with_unfolding_all exact rfl))
  case e1 => rw [if_pos h]; rfl
  case v2 => (with_reducible repeat' first
    | exact V.int
    | (refine' V.lo ?a9; (case a9 => with_unfolding_all exact rfl))
    | (refine' V.grain ?g9; (case g9 => with_unfolding_all exact rfl)) | (refine' V.lone ?g9; (case g9 => with_unfolding_all exact rfl))
    | refine' V.bin ?_ ?_ ?_
    | refine' V.una ?_ ?_
    | (refine' V.cmp ?_ ?_ ?_ ?d9; (case d9 => with_unfolding_all exact rfl))
    | (refine' W.cmp ?_ ?_ ?_ ?d9; (case d9 => with_unfolding_all exact rfl))
    | refine' V.iti ?_ ?_ ?_
    | (refine' V.abs (g_abs _) ?g9 ?_ ?n9; (case g9 => with_unfolding_all exact rfl); (case n9 => with_unfolding_all exact rfl))
    | refine' V.itc ?_ ?_ ?_
    | exact V.boolc | exact V.nonec | refine' V.bone ?_ | (refine' V.band ?_ (fun _ => ?_)) | (refine' V.bor ?_ (fun _ => ?_)) | (refine' V.not ?_)
    | (refine' W.not ?_) | exact W.and0 | exact W.or0 | (refine' W.and ?_ (fun _ => ?_)) | (refine' W.or ?_ (fun _ => ?_))
    | (refine' W.of ?_ ?d9; (case d9 => with_unfolding_all exact rfl))
    | exact Vs.nil | (refine' Vs.cons ?_ ?n9 ?_; (case n9 => with_unfolding_all exact rfl))
    | exact Bin.add | exact Bin.sub | (refine' Bin.mul (mulB ?m9 ?n9 ?o9); (case m9 => (with_reducible repeat' first | exact b_r | exact b_h1 | refine' PyProof.Rows.bits_mul ?_ ?_ | refine' PyProof.Rows.bits_add ?_ ?_ | refine' PyProof.Rows.bits_sub ?_ ?_ | refine' PyProof.Rows.bits_neg ?_ | refine' PyProof.Rows.bits_ite ?_ ?_ | refine' bits_rnd ?_ | refine' PyProof.Rows.bits_fdiv ?_ | refine' PyProof.Rows.bits_fmod ?_ ?_ | exact Nat.le_refl _)); (case n9 => (with_reducible repeat' first | exact b_r | exact b_h1 | refine' PyProof.Rows.bits_mul ?_ ?_ | refine' PyProof.Rows.bits_add ?_ ?_ | refine' PyProof.Rows.bits_sub ?_ ?_ | refine' PyProof.Rows.bits_neg ?_ | refine' PyProof.Rows.bits_ite ?_ ?_ | refine' bits_rnd ?_ | refine' PyProof.Rows.bits_fdiv ?_ | refine' PyProof.Rows.bits_fmod ?_ ?_ | exact Nat.le_refl _)); (case o9 => with_unfolding_all exact rfl)) | (refine' Bin.mod ?m9; (case m9 => first | decide | exact h0 | omega)) | (refine' Bin.fdiv ?m9 (noPyB ?n9 ?o9); (case m9 => first | decide | omega); (case n9 => (with_reducible repeat' first | exact b_r | exact b_h1 | refine' PyProof.Rows.bits_mul ?_ ?_ | refine' PyProof.Rows.bits_add ?_ ?_ | refine' PyProof.Rows.bits_sub ?_ ?_ | refine' PyProof.Rows.bits_neg ?_ | refine' PyProof.Rows.bits_ite ?_ ?_ | refine' bits_rnd ?_ | refine' PyProof.Rows.bits_fdiv ?_ | refine' PyProof.Rows.bits_fmod ?_ ?_ | exact Nat.le_refl _)); (case o9 => with_unfolding_all exact rfl)) | exact Una.neg
    | exact Cmp.lt | exact Cmp.le | exact Cmp.gt | exact Cmp.ge | exact Cmp.eq | exact Cmp.ne | exact Cmp.eqB
    | exact ItemOf.lst hm | (with_unfolding_all exact ItemOf.lst (.head _)) | (with_unfolding_all exact ItemOf.lst (.tail _ (.head _))) | exact ItemOf.tup hm | (with_unfolding_all exact ItemOf.tup (.head _))
    | exact Nat.le_trans (Nat.le_of_ble_eq_true rfl) hC | ((show _ ≠ _); first | exact h0 | decide | omega)
        | (refine' Nat.le_trans ?m9 (Nat.le_of_ble_eq_true ?o9); (case m9 => (with_reducible repeat' first | exact b_r | exact b_h1 | refine' PyProof.Rows.bits_mul ?_ ?_ | refine' PyProof.Rows.bits_add ?_ ?_ | refine' PyProof.Rows.bits_sub ?_ ?_ | refine' PyProof.Rows.bits_neg ?_ | refine' PyProof.Rows.bits_ite ?_ ?_ | refine' bits_rnd ?_ | refine' PyProof.Rows.bits_fdiv ?_ | refine' PyProof.Rows.bits_fmod ?_ ?_ | exact Nat.le_refl _)); (case o9 => with_unfolding_all exact rfl))
    | (refine' V.call i_divided ?g9 ?_ ?_ (f_divided _ _ _ ?_ ?_ ?_); (case g9 => with_unfolding_all exact rfl))
    | (exact ItemOf.lst hn)
    | (with_unfolding_all exact rfl))
  case e2 => rw [if_neg (by rw [h]; exact Bool.false_ne_true)]; rfl
theorem f_image (η : Hp) (r h1 : Int) (d : Bool) (b_r : bits r ≤ 40) (b_h1 : bits h1 ≤ 40) : MkL 212 2 [.int r, .int h1, .bool d] η (intL (if d = true then [r * 1000000, 0, 0, -h1 * 1000000, 0, h1 * 1000000] else [r * 1000000, 0, 0, h1 * 1000000, 0, 0])) := by
  refine' Fn.enter3 "wide" "tall" "is_down" (fun P => ?ho) (fun P => ?hcd) (fun s v1 v2 v3 => ?hb) ?he ?h
  case ho => exact rfl
  case hcd => kernel_rfl
  case hb => exact BindsTo.of_eq rfl
  case he => rfl
  intro C hC
  refine' R.ifr (b := d) ?w (fun h => E.mkL (ps := [.int (r * 1000000), .int (0), .int (0), .int (-h1 * 1000000), .int (0), .int (h1 * 1000000)]) ?v1 rfl fun l => ⟨l, rfl, ?e1⟩) (fun h => R.reL (ps := [.int (r * 1000000), .int (0), .int (0), .int (h1 * 1000000), .int (0), .int (0)]) ?v2 rfl fun l => ⟨l, rfl, ?e2⟩)
  case w => (with_reducible repeat' first
    | exact V.int
    | (refine' V.lo ?a9; (case a9 => with_unfolding_all exact rfl))
    | (refine' V.grain ?g9; (case g9 => with_unfolding_all exact rfl)) | (refine' V.lone ?g9; (case g9 => with_unfolding_all exact rfl))
    | refine' V.bin ?_ ?_ ?_
    | refine' V.una ?_ ?_
    | (refine' V.cmp ?_ ?_ ?_ ?d9; (case d9 => with_unfolding_all exact rfl))
    | (refine' W.cmp ?_ ?_ ?_ ?d9; (case d9 => with_unfolding_all exact rfl))
    | refine' V.iti ?_ ?_ ?_
    | (refine' V.abs (g_abs _) ?g9 ?_ ?n9; (case g9 => with_unfolding_all exact rfl); (case n9 => with_unfolding_all exact rfl))
    | refine' V.itc ?_ ?_ ?_
    | exact V.boolc | exact V.nonec | refine' V.bone ?_ | (refine' V.band ?_ (fun _ => ?_)) | (refine' V.bor ?_ (fun _ => ?_)) | (refine' V.not ?_)
    | (refine' W.not ?_) | exact W.and0 | exact W.or0 | (refine' W.and ?_ (fun _ => ?_)) | (refine' W.or ?_ (fun _ => ?_))
    | (refine' W.of ?_ ?d9; (case d9 => with_unfolding_all exact rfl))
    | exact Vs.nil | (refine' Vs.cons ?_ ?n9 ?_; (case n9 => with_unfolding_all exact rfl))
    | exact Bin.add | exact Bin.sub | (refine' Bin.mul (mulB ?m9 ?n9 ?o9); (case m9 => (with_reducible repeat' first | exact b_r | exact b_h1 | refine' PyProof.Rows.bits_mul ?_ ?_ | refine' PyProof.Rows.bits_add ?_ ?_ | refine' PyProof.Rows.bits_sub ?_ ?_ | refine' PyProof.Rows.bits_neg ?_ | refine' PyProof.Rows.bits_ite ?_ ?_ | refine' bits_rnd ?_ | refine' PyProof.Rows.bits_fdiv ?_ | refine' PyProof.Rows.bits_fmod ?_ ?_ | exact Nat.le_refl _)); (case n9 => (with_reducible repeat' first | exact b_r | exact b_h1 | refine' PyProof.Rows.bits_mul ?_ ?_ | refine' PyProof.Rows.bits_add ?_ ?_ | refine' PyProof.Rows.bits_sub ?_ ?_ | refine' PyProof.Rows.bits_neg ?_ | refine' PyProof.Rows.bits_ite ?_ ?_ | refine' bits_rnd ?_ | refine' PyProof.Rows.bits_fdiv ?_ | refine' PyProof.Rows.bits_fmod ?_ ?_ | exact Nat.le_refl _)); (case o9 => with_unfolding_all exact rfl)) | (refine' Bin.mod ?m9; (case m9 => first | decide | exact h0 | omega)) | (refine' Bin.fdiv ?m9 (noPyB ?n9 ?o9); (case m9 => first | decide | omega); (case n9 => (with_reducible repeat' first | exact b_r | exact b_h1 | refine' PyProof.Rows.bits_mul ?_ ?_ | refine' PyProof.Rows.bits_add ?_ ?_ | refine' PyProof.Rows.bits_sub ?_ ?_ | refine' PyProof.Rows.bits_neg ?_ | refine' PyProof.Rows.bits_ite ?_ ?_ | refine' bits_rnd ?_ | refine' PyProof.Rows.bits_fdiv ?_ | refine' PyProof.Rows.bits_fmod ?_ ?_ | exact Nat.le_refl _)); (case o9 => with_unfolding_all exact rfl)) | exact Una.neg
    | exact Cmp.lt | exact Cmp.le | exact Cmp.gt | exact Cmp.ge | exact Cmp.eq | exact Cmp.ne | exact Cmp.eqB
    | exact ItemOf.lst hm | (with_unfolding_all exact ItemOf.lst (.head _)) | (with_unfolding_all exact ItemOf.lst (.tail _ (.head _))) | exact ItemOf.tup hm | (with_unfolding_all exact ItemOf.tup (.head _))
    | exact Nat.le_trans (Nat.le_of_ble_eq_true rfl) hC | ((show _ ≠ _); first | exact h0 | decide | omega)
        | (refine' Nat.le_trans ?m9 (Nat.le_of_ble_eq_true ?o9); (case m9 => (with_reducible repeat' first | exact b_r | exact b_h1 | refine' PyProof.Rows.bits_mul ?_ ?_ | refine' PyProof.Rows.bits_add ?_ ?_ | refine' PyProof.Rows.bits_sub ?_ ?_ | refine' PyProof.Rows.bits_neg ?_ | refine' PyProof.Rows.bits_ite ?_ ?_ | refine' bits_rnd ?_ | refine' PyProof.Rows.bits_fdiv ?_ | refine' PyProof.Rows.bits_fmod ?_ ?_ | exact Nat.le_refl _)); (case o9 => with_unfolding_all exact rfl))
    | (refine' V.call i_divided ?g9 ?_ ?_ (f_divided _ _ _ ?_ ?_ ?_); (case g9 => with_unfolding_all exact rfl))
    | (exact ItemOf.lst hn)
    | (with_unfolding_all exact rfl))
  case v1 => (with_reducible repeat' first
    | exact V.int
    | (refine' V.lo ?a9; (case a9 => with_unfolding_all exact rfl))
    | (refine' V.grain ?g9; (case g9 => with_unfolding_all exact rfl)) | (refine' V.lone ?g9; (case g9 => with_unfolding_all exact rfl))
    | refine' V.bin ?_ ?_ ?_
    | refine' V.una ?_ ?_
    | (refine' V.cmp ?_ ?_ ?_ ?d9; (case d9 => with_unfolding_all exact rfl))
    | (refine' W.cmp ?_ ?_ ?_ ?d9; (case d9 => with_unfolding_all exact rfl))
    | refine' V.iti ?_ ?_ ?_
    | (refine' V.abs (g_abs _) ?g9 ?_ ?n9; (case g9 => with_unfolding_all exact rfl); (case n9 => with_unfolding_all exact rfl))
    | refine' V.itc ?_ ?_ ?_
    | exact V.boolc | exact V.nonec | refine' V.bone ?_ | (refine' V.band ?_ (fun _ => ?_)) | (refine' V.bor ?_ (fun _ => ?_)) | (refine' V.not ?_)
    | (refine' W.not ?_) | exact W.and0 | exact W.or0 | (refine' W.and ?_ (fun _ => ?_)) | (refine' W.or ?_ (fun _ => ?_))
    | (refine' W.of ?_ ?d9; (case d9 => with_unfolding_all exact rfl))
    | exact Vs.nil | (refine' Vs.cons ?_ ?n9 ?_; (case n9 => with_unfolding_all exact rfl))
    | exact Bin.add | exact Bin.sub | (refine' Bin.mul (mulB ?m9 ?n9 ?o9); (case m9 => (with_reducible repeat' first | exact b_r | exact b_h1 | refine' PyProof.Rows.bits_mul ?_ ?_ | refine' PyProof.Rows.bits_add ?_ ?_ | refine' PyProof.Rows.bits_sub ?_ ?_ | refine' PyProof.Rows.bits_neg ?_ | refine' PyProof.Rows.bits_ite ?_ ?_ | refine' bits_rnd ?_ | refine' PyProof.Rows.bits_fdiv ?_ | refine' PyProof.Rows.bits_fmod ?_ ?_ | exact Nat.le_refl _)); (case n9 => (with_reducible repeat' first | exact b_r | exact b_h1 | refine' PyProof.Rows.bits_mul ?_ ?_ | refine' PyProof.Rows.bits_add ?_ ?_ | refine' PyProof.Rows.bits_sub ?_ ?_ | refine' PyProof.Rows.bits_neg ?_ | refine' PyProof.Rows.bits_ite ?_ ?_ | refine' bits_rnd ?_ | refine' PyProof.Rows.bits_fdiv ?_ | refine' PyProof.Rows.bits_fmod ?_ ?_ | exact Nat.le_refl _)); (case o9 => with_unfolding_all exact rfl)) | (refine' Bin.mod ?m9; (case m9 => first | decide | exact h0 | omega)) | (refine' Bin.fdiv ?m9 (noPyB ?n9 ?o9); (case m9 => first | decide | omega); (case n9 => (with_reducible repeat' first | exact b_r | exact b_h1 | refine' PyProof.Rows.bits_mul ?_ ?_ | refine' PyProof.Rows.bits_add ?_ ?_ | refine' PyProof.Rows.bits_sub ?_ ?_ | refine' PyProof.Rows.bits_neg ?_ | refine' PyProof.Rows.bits_ite ?_ ?_ | refine' bits_rnd ?_ | refine' PyProof.Rows.bits_fdiv ?_ | refine' PyProof.Rows.bits_fmod ?_ ?_ | exact Nat.le_refl _)); (case o9 => with_unfolding_all exact rfl)) | exact Una.neg
    | exact Cmp.lt | exact Cmp.le | exact Cmp.gt | exact Cmp.ge | exact Cmp.eq | exact Cmp.ne | exact Cmp.eqB
    | exact ItemOf.lst hm | (with_unfolding_all exact ItemOf.lst (.head _)) | (with_unfolding_all exact ItemOf.lst (.tail _ (.head _))) | exact ItemOf.tup hm | (with_unfolding_all exact ItemOf.tup (.head _))
    | exact Nat.le_trans (Nat.le_of_ble_eq_true rfl) hC | ((show _ ≠ _); first | exact h0 | decide | omega)
        | (refine' Nat.le_trans ?m9 (Nat.le_of_ble_eq_true ?o9); (case m9 => (with_reducible repeat' first | exact b_r | exact b_h1 | refine' PyProof.Rows.bits_mul ?_ ?_ | refine' PyProof.Rows.bits_add ?_ ?_ | refine' PyProof.Rows.bits_sub ?_ ?_ | refine' PyProof.Rows.bits_neg ?_ | refine' PyProof.Rows.bits_ite ?_ ?_ | refine' bits_rnd ?_ | refine' PyProof.Rows.bits_fdiv ?_ | refine' PyProof.Rows.bits_fmod ?_ ?_ | exact Nat.le_refl _)); (case o9 => with_unfolding_all exact rfl))
    | (refine' V.call i_divided ?g9 ?_ ?_ (f_divided _ _ _ ?_ ?_ ?_); (case g9 => with_unfolding_all exact rfl))
    | (exact ItemOf.lst hn)
    | (with_unfolding_all exact rfl))
  case e1 => rw [if_pos h]; rfl
  case v2 => (with_reducible repeat' first
    | exact V.int
    | (refine' V.lo ?a9; (case a9 => with_unfolding_all exact rfl))
    | (refine' V.grain ?g9; (case g9 => with_unfolding_all exact rfl)) | (refine' V.lone ?g9; (case g9 => with_unfolding_all exact rfl))
    | refine' V.bin ?_ ?_ ?_
    | refine' V.una ?_ ?_
    | (refine' V.cmp ?_ ?_ ?_ ?d9; (case d9 => with_unfolding_all exact rfl))
    | (refine' W.cmp ?_ ?_ ?_ ?d9; (case d9 => with_unfolding_all exact rfl))
    | refine' V.iti ?_ ?_ ?_
    | (refine' V.abs (g_abs _) ?g9 ?_ ?n9; (case g9 => with_unfolding_all exact rfl); (case n9 => with_unfolding_all exact rfl))
    | refine' V.itc ?_ ?_ ?_
    | exact V.boolc | exact V.nonec | refine' V.bone ?_ | (refine' V.band ?_ (fun _ => ?_)) | (refine' V.bor ?_ (fun _ => ?_)) | (refine' V.not ?_)
    | (refine' W.not ?_) | exact W.and0 | exact W.or0 | (refine' W.and ?_ (fun _ => ?_)) | (refine' W.or ?_ (fun _ => ?_))
    | (refine' W.of ?_ ?d9; (case d9 => with_unfolding_all exact rfl))
    | exact Vs.nil | (refine' Vs.cons ?_ ?n9 ?_; (case n9 => with_unfolding_all exact rfl))
    | exact Bin.add | exact Bin.sub | (refine' Bin.mul (mulB ?m9 ?n9 ?o9); (case m9 => (with_reducible repeat' first | exact b_r | exact b_h1 | refine' PyProof.Rows.bits_mul ?_ ?_ | refine' PyProof.Rows.bits_add ?_ ?_ | refine' PyProof.Rows.bits_sub ?_ ?_ | refine' PyProof.Rows.bits_neg ?_ | refine' PyProof.Rows.bits_ite ?_ ?_ | refine' bits_rnd ?_ | refine' PyProof.Rows.bits_fdiv ?_ | refine' PyProof.Rows.bits_fmod ?_ ?_ | exact Nat.le_refl _)); (case n9 => (with_reducible repeat' first | exact b_r | exact b_h1 | refine' PyProof.Rows.bits_mul ?_ ?_ | refine' PyProof.Rows.bits_add ?_ ?_ | refine' PyProof.Rows.bits_sub ?_ ?_ | refine' PyProof.Rows.bits_neg ?_ | refine' PyProof.Rows.bits_ite ?_ ?_ | refine' bits_rnd ?_ | refine' PyProof.Rows.bits_fdiv ?_ | refine' PyProof.Rows.bits_fmod ?_ ?_ | exact Nat.le_refl _)); (case o9 => with_unfolding_all exact rfl)) | (refine' Bin.mod ?m9; (case m9 => first | decide | exact h0 | omega)) | (refine' Bin.fdiv ?m9 (noPyB ?n9 ?o9); (case m9 => first | decide | omega); (case n9 => (with_reducible repeat' first | exact b_r | exact b_h1 | refine' PyProof.Rows.bits_mul ?_ ?_ | refine' PyProof.Rows.bits_add ?_ ?_ | refine' PyProof.Rows.bits_sub ?_ ?_ | refine' PyProof.Rows.bits_neg ?_ | refine' PyProof.Rows.bits_ite ?_ ?_ | refine' bits_rnd ?_ | refine' PyProof.Rows.bits_fdiv ?_ | refine' PyProof.Rows.bits_fmod ?_ ?_ | exact Nat.le_refl _)); (case o9 => with_unfolding_all exact rfl)) | exact Una.neg
    | exact Cmp.lt | exact Cmp.le | exact Cmp.gt | exact Cmp.ge | exact Cmp.eq | exact Cmp.ne | exact Cmp.eqB
    | exact ItemOf.lst hm | (with_unfolding_all exact ItemOf.lst (.head _)) | (with_unfolding_all exact ItemOf.lst (.tail _ (.head _))) | exact ItemOf.tup hm | (with_unfolding_all exact ItemOf.tup (.head _))
    | exact Nat.le_trans (Nat.le_of_ble_eq_true rfl) hC | ((show _ ≠ _); first | exact h0 | decide | omega)
        | (refine' Nat.le_trans ?m9 (Nat.le_of_ble_eq_true ?o9); (case m9 => (with_reducible repeat' first | exact b_r | exact b_h1 | refine' PyProof.Rows.bits_mul ?_ ?_ | refine' PyProof.Rows.bits_add ?_ ?_ | refine' PyProof.Rows.bits_sub ?_ ?_ | refine' PyProof.Rows.bits_neg ?_ | refine' PyProof.Rows.bits_ite ?_ ?_ | refine' bits_rnd ?_ | refine' PyProof.Rows.bits_fdiv ?_ | refine' PyProof.Rows.bits_fmod ?_ ?_ | exact Nat.le_refl _)); (case o9 => with_unfolding_all exact rfl))
    | (refine' V.call i_divided ?g9 ?_ ?_ (f_divided _ _ _ ?_ ?_ ?_); (case g9 => with_unfolding_all exact rfl))
    | (exact ItemOf.lst hn)
    | (with_unfolding_all exact rfl))
  case e2 => rw [if_neg (by rw [h]; exact Bool.false_ne_true)]; rfl
end Mine
end
section
open PySem PySem.W PyProof.Rows PySem.Calls
set_option Elab.async false
set_option linter.unusedVariables false
set_option maxRecDepth 100000
set_option maxHeartbeats 4000000
namespace Mine
theorem warm_F4 : PySem.Challenge.rw_pb0513_01.Holds → kK = kK := by
  k_fill
  intro _; rfl
theorem bits_nn {x y : Int} {k : Nat} (h0 : 0 ≤ x) (h : x ≤ y) (hb : bits y ≤ k) : bits x ≤ k := PyProof.Rows.bits_of_natAbs_le (by omega) hb
theorem le_sq {x : Int} (h : 1 ≤ x) : x ≤ x * x := by
  have := Int.mul_le_mul_of_nonneg_left h (show 0 ≤ x by omega)
  rw [Int.mul_one] at this; exact this
theorem mid_lt {a b : Int} (h : a + 1 < b) : a < (a + b).fdiv 2 ∧ (a + b).fdiv 2 < b := by
  rw [Int.fdiv_eq_ediv_of_nonneg _ (by decide)]; omega
/-- r is the root of n, rounded down -/
abbrev IsRoot (n r : Int) : Prop := 0 ≤ r ∧ r * r ≤ n ∧ n < (r + 1) * (r + 1)
theorem root_small {n : Int} (h0 : 0 ≤ n) (h : n < 2) : IsRoot n n := by
  rcases (show n = 0 ∨ n = 1 by omega) with rfl | rfl <;> decide
theorem f_matrix_root (η : Hp) (n : Int) (hn : 0 ≤ n) (b_n : bits n ≤ 200) : Fn 185 1 [.int n] η fun p η' => (∃ r, p = .int r ∧ IsRoot n r) ∧ η' = η := by
  refine' Fn.enter1 "number" (fun P => ?ho) (fun P => ?hcd) (fun s v1 => ?hb) ?he ?h
  case ho => exact rfl
  case hcd => kernel_rfl
  case hb => exact BindsTo.of_eq rfl
  case he => rfl
  intro C hC
  refine' R.ifr (b := decide (n < 2)) ?w (fun h => V.up ?v ⟨⟨n, rfl, root_small hn (of_decide_eq_true h)⟩, rfl⟩) fun h => ?k
  case w => (with_reducible repeat' first
    | exact V.int
    | (refine' V.lo ?a9; (case a9 => with_unfolding_all exact rfl))
    | (refine' V.grain ?g9; (case g9 => with_unfolding_all exact rfl)) | (refine' V.lone ?g9; (case g9 => with_unfolding_all exact rfl))
    | refine' V.bin ?_ ?_ ?_
    | refine' V.una ?_ ?_
    | (refine' V.cmp ?_ ?_ ?_ ?d9; (case d9 => with_unfolding_all exact rfl))
    | (refine' W.cmp ?_ ?_ ?_ ?d9; (case d9 => with_unfolding_all exact rfl))
    | refine' V.iti ?_ ?_ ?_
    | (refine' V.abs (g_abs _) ?g9 ?_ ?n9; (case g9 => with_unfolding_all exact rfl); (case n9 => with_unfolding_all exact rfl))
    | refine' V.itc ?_ ?_ ?_
    | exact V.boolc | exact V.nonec | refine' V.bone ?_ | (refine' V.band ?_ (fun _ => ?_)) | (refine' V.bor ?_ (fun _ => ?_)) | (refine' V.not ?_)
    | (refine' W.not ?_) | exact W.and0 | exact W.or0 | (refine' W.and ?_ (fun _ => ?_)) | (refine' W.or ?_ (fun _ => ?_))
    | (refine' W.of ?_ ?d9; (case d9 => with_unfolding_all exact rfl))
    | exact Vs.nil | (refine' Vs.cons ?_ ?n9 ?_; (case n9 => with_unfolding_all exact rfl))
    | exact Bin.add | exact Bin.sub | (refine' Bin.mul (mulB ?m9 ?n9 ?o9); (case m9 => (with_reducible repeat' first | exact b_n | refine' PyProof.Rows.bits_mul ?_ ?_ | refine' PyProof.Rows.bits_add ?_ ?_ | refine' PyProof.Rows.bits_sub ?_ ?_ | refine' PyProof.Rows.bits_neg ?_ | refine' PyProof.Rows.bits_ite ?_ ?_ | refine' bits_rnd ?_ | refine' PyProof.Rows.bits_fdiv ?_ | refine' PyProof.Rows.bits_fmod ?_ ?_ | exact Nat.le_refl _)); (case n9 => (with_reducible repeat' first | exact b_n | refine' PyProof.Rows.bits_mul ?_ ?_ | refine' PyProof.Rows.bits_add ?_ ?_ | refine' PyProof.Rows.bits_sub ?_ ?_ | refine' PyProof.Rows.bits_neg ?_ | refine' PyProof.Rows.bits_ite ?_ ?_ | refine' bits_rnd ?_ | refine' PyProof.Rows.bits_fdiv ?_ | refine' PyProof.Rows.bits_fmod ?_ ?_ | exact Nat.le_refl _)); (case o9 => with_unfolding_all exact rfl)) | (refine' Bin.mod ?m9; (case m9 => first | decide | exact h0 | omega)) | (refine' Bin.fdiv ?m9 (noPyB ?n9 ?o9); (case m9 => first | decide | omega); (case n9 => (with_reducible repeat' first | exact b_n | refine' PyProof.Rows.bits_mul ?_ ?_ | refine' PyProof.Rows.bits_add ?_ ?_ | refine' PyProof.Rows.bits_sub ?_ ?_ | refine' PyProof.Rows.bits_neg ?_ | refine' PyProof.Rows.bits_ite ?_ ?_ | refine' bits_rnd ?_ | refine' PyProof.Rows.bits_fdiv ?_ | refine' PyProof.Rows.bits_fmod ?_ ?_ | exact Nat.le_refl _)); (case o9 => with_unfolding_all exact rfl)) | exact Una.neg
    | exact Cmp.lt | exact Cmp.le | exact Cmp.gt | exact Cmp.ge | exact Cmp.eq | exact Cmp.ne | exact Cmp.eqB
    | exact ItemOf.lst hm | (with_unfolding_all exact ItemOf.lst (.head _)) | (with_unfolding_all exact ItemOf.lst (.tail _ (.head _))) | exact ItemOf.tup hm | (with_unfolding_all exact ItemOf.tup (.head _))
    | exact Nat.le_trans (Nat.le_of_ble_eq_true rfl) hC | ((show _ ≠ _); first | exact h0 | decide | omega)
        | (refine' Nat.le_trans ?m9 (Nat.le_of_ble_eq_true ?o9); (case m9 => (with_reducible repeat' first | exact b_n | refine' PyProof.Rows.bits_mul ?_ ?_ | refine' PyProof.Rows.bits_add ?_ ?_ | refine' PyProof.Rows.bits_sub ?_ ?_ | refine' PyProof.Rows.bits_neg ?_ | refine' PyProof.Rows.bits_ite ?_ ?_ | refine' bits_rnd ?_ | refine' PyProof.Rows.bits_fdiv ?_ | refine' PyProof.Rows.bits_fmod ?_ ?_ | exact Nat.le_refl _)); (case o9 => with_unfolding_all exact rfl))
    | (with_unfolding_all exact rfl))
  case v => (with_reducible repeat' first
    | exact V.int
    | (refine' V.lo ?a9; (case a9 => with_unfolding_all exact rfl))
    | (refine' V.grain ?g9; (case g9 => with_unfolding_all exact rfl)) | (refine' V.lone ?g9; (case g9 => with_unfolding_all exact rfl))
    | refine' V.bin ?_ ?_ ?_
    | refine' V.una ?_ ?_
    | (refine' V.cmp ?_ ?_ ?_ ?d9; (case d9 => with_unfolding_all exact rfl))
    | (refine' W.cmp ?_ ?_ ?_ ?d9; (case d9 => with_unfolding_all exact rfl))
    | refine' V.iti ?_ ?_ ?_
    | (refine' V.abs (g_abs _) ?g9 ?_ ?n9; (case g9 => with_unfolding_all exact rfl); (case n9 => with_unfolding_all exact rfl))
    | refine' V.itc ?_ ?_ ?_
    | exact V.boolc | exact V.nonec | refine' V.bone ?_ | (refine' V.band ?_ (fun _ => ?_)) | (refine' V.bor ?_ (fun _ => ?_)) | (refine' V.not ?_)
    | (refine' W.not ?_) | exact W.and0 | exact W.or0 | (refine' W.and ?_ (fun _ => ?_)) | (refine' W.or ?_ (fun _ => ?_))
    | (refine' W.of ?_ ?d9; (case d9 => with_unfolding_all exact rfl))
    | exact Vs.nil | (refine' Vs.cons ?_ ?n9 ?_; (case n9 => with_unfolding_all exact rfl))
    | exact Bin.add | exact Bin.sub | (refine' Bin.mul (mulB ?m9 ?n9 ?o9); (case m9 => (with_reducible repeat' first | exact b_n | refine' PyProof.Rows.bits_mul ?_ ?_ | refine' PyProof.Rows.bits_add ?_ ?_ | refine' PyProof.Rows.bits_sub ?_ ?_ | refine' PyProof.Rows.bits_neg ?_ | refine' PyProof.Rows.bits_ite ?_ ?_ | refine' bits_rnd ?_ | refine' PyProof.Rows.bits_fdiv ?_ | refine' PyProof.Rows.bits_fmod ?_ ?_ | exact Nat.le_refl _)); (case n9 => (with_reducible repeat' first | exact b_n | refine' PyProof.Rows.bits_mul ?_ ?_ | refine' PyProof.Rows.bits_add ?_ ?_ | refine' PyProof.Rows.bits_sub ?_ ?_ | refine' PyProof.Rows.bits_neg ?_ | refine' PyProof.Rows.bits_ite ?_ ?_ | refine' bits_rnd ?_ | refine' PyProof.Rows.bits_fdiv ?_ | refine' PyProof.Rows.bits_fmod ?_ ?_ | exact Nat.le_refl _)); (case o9 => with_unfolding_all exact rfl)) | (refine' Bin.mod ?m9; (case m9 => first | decide | exact h0 | omega)) | (refine' Bin.fdiv ?m9 (noPyB ?n9 ?o9); (case m9 => first | decide | omega); (case n9 => (with_reducible repeat' first | exact b_n | refine' PyProof.Rows.bits_mul ?_ ?_ | refine' PyProof.Rows.bits_add ?_ ?_ | refine' PyProof.Rows.bits_sub ?_ ?_ | refine' PyProof.Rows.bits_neg ?_ | refine' PyProof.Rows.bits_ite ?_ ?_ | refine' bits_rnd ?_ | refine' PyProof.Rows.bits_fdiv ?_ | refine' PyProof.Rows.bits_fmod ?_ ?_ | exact Nat.le_refl _)); (case o9 => with_unfolding_all exact rfl)) | exact Una.neg
    | exact Cmp.lt | exact Cmp.le | exact Cmp.gt | exact Cmp.ge | exact Cmp.eq | exact Cmp.ne | exact Cmp.eqB
    | exact ItemOf.lst hm | (with_unfolding_all exact ItemOf.lst (.head _)) | (with_unfolding_all exact ItemOf.lst (.tail _ (.head _))) | exact ItemOf.tup hm | (with_unfolding_all exact ItemOf.tup (.head _))
    | exact Nat.le_trans (Nat.le_of_ble_eq_true rfl) hC | ((show _ ≠ _); first | exact h0 | decide | omega)
        | (refine' Nat.le_trans ?m9 (Nat.le_of_ble_eq_true ?o9); (case m9 => (with_reducible repeat' first | exact b_n | refine' PyProof.Rows.bits_mul ?_ ?_ | refine' PyProof.Rows.bits_add ?_ ?_ | refine' PyProof.Rows.bits_sub ?_ ?_ | refine' PyProof.Rows.bits_neg ?_ | refine' PyProof.Rows.bits_ite ?_ ?_ | refine' bits_rnd ?_ | refine' PyProof.Rows.bits_fdiv ?_ | refine' PyProof.Rows.bits_fmod ?_ ?_ | exact Nat.le_refl _)); (case o9 => with_unfolding_all exact rfl))
    | (with_unfolding_all exact rfl))
  have h2 : 2 ≤ n := by have := of_decide_eq_false h; omega
  refine' R.tupU ["low", "high"] [("low", _), ("high", _)] (E.tup (Vs.up (ps := [.int 1, .int 2]) ?vs ⟨Nat.le_of_ble_eq_true rfl, fun l => ⟨_, _, rfl, .head _, rfl, _, _, .cons (Sto.loc rfl) (.cons (Sto.loc rfl) .nil), R.drop ?_⟩⟩)) rfl rfl rfl rfl
  case vs => (with_reducible repeat' first
    | exact V.int
    | (refine' V.lo ?a9; (case a9 => with_unfolding_all exact rfl))
    | (refine' V.grain ?g9; (case g9 => with_unfolding_all exact rfl)) | (refine' V.lone ?g9; (case g9 => with_unfolding_all exact rfl))
    | refine' V.bin ?_ ?_ ?_
    | refine' V.una ?_ ?_
    | (refine' V.cmp ?_ ?_ ?_ ?d9; (case d9 => with_unfolding_all exact rfl))
    | (refine' W.cmp ?_ ?_ ?_ ?d9; (case d9 => with_unfolding_all exact rfl))
    | refine' V.iti ?_ ?_ ?_
    | (refine' V.abs (g_abs _) ?g9 ?_ ?n9; (case g9 => with_unfolding_all exact rfl); (case n9 => with_unfolding_all exact rfl))
    | refine' V.itc ?_ ?_ ?_
    | exact V.boolc | exact V.nonec | refine' V.bone ?_ | (refine' V.band ?_ (fun _ => ?_)) | (refine' V.bor ?_ (fun _ => ?_)) | (refine' V.not ?_)
    | (refine' W.not ?_) | exact W.and0 | exact W.or0 | (refine' W.and ?_ (fun _ => ?_)) | (refine' W.or ?_ (fun _ => ?_))
    | (refine' W.of ?_ ?d9; (case d9 => with_unfolding_all exact rfl))
    | exact Vs.nil | (refine' Vs.cons ?_ ?n9 ?_; (case n9 => with_unfolding_all exact rfl))
    | exact Bin.add | exact Bin.sub | (refine' Bin.mul (mulB ?m9 ?n9 ?o9); (case m9 => (with_reducible repeat' first | exact b_n | refine' PyProof.Rows.bits_mul ?_ ?_ | refine' PyProof.Rows.bits_add ?_ ?_ | refine' PyProof.Rows.bits_sub ?_ ?_ | refine' PyProof.Rows.bits_neg ?_ | refine' PyProof.Rows.bits_ite ?_ ?_ | refine' bits_rnd ?_ | refine' PyProof.Rows.bits_fdiv ?_ | refine' PyProof.Rows.bits_fmod ?_ ?_ | exact Nat.le_refl _)); (case n9 => (with_reducible repeat' first | exact b_n | refine' PyProof.Rows.bits_mul ?_ ?_ | refine' PyProof.Rows.bits_add ?_ ?_ | refine' PyProof.Rows.bits_sub ?_ ?_ | refine' PyProof.Rows.bits_neg ?_ | refine' PyProof.Rows.bits_ite ?_ ?_ | refine' bits_rnd ?_ | refine' PyProof.Rows.bits_fdiv ?_ | refine' PyProof.Rows.bits_fmod ?_ ?_ | exact Nat.le_refl _)); (case o9 => with_unfolding_all exact rfl)) | (refine' Bin.mod ?m9; (case m9 => first | decide | exact h0 | omega)) | (refine' Bin.fdiv ?m9 (noPyB ?n9 ?o9); (case m9 => first | decide | omega); (case n9 => (with_reducible repeat' first | exact b_n | refine' PyProof.Rows.bits_mul ?_ ?_ | refine' PyProof.Rows.bits_add ?_ ?_ | refine' PyProof.Rows.bits_sub ?_ ?_ | refine' PyProof.Rows.bits_neg ?_ | refine' PyProof.Rows.bits_ite ?_ ?_ | refine' bits_rnd ?_ | refine' PyProof.Rows.bits_fdiv ?_ | refine' PyProof.Rows.bits_fmod ?_ ?_ | exact Nat.le_refl _)); (case o9 => with_unfolding_all exact rfl)) | exact Una.neg
    | exact Cmp.lt | exact Cmp.le | exact Cmp.gt | exact Cmp.ge | exact Cmp.eq | exact Cmp.ne | exact Cmp.eqB
    | exact ItemOf.lst hm | (with_unfolding_all exact ItemOf.lst (.head _)) | (with_unfolding_all exact ItemOf.lst (.tail _ (.head _))) | exact ItemOf.tup hm | (with_unfolding_all exact ItemOf.tup (.head _))
    | exact Nat.le_trans (Nat.le_of_ble_eq_true rfl) hC | ((show _ ≠ _); first | exact h0 | decide | omega)
        | (refine' Nat.le_trans ?m9 (Nat.le_of_ble_eq_true ?o9); (case m9 => (with_reducible repeat' first | exact b_n | refine' PyProof.Rows.bits_mul ?_ ?_ | refine' PyProof.Rows.bits_add ?_ ?_ | refine' PyProof.Rows.bits_sub ?_ ?_ | refine' PyProof.Rows.bits_neg ?_ | refine' PyProof.Rows.bits_ite ?_ ?_ | refine' bits_rnd ?_ | refine' PyProof.Rows.bits_fdiv ?_ | refine' PyProof.Rows.bits_fmod ?_ ?_ | exact Nat.le_refl _)); (case o9 => with_unfolding_all exact rfl))
    | (with_unfolding_all exact rfl))
  refine R.loop (σ := Int) (fun low => [("high", .int (2 * low)), ("low", .int low), ("number", .int n)]) (fun _ => η) (fun low => 1 ≤ low ∧ low * low ≤ n) (fun low => (n + 1 - low).toNat) 1 ⟨by decide, by omega⟩ (.cons rfl (.cons rfl (.cons rfl .nil))) (.refl _) fun low ⟨l1, l2⟩ => ?_
  have l3 := Int.le_trans (le_sq l1) l2
  have b_low : bits low ≤ 200 := bits_nn (by omega) l3 b_n
  refine' W.up (b := decide (2 * low * (2 * low) ≤ n)) ?w2 ⟨fun hc => ?k1, fun hc => ?k2⟩
  case w2 => (with_reducible repeat' first
    | exact V.int
    | (refine' V.lo ?a9; (case a9 => with_unfolding_all exact rfl))
    | (refine' V.grain ?g9; (case g9 => with_unfolding_all exact rfl)) | (refine' V.lone ?g9; (case g9 => with_unfolding_all exact rfl))
    | refine' V.bin ?_ ?_ ?_
    | refine' V.una ?_ ?_
    | (refine' V.cmp ?_ ?_ ?_ ?d9; (case d9 => with_unfolding_all exact rfl))
    | (refine' W.cmp ?_ ?_ ?_ ?d9; (case d9 => with_unfolding_all exact rfl))
    | refine' V.iti ?_ ?_ ?_
    | (refine' V.abs (g_abs _) ?g9 ?_ ?n9; (case g9 => with_unfolding_all exact rfl); (case n9 => with_unfolding_all exact rfl))
    | refine' V.itc ?_ ?_ ?_
    | exact V.boolc | exact V.nonec | refine' V.bone ?_ | (refine' V.band ?_ (fun _ => ?_)) | (refine' V.bor ?_ (fun _ => ?_)) | (refine' V.not ?_)
    | (refine' W.not ?_) | exact W.and0 | exact W.or0 | (refine' W.and ?_ (fun _ => ?_)) | (refine' W.or ?_ (fun _ => ?_))
    | (refine' W.of ?_ ?d9; (case d9 => with_unfolding_all exact rfl))
    | exact Vs.nil | (refine' Vs.cons ?_ ?n9 ?_; (case n9 => with_unfolding_all exact rfl))
    | exact Bin.add | exact Bin.sub | (refine' Bin.mul (mulB ?m9 ?n9 ?o9); (case m9 => (with_reducible repeat' first | exact b_n | exact b_low | refine' PyProof.Rows.bits_mul ?_ ?_ | refine' PyProof.Rows.bits_add ?_ ?_ | refine' PyProof.Rows.bits_sub ?_ ?_ | refine' PyProof.Rows.bits_neg ?_ | refine' PyProof.Rows.bits_ite ?_ ?_ | refine' bits_rnd ?_ | refine' PyProof.Rows.bits_fdiv ?_ | refine' PyProof.Rows.bits_fmod ?_ ?_ | exact Nat.le_refl _)); (case n9 => (with_reducible repeat' first | exact b_n | exact b_low | refine' PyProof.Rows.bits_mul ?_ ?_ | refine' PyProof.Rows.bits_add ?_ ?_ | refine' PyProof.Rows.bits_sub ?_ ?_ | refine' PyProof.Rows.bits_neg ?_ | refine' PyProof.Rows.bits_ite ?_ ?_ | refine' bits_rnd ?_ | refine' PyProof.Rows.bits_fdiv ?_ | refine' PyProof.Rows.bits_fmod ?_ ?_ | exact Nat.le_refl _)); (case o9 => with_unfolding_all exact rfl)) | (refine' Bin.mod ?m9; (case m9 => first | decide | exact h0 | omega)) | (refine' Bin.fdiv ?m9 (noPyB ?n9 ?o9); (case m9 => first | decide | omega); (case n9 => (with_reducible repeat' first | exact b_n | exact b_low | refine' PyProof.Rows.bits_mul ?_ ?_ | refine' PyProof.Rows.bits_add ?_ ?_ | refine' PyProof.Rows.bits_sub ?_ ?_ | refine' PyProof.Rows.bits_neg ?_ | refine' PyProof.Rows.bits_ite ?_ ?_ | refine' bits_rnd ?_ | refine' PyProof.Rows.bits_fdiv ?_ | refine' PyProof.Rows.bits_fmod ?_ ?_ | exact Nat.le_refl _)); (case o9 => with_unfolding_all exact rfl)) | exact Una.neg
    | exact Cmp.lt | exact Cmp.le | exact Cmp.gt | exact Cmp.ge | exact Cmp.eq | exact Cmp.ne | exact Cmp.eqB
    | exact ItemOf.lst hm | (with_unfolding_all exact ItemOf.lst (.head _)) | (with_unfolding_all exact ItemOf.lst (.tail _ (.head _))) | exact ItemOf.tup hm | (with_unfolding_all exact ItemOf.tup (.head _))
    | exact Nat.le_trans (Nat.le_of_ble_eq_true rfl) hC | ((show _ ≠ _); first | exact h0 | decide | omega)
        | (refine' Nat.le_trans ?m9 (Nat.le_of_ble_eq_true ?o9); (case m9 => (with_reducible repeat' first | exact b_n | exact b_low | refine' PyProof.Rows.bits_mul ?_ ?_ | refine' PyProof.Rows.bits_add ?_ ?_ | refine' PyProof.Rows.bits_sub ?_ ?_ | refine' PyProof.Rows.bits_neg ?_ | refine' PyProof.Rows.bits_ite ?_ ?_ | refine' bits_rnd ?_ | refine' PyProof.Rows.bits_fdiv ?_ | refine' PyProof.Rows.bits_fmod ?_ ?_ | exact Nat.le_refl _)); (case o9 => with_unfolding_all exact rfl))
    | (with_unfolding_all exact rfl))
  case k1 =>
    have l4 := of_decide_eq_true hc
    have l5 := Int.le_trans (le_sq (show 1 ≤ 2 * low by omega)) l4
    refine' R.tupS ["low", "high"] (E.tup (Vs.up (ps := [.int (2 * low), .int (2 * low * 2)]) ?vs2 ⟨Nat.le_of_ble_eq_true rfl, fun l => ⟨_, _, rfl, .head _, rfl, _, _, .cons (Sto.loc rfl) (.cons (Sto.loc rfl) .nil), R.drop (R.nx ⟨2 * low, .cons ?e (.cons rfl (.cons rfl .nil)), .refl _, ⟨by omega, l4⟩, by omega⟩)⟩⟩)) rfl rfl
    case vs2 => (with_reducible repeat' first
    | exact V.int
    | (refine' V.lo ?a9; (case a9 => with_unfolding_all exact rfl))
    | (refine' V.grain ?g9; (case g9 => with_unfolding_all exact rfl)) | (refine' V.lone ?g9; (case g9 => with_unfolding_all exact rfl))
    | refine' V.bin ?_ ?_ ?_
    | refine' V.una ?_ ?_
    | (refine' V.cmp ?_ ?_ ?_ ?d9; (case d9 => with_unfolding_all exact rfl))
    | (refine' W.cmp ?_ ?_ ?_ ?d9; (case d9 => with_unfolding_all exact rfl))
    | refine' V.iti ?_ ?_ ?_
    | (refine' V.abs (g_abs _) ?g9 ?_ ?n9; (case g9 => with_unfolding_all exact rfl); (case n9 => with_unfolding_all exact rfl))
    | refine' V.itc ?_ ?_ ?_
    | exact V.boolc | exact V.nonec | refine' V.bone ?_ | (refine' V.band ?_ (fun _ => ?_)) | (refine' V.bor ?_ (fun _ => ?_)) | (refine' V.not ?_)
    | (refine' W.not ?_) | exact W.and0 | exact W.or0 | (refine' W.and ?_ (fun _ => ?_)) | (refine' W.or ?_ (fun _ => ?_))
    | (refine' W.of ?_ ?d9; (case d9 => with_unfolding_all exact rfl))
    | exact Vs.nil | (refine' Vs.cons ?_ ?n9 ?_; (case n9 => with_unfolding_all exact rfl))
    | exact Bin.add | exact Bin.sub | (refine' Bin.mul (mulB ?m9 ?n9 ?o9); (case m9 => (with_reducible repeat' first | exact b_n | exact b_low | refine' PyProof.Rows.bits_mul ?_ ?_ | refine' PyProof.Rows.bits_add ?_ ?_ | refine' PyProof.Rows.bits_sub ?_ ?_ | refine' PyProof.Rows.bits_neg ?_ | refine' PyProof.Rows.bits_ite ?_ ?_ | refine' bits_rnd ?_ | refine' PyProof.Rows.bits_fdiv ?_ | refine' PyProof.Rows.bits_fmod ?_ ?_ | exact Nat.le_refl _)); (case n9 => (with_reducible repeat' first | exact b_n | exact b_low | refine' PyProof.Rows.bits_mul ?_ ?_ | refine' PyProof.Rows.bits_add ?_ ?_ | refine' PyProof.Rows.bits_sub ?_ ?_ | refine' PyProof.Rows.bits_neg ?_ | refine' PyProof.Rows.bits_ite ?_ ?_ | refine' bits_rnd ?_ | refine' PyProof.Rows.bits_fdiv ?_ | refine' PyProof.Rows.bits_fmod ?_ ?_ | exact Nat.le_refl _)); (case o9 => with_unfolding_all exact rfl)) | (refine' Bin.mod ?m9; (case m9 => first | decide | exact h0 | omega)) | (refine' Bin.fdiv ?m9 (noPyB ?n9 ?o9); (case m9 => first | decide | omega); (case n9 => (with_reducible repeat' first | exact b_n | exact b_low | refine' PyProof.Rows.bits_mul ?_ ?_ | refine' PyProof.Rows.bits_add ?_ ?_ | refine' PyProof.Rows.bits_sub ?_ ?_ | refine' PyProof.Rows.bits_neg ?_ | refine' PyProof.Rows.bits_ite ?_ ?_ | refine' bits_rnd ?_ | refine' PyProof.Rows.bits_fdiv ?_ | refine' PyProof.Rows.bits_fmod ?_ ?_ | exact Nat.le_refl _)); (case o9 => with_unfolding_all exact rfl)) | exact Una.neg
    | exact Cmp.lt | exact Cmp.le | exact Cmp.gt | exact Cmp.ge | exact Cmp.eq | exact Cmp.ne | exact Cmp.eqB
    | exact ItemOf.lst hm | (with_unfolding_all exact ItemOf.lst (.head _)) | (with_unfolding_all exact ItemOf.lst (.tail _ (.head _))) | exact ItemOf.tup hm | (with_unfolding_all exact ItemOf.tup (.head _))
    | exact Nat.le_trans (Nat.le_of_ble_eq_true rfl) hC | ((show _ ≠ _); first | exact h0 | decide | omega)
        | (refine' Nat.le_trans ?m9 (Nat.le_of_ble_eq_true ?o9); (case m9 => (with_reducible repeat' first | exact b_n | exact b_low | refine' PyProof.Rows.bits_mul ?_ ?_ | refine' PyProof.Rows.bits_add ?_ ?_ | refine' PyProof.Rows.bits_sub ?_ ?_ | refine' PyProof.Rows.bits_neg ?_ | refine' PyProof.Rows.bits_ite ?_ ?_ | refine' bits_rnd ?_ | refine' PyProof.Rows.bits_fdiv ?_ | refine' PyProof.Rows.bits_fmod ?_ ?_ | exact Nat.le_refl _)); (case o9 => with_unfolding_all exact rfl))
    | (with_unfolding_all exact rfl))
    case e => rw [Int.mul_comm 2 (2 * low)]; rfl
  have l4 : n < 2 * low * (2 * low) := by have := of_decide_eq_false hc; omega
  refine R.loop (σ := Int × Int) (fun c => [("high", .int c.2), ("low", .int c.1), ("number", .int n)]) (fun _ => η) (fun c => 1 ≤ c.1 ∧ c.1 < c.2 ∧ c.2 ≤ 2 * n ∧ c.1 * c.1 ≤ n ∧ n < c.2 * c.2) (fun c => (c.2 - c.1).toNat) (low, 2 * low) ⟨l1, by show low < 2 * low; omega, by show 2 * low ≤ _; omega, l2, l4⟩ (.cons rfl (.cons rfl (.cons rfl .nil))) (.refl _) fun ⟨lo, hi⟩ ⟨i1, i2, i3, i4, i5⟩ => ?_
  have b_lo : bits lo ≤ 200 := bits_nn (by omega) (Int.le_trans (le_sq i1) i4) b_n
  have b_hi : bits hi ≤ 202 := bits_nn (y := 2 * n) (by omega) i3 (Nat.le_trans (PyProof.Rows.bits_mul (Nat.le_refl _) b_n) (by decide))
  refine' W.up (b := decide (lo + 1 < hi)) ?w4 ⟨fun hc => ?k4, fun hc => ?k5⟩
  case w4 => (with_reducible repeat' first
    | exact V.int
    | (refine' V.lo ?a9; (case a9 => with_unfolding_all exact rfl))
    | (refine' V.grain ?g9; (case g9 => with_unfolding_all exact rfl)) | (refine' V.lone ?g9; (case g9 => with_unfolding_all exact rfl))
    | refine' V.bin ?_ ?_ ?_
    | refine' V.una ?_ ?_
    | (refine' V.cmp ?_ ?_ ?_ ?d9; (case d9 => with_unfolding_all exact rfl))
    | (refine' W.cmp ?_ ?_ ?_ ?d9; (case d9 => with_unfolding_all exact rfl))
    | refine' V.iti ?_ ?_ ?_
    | (refine' V.abs (g_abs _) ?g9 ?_ ?n9; (case g9 => with_unfolding_all exact rfl); (case n9 => with_unfolding_all exact rfl))
    | refine' V.itc ?_ ?_ ?_
    | exact V.boolc | exact V.nonec | refine' V.bone ?_ | (refine' V.band ?_ (fun _ => ?_)) | (refine' V.bor ?_ (fun _ => ?_)) | (refine' V.not ?_)
    | (refine' W.not ?_) | exact W.and0 | exact W.or0 | (refine' W.and ?_ (fun _ => ?_)) | (refine' W.or ?_ (fun _ => ?_))
    | (refine' W.of ?_ ?d9; (case d9 => with_unfolding_all exact rfl))
    | exact Vs.nil | (refine' Vs.cons ?_ ?n9 ?_; (case n9 => with_unfolding_all exact rfl))
    | exact Bin.add | exact Bin.sub | (refine' Bin.mul (mulB ?m9 ?n9 ?o9); (case m9 => (with_reducible repeat' first | exact b_n | exact b_low | exact b_lo | exact b_hi | refine' PyProof.Rows.bits_mul ?_ ?_ | refine' PyProof.Rows.bits_add ?_ ?_ | refine' PyProof.Rows.bits_sub ?_ ?_ | refine' PyProof.Rows.bits_neg ?_ | refine' PyProof.Rows.bits_ite ?_ ?_ | refine' bits_rnd ?_ | refine' PyProof.Rows.bits_fdiv ?_ | refine' PyProof.Rows.bits_fmod ?_ ?_ | exact Nat.le_refl _)); (case n9 => (with_reducible repeat' first | exact b_n | exact b_low | exact b_lo | exact b_hi | refine' PyProof.Rows.bits_mul ?_ ?_ | refine' PyProof.Rows.bits_add ?_ ?_ | refine' PyProof.Rows.bits_sub ?_ ?_ | refine' PyProof.Rows.bits_neg ?_ | refine' PyProof.Rows.bits_ite ?_ ?_ | refine' bits_rnd ?_ | refine' PyProof.Rows.bits_fdiv ?_ | refine' PyProof.Rows.bits_fmod ?_ ?_ | exact Nat.le_refl _)); (case o9 => with_unfolding_all exact rfl)) | (refine' Bin.mod ?m9; (case m9 => first | decide | exact h0 | omega)) | (refine' Bin.fdiv ?m9 (noPyB ?n9 ?o9); (case m9 => first | decide | omega); (case n9 => (with_reducible repeat' first | exact b_n | exact b_low | exact b_lo | exact b_hi | refine' PyProof.Rows.bits_mul ?_ ?_ | refine' PyProof.Rows.bits_add ?_ ?_ | refine' PyProof.Rows.bits_sub ?_ ?_ | refine' PyProof.Rows.bits_neg ?_ | refine' PyProof.Rows.bits_ite ?_ ?_ | refine' bits_rnd ?_ | refine' PyProof.Rows.bits_fdiv ?_ | refine' PyProof.Rows.bits_fmod ?_ ?_ | exact Nat.le_refl _)); (case o9 => with_unfolding_all exact rfl)) | exact Una.neg
    | exact Cmp.lt | exact Cmp.le | exact Cmp.gt | exact Cmp.ge | exact Cmp.eq | exact Cmp.ne | exact Cmp.eqB
    | exact ItemOf.lst hm | (with_unfolding_all exact ItemOf.lst (.head _)) | (with_unfolding_all exact ItemOf.lst (.tail _ (.head _))) | exact ItemOf.tup hm | (with_unfolding_all exact ItemOf.tup (.head _))
    | exact Nat.le_trans (Nat.le_of_ble_eq_true rfl) hC | ((show _ ≠ _); first | exact h0 | decide | omega)
        | (refine' Nat.le_trans ?m9 (Nat.le_of_ble_eq_true ?o9); (case m9 => (with_reducible repeat' first | exact b_n | exact b_low | exact b_lo | exact b_hi | refine' PyProof.Rows.bits_mul ?_ ?_ | refine' PyProof.Rows.bits_add ?_ ?_ | refine' PyProof.Rows.bits_sub ?_ ?_ | refine' PyProof.Rows.bits_neg ?_ | refine' PyProof.Rows.bits_ite ?_ ?_ | refine' bits_rnd ?_ | refine' PyProof.Rows.bits_fdiv ?_ | refine' PyProof.Rows.bits_fmod ?_ ?_ | exact Nat.le_refl _)); (case o9 => with_unfolding_all exact rfl))
    | (with_unfolding_all exact rfl))
  case k4 =>
    have m := mid_lt (of_decide_eq_true hc)
    refine' R.as1 ?v9 ?k9 ?s9 ?_
    case v9 => (with_reducible repeat' first
    | exact V.int
    | (refine' V.lo ?a9; (case a9 => with_unfolding_all exact rfl))
    | (refine' V.grain ?g9; (case g9 => with_unfolding_all exact rfl)) | (refine' V.lone ?g9; (case g9 => with_unfolding_all exact rfl))
    | refine' V.bin ?_ ?_ ?_
    | refine' V.una ?_ ?_
    | (refine' V.cmp ?_ ?_ ?_ ?d9; (case d9 => with_unfolding_all exact rfl))
    | (refine' W.cmp ?_ ?_ ?_ ?d9; (case d9 => with_unfolding_all exact rfl))
    | refine' V.iti ?_ ?_ ?_
    | (refine' V.abs (g_abs _) ?g9 ?_ ?n9; (case g9 => with_unfolding_all exact rfl); (case n9 => with_unfolding_all exact rfl))
    | refine' V.itc ?_ ?_ ?_
    | exact V.boolc | exact V.nonec | refine' V.bone ?_ | (refine' V.band ?_ (fun _ => ?_)) | (refine' V.bor ?_ (fun _ => ?_)) | (refine' V.not ?_)
    | (refine' W.not ?_) | exact W.and0 | exact W.or0 | (refine' W.and ?_ (fun _ => ?_)) | (refine' W.or ?_ (fun _ => ?_))
    | (refine' W.of ?_ ?d9; (case d9 => with_unfolding_all exact rfl))
    | exact Vs.nil | (refine' Vs.cons ?_ ?n9 ?_; (case n9 => with_unfolding_all exact rfl))
    | exact Bin.add | exact Bin.sub | (refine' Bin.mul (mulB ?m9 ?n9 ?o9); (case m9 => (with_reducible repeat' first | exact b_n | exact b_low | exact b_lo | exact b_hi | refine' PyProof.Rows.bits_mul ?_ ?_ | refine' PyProof.Rows.bits_add ?_ ?_ | refine' PyProof.Rows.bits_sub ?_ ?_ | refine' PyProof.Rows.bits_neg ?_ | refine' PyProof.Rows.bits_ite ?_ ?_ | refine' bits_rnd ?_ | refine' PyProof.Rows.bits_fdiv ?_ | refine' PyProof.Rows.bits_fmod ?_ ?_ | exact Nat.le_refl _)); (case n9 => (with_reducible repeat' first | exact b_n | exact b_low | exact b_lo | exact b_hi | refine' PyProof.Rows.bits_mul ?_ ?_ | refine' PyProof.Rows.bits_add ?_ ?_ | refine' PyProof.Rows.bits_sub ?_ ?_ | refine' PyProof.Rows.bits_neg ?_ | refine' PyProof.Rows.bits_ite ?_ ?_ | refine' bits_rnd ?_ | refine' PyProof.Rows.bits_fdiv ?_ | refine' PyProof.Rows.bits_fmod ?_ ?_ | exact Nat.le_refl _)); (case o9 => with_unfolding_all exact rfl)) | (refine' Bin.mod ?m9; (case m9 => first | decide | exact h0 | omega)) | (refine' Bin.fdiv ?m9 (noPyB ?n9 ?o9); (case m9 => first | decide | omega); (case n9 => (with_reducible repeat' first | exact b_n | exact b_low | exact b_lo | exact b_hi | refine' PyProof.Rows.bits_mul ?_ ?_ | refine' PyProof.Rows.bits_add ?_ ?_ | refine' PyProof.Rows.bits_sub ?_ ?_ | refine' PyProof.Rows.bits_neg ?_ | refine' PyProof.Rows.bits_ite ?_ ?_ | refine' bits_rnd ?_ | refine' PyProof.Rows.bits_fdiv ?_ | refine' PyProof.Rows.bits_fmod ?_ ?_ | exact Nat.le_refl _)); (case o9 => with_unfolding_all exact rfl)) | exact Una.neg
    | exact Cmp.lt | exact Cmp.le | exact Cmp.gt | exact Cmp.ge | exact Cmp.eq | exact Cmp.ne | exact Cmp.eqB
    | exact ItemOf.lst hm | (with_unfolding_all exact ItemOf.lst (.head _)) | (with_unfolding_all exact ItemOf.lst (.tail _ (.head _))) | exact ItemOf.tup hm | (with_unfolding_all exact ItemOf.tup (.head _))
    | exact Nat.le_trans (Nat.le_of_ble_eq_true rfl) hC | ((show _ ≠ _); first | exact h0 | decide | omega)
        | (refine' Nat.le_trans ?m9 (Nat.le_of_ble_eq_true ?o9); (case m9 => (with_reducible repeat' first | exact b_n | exact b_low | exact b_lo | exact b_hi | refine' PyProof.Rows.bits_mul ?_ ?_ | refine' PyProof.Rows.bits_add ?_ ?_ | refine' PyProof.Rows.bits_sub ?_ ?_ | refine' PyProof.Rows.bits_neg ?_ | refine' PyProof.Rows.bits_ite ?_ ?_ | refine' bits_rnd ?_ | refine' PyProof.Rows.bits_fdiv ?_ | refine' PyProof.Rows.bits_fmod ?_ ?_ | exact Nat.le_refl _)); (case o9 => with_unfolding_all exact rfl))
    | (with_unfolding_all exact rfl))
    case k9 => with_unfolding_all exact rfl
    case s9 => with_unfolding_all exact rfl
    generalize hmid : (lo + hi).fdiv 2 = mid at *
    have b_mid : bits mid ≤ 202 := bits_nn (by omega) (by omega) b_hi
    refine' R.if1 (b := decide (mid * mid ≤ n)) ?w5 (fun hd => ?q1) (fun hd => ?q2)
    case w5 => (with_reducible repeat' first
    | exact V.int
    | (refine' V.lo ?a9; (case a9 => with_unfolding_all exact rfl))
    | (refine' V.grain ?g9; (case g9 => with_unfolding_all exact rfl)) | (refine' V.lone ?g9; (case g9 => with_unfolding_all exact rfl))
    | refine' V.bin ?_ ?_ ?_
    | refine' V.una ?_ ?_
    | (refine' V.cmp ?_ ?_ ?_ ?d9; (case d9 => with_unfolding_all exact rfl))
    | (refine' W.cmp ?_ ?_ ?_ ?d9; (case d9 => with_unfolding_all exact rfl))
    | refine' V.iti ?_ ?_ ?_
    | (refine' V.abs (g_abs _) ?g9 ?_ ?n9; (case g9 => with_unfolding_all exact rfl); (case n9 => with_unfolding_all exact rfl))
    | refine' V.itc ?_ ?_ ?_
    | exact V.boolc | exact V.nonec | refine' V.bone ?_ | (refine' V.band ?_ (fun _ => ?_)) | (refine' V.bor ?_ (fun _ => ?_)) | (refine' V.not ?_)
    | (refine' W.not ?_) | exact W.and0 | exact W.or0 | (refine' W.and ?_ (fun _ => ?_)) | (refine' W.or ?_ (fun _ => ?_))
    | (refine' W.of ?_ ?d9; (case d9 => with_unfolding_all exact rfl))
    | exact Vs.nil | (refine' Vs.cons ?_ ?n9 ?_; (case n9 => with_unfolding_all exact rfl))
    | exact Bin.add | exact Bin.sub | (refine' Bin.mul (mulB ?m9 ?n9 ?o9); (case m9 => (with_reducible repeat' first | exact b_n | exact b_low | exact b_lo | exact b_hi | exact b_mid | refine' PyProof.Rows.bits_mul ?_ ?_ | refine' PyProof.Rows.bits_add ?_ ?_ | refine' PyProof.Rows.bits_sub ?_ ?_ | refine' PyProof.Rows.bits_neg ?_ | refine' PyProof.Rows.bits_ite ?_ ?_ | refine' bits_rnd ?_ | refine' PyProof.Rows.bits_fdiv ?_ | refine' PyProof.Rows.bits_fmod ?_ ?_ | exact Nat.le_refl _)); (case n9 => (with_reducible repeat' first | exact b_n | exact b_low | exact b_lo | exact b_hi | exact b_mid | refine' PyProof.Rows.bits_mul ?_ ?_ | refine' PyProof.Rows.bits_add ?_ ?_ | refine' PyProof.Rows.bits_sub ?_ ?_ | refine' PyProof.Rows.bits_neg ?_ | refine' PyProof.Rows.bits_ite ?_ ?_ | refine' bits_rnd ?_ | refine' PyProof.Rows.bits_fdiv ?_ | refine' PyProof.Rows.bits_fmod ?_ ?_ | exact Nat.le_refl _)); (case o9 => with_unfolding_all exact rfl)) | (refine' Bin.mod ?m9; (case m9 => first | decide | exact h0 | omega)) | (refine' Bin.fdiv ?m9 (noPyB ?n9 ?o9); (case m9 => first | decide | omega); (case n9 => (with_reducible repeat' first | exact b_n | exact b_low | exact b_lo | exact b_hi | exact b_mid | refine' PyProof.Rows.bits_mul ?_ ?_ | refine' PyProof.Rows.bits_add ?_ ?_ | refine' PyProof.Rows.bits_sub ?_ ?_ | refine' PyProof.Rows.bits_neg ?_ | refine' PyProof.Rows.bits_ite ?_ ?_ | refine' bits_rnd ?_ | refine' PyProof.Rows.bits_fdiv ?_ | refine' PyProof.Rows.bits_fmod ?_ ?_ | exact Nat.le_refl _)); (case o9 => with_unfolding_all exact rfl)) | exact Una.neg
    | exact Cmp.lt | exact Cmp.le | exact Cmp.gt | exact Cmp.ge | exact Cmp.eq | exact Cmp.ne | exact Cmp.eqB
    | exact ItemOf.lst hm | (with_unfolding_all exact ItemOf.lst (.head _)) | (with_unfolding_all exact ItemOf.lst (.tail _ (.head _))) | exact ItemOf.tup hm | (with_unfolding_all exact ItemOf.tup (.head _))
    | exact Nat.le_trans (Nat.le_of_ble_eq_true rfl) hC | ((show _ ≠ _); first | exact h0 | decide | omega)
        | (refine' Nat.le_trans ?m9 (Nat.le_of_ble_eq_true ?o9); (case m9 => (with_reducible repeat' first | exact b_n | exact b_low | exact b_lo | exact b_hi | exact b_mid | refine' PyProof.Rows.bits_mul ?_ ?_ | refine' PyProof.Rows.bits_add ?_ ?_ | refine' PyProof.Rows.bits_sub ?_ ?_ | refine' PyProof.Rows.bits_neg ?_ | refine' PyProof.Rows.bits_ite ?_ ?_ | refine' bits_rnd ?_ | refine' PyProof.Rows.bits_fdiv ?_ | refine' PyProof.Rows.bits_fmod ?_ ?_ | exact Nat.le_refl _)); (case o9 => with_unfolding_all exact rfl))
    | (with_unfolding_all exact rfl))
    case q1 =>
      refine' R.as1 ?v9 ?k9 ?s9 ?_
      case v9 => (with_reducible repeat' first
    | exact V.int
    | (refine' V.lo ?a9; (case a9 => with_unfolding_all exact rfl))
    | (refine' V.grain ?g9; (case g9 => with_unfolding_all exact rfl)) | (refine' V.lone ?g9; (case g9 => with_unfolding_all exact rfl))
    | refine' V.bin ?_ ?_ ?_
    | refine' V.una ?_ ?_
    | (refine' V.cmp ?_ ?_ ?_ ?d9; (case d9 => with_unfolding_all exact rfl))
    | (refine' W.cmp ?_ ?_ ?_ ?d9; (case d9 => with_unfolding_all exact rfl))
    | refine' V.iti ?_ ?_ ?_
    | (refine' V.abs (g_abs _) ?g9 ?_ ?n9; (case g9 => with_unfolding_all exact rfl); (case n9 => with_unfolding_all exact rfl))
    | refine' V.itc ?_ ?_ ?_
    | exact V.boolc | exact V.nonec | refine' V.bone ?_ | (refine' V.band ?_ (fun _ => ?_)) | (refine' V.bor ?_ (fun _ => ?_)) | (refine' V.not ?_)
    | (refine' W.not ?_) | exact W.and0 | exact W.or0 | (refine' W.and ?_ (fun _ => ?_)) | (refine' W.or ?_ (fun _ => ?_))
    | (refine' W.of ?_ ?d9; (case d9 => with_unfolding_all exact rfl))
    | exact Vs.nil | (refine' Vs.cons ?_ ?n9 ?_; (case n9 => with_unfolding_all exact rfl))
    | exact Bin.add | exact Bin.sub | (refine' Bin.mul (mulB ?m9 ?n9 ?o9); (case m9 => (with_reducible repeat' first | exact b_n | exact b_low | exact b_lo | exact b_hi | exact b_mid | refine' PyProof.Rows.bits_mul ?_ ?_ | refine' PyProof.Rows.bits_add ?_ ?_ | refine' PyProof.Rows.bits_sub ?_ ?_ | refine' PyProof.Rows.bits_neg ?_ | refine' PyProof.Rows.bits_ite ?_ ?_ | refine' bits_rnd ?_ | refine' PyProof.Rows.bits_fdiv ?_ | refine' PyProof.Rows.bits_fmod ?_ ?_ | exact Nat.le_refl _)); (case n9 => (with_reducible repeat' first | exact b_n | exact b_low | exact b_lo | exact b_hi | exact b_mid | refine' PyProof.Rows.bits_mul ?_ ?_ | refine' PyProof.Rows.bits_add ?_ ?_ | refine' PyProof.Rows.bits_sub ?_ ?_ | refine' PyProof.Rows.bits_neg ?_ | refine' PyProof.Rows.bits_ite ?_ ?_ | refine' bits_rnd ?_ | refine' PyProof.Rows.bits_fdiv ?_ | refine' PyProof.Rows.bits_fmod ?_ ?_ | exact Nat.le_refl _)); (case o9 => with_unfolding_all exact rfl)) | (refine' Bin.mod ?m9; (case m9 => first | decide | exact h0 | omega)) | (refine' Bin.fdiv ?m9 (noPyB ?n9 ?o9); (case m9 => first | decide | omega); (case n9 => (with_reducible repeat' first | exact b_n | exact b_low | exact b_lo | exact b_hi | exact b_mid | refine' PyProof.Rows.bits_mul ?_ ?_ | refine' PyProof.Rows.bits_add ?_ ?_ | refine' PyProof.Rows.bits_sub ?_ ?_ | refine' PyProof.Rows.bits_neg ?_ | refine' PyProof.Rows.bits_ite ?_ ?_ | refine' bits_rnd ?_ | refine' PyProof.Rows.bits_fdiv ?_ | refine' PyProof.Rows.bits_fmod ?_ ?_ | exact Nat.le_refl _)); (case o9 => with_unfolding_all exact rfl)) | exact Una.neg
    | exact Cmp.lt | exact Cmp.le | exact Cmp.gt | exact Cmp.ge | exact Cmp.eq | exact Cmp.ne | exact Cmp.eqB
    | exact ItemOf.lst hm | (with_unfolding_all exact ItemOf.lst (.head _)) | (with_unfolding_all exact ItemOf.lst (.tail _ (.head _))) | exact ItemOf.tup hm | (with_unfolding_all exact ItemOf.tup (.head _))
    | exact Nat.le_trans (Nat.le_of_ble_eq_true rfl) hC | ((show _ ≠ _); first | exact h0 | decide | omega)
        | (refine' Nat.le_trans ?m9 (Nat.le_of_ble_eq_true ?o9); (case m9 => (with_reducible repeat' first | exact b_n | exact b_low | exact b_lo | exact b_hi | exact b_mid | refine' PyProof.Rows.bits_mul ?_ ?_ | refine' PyProof.Rows.bits_add ?_ ?_ | refine' PyProof.Rows.bits_sub ?_ ?_ | refine' PyProof.Rows.bits_neg ?_ | refine' PyProof.Rows.bits_ite ?_ ?_ | refine' bits_rnd ?_ | refine' PyProof.Rows.bits_fdiv ?_ | refine' PyProof.Rows.bits_fmod ?_ ?_ | exact Nat.le_refl _)); (case o9 => with_unfolding_all exact rfl))
    | (with_unfolding_all exact rfl))
      case k9 => with_unfolding_all exact rfl
      case s9 => with_unfolding_all exact rfl
      refine R.nil (R.nx ⟨(mid, hi), .cons rfl (.cons rfl (.cons rfl .nil)), .refl _, ⟨by show 1 ≤ mid; omega, m.2, i3, of_decide_eq_true hd, i5⟩, by show (hi - mid).toNat < (hi - lo).toNat; omega⟩)
    case q2 =>
      refine' R.as1 ?v9 ?k9 ?s9 ?_
      case v9 => (with_reducible repeat' first
    | exact V.int
    | (refine' V.lo ?a9; (case a9 => with_unfolding_all exact rfl))
    | (refine' V.grain ?g9; (case g9 => with_unfolding_all exact rfl)) | (refine' V.lone ?g9; (case g9 => with_unfolding_all exact rfl))
    | refine' V.bin ?_ ?_ ?_
    | refine' V.una ?_ ?_
    | (refine' V.cmp ?_ ?_ ?_ ?d9; (case d9 => with_unfolding_all exact rfl))
    | (refine' W.cmp ?_ ?_ ?_ ?d9; (case d9 => with_unfolding_all exact rfl))
    | refine' V.iti ?_ ?_ ?_
    | (refine' V.abs (g_abs _) ?g9 ?_ ?n9; (case g9 => with_unfolding_all exact rfl); (case n9 => with_unfolding_all exact rfl))
    | refine' V.itc ?_ ?_ ?_
    | exact V.boolc | exact V.nonec | refine' V.bone ?_ | (refine' V.band ?_ (fun _ => ?_)) | (refine' V.bor ?_ (fun _ => ?_)) | (refine' V.not ?_)
    | (refine' W.not ?_) | exact W.and0 | exact W.or0 | (refine' W.and ?_ (fun _ => ?_)) | (refine' W.or ?_ (fun _ => ?_))
    | (refine' W.of ?_ ?d9; (case d9 => with_unfolding_all exact rfl))
    | exact Vs.nil | (refine' Vs.cons ?_ ?n9 ?_; (case n9 => with_unfolding_all exact rfl))
    | exact Bin.add | exact Bin.sub | (refine' Bin.mul (mulB ?m9 ?n9 ?o9); (case m9 => (with_reducible repeat' first | exact b_n | exact b_low | exact b_lo | exact b_hi | exact b_mid | refine' PyProof.Rows.bits_mul ?_ ?_ | refine' PyProof.Rows.bits_add ?_ ?_ | refine' PyProof.Rows.bits_sub ?_ ?_ | refine' PyProof.Rows.bits_neg ?_ | refine' PyProof.Rows.bits_ite ?_ ?_ | refine' bits_rnd ?_ | refine' PyProof.Rows.bits_fdiv ?_ | refine' PyProof.Rows.bits_fmod ?_ ?_ | exact Nat.le_refl _)); (case n9 => (with_reducible repeat' first | exact b_n | exact b_low | exact b_lo | exact b_hi | exact b_mid | refine' PyProof.Rows.bits_mul ?_ ?_ | refine' PyProof.Rows.bits_add ?_ ?_ | refine' PyProof.Rows.bits_sub ?_ ?_ | refine' PyProof.Rows.bits_neg ?_ | refine' PyProof.Rows.bits_ite ?_ ?_ | refine' bits_rnd ?_ | refine' PyProof.Rows.bits_fdiv ?_ | refine' PyProof.Rows.bits_fmod ?_ ?_ | exact Nat.le_refl _)); (case o9 => with_unfolding_all exact rfl)) | (refine' Bin.mod ?m9; (case m9 => first | decide | exact h0 | omega)) | (refine' Bin.fdiv ?m9 (noPyB ?n9 ?o9); (case m9 => first | decide | omega); (case n9 => (with_reducible repeat' first | exact b_n | exact b_low | exact b_lo | exact b_hi | exact b_mid | refine' PyProof.Rows.bits_mul ?_ ?_ | refine' PyProof.Rows.bits_add ?_ ?_ | refine' PyProof.Rows.bits_sub ?_ ?_ | refine' PyProof.Rows.bits_neg ?_ | refine' PyProof.Rows.bits_ite ?_ ?_ | refine' bits_rnd ?_ | refine' PyProof.Rows.bits_fdiv ?_ | refine' PyProof.Rows.bits_fmod ?_ ?_ | exact Nat.le_refl _)); (case o9 => with_unfolding_all exact rfl)) | exact Una.neg
    | exact Cmp.lt | exact Cmp.le | exact Cmp.gt | exact Cmp.ge | exact Cmp.eq | exact Cmp.ne | exact Cmp.eqB
    | exact ItemOf.lst hm | (with_unfolding_all exact ItemOf.lst (.head _)) | (with_unfolding_all exact ItemOf.lst (.tail _ (.head _))) | exact ItemOf.tup hm | (with_unfolding_all exact ItemOf.tup (.head _))
    | exact Nat.le_trans (Nat.le_of_ble_eq_true rfl) hC | ((show _ ≠ _); first | exact h0 | decide | omega)
        | (refine' Nat.le_trans ?m9 (Nat.le_of_ble_eq_true ?o9); (case m9 => (with_reducible repeat' first | exact b_n | exact b_low | exact b_lo | exact b_hi | exact b_mid | refine' PyProof.Rows.bits_mul ?_ ?_ | refine' PyProof.Rows.bits_add ?_ ?_ | refine' PyProof.Rows.bits_sub ?_ ?_ | refine' PyProof.Rows.bits_neg ?_ | refine' PyProof.Rows.bits_ite ?_ ?_ | refine' bits_rnd ?_ | refine' PyProof.Rows.bits_fdiv ?_ | refine' PyProof.Rows.bits_fmod ?_ ?_ | exact Nat.le_refl _)); (case o9 => with_unfolding_all exact rfl))
    | (with_unfolding_all exact rfl))
      case k9 => with_unfolding_all exact rfl
      case s9 => with_unfolding_all exact rfl
      refine R.nil (R.nx ⟨(lo, mid), .cons rfl (.cons rfl (.cons rfl .nil)), .refl _, ⟨i1, m.1, by show mid ≤ 2 * n; omega, i4, by have := of_decide_eq_false hd; show n < mid * mid; omega⟩, by show (mid - lo).toNat < (hi - lo).toNat; omega⟩)
  have e : hi = lo + 1 := by have := of_decide_eq_false hc; omega
  refine' R.re1 ?v7 ⟨⟨lo, rfl, by omega, i4, e ▸ i5⟩, rfl⟩
  case v7 => (with_reducible repeat' first
    | exact V.int
    | (refine' V.lo ?a9; (case a9 => with_unfolding_all exact rfl))
    | (refine' V.grain ?g9; (case g9 => with_unfolding_all exact rfl)) | (refine' V.lone ?g9; (case g9 => with_unfolding_all exact rfl))
    | refine' V.bin ?_ ?_ ?_
    | refine' V.una ?_ ?_
    | (refine' V.cmp ?_ ?_ ?_ ?d9; (case d9 => with_unfolding_all exact rfl))
    | (refine' W.cmp ?_ ?_ ?_ ?d9; (case d9 => with_unfolding_all exact rfl))
    | refine' V.iti ?_ ?_ ?_
    | (refine' V.abs (g_abs _) ?g9 ?_ ?n9; (case g9 => with_unfolding_all exact rfl); (case n9 => with_unfolding_all exact rfl))
    | refine' V.itc ?_ ?_ ?_
    | exact V.boolc | exact V.nonec | refine' V.bone ?_ | (refine' V.band ?_ (fun _ => ?_)) | (refine' V.bor ?_ (fun _ => ?_)) | (refine' V.not ?_)
    | (refine' W.not ?_) | exact W.and0 | exact W.or0 | (refine' W.and ?_ (fun _ => ?_)) | (refine' W.or ?_ (fun _ => ?_))
    | (refine' W.of ?_ ?d9; (case d9 => with_unfolding_all exact rfl))
    | exact Vs.nil | (refine' Vs.cons ?_ ?n9 ?_; (case n9 => with_unfolding_all exact rfl))
    | exact Bin.add | exact Bin.sub | (refine' Bin.mul (mulB ?m9 ?n9 ?o9); (case m9 => (with_reducible repeat' first | exact b_n | exact b_low | exact b_lo | exact b_hi | exact b_mid | refine' PyProof.Rows.bits_mul ?_ ?_ | refine' PyProof.Rows.bits_add ?_ ?_ | refine' PyProof.Rows.bits_sub ?_ ?_ | refine' PyProof.Rows.bits_neg ?_ | refine' PyProof.Rows.bits_ite ?_ ?_ | refine' bits_rnd ?_ | refine' PyProof.Rows.bits_fdiv ?_ | refine' PyProof.Rows.bits_fmod ?_ ?_ | exact Nat.le_refl _)); (case n9 => (with_reducible repeat' first | exact b_n | exact b_low | exact b_lo | exact b_hi | exact b_mid | refine' PyProof.Rows.bits_mul ?_ ?_ | refine' PyProof.Rows.bits_add ?_ ?_ | refine' PyProof.Rows.bits_sub ?_ ?_ | refine' PyProof.Rows.bits_neg ?_ | refine' PyProof.Rows.bits_ite ?_ ?_ | refine' bits_rnd ?_ | refine' PyProof.Rows.bits_fdiv ?_ | refine' PyProof.Rows.bits_fmod ?_ ?_ | exact Nat.le_refl _)); (case o9 => with_unfolding_all exact rfl)) | (refine' Bin.mod ?m9; (case m9 => first | decide | exact h0 | omega)) | (refine' Bin.fdiv ?m9 (noPyB ?n9 ?o9); (case m9 => first | decide | omega); (case n9 => (with_reducible repeat' first | exact b_n | exact b_low | exact b_lo | exact b_hi | exact b_mid | refine' PyProof.Rows.bits_mul ?_ ?_ | refine' PyProof.Rows.bits_add ?_ ?_ | refine' PyProof.Rows.bits_sub ?_ ?_ | refine' PyProof.Rows.bits_neg ?_ | refine' PyProof.Rows.bits_ite ?_ ?_ | refine' bits_rnd ?_ | refine' PyProof.Rows.bits_fdiv ?_ | refine' PyProof.Rows.bits_fmod ?_ ?_ | exact Nat.le_refl _)); (case o9 => with_unfolding_all exact rfl)) | exact Una.neg
    | exact Cmp.lt | exact Cmp.le | exact Cmp.gt | exact Cmp.ge | exact Cmp.eq | exact Cmp.ne | exact Cmp.eqB
    | exact ItemOf.lst hm | (with_unfolding_all exact ItemOf.lst (.head _)) | (with_unfolding_all exact ItemOf.lst (.tail _ (.head _))) | exact ItemOf.tup hm | (with_unfolding_all exact ItemOf.tup (.head _))
    | exact Nat.le_trans (Nat.le_of_ble_eq_true rfl) hC | ((show _ ≠ _); first | exact h0 | decide | omega)
        | (refine' Nat.le_trans ?m9 (Nat.le_of_ble_eq_true ?o9); (case m9 => (with_reducible repeat' first | exact b_n | exact b_low | exact b_lo | exact b_hi | exact b_mid | refine' PyProof.Rows.bits_mul ?_ ?_ | refine' PyProof.Rows.bits_add ?_ ?_ | refine' PyProof.Rows.bits_sub ?_ ?_ | refine' PyProof.Rows.bits_neg ?_ | refine' PyProof.Rows.bits_ite ?_ ?_ | refine' bits_rnd ?_ | refine' PyProof.Rows.bits_fdiv ?_ | refine' PyProof.Rows.bits_fmod ?_ ?_ | exact Nat.le_refl _)); (case o9 => with_unfolding_all exact rfl))
    | (with_unfolding_all exact rfl))
end Mine
end
section
open PySem PySem.W PyProof.Rows PySem.Calls
set_option Elab.async false
set_option linter.unusedVariables false
set_option maxRecDepth 100000
set_option maxHeartbeats 4000000
namespace Mine
theorem warm_F5 : PySem.Challenge.rw_pb0513_01.Holds → kK = kK := by
  k_fill
  intro _; rfl
theorem nw1 (x y q n : Int) (hx : 1 ≤ x) (h1 : n < x * (q + 1)) (h2 : x + q - 1 ≤ 2 * y) : n < (y + 1) * (y + 1) := by
  have h3 : 0 ≤ (y + 1 - x) * (y + 1 - x) := by
    rcases Int.le_total 0 (y + 1 - x) with h | h
    · exact Int.mul_nonneg h h
    · exact Int.mul_nonneg_of_nonpos_of_nonpos h h
  have h4 : x * (q + 1) ≤ x * (2 * y - x + 2) := Int.mul_le_mul_of_nonneg_left (by omega) (by omega)
  grind
/-- a turn of Newton's way -/
theorem nw_step {x n : Int} (hx : 1 ≤ x) (hn : 2 ≤ n) (hi : n < (x + 1) * (x + 1)) : 1 ≤ (x + n.fdiv x).fdiv 2 ∧ n < ((x + n.fdiv x).fdiv 2 + 1) * ((x + n.fdiv x).fdiv 2 + 1) ∧ (x ≤ (x + n.fdiv x).fdiv 2 → IsRoot n x) := by
  rw [Int.fdiv_eq_ediv_of_nonneg _ (by decide), Int.fdiv_eq_ediv_of_nonneg _ (show 0 ≤ x by omega)]
  have d1 : x * (n / x) ≤ n := Int.mul_ediv_self_le (by omega)
  have d2 : n < x * (n / x + 1) := by
    have := Int.lt_mul_ediv_self_add (x := n) (k := x) (by omega)
    rw [Int.mul_add, Int.mul_one]; exact this
  have q0 : 0 ≤ n / x := Int.ediv_nonneg (by omega) (by omega)
  have q1 : x = 1 → n / x = n := fun e => by rw [e, Int.ediv_one]
  generalize n / x = q at *
  refine ⟨by omega, nw1 x _ q n hx d2 (by omega), fun h => ⟨by omega, ?_, hi⟩⟩
  have h2 : x ≤ q := by omega
  have := Int.mul_le_mul_of_nonneg_left h2 (show 0 ≤ x by omega)
  omega
theorem nw_start (n : Int) (hn : 2 ≤ n) {e : Int} (he : e = (((Builtin.Int.intBits n : Nat) : Int) + 1).fdiv 2) : 1 ≤ (1 : Int) * 2 ^ e.toNat ∧ n < (1 * 2 ^ e.toNat + 1) * (1 * 2 ^ e.toNat + 1) := by
  have h1 := intBits_le_iff.mp (Nat.le_refl (bits n))
  rw [Int.fdiv_eq_ediv_of_nonneg _ (by decide)] at he
  have h2 : bits n ≤ e.toNat + e.toNat := by show Builtin.Int.intBits n ≤ _; omega
  have h3 := Nat.lt_of_lt_of_le h1 (Nat.pow_le_pow_right (show 0 < 2 by decide) h2)
  rw [Nat.pow_add] at h3
  rw [Int.one_mul]
  have h4 : (2 : Int) ^ e.toNat = ((2 ^ e.toNat : Nat) : Int) := by simp
  rw [h4]
  have h5 : 0 < 2 ^ e.toNat := Nat.two_pow_pos _
  generalize 2 ^ e.toNat = z at *
  refine ⟨by omega, ?_⟩
  have h6 : n < ((z * z : Nat) : Int) := by omega
  have h7 : ((z : Int) + 1) * (z + 1) = z * z + 2 * z + 1 := by grind
  rw [h7]
  have h8 : ((z * z : Nat) : Int) = (z : Int) * z := by simp
  omega
theorem f_whole_root (η : Hp) (n : Int) (hn : 0 ≤ n) (b_n : bits n ≤ 200) : Fn 75 1 [.int n] η fun p η' => (∃ r, p = .int r ∧ IsRoot n r) ∧ η' = η := by
  refine' Fn.enter1 "number" (fun P => ?ho) (fun P => ?hcd) (fun s v1 => ?hb) ?he ?h
  case ho => exact rfl
  case hcd => kernel_rfl
  case hb => exact BindsTo.of_eq rfl
  case he => rfl
  intro C hC
  refine' R.ifr (b := decide (n < 2)) ?w (fun h => V.up ?v ⟨⟨n, rfl, root_small hn (of_decide_eq_true h)⟩, rfl⟩) fun h => ?k
  case w => (with_reducible repeat' first
    | exact V.int
    | (refine' V.lo ?a9; (case a9 => with_unfolding_all exact rfl))
    | (refine' V.grain ?g9; (case g9 => with_unfolding_all exact rfl)) | (refine' V.lone ?g9; (case g9 => with_unfolding_all exact rfl))
    | refine' V.bin ?_ ?_ ?_
    | refine' V.una ?_ ?_
    | (refine' V.cmp ?_ ?_ ?_ ?d9; (case d9 => with_unfolding_all exact rfl))
    | (refine' W.cmp ?_ ?_ ?_ ?d9; (case d9 => with_unfolding_all exact rfl))
    | refine' V.iti ?_ ?_ ?_
    | (refine' V.abs (g_abs _) ?g9 ?_ ?n9; (case g9 => with_unfolding_all exact rfl); (case n9 => with_unfolding_all exact rfl))
    | refine' V.itc ?_ ?_ ?_
    | exact V.boolc | exact V.nonec | refine' V.bone ?_ | (refine' V.band ?_ (fun _ => ?_)) | (refine' V.bor ?_ (fun _ => ?_)) | (refine' V.not ?_)
    | (refine' W.not ?_) | exact W.and0 | exact W.or0 | (refine' W.and ?_ (fun _ => ?_)) | (refine' W.or ?_ (fun _ => ?_))
    | (refine' W.of ?_ ?d9; (case d9 => with_unfolding_all exact rfl))
    | exact Vs.nil | (refine' Vs.cons ?_ ?n9 ?_; (case n9 => with_unfolding_all exact rfl))
    | exact Bin.add | exact Bin.sub | (refine' Bin.mul (mulB ?m9 ?n9 ?o9); (case m9 => (with_reducible repeat' first | exact b_n | refine' PyProof.Rows.bits_mul ?_ ?_ | refine' PyProof.Rows.bits_add ?_ ?_ | refine' PyProof.Rows.bits_sub ?_ ?_ | refine' PyProof.Rows.bits_neg ?_ | refine' PyProof.Rows.bits_ite ?_ ?_ | refine' bits_rnd ?_ | refine' PyProof.Rows.bits_fdiv ?_ | refine' PyProof.Rows.bits_fmod ?_ ?_ | exact Nat.le_refl _)); (case n9 => (with_reducible repeat' first | exact b_n | refine' PyProof.Rows.bits_mul ?_ ?_ | refine' PyProof.Rows.bits_add ?_ ?_ | refine' PyProof.Rows.bits_sub ?_ ?_ | refine' PyProof.Rows.bits_neg ?_ | refine' PyProof.Rows.bits_ite ?_ ?_ | refine' bits_rnd ?_ | refine' PyProof.Rows.bits_fdiv ?_ | refine' PyProof.Rows.bits_fmod ?_ ?_ | exact Nat.le_refl _)); (case o9 => with_unfolding_all exact rfl)) | (refine' Bin.mod ?m9; (case m9 => first | decide | exact h0 | omega)) | (refine' Bin.fdiv ?m9 (noPyB ?n9 ?o9); (case m9 => first | decide | omega); (case n9 => (with_reducible repeat' first | exact b_n | refine' PyProof.Rows.bits_mul ?_ ?_ | refine' PyProof.Rows.bits_add ?_ ?_ | refine' PyProof.Rows.bits_sub ?_ ?_ | refine' PyProof.Rows.bits_neg ?_ | refine' PyProof.Rows.bits_ite ?_ ?_ | refine' bits_rnd ?_ | refine' PyProof.Rows.bits_fdiv ?_ | refine' PyProof.Rows.bits_fmod ?_ ?_ | exact Nat.le_refl _)); (case o9 => with_unfolding_all exact rfl)) | exact Una.neg
    | exact Cmp.lt | exact Cmp.le | exact Cmp.gt | exact Cmp.ge | exact Cmp.eq | exact Cmp.ne | exact Cmp.eqB
    | exact ItemOf.lst hm | (with_unfolding_all exact ItemOf.lst (.head _)) | (with_unfolding_all exact ItemOf.lst (.tail _ (.head _))) | exact ItemOf.tup hm | (with_unfolding_all exact ItemOf.tup (.head _))
    | exact Nat.le_trans (Nat.le_of_ble_eq_true rfl) hC | ((show _ ≠ _); first | exact h0 | decide | omega)
        | (refine' Nat.le_trans ?m9 (Nat.le_of_ble_eq_true ?o9); (case m9 => (with_reducible repeat' first | exact b_n | refine' PyProof.Rows.bits_mul ?_ ?_ | refine' PyProof.Rows.bits_add ?_ ?_ | refine' PyProof.Rows.bits_sub ?_ ?_ | refine' PyProof.Rows.bits_neg ?_ | refine' PyProof.Rows.bits_ite ?_ ?_ | refine' bits_rnd ?_ | refine' PyProof.Rows.bits_fdiv ?_ | refine' PyProof.Rows.bits_fmod ?_ ?_ | exact Nat.le_refl _)); (case o9 => with_unfolding_all exact rfl))
    | (with_unfolding_all exact rfl))
  case v => (with_reducible repeat' first
    | exact V.int
    | (refine' V.lo ?a9; (case a9 => with_unfolding_all exact rfl))
    | (refine' V.grain ?g9; (case g9 => with_unfolding_all exact rfl)) | (refine' V.lone ?g9; (case g9 => with_unfolding_all exact rfl))
    | refine' V.bin ?_ ?_ ?_
    | refine' V.una ?_ ?_
    | (refine' V.cmp ?_ ?_ ?_ ?d9; (case d9 => with_unfolding_all exact rfl))
    | (refine' W.cmp ?_ ?_ ?_ ?d9; (case d9 => with_unfolding_all exact rfl))
    | refine' V.iti ?_ ?_ ?_
    | (refine' V.abs (g_abs _) ?g9 ?_ ?n9; (case g9 => with_unfolding_all exact rfl); (case n9 => with_unfolding_all exact rfl))
    | refine' V.itc ?_ ?_ ?_
    | exact V.boolc | exact V.nonec | refine' V.bone ?_ | (refine' V.band ?_ (fun _ => ?_)) | (refine' V.bor ?_ (fun _ => ?_)) | (refine' V.not ?_)
    | (refine' W.not ?_) | exact W.and0 | exact W.or0 | (refine' W.and ?_ (fun _ => ?_)) | (refine' W.or ?_ (fun _ => ?_))
    | (refine' W.of ?_ ?d9; (case d9 => with_unfolding_all exact rfl))
    | exact Vs.nil | (refine' Vs.cons ?_ ?n9 ?_; (case n9 => with_unfolding_all exact rfl))
    | exact Bin.add | exact Bin.sub | (refine' Bin.mul (mulB ?m9 ?n9 ?o9); (case m9 => (with_reducible repeat' first | exact b_n | refine' PyProof.Rows.bits_mul ?_ ?_ | refine' PyProof.Rows.bits_add ?_ ?_ | refine' PyProof.Rows.bits_sub ?_ ?_ | refine' PyProof.Rows.bits_neg ?_ | refine' PyProof.Rows.bits_ite ?_ ?_ | refine' bits_rnd ?_ | refine' PyProof.Rows.bits_fdiv ?_ | refine' PyProof.Rows.bits_fmod ?_ ?_ | exact Nat.le_refl _)); (case n9 => (with_reducible repeat' first | exact b_n | refine' PyProof.Rows.bits_mul ?_ ?_ | refine' PyProof.Rows.bits_add ?_ ?_ | refine' PyProof.Rows.bits_sub ?_ ?_ | refine' PyProof.Rows.bits_neg ?_ | refine' PyProof.Rows.bits_ite ?_ ?_ | refine' bits_rnd ?_ | refine' PyProof.Rows.bits_fdiv ?_ | refine' PyProof.Rows.bits_fmod ?_ ?_ | exact Nat.le_refl _)); (case o9 => with_unfolding_all exact rfl)) | (refine' Bin.mod ?m9; (case m9 => first | decide | exact h0 | omega)) | (refine' Bin.fdiv ?m9 (noPyB ?n9 ?o9); (case m9 => first | decide | omega); (case n9 => (with_reducible repeat' first | exact b_n | refine' PyProof.Rows.bits_mul ?_ ?_ | refine' PyProof.Rows.bits_add ?_ ?_ | refine' PyProof.Rows.bits_sub ?_ ?_ | refine' PyProof.Rows.bits_neg ?_ | refine' PyProof.Rows.bits_ite ?_ ?_ | refine' bits_rnd ?_ | refine' PyProof.Rows.bits_fdiv ?_ | refine' PyProof.Rows.bits_fmod ?_ ?_ | exact Nat.le_refl _)); (case o9 => with_unfolding_all exact rfl)) | exact Una.neg
    | exact Cmp.lt | exact Cmp.le | exact Cmp.gt | exact Cmp.ge | exact Cmp.eq | exact Cmp.ne | exact Cmp.eqB
    | exact ItemOf.lst hm | (with_unfolding_all exact ItemOf.lst (.head _)) | (with_unfolding_all exact ItemOf.lst (.tail _ (.head _))) | exact ItemOf.tup hm | (with_unfolding_all exact ItemOf.tup (.head _))
    | exact Nat.le_trans (Nat.le_of_ble_eq_true rfl) hC | ((show _ ≠ _); first | exact h0 | decide | omega)
        | (refine' Nat.le_trans ?m9 (Nat.le_of_ble_eq_true ?o9); (case m9 => (with_reducible repeat' first | exact b_n | refine' PyProof.Rows.bits_mul ?_ ?_ | refine' PyProof.Rows.bits_add ?_ ?_ | refine' PyProof.Rows.bits_sub ?_ ?_ | refine' PyProof.Rows.bits_neg ?_ | refine' PyProof.Rows.bits_ite ?_ ?_ | refine' bits_rnd ?_ | refine' PyProof.Rows.bits_fdiv ?_ | refine' PyProof.Rows.bits_fmod ?_ ?_ | exact Nat.le_refl _)); (case o9 => with_unfolding_all exact rfl))
    | (with_unfolding_all exact rfl))
  have h2 : 2 ≤ n := by have := of_decide_eq_false h; omega
  refine' R.as1 (p := .int (1 * 2 ^ ((((Builtin.Int.intBits n : Nat) : Int) + 1).fdiv 2).toNat)) (V.bin V.int (V.bin (V.bin (V.bitlen ?v1 rfl) V.int Bin.add) V.int (Bin.fdiv (by decide) (noPyB (k := 2) (by decide) rfl))) (Bin.shl ?v2 ?v3 (by decide))) rfl rfl ?k2
  case v1 => (with_reducible repeat' first
    | exact V.int
    | (refine' V.lo ?a9; (case a9 => with_unfolding_all exact rfl))
    | (refine' V.grain ?g9; (case g9 => with_unfolding_all exact rfl)) | (refine' V.lone ?g9; (case g9 => with_unfolding_all exact rfl))
    | refine' V.bin ?_ ?_ ?_
    | refine' V.una ?_ ?_
    | (refine' V.cmp ?_ ?_ ?_ ?d9; (case d9 => with_unfolding_all exact rfl))
    | (refine' W.cmp ?_ ?_ ?_ ?d9; (case d9 => with_unfolding_all exact rfl))
    | refine' V.iti ?_ ?_ ?_
    | (refine' V.abs (g_abs _) ?g9 ?_ ?n9; (case g9 => with_unfolding_all exact rfl); (case n9 => with_unfolding_all exact rfl))
    | refine' V.itc ?_ ?_ ?_
    | exact V.boolc | exact V.nonec | refine' V.bone ?_ | (refine' V.band ?_ (fun _ => ?_)) | (refine' V.bor ?_ (fun _ => ?_)) | (refine' V.not ?_)
    | (refine' W.not ?_) | exact W.and0 | exact W.or0 | (refine' W.and ?_ (fun _ => ?_)) | (refine' W.or ?_ (fun _ => ?_))
    | (refine' W.of ?_ ?d9; (case d9 => with_unfolding_all exact rfl))
    | exact Vs.nil | (refine' Vs.cons ?_ ?n9 ?_; (case n9 => with_unfolding_all exact rfl))
    | exact Bin.add | exact Bin.sub | (refine' Bin.mul (mulB ?m9 ?n9 ?o9); (case m9 => (with_reducible repeat' first | exact b_n | refine' PyProof.Rows.bits_mul ?_ ?_ | refine' PyProof.Rows.bits_add ?_ ?_ | refine' PyProof.Rows.bits_sub ?_ ?_ | refine' PyProof.Rows.bits_neg ?_ | refine' PyProof.Rows.bits_ite ?_ ?_ | refine' bits_rnd ?_ | refine' PyProof.Rows.bits_fdiv ?_ | refine' PyProof.Rows.bits_fmod ?_ ?_ | exact Nat.le_refl _)); (case n9 => (with_reducible repeat' first | exact b_n | refine' PyProof.Rows.bits_mul ?_ ?_ | refine' PyProof.Rows.bits_add ?_ ?_ | refine' PyProof.Rows.bits_sub ?_ ?_ | refine' PyProof.Rows.bits_neg ?_ | refine' PyProof.Rows.bits_ite ?_ ?_ | refine' bits_rnd ?_ | refine' PyProof.Rows.bits_fdiv ?_ | refine' PyProof.Rows.bits_fmod ?_ ?_ | exact Nat.le_refl _)); (case o9 => with_unfolding_all exact rfl)) | (refine' Bin.mod ?m9; (case m9 => first | decide | exact h0 | omega)) | (refine' Bin.fdiv ?m9 (noPyB ?n9 ?o9); (case m9 => first | decide | omega); (case n9 => (with_reducible repeat' first | exact b_n | refine' PyProof.Rows.bits_mul ?_ ?_ | refine' PyProof.Rows.bits_add ?_ ?_ | refine' PyProof.Rows.bits_sub ?_ ?_ | refine' PyProof.Rows.bits_neg ?_ | refine' PyProof.Rows.bits_ite ?_ ?_ | refine' bits_rnd ?_ | refine' PyProof.Rows.bits_fdiv ?_ | refine' PyProof.Rows.bits_fmod ?_ ?_ | exact Nat.le_refl _)); (case o9 => with_unfolding_all exact rfl)) | exact Una.neg
    | exact Cmp.lt | exact Cmp.le | exact Cmp.gt | exact Cmp.ge | exact Cmp.eq | exact Cmp.ne | exact Cmp.eqB
    | exact ItemOf.lst hm | (with_unfolding_all exact ItemOf.lst (.head _)) | (with_unfolding_all exact ItemOf.lst (.tail _ (.head _))) | exact ItemOf.tup hm | (with_unfolding_all exact ItemOf.tup (.head _))
    | exact Nat.le_trans (Nat.le_of_ble_eq_true rfl) hC | ((show _ ≠ _); first | exact h0 | decide | omega)
        | (refine' Nat.le_trans ?m9 (Nat.le_of_ble_eq_true ?o9); (case m9 => (with_reducible repeat' first | exact b_n | refine' PyProof.Rows.bits_mul ?_ ?_ | refine' PyProof.Rows.bits_add ?_ ?_ | refine' PyProof.Rows.bits_sub ?_ ?_ | refine' PyProof.Rows.bits_neg ?_ | refine' PyProof.Rows.bits_ite ?_ ?_ | refine' bits_rnd ?_ | refine' PyProof.Rows.bits_fdiv ?_ | refine' PyProof.Rows.bits_fmod ?_ ?_ | exact Nat.le_refl _)); (case o9 => with_unfolding_all exact rfl))
    | (with_unfolding_all exact rfl))
  case v2 => rw [Int.fdiv_eq_ediv_of_nonneg _ (by decide)]; omega
  case v3 => rw [Int.fdiv_eq_ediv_of_nonneg _ (by decide)]; have : Builtin.Int.intBits n ≤ 200 := b_n; omega
  have st := nw_start n h2 rfl
  have b_x0 : bits (1 * 2 ^ ((((Builtin.Int.intBits n : Nat) : Int) + 1).fdiv 2).toNat) ≤ 1000 := by
    refine Nat.le_trans (PyProof.Rows.bits_mul (Nat.le_refl _) (intBits_pow_le (m := 2) (by decide) _)) ?_
    have h4 : Builtin.Int.intBits n ≤ 200 := b_n
    have h5 : Builtin.Int.intBits 1 = 1 := by decide
    rw [Int.fdiv_eq_ediv_of_nonneg _ (by decide)]; omega
  generalize (1 * 2 ^ ((((Builtin.Int.intBits n : Nat) : Int) + 1).fdiv 2).toNat : Int) = x0 at *
  refine R.loop (σ := Int) (fun x => [("found", .int x), ("number", .int n)]) (fun _ => η) (fun x => 1 ≤ x ∧ n < (x + 1) * (x + 1) ∧ x ≤ x0) (fun x => x.toNat) x0 ⟨st.1, st.2, Int.le_refl _⟩ (.cons rfl (.cons rfl .nil)) (.refl _) fun x ⟨l1, l2, l3⟩ => ?_
  obtain ⟨t1, t2, t3⟩ := nw_step l1 h2 l2
  refine' W.up (b := true) (W.of V.boolc rfl) ⟨fun _ => ?k3, fun h => by cases h⟩
  have hx0 : x ≠ 0 := by omega
  refine' R.as1 (V.bin (V.bin (V.lo rfl) (V.bin (V.lo rfl) (V.lo rfl) (Bin.fdiv hx0 ?v5)) Bin.add) V.int (Bin.fdiv (by decide) (noPyB (k := 2) (by decide) rfl))) rfl rfl ?k4
  case v5 => exact noPyB (bits_nn (by omega) l3 b_x0) rfl
  generalize (x + n.fdiv x).fdiv 2 = y at *
  refine' R.if1 (b := decide (x ≤ y)) ?w6 (fun h => R.ret (V.up ?v6 ⟨_, .refl _, ⟨x, rfl, t3 (of_decide_eq_true h)⟩, rfl⟩)) (fun h => R.nil ?k7)
  case w6 => (with_reducible repeat' first
    | exact V.int
    | (refine' V.lo ?a9; (case a9 => with_unfolding_all exact rfl))
    | (refine' V.grain ?g9; (case g9 => with_unfolding_all exact rfl)) | (refine' V.lone ?g9; (case g9 => with_unfolding_all exact rfl))
    | refine' V.bin ?_ ?_ ?_
    | refine' V.una ?_ ?_
    | (refine' V.cmp ?_ ?_ ?_ ?d9; (case d9 => with_unfolding_all exact rfl))
    | (refine' W.cmp ?_ ?_ ?_ ?d9; (case d9 => with_unfolding_all exact rfl))
    | refine' V.iti ?_ ?_ ?_
    | (refine' V.abs (g_abs _) ?g9 ?_ ?n9; (case g9 => with_unfolding_all exact rfl); (case n9 => with_unfolding_all exact rfl))
    | refine' V.itc ?_ ?_ ?_
    | exact V.boolc | exact V.nonec | refine' V.bone ?_ | (refine' V.band ?_ (fun _ => ?_)) | (refine' V.bor ?_ (fun _ => ?_)) | (refine' V.not ?_)
    | (refine' W.not ?_) | exact W.and0 | exact W.or0 | (refine' W.and ?_ (fun _ => ?_)) | (refine' W.or ?_ (fun _ => ?_))
    | (refine' W.of ?_ ?d9; (case d9 => with_unfolding_all exact rfl))
    | exact Vs.nil | (refine' Vs.cons ?_ ?n9 ?_; (case n9 => with_unfolding_all exact rfl))
    | exact Bin.add | exact Bin.sub | (refine' Bin.mul (mulB ?m9 ?n9 ?o9); (case m9 => (with_reducible repeat' first | exact b_n | exact b_x0 | refine' PyProof.Rows.bits_mul ?_ ?_ | refine' PyProof.Rows.bits_add ?_ ?_ | refine' PyProof.Rows.bits_sub ?_ ?_ | refine' PyProof.Rows.bits_neg ?_ | refine' PyProof.Rows.bits_ite ?_ ?_ | refine' bits_rnd ?_ | refine' PyProof.Rows.bits_fdiv ?_ | refine' PyProof.Rows.bits_fmod ?_ ?_ | exact Nat.le_refl _)); (case n9 => (with_reducible repeat' first | exact b_n | exact b_x0 | refine' PyProof.Rows.bits_mul ?_ ?_ | refine' PyProof.Rows.bits_add ?_ ?_ | refine' PyProof.Rows.bits_sub ?_ ?_ | refine' PyProof.Rows.bits_neg ?_ | refine' PyProof.Rows.bits_ite ?_ ?_ | refine' bits_rnd ?_ | refine' PyProof.Rows.bits_fdiv ?_ | refine' PyProof.Rows.bits_fmod ?_ ?_ | exact Nat.le_refl _)); (case o9 => with_unfolding_all exact rfl)) | (refine' Bin.mod ?m9; (case m9 => first | decide | exact h0 | omega)) | (refine' Bin.fdiv ?m9 (noPyB ?n9 ?o9); (case m9 => first | decide | omega); (case n9 => (with_reducible repeat' first | exact b_n | exact b_x0 | refine' PyProof.Rows.bits_mul ?_ ?_ | refine' PyProof.Rows.bits_add ?_ ?_ | refine' PyProof.Rows.bits_sub ?_ ?_ | refine' PyProof.Rows.bits_neg ?_ | refine' PyProof.Rows.bits_ite ?_ ?_ | refine' bits_rnd ?_ | refine' PyProof.Rows.bits_fdiv ?_ | refine' PyProof.Rows.bits_fmod ?_ ?_ | exact Nat.le_refl _)); (case o9 => with_unfolding_all exact rfl)) | exact Una.neg
    | exact Cmp.lt | exact Cmp.le | exact Cmp.gt | exact Cmp.ge | exact Cmp.eq | exact Cmp.ne | exact Cmp.eqB
    | exact ItemOf.lst hm | (with_unfolding_all exact ItemOf.lst (.head _)) | (with_unfolding_all exact ItemOf.lst (.tail _ (.head _))) | exact ItemOf.tup hm | (with_unfolding_all exact ItemOf.tup (.head _))
    | exact Nat.le_trans (Nat.le_of_ble_eq_true rfl) hC | ((show _ ≠ _); first | exact h0 | decide | omega)
        | (refine' Nat.le_trans ?m9 (Nat.le_of_ble_eq_true ?o9); (case m9 => (with_reducible repeat' first | exact b_n | exact b_x0 | refine' PyProof.Rows.bits_mul ?_ ?_ | refine' PyProof.Rows.bits_add ?_ ?_ | refine' PyProof.Rows.bits_sub ?_ ?_ | refine' PyProof.Rows.bits_neg ?_ | refine' PyProof.Rows.bits_ite ?_ ?_ | refine' bits_rnd ?_ | refine' PyProof.Rows.bits_fdiv ?_ | refine' PyProof.Rows.bits_fmod ?_ ?_ | exact Nat.le_refl _)); (case o9 => with_unfolding_all exact rfl))
    | (with_unfolding_all exact rfl))
  case v6 => (with_reducible repeat' first
    | exact V.int
    | (refine' V.lo ?a9; (case a9 => with_unfolding_all exact rfl))
    | (refine' V.grain ?g9; (case g9 => with_unfolding_all exact rfl)) | (refine' V.lone ?g9; (case g9 => with_unfolding_all exact rfl))
    | refine' V.bin ?_ ?_ ?_
    | refine' V.una ?_ ?_
    | (refine' V.cmp ?_ ?_ ?_ ?d9; (case d9 => with_unfolding_all exact rfl))
    | (refine' W.cmp ?_ ?_ ?_ ?d9; (case d9 => with_unfolding_all exact rfl))
    | refine' V.iti ?_ ?_ ?_
    | (refine' V.abs (g_abs _) ?g9 ?_ ?n9; (case g9 => with_unfolding_all exact rfl); (case n9 => with_unfolding_all exact rfl))
    | refine' V.itc ?_ ?_ ?_
    | exact V.boolc | exact V.nonec | refine' V.bone ?_ | (refine' V.band ?_ (fun _ => ?_)) | (refine' V.bor ?_ (fun _ => ?_)) | (refine' V.not ?_)
    | (refine' W.not ?_) | exact W.and0 | exact W.or0 | (refine' W.and ?_ (fun _ => ?_)) | (refine' W.or ?_ (fun _ => ?_))
    | (refine' W.of ?_ ?d9; (case d9 => with_unfolding_all exact rfl))
    | exact Vs.nil | (refine' Vs.cons ?_ ?n9 ?_; (case n9 => with_unfolding_all exact rfl))
    | exact Bin.add | exact Bin.sub | (refine' Bin.mul (mulB ?m9 ?n9 ?o9); (case m9 => (with_reducible repeat' first | exact b_n | exact b_x0 | refine' PyProof.Rows.bits_mul ?_ ?_ | refine' PyProof.Rows.bits_add ?_ ?_ | refine' PyProof.Rows.bits_sub ?_ ?_ | refine' PyProof.Rows.bits_neg ?_ | refine' PyProof.Rows.bits_ite ?_ ?_ | refine' bits_rnd ?_ | refine' PyProof.Rows.bits_fdiv ?_ | refine' PyProof.Rows.bits_fmod ?_ ?_ | exact Nat.le_refl _)); (case n9 => (with_reducible repeat' first | exact b_n | exact b_x0 | refine' PyProof.Rows.bits_mul ?_ ?_ | refine' PyProof.Rows.bits_add ?_ ?_ | refine' PyProof.Rows.bits_sub ?_ ?_ | refine' PyProof.Rows.bits_neg ?_ | refine' PyProof.Rows.bits_ite ?_ ?_ | refine' bits_rnd ?_ | refine' PyProof.Rows.bits_fdiv ?_ | refine' PyProof.Rows.bits_fmod ?_ ?_ | exact Nat.le_refl _)); (case o9 => with_unfolding_all exact rfl)) | (refine' Bin.mod ?m9; (case m9 => first | decide | exact h0 | omega)) | (refine' Bin.fdiv ?m9 (noPyB ?n9 ?o9); (case m9 => first | decide | omega); (case n9 => (with_reducible repeat' first | exact b_n | exact b_x0 | refine' PyProof.Rows.bits_mul ?_ ?_ | refine' PyProof.Rows.bits_add ?_ ?_ | refine' PyProof.Rows.bits_sub ?_ ?_ | refine' PyProof.Rows.bits_neg ?_ | refine' PyProof.Rows.bits_ite ?_ ?_ | refine' bits_rnd ?_ | refine' PyProof.Rows.bits_fdiv ?_ | refine' PyProof.Rows.bits_fmod ?_ ?_ | exact Nat.le_refl _)); (case o9 => with_unfolding_all exact rfl)) | exact Una.neg
    | exact Cmp.lt | exact Cmp.le | exact Cmp.gt | exact Cmp.ge | exact Cmp.eq | exact Cmp.ne | exact Cmp.eqB
    | exact ItemOf.lst hm | (with_unfolding_all exact ItemOf.lst (.head _)) | (with_unfolding_all exact ItemOf.lst (.tail _ (.head _))) | exact ItemOf.tup hm | (with_unfolding_all exact ItemOf.tup (.head _))
    | exact Nat.le_trans (Nat.le_of_ble_eq_true rfl) hC | ((show _ ≠ _); first | exact h0 | decide | omega)
        | (refine' Nat.le_trans ?m9 (Nat.le_of_ble_eq_true ?o9); (case m9 => (with_reducible repeat' first | exact b_n | exact b_x0 | refine' PyProof.Rows.bits_mul ?_ ?_ | refine' PyProof.Rows.bits_add ?_ ?_ | refine' PyProof.Rows.bits_sub ?_ ?_ | refine' PyProof.Rows.bits_neg ?_ | refine' PyProof.Rows.bits_ite ?_ ?_ | refine' bits_rnd ?_ | refine' PyProof.Rows.bits_fdiv ?_ | refine' PyProof.Rows.bits_fmod ?_ ?_ | exact Nat.le_refl _)); (case o9 => with_unfolding_all exact rfl))
    | (with_unfolding_all exact rfl))
  have h9 := of_decide_eq_false h
  refine' R.as1 ?v9 ?k9 ?s9 ?_
  case v9 => (with_reducible repeat' first
    | exact V.int
    | (refine' V.lo ?a9; (case a9 => with_unfolding_all exact rfl))
    | (refine' V.grain ?g9; (case g9 => with_unfolding_all exact rfl)) | (refine' V.lone ?g9; (case g9 => with_unfolding_all exact rfl))
    | refine' V.bin ?_ ?_ ?_
    | refine' V.una ?_ ?_
    | (refine' V.cmp ?_ ?_ ?_ ?d9; (case d9 => with_unfolding_all exact rfl))
    | (refine' W.cmp ?_ ?_ ?_ ?d9; (case d9 => with_unfolding_all exact rfl))
    | refine' V.iti ?_ ?_ ?_
    | (refine' V.abs (g_abs _) ?g9 ?_ ?n9; (case g9 => with_unfolding_all exact rfl); (case n9 => with_unfolding_all exact rfl))
    | refine' V.itc ?_ ?_ ?_
    | exact V.boolc | exact V.nonec | refine' V.bone ?_ | (refine' V.band ?_ (fun _ => ?_)) | (refine' V.bor ?_ (fun _ => ?_)) | (refine' V.not ?_)
    | (refine' W.not ?_) | exact W.and0 | exact W.or0 | (refine' W.and ?_ (fun _ => ?_)) | (refine' W.or ?_ (fun _ => ?_))
    | (refine' W.of ?_ ?d9; (case d9 => with_unfolding_all exact rfl))
    | exact Vs.nil | (refine' Vs.cons ?_ ?n9 ?_; (case n9 => with_unfolding_all exact rfl))
    | exact Bin.add | exact Bin.sub | (refine' Bin.mul (mulB ?m9 ?n9 ?o9); (case m9 => (with_reducible repeat' first | exact b_n | exact b_x0 | refine' PyProof.Rows.bits_mul ?_ ?_ | refine' PyProof.Rows.bits_add ?_ ?_ | refine' PyProof.Rows.bits_sub ?_ ?_ | refine' PyProof.Rows.bits_neg ?_ | refine' PyProof.Rows.bits_ite ?_ ?_ | refine' bits_rnd ?_ | refine' PyProof.Rows.bits_fdiv ?_ | refine' PyProof.Rows.bits_fmod ?_ ?_ | exact Nat.le_refl _)); (case n9 => (with_reducible repeat' first | exact b_n | exact b_x0 | refine' PyProof.Rows.bits_mul ?_ ?_ | refine' PyProof.Rows.bits_add ?_ ?_ | refine' PyProof.Rows.bits_sub ?_ ?_ | refine' PyProof.Rows.bits_neg ?_ | refine' PyProof.Rows.bits_ite ?_ ?_ | refine' bits_rnd ?_ | refine' PyProof.Rows.bits_fdiv ?_ | refine' PyProof.Rows.bits_fmod ?_ ?_ | exact Nat.le_refl _)); (case o9 => with_unfolding_all exact rfl)) | (refine' Bin.mod ?m9; (case m9 => first | decide | exact h0 | omega)) | (refine' Bin.fdiv ?m9 (noPyB ?n9 ?o9); (case m9 => first | decide | omega); (case n9 => (with_reducible repeat' first | exact b_n | exact b_x0 | refine' PyProof.Rows.bits_mul ?_ ?_ | refine' PyProof.Rows.bits_add ?_ ?_ | refine' PyProof.Rows.bits_sub ?_ ?_ | refine' PyProof.Rows.bits_neg ?_ | refine' PyProof.Rows.bits_ite ?_ ?_ | refine' bits_rnd ?_ | refine' PyProof.Rows.bits_fdiv ?_ | refine' PyProof.Rows.bits_fmod ?_ ?_ | exact Nat.le_refl _)); (case o9 => with_unfolding_all exact rfl)) | exact Una.neg
    | exact Cmp.lt | exact Cmp.le | exact Cmp.gt | exact Cmp.ge | exact Cmp.eq | exact Cmp.ne | exact Cmp.eqB
    | exact ItemOf.lst hm | (with_unfolding_all exact ItemOf.lst (.head _)) | (with_unfolding_all exact ItemOf.lst (.tail _ (.head _))) | exact ItemOf.tup hm | (with_unfolding_all exact ItemOf.tup (.head _))
    | exact Nat.le_trans (Nat.le_of_ble_eq_true rfl) hC | ((show _ ≠ _); first | exact h0 | decide | omega)
        | (refine' Nat.le_trans ?m9 (Nat.le_of_ble_eq_true ?o9); (case m9 => (with_reducible repeat' first | exact b_n | exact b_x0 | refine' PyProof.Rows.bits_mul ?_ ?_ | refine' PyProof.Rows.bits_add ?_ ?_ | refine' PyProof.Rows.bits_sub ?_ ?_ | refine' PyProof.Rows.bits_neg ?_ | refine' PyProof.Rows.bits_ite ?_ ?_ | refine' bits_rnd ?_ | refine' PyProof.Rows.bits_fdiv ?_ | refine' PyProof.Rows.bits_fmod ?_ ?_ | exact Nat.le_refl _)); (case o9 => with_unfolding_all exact rfl))
    | (with_unfolding_all exact rfl))
  case k9 => with_unfolding_all exact rfl
  case s9 => with_unfolding_all exact rfl
  refine R.nx ⟨y, .cons rfl (.cons rfl .nil), .refl _, ⟨t1, t2, by omega⟩, by show y.toNat < x.toNat; omega⟩
/-- r is the root of v in millionths, to the nearest -/
abbrev IsScale (v r : Int) : Prop := 0 ≤ r ∧ (v = 0 → r = 0) ∧ (0 < v → (2 * r - 1) * (2 * r - 1) ≤ 4 * v * 1000000 ∧ 4 * v * 1000000 ≤ (2 * r + 1) * (2 * r + 1))
theorem scale_low {v f : Int} (hv : 0 ≤ v) (h : IsRoot (v * 1000000) f) (hc : v * 1000000 - f * f ≤ f) : IsScale v f := by
  obtain ⟨h1, h2, h3⟩ := h
  refine ⟨h1, fun e => ?_, fun hp => ⟨?_, by grind⟩⟩
  · subst e
    rcases Int.lt_or_le 0 f with h | h
    · have := Int.mul_pos h h; omega
    · omega
  · have : 1 ≤ f := by
      rcases Int.lt_or_le 0 f with h | h
      · exact h
      · have e : f = 0 := by omega
        subst e; omega
    grind
theorem scale_up {v f : Int} (hv : 0 ≤ v) (h : IsRoot (v * 1000000) f) (hc : ¬ v * 1000000 - f * f ≤ f) : IsScale v (f + 1) := by
  obtain ⟨h1, h2, h3⟩ := h
  refine ⟨by omega, fun e => ?_, fun hp => ⟨by grind, by grind⟩⟩
  subst e
  have : 0 ≤ f * f := Int.mul_nonneg h1 h1
  omega
theorem f_root (η : Hp) (v : Int) (hv : 0 ≤ v) (b_v : bits v ≤ 100) : Fn 82 2 [.int v] η fun p η' => (∃ r, p = .int r ∧ IsScale v r) ∧ η' = η := by
  refine' Fn.enter1 "value" (fun P => ?ho) (fun P => ?hcd) (fun s v1 => ?hb) ?he ?h
  case ho => exact rfl
  case hcd => kernel_rfl
  case hb => exact BindsTo.of_eq rfl
  case he => rfl
  intro C hC
  refine' R.if1 (b := decide (v < 0)) ?w (fun h => absurd (of_decide_eq_true h) (by omega)) (fun _ => R.nil ?k)
  case w => (with_reducible repeat' first
    | exact V.int
    | (refine' V.lo ?a9; (case a9 => with_unfolding_all exact rfl))
    | (refine' V.grain ?g9; (case g9 => with_unfolding_all exact rfl)) | (refine' V.lone ?g9; (case g9 => with_unfolding_all exact rfl))
    | refine' V.bin ?_ ?_ ?_
    | refine' V.una ?_ ?_
    | (refine' V.cmp ?_ ?_ ?_ ?d9; (case d9 => with_unfolding_all exact rfl))
    | (refine' W.cmp ?_ ?_ ?_ ?d9; (case d9 => with_unfolding_all exact rfl))
    | refine' V.iti ?_ ?_ ?_
    | (refine' V.abs (g_abs _) ?g9 ?_ ?n9; (case g9 => with_unfolding_all exact rfl); (case n9 => with_unfolding_all exact rfl))
    | refine' V.itc ?_ ?_ ?_
    | exact V.boolc | exact V.nonec | refine' V.bone ?_ | (refine' V.band ?_ (fun _ => ?_)) | (refine' V.bor ?_ (fun _ => ?_)) | (refine' V.not ?_)
    | (refine' W.not ?_) | exact W.and0 | exact W.or0 | (refine' W.and ?_ (fun _ => ?_)) | (refine' W.or ?_ (fun _ => ?_))
    | (refine' W.of ?_ ?d9; (case d9 => with_unfolding_all exact rfl))
    | exact Vs.nil | (refine' Vs.cons ?_ ?n9 ?_; (case n9 => with_unfolding_all exact rfl))
    | exact Bin.add | exact Bin.sub | (refine' Bin.mul (mulB ?m9 ?n9 ?o9); (case m9 => (with_reducible repeat' first | exact b_v | refine' PyProof.Rows.bits_mul ?_ ?_ | refine' PyProof.Rows.bits_add ?_ ?_ | refine' PyProof.Rows.bits_sub ?_ ?_ | refine' PyProof.Rows.bits_neg ?_ | refine' PyProof.Rows.bits_ite ?_ ?_ | refine' bits_rnd ?_ | refine' PyProof.Rows.bits_fdiv ?_ | refine' PyProof.Rows.bits_fmod ?_ ?_ | exact Nat.le_refl _)); (case n9 => (with_reducible repeat' first | exact b_v | refine' PyProof.Rows.bits_mul ?_ ?_ | refine' PyProof.Rows.bits_add ?_ ?_ | refine' PyProof.Rows.bits_sub ?_ ?_ | refine' PyProof.Rows.bits_neg ?_ | refine' PyProof.Rows.bits_ite ?_ ?_ | refine' bits_rnd ?_ | refine' PyProof.Rows.bits_fdiv ?_ | refine' PyProof.Rows.bits_fmod ?_ ?_ | exact Nat.le_refl _)); (case o9 => with_unfolding_all exact rfl)) | (refine' Bin.mod ?m9; (case m9 => first | decide | exact h0 | omega)) | (refine' Bin.fdiv ?m9 (noPyB ?n9 ?o9); (case m9 => first | decide | omega); (case n9 => (with_reducible repeat' first | exact b_v | refine' PyProof.Rows.bits_mul ?_ ?_ | refine' PyProof.Rows.bits_add ?_ ?_ | refine' PyProof.Rows.bits_sub ?_ ?_ | refine' PyProof.Rows.bits_neg ?_ | refine' PyProof.Rows.bits_ite ?_ ?_ | refine' bits_rnd ?_ | refine' PyProof.Rows.bits_fdiv ?_ | refine' PyProof.Rows.bits_fmod ?_ ?_ | exact Nat.le_refl _)); (case o9 => with_unfolding_all exact rfl)) | exact Una.neg
    | exact Cmp.lt | exact Cmp.le | exact Cmp.gt | exact Cmp.ge | exact Cmp.eq | exact Cmp.ne | exact Cmp.eqB
    | exact ItemOf.lst hm | (with_unfolding_all exact ItemOf.lst (.head _)) | (with_unfolding_all exact ItemOf.lst (.tail _ (.head _))) | exact ItemOf.tup hm | (with_unfolding_all exact ItemOf.tup (.head _))
    | exact Nat.le_trans (Nat.le_of_ble_eq_true rfl) hC | ((show _ ≠ _); first | exact h0 | decide | omega)
        | (refine' Nat.le_trans ?m9 (Nat.le_of_ble_eq_true ?o9); (case m9 => (with_reducible repeat' first | exact b_v | refine' PyProof.Rows.bits_mul ?_ ?_ | refine' PyProof.Rows.bits_add ?_ ?_ | refine' PyProof.Rows.bits_sub ?_ ?_ | refine' PyProof.Rows.bits_neg ?_ | refine' PyProof.Rows.bits_ite ?_ ?_ | refine' bits_rnd ?_ | refine' PyProof.Rows.bits_fdiv ?_ | refine' PyProof.Rows.bits_fmod ?_ ?_ | exact Nat.le_refl _)); (case o9 => with_unfolding_all exact rfl))
    | (with_unfolding_all exact rfl))
  refine' R.as1 ?v9 ?k9 ?s9 ?_
  case v9 => (with_reducible repeat' first
    | exact V.int
    | (refine' V.lo ?a9; (case a9 => with_unfolding_all exact rfl))
    | (refine' V.grain ?g9; (case g9 => with_unfolding_all exact rfl)) | (refine' V.lone ?g9; (case g9 => with_unfolding_all exact rfl))
    | refine' V.bin ?_ ?_ ?_
    | refine' V.una ?_ ?_
    | (refine' V.cmp ?_ ?_ ?_ ?d9; (case d9 => with_unfolding_all exact rfl))
    | (refine' W.cmp ?_ ?_ ?_ ?d9; (case d9 => with_unfolding_all exact rfl))
    | refine' V.iti ?_ ?_ ?_
    | (refine' V.abs (g_abs _) ?g9 ?_ ?n9; (case g9 => with_unfolding_all exact rfl); (case n9 => with_unfolding_all exact rfl))
    | refine' V.itc ?_ ?_ ?_
    | exact V.boolc | exact V.nonec | refine' V.bone ?_ | (refine' V.band ?_ (fun _ => ?_)) | (refine' V.bor ?_ (fun _ => ?_)) | (refine' V.not ?_)
    | (refine' W.not ?_) | exact W.and0 | exact W.or0 | (refine' W.and ?_ (fun _ => ?_)) | (refine' W.or ?_ (fun _ => ?_))
    | (refine' W.of ?_ ?d9; (case d9 => with_unfolding_all exact rfl))
    | exact Vs.nil | (refine' Vs.cons ?_ ?n9 ?_; (case n9 => with_unfolding_all exact rfl))
    | exact Bin.add | exact Bin.sub | (refine' Bin.mul (mulB ?m9 ?n9 ?o9); (case m9 => (with_reducible repeat' first | exact b_v | refine' PyProof.Rows.bits_mul ?_ ?_ | refine' PyProof.Rows.bits_add ?_ ?_ | refine' PyProof.Rows.bits_sub ?_ ?_ | refine' PyProof.Rows.bits_neg ?_ | refine' PyProof.Rows.bits_ite ?_ ?_ | refine' bits_rnd ?_ | refine' PyProof.Rows.bits_fdiv ?_ | refine' PyProof.Rows.bits_fmod ?_ ?_ | exact Nat.le_refl _)); (case n9 => (with_reducible repeat' first | exact b_v | refine' PyProof.Rows.bits_mul ?_ ?_ | refine' PyProof.Rows.bits_add ?_ ?_ | refine' PyProof.Rows.bits_sub ?_ ?_ | refine' PyProof.Rows.bits_neg ?_ | refine' PyProof.Rows.bits_ite ?_ ?_ | refine' bits_rnd ?_ | refine' PyProof.Rows.bits_fdiv ?_ | refine' PyProof.Rows.bits_fmod ?_ ?_ | exact Nat.le_refl _)); (case o9 => with_unfolding_all exact rfl)) | (refine' Bin.mod ?m9; (case m9 => first | decide | exact h0 | omega)) | (refine' Bin.fdiv ?m9 (noPyB ?n9 ?o9); (case m9 => first | decide | omega); (case n9 => (with_reducible repeat' first | exact b_v | refine' PyProof.Rows.bits_mul ?_ ?_ | refine' PyProof.Rows.bits_add ?_ ?_ | refine' PyProof.Rows.bits_sub ?_ ?_ | refine' PyProof.Rows.bits_neg ?_ | refine' PyProof.Rows.bits_ite ?_ ?_ | refine' bits_rnd ?_ | refine' PyProof.Rows.bits_fdiv ?_ | refine' PyProof.Rows.bits_fmod ?_ ?_ | exact Nat.le_refl _)); (case o9 => with_unfolding_all exact rfl)) | exact Una.neg
    | exact Cmp.lt | exact Cmp.le | exact Cmp.gt | exact Cmp.ge | exact Cmp.eq | exact Cmp.ne | exact Cmp.eqB
    | exact ItemOf.lst hm | (with_unfolding_all exact ItemOf.lst (.head _)) | (with_unfolding_all exact ItemOf.lst (.tail _ (.head _))) | exact ItemOf.tup hm | (with_unfolding_all exact ItemOf.tup (.head _))
    | exact Nat.le_trans (Nat.le_of_ble_eq_true rfl) hC | ((show _ ≠ _); first | exact h0 | decide | omega)
        | (refine' Nat.le_trans ?m9 (Nat.le_of_ble_eq_true ?o9); (case m9 => (with_reducible repeat' first | exact b_v | refine' PyProof.Rows.bits_mul ?_ ?_ | refine' PyProof.Rows.bits_add ?_ ?_ | refine' PyProof.Rows.bits_sub ?_ ?_ | refine' PyProof.Rows.bits_neg ?_ | refine' PyProof.Rows.bits_ite ?_ ?_ | refine' bits_rnd ?_ | refine' PyProof.Rows.bits_fdiv ?_ | refine' PyProof.Rows.bits_fmod ?_ ?_ | exact Nat.le_refl _)); (case o9 => with_unfolding_all exact rfl))
    | (with_unfolding_all exact rfl))
  case k9 => with_unfolding_all exact rfl
  case s9 => with_unfolding_all exact rfl
  refine' R.assign (E.fn i_whole_root rfl (k := 1) (ps := [.int (v * 1000000)]) ?vs ?hk ((f_whole_root _ _ (by omega) ?b1).mono fun p η' ⟨⟨r, e1, hr⟩, e2⟩ => ?k2)) rfl
  case vs => (with_reducible repeat' first
    | exact V.int
    | (refine' V.lo ?a9; (case a9 => with_unfolding_all exact rfl))
    | (refine' V.grain ?g9; (case g9 => with_unfolding_all exact rfl)) | (refine' V.lone ?g9; (case g9 => with_unfolding_all exact rfl))
    | refine' V.bin ?_ ?_ ?_
    | refine' V.una ?_ ?_
    | (refine' V.cmp ?_ ?_ ?_ ?d9; (case d9 => with_unfolding_all exact rfl))
    | (refine' W.cmp ?_ ?_ ?_ ?d9; (case d9 => with_unfolding_all exact rfl))
    | refine' V.iti ?_ ?_ ?_
    | (refine' V.abs (g_abs _) ?g9 ?_ ?n9; (case g9 => with_unfolding_all exact rfl); (case n9 => with_unfolding_all exact rfl))
    | refine' V.itc ?_ ?_ ?_
    | exact V.boolc | exact V.nonec | refine' V.bone ?_ | (refine' V.band ?_ (fun _ => ?_)) | (refine' V.bor ?_ (fun _ => ?_)) | (refine' V.not ?_)
    | (refine' W.not ?_) | exact W.and0 | exact W.or0 | (refine' W.and ?_ (fun _ => ?_)) | (refine' W.or ?_ (fun _ => ?_))
    | (refine' W.of ?_ ?d9; (case d9 => with_unfolding_all exact rfl))
    | exact Vs.nil | (refine' Vs.cons ?_ ?n9 ?_; (case n9 => with_unfolding_all exact rfl))
    | exact Bin.add | exact Bin.sub | (refine' Bin.mul (mulB ?m9 ?n9 ?o9); (case m9 => (with_reducible repeat' first | exact b_v | refine' PyProof.Rows.bits_mul ?_ ?_ | refine' PyProof.Rows.bits_add ?_ ?_ | refine' PyProof.Rows.bits_sub ?_ ?_ | refine' PyProof.Rows.bits_neg ?_ | refine' PyProof.Rows.bits_ite ?_ ?_ | refine' bits_rnd ?_ | refine' PyProof.Rows.bits_fdiv ?_ | refine' PyProof.Rows.bits_fmod ?_ ?_ | exact Nat.le_refl _)); (case n9 => (with_reducible repeat' first | exact b_v | refine' PyProof.Rows.bits_mul ?_ ?_ | refine' PyProof.Rows.bits_add ?_ ?_ | refine' PyProof.Rows.bits_sub ?_ ?_ | refine' PyProof.Rows.bits_neg ?_ | refine' PyProof.Rows.bits_ite ?_ ?_ | refine' bits_rnd ?_ | refine' PyProof.Rows.bits_fdiv ?_ | refine' PyProof.Rows.bits_fmod ?_ ?_ | exact Nat.le_refl _)); (case o9 => with_unfolding_all exact rfl)) | (refine' Bin.mod ?m9; (case m9 => first | decide | exact h0 | omega)) | (refine' Bin.fdiv ?m9 (noPyB ?n9 ?o9); (case m9 => first | decide | omega); (case n9 => (with_reducible repeat' first | exact b_v | refine' PyProof.Rows.bits_mul ?_ ?_ | refine' PyProof.Rows.bits_add ?_ ?_ | refine' PyProof.Rows.bits_sub ?_ ?_ | refine' PyProof.Rows.bits_neg ?_ | refine' PyProof.Rows.bits_ite ?_ ?_ | refine' bits_rnd ?_ | refine' PyProof.Rows.bits_fdiv ?_ | refine' PyProof.Rows.bits_fmod ?_ ?_ | exact Nat.le_refl _)); (case o9 => with_unfolding_all exact rfl)) | exact Una.neg
    | exact Cmp.lt | exact Cmp.le | exact Cmp.gt | exact Cmp.ge | exact Cmp.eq | exact Cmp.ne | exact Cmp.eqB
    | exact ItemOf.lst hm | (with_unfolding_all exact ItemOf.lst (.head _)) | (with_unfolding_all exact ItemOf.lst (.tail _ (.head _))) | exact ItemOf.tup hm | (with_unfolding_all exact ItemOf.tup (.head _))
    | exact Nat.le_trans (Nat.le_of_ble_eq_true rfl) hC | ((show _ ≠ _); first | exact h0 | decide | omega)
        | (refine' Nat.le_trans ?m9 (Nat.le_of_ble_eq_true ?o9); (case m9 => (with_reducible repeat' first | exact b_v | refine' PyProof.Rows.bits_mul ?_ ?_ | refine' PyProof.Rows.bits_add ?_ ?_ | refine' PyProof.Rows.bits_sub ?_ ?_ | refine' PyProof.Rows.bits_neg ?_ | refine' PyProof.Rows.bits_ite ?_ ?_ | refine' bits_rnd ?_ | refine' PyProof.Rows.bits_fdiv ?_ | refine' PyProof.Rows.bits_fmod ?_ ?_ | exact Nat.le_refl _)); (case o9 => with_unfolding_all exact rfl))
    | (with_unfolding_all exact rfl))
  case hk => exact Nat.le_trans (Nat.le_of_ble_eq_true rfl) hC
  case b1 => exact Nat.le_trans (PyProof.Rows.bits_mul b_v (Nat.le_refl _)) (by decide)
  subst e1 e2
  have b_r : bits r ≤ 200 := by
    rcases Int.lt_or_le 0 r with h | h
    · exact bits_nn (by omega) (Int.le_trans (le_sq (show 1 ≤ r by omega)) hr.2.1) (Nat.le_trans (PyProof.Rows.bits_mul b_v (Nat.le_refl _)) (by decide))
    · have e : r = 0 := by have := hr.1; omega
      subst e; decide
  refine ⟨_, _, Sto.loc rfl, ?_⟩
  refine' R.ret (E.ite (W.up (b := decide (v * 1000000 - r * r ≤ r)) ?w3 ⟨fun h => V.up (p := .int r) ?v3 (Back.r ⟨⟨r, rfl, scale_low hv hr (of_decide_eq_true h)⟩, rfl⟩), fun h => V.up (p := .int (r + 1)) ?v4 (Back.r ⟨⟨r + 1, rfl, scale_up hv hr (of_decide_eq_false h)⟩, rfl⟩)⟩))
  case w3 => (with_reducible repeat' first
    | exact V.int
    | (refine' V.lo ?a9; (case a9 => with_unfolding_all exact rfl))
    | (refine' V.grain ?g9; (case g9 => with_unfolding_all exact rfl)) | (refine' V.lone ?g9; (case g9 => with_unfolding_all exact rfl))
    | refine' V.bin ?_ ?_ ?_
    | refine' V.una ?_ ?_
    | (refine' V.cmp ?_ ?_ ?_ ?d9; (case d9 => with_unfolding_all exact rfl))
    | (refine' W.cmp ?_ ?_ ?_ ?d9; (case d9 => with_unfolding_all exact rfl))
    | refine' V.iti ?_ ?_ ?_
    | (refine' V.abs (g_abs _) ?g9 ?_ ?n9; (case g9 => with_unfolding_all exact rfl); (case n9 => with_unfolding_all exact rfl))
    | refine' V.itc ?_ ?_ ?_
    | exact V.boolc | exact V.nonec | refine' V.bone ?_ | (refine' V.band ?_ (fun _ => ?_)) | (refine' V.bor ?_ (fun _ => ?_)) | (refine' V.not ?_)
    | (refine' W.not ?_) | exact W.and0 | exact W.or0 | (refine' W.and ?_ (fun _ => ?_)) | (refine' W.or ?_ (fun _ => ?_))
    | (refine' W.of ?_ ?d9; (case d9 => with_unfolding_all exact rfl))
    | exact Vs.nil | (refine' Vs.cons ?_ ?n9 ?_; (case n9 => with_unfolding_all exact rfl))
    | exact Bin.add | exact Bin.sub | (refine' Bin.mul (mulB ?m9 ?n9 ?o9); (case m9 => (with_reducible repeat' first | exact b_v | exact b_r | refine' PyProof.Rows.bits_mul ?_ ?_ | refine' PyProof.Rows.bits_add ?_ ?_ | refine' PyProof.Rows.bits_sub ?_ ?_ | refine' PyProof.Rows.bits_neg ?_ | refine' PyProof.Rows.bits_ite ?_ ?_ | refine' bits_rnd ?_ | refine' PyProof.Rows.bits_fdiv ?_ | refine' PyProof.Rows.bits_fmod ?_ ?_ | exact Nat.le_refl _)); (case n9 => (with_reducible repeat' first | exact b_v | exact b_r | refine' PyProof.Rows.bits_mul ?_ ?_ | refine' PyProof.Rows.bits_add ?_ ?_ | refine' PyProof.Rows.bits_sub ?_ ?_ | refine' PyProof.Rows.bits_neg ?_ | refine' PyProof.Rows.bits_ite ?_ ?_ | refine' bits_rnd ?_ | refine' PyProof.Rows.bits_fdiv ?_ | refine' PyProof.Rows.bits_fmod ?_ ?_ | exact Nat.le_refl _)); (case o9 => with_unfolding_all exact rfl)) | (refine' Bin.mod ?m9; (case m9 => first | decide | exact h0 | omega)) | (refine' Bin.fdiv ?m9 (noPyB ?n9 ?o9); (case m9 => first | decide | omega); (case n9 => (with_reducible repeat' first | exact b_v | exact b_r | refine' PyProof.Rows.bits_mul ?_ ?_ | refine' PyProof.Rows.bits_add ?_ ?_ | refine' PyProof.Rows.bits_sub ?_ ?_ | refine' PyProof.Rows.bits_neg ?_ | refine' PyProof.Rows.bits_ite ?_ ?_ | refine' bits_rnd ?_ | refine' PyProof.Rows.bits_fdiv ?_ | refine' PyProof.Rows.bits_fmod ?_ ?_ | exact Nat.le_refl _)); (case o9 => with_unfolding_all exact rfl)) | exact Una.neg
    | exact Cmp.lt | exact Cmp.le | exact Cmp.gt | exact Cmp.ge | exact Cmp.eq | exact Cmp.ne | exact Cmp.eqB
    | exact ItemOf.lst hm | (with_unfolding_all exact ItemOf.lst (.head _)) | (with_unfolding_all exact ItemOf.lst (.tail _ (.head _))) | exact ItemOf.tup hm | (with_unfolding_all exact ItemOf.tup (.head _))
    | exact Nat.le_trans (Nat.le_of_ble_eq_true rfl) hC | ((show _ ≠ _); first | exact h0 | decide | omega)
        | (refine' Nat.le_trans ?m9 (Nat.le_of_ble_eq_true ?o9); (case m9 => (with_reducible repeat' first | exact b_v | exact b_r | refine' PyProof.Rows.bits_mul ?_ ?_ | refine' PyProof.Rows.bits_add ?_ ?_ | refine' PyProof.Rows.bits_sub ?_ ?_ | refine' PyProof.Rows.bits_neg ?_ | refine' PyProof.Rows.bits_ite ?_ ?_ | refine' bits_rnd ?_ | refine' PyProof.Rows.bits_fdiv ?_ | refine' PyProof.Rows.bits_fmod ?_ ?_ | exact Nat.le_refl _)); (case o9 => with_unfolding_all exact rfl))
    | (with_unfolding_all exact rfl))
  case v3 => (with_reducible repeat' first
    | exact V.int
    | (refine' V.lo ?a9; (case a9 => with_unfolding_all exact rfl))
    | (refine' V.grain ?g9; (case g9 => with_unfolding_all exact rfl)) | (refine' V.lone ?g9; (case g9 => with_unfolding_all exact rfl))
    | refine' V.bin ?_ ?_ ?_
    | refine' V.una ?_ ?_
    | (refine' V.cmp ?_ ?_ ?_ ?d9; (case d9 => with_unfolding_all exact rfl))
    | (refine' W.cmp ?_ ?_ ?_ ?d9; (case d9 => with_unfolding_all exact rfl))
    | refine' V.iti ?_ ?_ ?_
    | (refine' V.abs (g_abs _) ?g9 ?_ ?n9; (case g9 => with_unfolding_all exact rfl); (case n9 => with_unfolding_all exact rfl))
    | refine' V.itc ?_ ?_ ?_
    | exact V.boolc | exact V.nonec | refine' V.bone ?_ | (refine' V.band ?_ (fun _ => ?_)) | (refine' V.bor ?_ (fun _ => ?_)) | (refine' V.not ?_)
    | (refine' W.not ?_) | exact W.and0 | exact W.or0 | (refine' W.and ?_ (fun _ => ?_)) | (refine' W.or ?_ (fun _ => ?_))
    | (refine' W.of ?_ ?d9; (case d9 => with_unfolding_all exact rfl))
    | exact Vs.nil | (refine' Vs.cons ?_ ?n9 ?_; (case n9 => with_unfolding_all exact rfl))
    | exact Bin.add | exact Bin.sub | (refine' Bin.mul (mulB ?m9 ?n9 ?o9); (case m9 => (with_reducible repeat' first | exact b_v | exact b_r | refine' PyProof.Rows.bits_mul ?_ ?_ | refine' PyProof.Rows.bits_add ?_ ?_ | refine' PyProof.Rows.bits_sub ?_ ?_ | refine' PyProof.Rows.bits_neg ?_ | refine' PyProof.Rows.bits_ite ?_ ?_ | refine' bits_rnd ?_ | refine' PyProof.Rows.bits_fdiv ?_ | refine' PyProof.Rows.bits_fmod ?_ ?_ | exact Nat.le_refl _)); (case n9 => (with_reducible repeat' first | exact b_v | exact b_r | refine' PyProof.Rows.bits_mul ?_ ?_ | refine' PyProof.Rows.bits_add ?_ ?_ | refine' PyProof.Rows.bits_sub ?_ ?_ | refine' PyProof.Rows.bits_neg ?_ | refine' PyProof.Rows.bits_ite ?_ ?_ | refine' bits_rnd ?_ | refine' PyProof.Rows.bits_fdiv ?_ | refine' PyProof.Rows.bits_fmod ?_ ?_ | exact Nat.le_refl _)); (case o9 => with_unfolding_all exact rfl)) | (refine' Bin.mod ?m9; (case m9 => first | decide | exact h0 | omega)) | (refine' Bin.fdiv ?m9 (noPyB ?n9 ?o9); (case m9 => first | decide | omega); (case n9 => (with_reducible repeat' first | exact b_v | exact b_r | refine' PyProof.Rows.bits_mul ?_ ?_ | refine' PyProof.Rows.bits_add ?_ ?_ | refine' PyProof.Rows.bits_sub ?_ ?_ | refine' PyProof.Rows.bits_neg ?_ | refine' PyProof.Rows.bits_ite ?_ ?_ | refine' bits_rnd ?_ | refine' PyProof.Rows.bits_fdiv ?_ | refine' PyProof.Rows.bits_fmod ?_ ?_ | exact Nat.le_refl _)); (case o9 => with_unfolding_all exact rfl)) | exact Una.neg
    | exact Cmp.lt | exact Cmp.le | exact Cmp.gt | exact Cmp.ge | exact Cmp.eq | exact Cmp.ne | exact Cmp.eqB
    | exact ItemOf.lst hm | (with_unfolding_all exact ItemOf.lst (.head _)) | (with_unfolding_all exact ItemOf.lst (.tail _ (.head _))) | exact ItemOf.tup hm | (with_unfolding_all exact ItemOf.tup (.head _))
    | exact Nat.le_trans (Nat.le_of_ble_eq_true rfl) hC | ((show _ ≠ _); first | exact h0 | decide | omega)
        | (refine' Nat.le_trans ?m9 (Nat.le_of_ble_eq_true ?o9); (case m9 => (with_reducible repeat' first | exact b_v | exact b_r | refine' PyProof.Rows.bits_mul ?_ ?_ | refine' PyProof.Rows.bits_add ?_ ?_ | refine' PyProof.Rows.bits_sub ?_ ?_ | refine' PyProof.Rows.bits_neg ?_ | refine' PyProof.Rows.bits_ite ?_ ?_ | refine' bits_rnd ?_ | refine' PyProof.Rows.bits_fdiv ?_ | refine' PyProof.Rows.bits_fmod ?_ ?_ | exact Nat.le_refl _)); (case o9 => with_unfolding_all exact rfl))
    | (with_unfolding_all exact rfl))
  case v4 => (with_reducible repeat' first
    | exact V.int
    | (refine' V.lo ?a9; (case a9 => with_unfolding_all exact rfl))
    | (refine' V.grain ?g9; (case g9 => with_unfolding_all exact rfl)) | (refine' V.lone ?g9; (case g9 => with_unfolding_all exact rfl))
    | refine' V.bin ?_ ?_ ?_
    | refine' V.una ?_ ?_
    | (refine' V.cmp ?_ ?_ ?_ ?d9; (case d9 => with_unfolding_all exact rfl))
    | (refine' W.cmp ?_ ?_ ?_ ?d9; (case d9 => with_unfolding_all exact rfl))
    | refine' V.iti ?_ ?_ ?_
    | (refine' V.abs (g_abs _) ?g9 ?_ ?n9; (case g9 => with_unfolding_all exact rfl); (case n9 => with_unfolding_all exact rfl))
    | refine' V.itc ?_ ?_ ?_
    | exact V.boolc | exact V.nonec | refine' V.bone ?_ | (refine' V.band ?_ (fun _ => ?_)) | (refine' V.bor ?_ (fun _ => ?_)) | (refine' V.not ?_)
    | (refine' W.not ?_) | exact W.and0 | exact W.or0 | (refine' W.and ?_ (fun _ => ?_)) | (refine' W.or ?_ (fun _ => ?_))
    | (refine' W.of ?_ ?d9; (case d9 => with_unfolding_all exact rfl))
    | exact Vs.nil | (refine' Vs.cons ?_ ?n9 ?_; (case n9 => with_unfolding_all exact rfl))
    | exact Bin.add | exact Bin.sub | (refine' Bin.mul (mulB ?m9 ?n9 ?o9); (case m9 => (with_reducible repeat' first | exact b_v | exact b_r | refine' PyProof.Rows.bits_mul ?_ ?_ | refine' PyProof.Rows.bits_add ?_ ?_ | refine' PyProof.Rows.bits_sub ?_ ?_ | refine' PyProof.Rows.bits_neg ?_ | refine' PyProof.Rows.bits_ite ?_ ?_ | refine' bits_rnd ?_ | refine' PyProof.Rows.bits_fdiv ?_ | refine' PyProof.Rows.bits_fmod ?_ ?_ | exact Nat.le_refl _)); (case n9 => (with_reducible repeat' first | exact b_v | exact b_r | refine' PyProof.Rows.bits_mul ?_ ?_ | refine' PyProof.Rows.bits_add ?_ ?_ | refine' PyProof.Rows.bits_sub ?_ ?_ | refine' PyProof.Rows.bits_neg ?_ | refine' PyProof.Rows.bits_ite ?_ ?_ | refine' bits_rnd ?_ | refine' PyProof.Rows.bits_fdiv ?_ | refine' PyProof.Rows.bits_fmod ?_ ?_ | exact Nat.le_refl _)); (case o9 => with_unfolding_all exact rfl)) | (refine' Bin.mod ?m9; (case m9 => first | decide | exact h0 | omega)) | (refine' Bin.fdiv ?m9 (noPyB ?n9 ?o9); (case m9 => first | decide | omega); (case n9 => (with_reducible repeat' first | exact b_v | exact b_r | refine' PyProof.Rows.bits_mul ?_ ?_ | refine' PyProof.Rows.bits_add ?_ ?_ | refine' PyProof.Rows.bits_sub ?_ ?_ | refine' PyProof.Rows.bits_neg ?_ | refine' PyProof.Rows.bits_ite ?_ ?_ | refine' bits_rnd ?_ | refine' PyProof.Rows.bits_fdiv ?_ | refine' PyProof.Rows.bits_fmod ?_ ?_ | exact Nat.le_refl _)); (case o9 => with_unfolding_all exact rfl)) | exact Una.neg
    | exact Cmp.lt | exact Cmp.le | exact Cmp.gt | exact Cmp.ge | exact Cmp.eq | exact Cmp.ne | exact Cmp.eqB
    | exact ItemOf.lst hm | (with_unfolding_all exact ItemOf.lst (.head _)) | (with_unfolding_all exact ItemOf.lst (.tail _ (.head _))) | exact ItemOf.tup hm | (with_unfolding_all exact ItemOf.tup (.head _))
    | exact Nat.le_trans (Nat.le_of_ble_eq_true rfl) hC | ((show _ ≠ _); first | exact h0 | decide | omega)
        | (refine' Nat.le_trans ?m9 (Nat.le_of_ble_eq_true ?o9); (case m9 => (with_reducible repeat' first | exact b_v | exact b_r | refine' PyProof.Rows.bits_mul ?_ ?_ | refine' PyProof.Rows.bits_add ?_ ?_ | refine' PyProof.Rows.bits_sub ?_ ?_ | refine' PyProof.Rows.bits_neg ?_ | refine' PyProof.Rows.bits_ite ?_ ?_ | refine' bits_rnd ?_ | refine' PyProof.Rows.bits_fdiv ?_ | refine' PyProof.Rows.bits_fmod ?_ ?_ | exact Nat.le_refl _)); (case o9 => with_unfolding_all exact rfl))
    | (with_unfolding_all exact rfl))
section
variable {η : Hp} {a : Addr} {m0 m1 m2 m3 m4 m5 : Int}
theorem rnd_nn (n b : Int) (hn : 0 ≤ n) (hb : 0 < b) : 0 ≤ rnd n b := by
  unfold rnd
  rw [if_pos (by rw [eq_iff_iff]; omega)]
  exact Int.natCast_nonneg _
theorem f_scale (hm : (a, HO.lst (intL [m0, m1, m2, m3, m4, m5])) ∈ η) (b_m0 : bits m0 ≤ 40) (b_m1 : bits m1 ≤ 40) (b_m2 : bits m2 ≤ 40) (b_m3 : bits m3 ≤ 40) : Fn 164 3 [.ref a] η fun p η' => (∃ r, p = .int r ∧ IsScale (rnd (((m0 * m3 - m1 * m2).natAbs : Nat) : Int) 1000000) r) ∧ η' = η := by
  refine' Fn.enter1 "m" (fun P => ?ho) (fun P => ?hcd) (fun s v1 => ?hb) ?he ?h
  case ho => exact rfl
  case hcd => kernel_rfl
  case hb => exact BindsTo.of_eq rfl
  case he => rfl
  intro C hC
  refine' R.as1 ?v9 ?k9 ?s9 ?_
  case v9 => (with_reducible repeat' first
    | exact V.int
    | (refine' V.lo ?a9; (case a9 => with_unfolding_all exact rfl))
    | (refine' V.grain ?g9; (case g9 => with_unfolding_all exact rfl)) | (refine' V.lone ?g9; (case g9 => with_unfolding_all exact rfl))
    | refine' V.bin ?_ ?_ ?_
    | refine' V.una ?_ ?_
    | (refine' V.cmp ?_ ?_ ?_ ?d9; (case d9 => with_unfolding_all exact rfl))
    | (refine' W.cmp ?_ ?_ ?_ ?d9; (case d9 => with_unfolding_all exact rfl))
    | refine' V.iti ?_ ?_ ?_
    | (refine' V.abs (g_abs _) ?g9 ?_ ?n9; (case g9 => with_unfolding_all exact rfl); (case n9 => with_unfolding_all exact rfl))
    | refine' V.itc ?_ ?_ ?_
    | exact V.boolc | exact V.nonec | refine' V.bone ?_ | (refine' V.band ?_ (fun _ => ?_)) | (refine' V.bor ?_ (fun _ => ?_)) | (refine' V.not ?_)
    | (refine' W.not ?_) | exact W.and0 | exact W.or0 | (refine' W.and ?_ (fun _ => ?_)) | (refine' W.or ?_ (fun _ => ?_))
    | (refine' W.of ?_ ?d9; (case d9 => with_unfolding_all exact rfl))
    | exact Vs.nil | (refine' Vs.cons ?_ ?n9 ?_; (case n9 => with_unfolding_all exact rfl))
    | exact Bin.add | exact Bin.sub | (refine' Bin.mul (mulB ?m9 ?n9 ?o9); (case m9 => (with_reducible repeat' first | exact b_m0 | exact b_m1 | exact b_m2 | exact b_m3 | refine' PyProof.Rows.bits_mul ?_ ?_ | refine' PyProof.Rows.bits_add ?_ ?_ | refine' PyProof.Rows.bits_sub ?_ ?_ | refine' PyProof.Rows.bits_neg ?_ | refine' PyProof.Rows.bits_ite ?_ ?_ | refine' bits_rnd ?_ | refine' PyProof.Rows.bits_fdiv ?_ | refine' PyProof.Rows.bits_fmod ?_ ?_ | exact Nat.le_refl _)); (case n9 => (with_reducible repeat' first | exact b_m0 | exact b_m1 | exact b_m2 | exact b_m3 | refine' PyProof.Rows.bits_mul ?_ ?_ | refine' PyProof.Rows.bits_add ?_ ?_ | refine' PyProof.Rows.bits_sub ?_ ?_ | refine' PyProof.Rows.bits_neg ?_ | refine' PyProof.Rows.bits_ite ?_ ?_ | refine' bits_rnd ?_ | refine' PyProof.Rows.bits_fdiv ?_ | refine' PyProof.Rows.bits_fmod ?_ ?_ | exact Nat.le_refl _)); (case o9 => with_unfolding_all exact rfl)) | (refine' Bin.mod ?m9; (case m9 => first | decide | exact h0 | omega)) | (refine' Bin.fdiv ?m9 (noPyB ?n9 ?o9); (case m9 => first | decide | omega); (case n9 => (with_reducible repeat' first | exact b_m0 | exact b_m1 | exact b_m2 | exact b_m3 | refine' PyProof.Rows.bits_mul ?_ ?_ | refine' PyProof.Rows.bits_add ?_ ?_ | refine' PyProof.Rows.bits_sub ?_ ?_ | refine' PyProof.Rows.bits_neg ?_ | refine' PyProof.Rows.bits_ite ?_ ?_ | refine' bits_rnd ?_ | refine' PyProof.Rows.bits_fdiv ?_ | refine' PyProof.Rows.bits_fmod ?_ ?_ | exact Nat.le_refl _)); (case o9 => with_unfolding_all exact rfl)) | exact Una.neg
    | exact Cmp.lt | exact Cmp.le | exact Cmp.gt | exact Cmp.ge | exact Cmp.eq | exact Cmp.ne | exact Cmp.eqB
    | exact ItemOf.lst hm | (with_unfolding_all exact ItemOf.lst (.head _)) | (with_unfolding_all exact ItemOf.lst (.tail _ (.head _))) | exact ItemOf.tup hm | (with_unfolding_all exact ItemOf.tup (.head _))
    | exact Nat.le_trans (Nat.le_of_ble_eq_true rfl) hC | ((show _ ≠ _); first | exact h0 | decide | omega)
        | (refine' Nat.le_trans ?m9 (Nat.le_of_ble_eq_true ?o9); (case m9 => (with_reducible repeat' first | exact b_m0 | exact b_m1 | exact b_m2 | exact b_m3 | refine' PyProof.Rows.bits_mul ?_ ?_ | refine' PyProof.Rows.bits_add ?_ ?_ | refine' PyProof.Rows.bits_sub ?_ ?_ | refine' PyProof.Rows.bits_neg ?_ | refine' PyProof.Rows.bits_ite ?_ ?_ | refine' bits_rnd ?_ | refine' PyProof.Rows.bits_fdiv ?_ | refine' PyProof.Rows.bits_fmod ?_ ?_ | exact Nat.le_refl _)); (case o9 => with_unfolding_all exact rfl))
    | (refine' V.call i_divided ?g9 ?_ ?_ (f_divided _ _ _ ?_ ?_ ?_); (case g9 => with_unfolding_all exact rfl))
    | (refine' V.call i_determinant ?g9 ?_ ?_ (f_determinant ?_ ?_ ?_ ?_ ?_); (case g9 => with_unfolding_all exact rfl))
    | exact hm
    | (with_unfolding_all exact rfl))
  case k9 => with_unfolding_all exact rfl
  case s9 => with_unfolding_all exact rfl
  have e : (if decide (0 ≤ m0 * m3 - m1 * m2) = true then m0 * m3 - m1 * m2 else -(m0 * m3 - m1 * m2)) = (((m0 * m3 - m1 * m2).natAbs : Nat) : Int) := by
    by_cases h : 0 ≤ m0 * m3 - m1 * m2
    · rw [if_pos (by simpa using h)]; omega
    · rw [if_neg (by simpa using h)]; omega
  have b_d : bits (m0 * m3 - m1 * m2) ≤ 81 := PyProof.Rows.bits_sub (PyProof.Rows.bits_mul b_m0 b_m3) (PyProof.Rows.bits_mul b_m1 b_m2)
  generalize m0 * m3 - m1 * m2 = d at *
  refine' R.ret (E.fn i_root rfl (k := 2) (ps := [.int (rnd (if decide (0 ≤ d) = true then d else -d) 1000000)]) ?vs ?hk ?k)
  case vs => (with_reducible repeat' first
    | exact V.int
    | (refine' V.lo ?a9; (case a9 => with_unfolding_all exact rfl))
    | (refine' V.grain ?g9; (case g9 => with_unfolding_all exact rfl)) | (refine' V.lone ?g9; (case g9 => with_unfolding_all exact rfl))
    | refine' V.bin ?_ ?_ ?_
    | refine' V.una ?_ ?_
    | (refine' V.cmp ?_ ?_ ?_ ?d9; (case d9 => with_unfolding_all exact rfl))
    | (refine' W.cmp ?_ ?_ ?_ ?d9; (case d9 => with_unfolding_all exact rfl))
    | refine' V.iti ?_ ?_ ?_
    | (refine' V.abs (g_abs _) ?g9 ?_ ?n9; (case g9 => with_unfolding_all exact rfl); (case n9 => with_unfolding_all exact rfl))
    | refine' V.itc ?_ ?_ ?_
    | exact V.boolc | exact V.nonec | refine' V.bone ?_ | (refine' V.band ?_ (fun _ => ?_)) | (refine' V.bor ?_ (fun _ => ?_)) | (refine' V.not ?_)
    | (refine' W.not ?_) | exact W.and0 | exact W.or0 | (refine' W.and ?_ (fun _ => ?_)) | (refine' W.or ?_ (fun _ => ?_))
    | (refine' W.of ?_ ?d9; (case d9 => with_unfolding_all exact rfl))
    | exact Vs.nil | (refine' Vs.cons ?_ ?n9 ?_; (case n9 => with_unfolding_all exact rfl))
    | exact Bin.add | exact Bin.sub | (refine' Bin.mul (mulB ?m9 ?n9 ?o9); (case m9 => (with_reducible repeat' first | exact b_m0 | exact b_m1 | exact b_m2 | exact b_m3 | exact b_d | refine' PyProof.Rows.bits_mul ?_ ?_ | refine' PyProof.Rows.bits_add ?_ ?_ | refine' PyProof.Rows.bits_sub ?_ ?_ | refine' PyProof.Rows.bits_neg ?_ | refine' PyProof.Rows.bits_ite ?_ ?_ | refine' bits_rnd ?_ | refine' PyProof.Rows.bits_fdiv ?_ | refine' PyProof.Rows.bits_fmod ?_ ?_ | exact Nat.le_refl _)); (case n9 => (with_reducible repeat' first | exact b_m0 | exact b_m1 | exact b_m2 | exact b_m3 | exact b_d | refine' PyProof.Rows.bits_mul ?_ ?_ | refine' PyProof.Rows.bits_add ?_ ?_ | refine' PyProof.Rows.bits_sub ?_ ?_ | refine' PyProof.Rows.bits_neg ?_ | refine' PyProof.Rows.bits_ite ?_ ?_ | refine' bits_rnd ?_ | refine' PyProof.Rows.bits_fdiv ?_ | refine' PyProof.Rows.bits_fmod ?_ ?_ | exact Nat.le_refl _)); (case o9 => with_unfolding_all exact rfl)) | (refine' Bin.mod ?m9; (case m9 => first | decide | exact h0 | omega)) | (refine' Bin.fdiv ?m9 (noPyB ?n9 ?o9); (case m9 => first | decide | omega); (case n9 => (with_reducible repeat' first | exact b_m0 | exact b_m1 | exact b_m2 | exact b_m3 | exact b_d | refine' PyProof.Rows.bits_mul ?_ ?_ | refine' PyProof.Rows.bits_add ?_ ?_ | refine' PyProof.Rows.bits_sub ?_ ?_ | refine' PyProof.Rows.bits_neg ?_ | refine' PyProof.Rows.bits_ite ?_ ?_ | refine' bits_rnd ?_ | refine' PyProof.Rows.bits_fdiv ?_ | refine' PyProof.Rows.bits_fmod ?_ ?_ | exact Nat.le_refl _)); (case o9 => with_unfolding_all exact rfl)) | exact Una.neg
    | exact Cmp.lt | exact Cmp.le | exact Cmp.gt | exact Cmp.ge | exact Cmp.eq | exact Cmp.ne | exact Cmp.eqB
    | exact ItemOf.lst hm | (with_unfolding_all exact ItemOf.lst (.head _)) | (with_unfolding_all exact ItemOf.lst (.tail _ (.head _))) | exact ItemOf.tup hm | (with_unfolding_all exact ItemOf.tup (.head _))
    | exact Nat.le_trans (Nat.le_of_ble_eq_true rfl) hC | ((show _ ≠ _); first | exact h0 | decide | omega)
        | (refine' Nat.le_trans ?m9 (Nat.le_of_ble_eq_true ?o9); (case m9 => (with_reducible repeat' first | exact b_m0 | exact b_m1 | exact b_m2 | exact b_m3 | exact b_d | refine' PyProof.Rows.bits_mul ?_ ?_ | refine' PyProof.Rows.bits_add ?_ ?_ | refine' PyProof.Rows.bits_sub ?_ ?_ | refine' PyProof.Rows.bits_neg ?_ | refine' PyProof.Rows.bits_ite ?_ ?_ | refine' bits_rnd ?_ | refine' PyProof.Rows.bits_fdiv ?_ | refine' PyProof.Rows.bits_fmod ?_ ?_ | exact Nat.le_refl _)); (case o9 => with_unfolding_all exact rfl))
    | (refine' V.call i_divided ?g9 ?_ ?_ (f_divided _ _ _ ?_ ?_ ?_); (case g9 => with_unfolding_all exact rfl))
    | (refine' V.call i_determinant ?g9 ?_ ?_ (f_determinant ?_ ?_ ?_ ?_ ?_); (case g9 => with_unfolding_all exact rfl))
    | exact hm
    | (with_unfolding_all exact rfl))
  case hk => exact Nat.le_trans (Nat.le_of_ble_eq_true rfl) hC
  rw [e]
  exact (f_root η _ (rnd_nn _ _ (Int.natCast_nonneg _) (by decide)) (Nat.le_trans (bits_rnd (PyProof.Rows.bits_of_natAbs_le (by omega) b_d)) (by decide))).mono fun p η' h => Back.r h
theorem f_length (η : Hp) (x y : Int) (b_x : bits x ≤ 90) (b_y : bits y ≤ 90) : Fn 178 2 [.int x, .int y] η fun p η' => (∃ r, p = .int r ∧ IsRoot (x * x + y * y) r) ∧ η' = η := by
  refine' Fn.enter2 "x" "y" (fun P => ?ho) (fun P => ?hcd) (fun s v1 v2 => ?hb) ?he ?h
  case ho => exact rfl
  case hcd => kernel_rfl
  case hb => exact BindsTo.of_eq rfl
  case he => rfl
  intro C hC
  have sq : ∀ z : Int, 0 ≤ z * z := fun z => by
    rcases Int.le_total 0 z with h | h
    · exact Int.mul_nonneg h h
    · exact Int.mul_nonneg_of_nonpos_of_nonpos h h
  have h1 := sq x
  have h2 := sq y
  refine' R.ret (E.fn i_matrix_root rfl (k := 1) (ps := [.int (x * x + y * y)]) ?vs ?hk ((f_matrix_root η _ (by omega) ?b1).mono fun p η' h => Back.r h))
  case vs => (with_reducible repeat' first
    | exact V.int
    | (refine' V.lo ?a9; (case a9 => with_unfolding_all exact rfl))
    | (refine' V.grain ?g9; (case g9 => with_unfolding_all exact rfl)) | (refine' V.lone ?g9; (case g9 => with_unfolding_all exact rfl))
    | refine' V.bin ?_ ?_ ?_
    | refine' V.una ?_ ?_
    | (refine' V.cmp ?_ ?_ ?_ ?d9; (case d9 => with_unfolding_all exact rfl))
    | (refine' W.cmp ?_ ?_ ?_ ?d9; (case d9 => with_unfolding_all exact rfl))
    | refine' V.iti ?_ ?_ ?_
    | (refine' V.abs (g_abs _) ?g9 ?_ ?n9; (case g9 => with_unfolding_all exact rfl); (case n9 => with_unfolding_all exact rfl))
    | refine' V.itc ?_ ?_ ?_
    | exact V.boolc | exact V.nonec | refine' V.bone ?_ | (refine' V.band ?_ (fun _ => ?_)) | (refine' V.bor ?_ (fun _ => ?_)) | (refine' V.not ?_)
    | (refine' W.not ?_) | exact W.and0 | exact W.or0 | (refine' W.and ?_ (fun _ => ?_)) | (refine' W.or ?_ (fun _ => ?_))
    | (refine' W.of ?_ ?d9; (case d9 => with_unfolding_all exact rfl))
    | exact Vs.nil | (refine' Vs.cons ?_ ?n9 ?_; (case n9 => with_unfolding_all exact rfl))
    | exact Bin.add | exact Bin.sub | (refine' Bin.mul (mulB ?m9 ?n9 ?o9); (case m9 => (with_reducible repeat' first | exact b_x | exact b_y | refine' PyProof.Rows.bits_mul ?_ ?_ | refine' PyProof.Rows.bits_add ?_ ?_ | refine' PyProof.Rows.bits_sub ?_ ?_ | refine' PyProof.Rows.bits_neg ?_ | refine' PyProof.Rows.bits_ite ?_ ?_ | refine' bits_rnd ?_ | refine' PyProof.Rows.bits_fdiv ?_ | refine' PyProof.Rows.bits_fmod ?_ ?_ | exact Nat.le_refl _)); (case n9 => (with_reducible repeat' first | exact b_x | exact b_y | refine' PyProof.Rows.bits_mul ?_ ?_ | refine' PyProof.Rows.bits_add ?_ ?_ | refine' PyProof.Rows.bits_sub ?_ ?_ | refine' PyProof.Rows.bits_neg ?_ | refine' PyProof.Rows.bits_ite ?_ ?_ | refine' bits_rnd ?_ | refine' PyProof.Rows.bits_fdiv ?_ | refine' PyProof.Rows.bits_fmod ?_ ?_ | exact Nat.le_refl _)); (case o9 => with_unfolding_all exact rfl)) | (refine' Bin.mod ?m9; (case m9 => first | decide | exact h0 | omega)) | (refine' Bin.fdiv ?m9 (noPyB ?n9 ?o9); (case m9 => first | decide | omega); (case n9 => (with_reducible repeat' first | exact b_x | exact b_y | refine' PyProof.Rows.bits_mul ?_ ?_ | refine' PyProof.Rows.bits_add ?_ ?_ | refine' PyProof.Rows.bits_sub ?_ ?_ | refine' PyProof.Rows.bits_neg ?_ | refine' PyProof.Rows.bits_ite ?_ ?_ | refine' bits_rnd ?_ | refine' PyProof.Rows.bits_fdiv ?_ | refine' PyProof.Rows.bits_fmod ?_ ?_ | exact Nat.le_refl _)); (case o9 => with_unfolding_all exact rfl)) | exact Una.neg
    | exact Cmp.lt | exact Cmp.le | exact Cmp.gt | exact Cmp.ge | exact Cmp.eq | exact Cmp.ne | exact Cmp.eqB
    | exact ItemOf.lst hm | (with_unfolding_all exact ItemOf.lst (.head _)) | (with_unfolding_all exact ItemOf.lst (.tail _ (.head _))) | exact ItemOf.tup hm | (with_unfolding_all exact ItemOf.tup (.head _))
    | exact Nat.le_trans (Nat.le_of_ble_eq_true rfl) hC | ((show _ ≠ _); first | exact h0 | decide | omega)
        | (refine' Nat.le_trans ?m9 (Nat.le_of_ble_eq_true ?o9); (case m9 => (with_reducible repeat' first | exact b_x | exact b_y | refine' PyProof.Rows.bits_mul ?_ ?_ | refine' PyProof.Rows.bits_add ?_ ?_ | refine' PyProof.Rows.bits_sub ?_ ?_ | refine' PyProof.Rows.bits_neg ?_ | refine' PyProof.Rows.bits_ite ?_ ?_ | refine' bits_rnd ?_ | refine' PyProof.Rows.bits_fdiv ?_ | refine' PyProof.Rows.bits_fmod ?_ ?_ | exact Nat.le_refl _)); (case o9 => with_unfolding_all exact rfl))
    | (refine' V.call i_divided ?g9 ?_ ?_ (f_divided _ _ _ ?_ ?_ ?_); (case g9 => with_unfolding_all exact rfl))
    | (refine' V.call i_determinant ?g9 ?_ ?_ (f_determinant ?_ ?_ ?_ ?_ ?_); (case g9 => with_unfolding_all exact rfl))
    | exact hm
    | exact b_x
    | (with_unfolding_all exact rfl))
  case hk => exact Nat.le_trans (Nat.le_of_ble_eq_true rfl) hC
  case b1 => exact Nat.le_trans (PyProof.Rows.bits_add (PyProof.Rows.bits_mul b_x b_x) (PyProof.Rows.bits_mul b_y b_y)) (by decide)
theorem f_stretch (x y : Int) (hm : (a, HO.lst (intL [m0, m1, m2, m3, m4, m5])) ∈ η) (b_m0 : bits m0 ≤ 40) (b_m1 : bits m1 ≤ 40) (b_m2 : bits m2 ≤ 40) (b_m3 : bits m3 ≤ 40) (b_x : bits x ≤ 40) (b_y : bits y ≤ 40) :
    Fn 171 3 [.ref a, .int x, .int y] η fun p η' => (∃ r, p = .int r ∧ IsRoot (rnd (m0 * x + m2 * y) 1000000 * rnd (m0 * x + m2 * y) 1000000 + rnd (m1 * x + m3 * y) 1000000 * rnd (m1 * x + m3 * y) 1000000) r) ∧ η' = η := by
  refine' Fn.enter3 "m" "x" "y" (fun P => ?ho) (fun P => ?hcd) (fun s v1 v2 v3 => ?hb) ?he ?h
  case ho => exact rfl
  case hcd => kernel_rfl
  case hb => exact BindsTo.of_eq rfl
  case he => rfl
  intro C hC
  have b_p : bits (rnd (m0 * x + m2 * y) 1000000) ≤ 82 := bits_rnd (PyProof.Rows.bits_add (PyProof.Rows.bits_mul b_m0 b_x) (PyProof.Rows.bits_mul b_m2 b_y))
  have b_q : bits (rnd (m1 * x + m3 * y) 1000000) ≤ 82 := bits_rnd (PyProof.Rows.bits_add (PyProof.Rows.bits_mul b_m1 b_x) (PyProof.Rows.bits_mul b_m3 b_y))
  refine' R.tupU ["along", "across"] [("along", _), ("across", _)] (E.fn i_delta_transform rfl (k := 2) (ps := [.ref a, .int x, .int y]) ?vs ?hk ((f_delta x y hm b_m0 b_m1 b_m2 b_m3 b_x b_y).on fun l => ⟨_, _, rfl, .head _, rfl, _, _, .cons (Sto.loc rfl) (.cons (Sto.loc rfl) .nil), R.drop ?_⟩)) rfl rfl rfl rfl
  case vs => (with_reducible repeat' first
    | exact V.int
    | (refine' V.lo ?a9; (case a9 => with_unfolding_all exact rfl))
    | (refine' V.grain ?g9; (case g9 => with_unfolding_all exact rfl)) | (refine' V.lone ?g9; (case g9 => with_unfolding_all exact rfl))
    | refine' V.bin ?_ ?_ ?_
    | refine' V.una ?_ ?_
    | (refine' V.cmp ?_ ?_ ?_ ?d9; (case d9 => with_unfolding_all exact rfl))
    | (refine' W.cmp ?_ ?_ ?_ ?d9; (case d9 => with_unfolding_all exact rfl))
    | refine' V.iti ?_ ?_ ?_
    | (refine' V.abs (g_abs _) ?g9 ?_ ?n9; (case g9 => with_unfolding_all exact rfl); (case n9 => with_unfolding_all exact rfl))
    | refine' V.itc ?_ ?_ ?_
    | exact V.boolc | exact V.nonec | refine' V.bone ?_ | (refine' V.band ?_ (fun _ => ?_)) | (refine' V.bor ?_ (fun _ => ?_)) | (refine' V.not ?_)
    | (refine' W.not ?_) | exact W.and0 | exact W.or0 | (refine' W.and ?_ (fun _ => ?_)) | (refine' W.or ?_ (fun _ => ?_))
    | (refine' W.of ?_ ?d9; (case d9 => with_unfolding_all exact rfl))
    | exact Vs.nil | (refine' Vs.cons ?_ ?n9 ?_; (case n9 => with_unfolding_all exact rfl))
    | exact Bin.add | exact Bin.sub | (refine' Bin.mul (mulB ?m9 ?n9 ?o9); (case m9 => (with_reducible repeat' first | exact b_m0 | exact b_m1 | exact b_m2 | exact b_m3 | exact b_x | exact b_y | exact b_p | exact b_q | refine' PyProof.Rows.bits_mul ?_ ?_ | refine' PyProof.Rows.bits_add ?_ ?_ | refine' PyProof.Rows.bits_sub ?_ ?_ | refine' PyProof.Rows.bits_neg ?_ | refine' PyProof.Rows.bits_ite ?_ ?_ | refine' bits_rnd ?_ | refine' PyProof.Rows.bits_fdiv ?_ | refine' PyProof.Rows.bits_fmod ?_ ?_ | exact Nat.le_refl _)); (case n9 => (with_reducible repeat' first | exact b_m0 | exact b_m1 | exact b_m2 | exact b_m3 | exact b_x | exact b_y | exact b_p | exact b_q | refine' PyProof.Rows.bits_mul ?_ ?_ | refine' PyProof.Rows.bits_add ?_ ?_ | refine' PyProof.Rows.bits_sub ?_ ?_ | refine' PyProof.Rows.bits_neg ?_ | refine' PyProof.Rows.bits_ite ?_ ?_ | refine' bits_rnd ?_ | refine' PyProof.Rows.bits_fdiv ?_ | refine' PyProof.Rows.bits_fmod ?_ ?_ | exact Nat.le_refl _)); (case o9 => with_unfolding_all exact rfl)) | (refine' Bin.mod ?m9; (case m9 => first | decide | exact h0 | omega)) | (refine' Bin.fdiv ?m9 (noPyB ?n9 ?o9); (case m9 => first | decide | omega); (case n9 => (with_reducible repeat' first | exact b_m0 | exact b_m1 | exact b_m2 | exact b_m3 | exact b_x | exact b_y | exact b_p | exact b_q | refine' PyProof.Rows.bits_mul ?_ ?_ | refine' PyProof.Rows.bits_add ?_ ?_ | refine' PyProof.Rows.bits_sub ?_ ?_ | refine' PyProof.Rows.bits_neg ?_ | refine' PyProof.Rows.bits_ite ?_ ?_ | refine' bits_rnd ?_ | refine' PyProof.Rows.bits_fdiv ?_ | refine' PyProof.Rows.bits_fmod ?_ ?_ | exact Nat.le_refl _)); (case o9 => with_unfolding_all exact rfl)) | exact Una.neg
    | exact Cmp.lt | exact Cmp.le | exact Cmp.gt | exact Cmp.ge | exact Cmp.eq | exact Cmp.ne | exact Cmp.eqB
    | exact ItemOf.lst hm | (with_unfolding_all exact ItemOf.lst (.head _)) | (with_unfolding_all exact ItemOf.lst (.tail _ (.head _))) | exact ItemOf.tup hm | (with_unfolding_all exact ItemOf.tup (.head _))
    | exact Nat.le_trans (Nat.le_of_ble_eq_true rfl) hC | ((show _ ≠ _); first | exact h0 | decide | omega)
        | (refine' Nat.le_trans ?m9 (Nat.le_of_ble_eq_true ?o9); (case m9 => (with_reducible repeat' first | exact b_m0 | exact b_m1 | exact b_m2 | exact b_m3 | exact b_x | exact b_y | exact b_p | exact b_q | refine' PyProof.Rows.bits_mul ?_ ?_ | refine' PyProof.Rows.bits_add ?_ ?_ | refine' PyProof.Rows.bits_sub ?_ ?_ | refine' PyProof.Rows.bits_neg ?_ | refine' PyProof.Rows.bits_ite ?_ ?_ | refine' bits_rnd ?_ | refine' PyProof.Rows.bits_fdiv ?_ | refine' PyProof.Rows.bits_fmod ?_ ?_ | exact Nat.le_refl _)); (case o9 => with_unfolding_all exact rfl))
    | (refine' V.call i_divided ?g9 ?_ ?_ (f_divided _ _ _ ?_ ?_ ?_); (case g9 => with_unfolding_all exact rfl))
    | (refine' V.call i_determinant ?g9 ?_ ?_ (f_determinant ?_ ?_ ?_ ?_ ?_); (case g9 => with_unfolding_all exact rfl))
    | exact hm
    | exact b_x
    | (with_unfolding_all exact rfl))
  case hk => exact Nat.le_trans (Nat.le_of_ble_eq_true rfl) hC
  generalize rnd (m0 * x + m2 * y) 1000000 = u at *
  generalize rnd (m1 * x + m3 * y) 1000000 = v at *
  refine' R.ret (E.fn i_matrix_length rfl (k := 2) (ps := [.int u, .int v]) ?vs2 ?hk2 ((f_length η u v (Nat.le_trans b_p (by decide)) (Nat.le_trans b_q (by decide))).mono fun p η' h => Back.r h))
  case vs2 => (with_reducible repeat' first
    | exact V.int
    | (refine' V.lo ?a9; (case a9 => with_unfolding_all exact rfl))
    | (refine' V.grain ?g9; (case g9 => with_unfolding_all exact rfl)) | (refine' V.lone ?g9; (case g9 => with_unfolding_all exact rfl))
    | refine' V.bin ?_ ?_ ?_
    | refine' V.una ?_ ?_
    | (refine' V.cmp ?_ ?_ ?_ ?d9; (case d9 => with_unfolding_all exact rfl))
    | (refine' W.cmp ?_ ?_ ?_ ?d9; (case d9 => with_unfolding_all exact rfl))
    | refine' V.iti ?_ ?_ ?_
    | (refine' V.abs (g_abs _) ?g9 ?_ ?n9; (case g9 => with_unfolding_all exact rfl); (case n9 => with_unfolding_all exact rfl))
    | refine' V.itc ?_ ?_ ?_
    | exact V.boolc | exact V.nonec | refine' V.bone ?_ | (refine' V.band ?_ (fun _ => ?_)) | (refine' V.bor ?_ (fun _ => ?_)) | (refine' V.not ?_)
    | (refine' W.not ?_) | exact W.and0 | exact W.or0 | (refine' W.and ?_ (fun _ => ?_)) | (refine' W.or ?_ (fun _ => ?_))
    | (refine' W.of ?_ ?d9; (case d9 => with_unfolding_all exact rfl))
    | exact Vs.nil | (refine' Vs.cons ?_ ?n9 ?_; (case n9 => with_unfolding_all exact rfl))
    | exact Bin.add | exact Bin.sub | (refine' Bin.mul (mulB ?m9 ?n9 ?o9); (case m9 => (with_reducible repeat' first | exact b_m0 | exact b_m1 | exact b_m2 | exact b_m3 | exact b_x | exact b_y | exact b_p | exact b_q | refine' PyProof.Rows.bits_mul ?_ ?_ | refine' PyProof.Rows.bits_add ?_ ?_ | refine' PyProof.Rows.bits_sub ?_ ?_ | refine' PyProof.Rows.bits_neg ?_ | refine' PyProof.Rows.bits_ite ?_ ?_ | refine' bits_rnd ?_ | refine' PyProof.Rows.bits_fdiv ?_ | refine' PyProof.Rows.bits_fmod ?_ ?_ | exact Nat.le_refl _)); (case n9 => (with_reducible repeat' first | exact b_m0 | exact b_m1 | exact b_m2 | exact b_m3 | exact b_x | exact b_y | exact b_p | exact b_q | refine' PyProof.Rows.bits_mul ?_ ?_ | refine' PyProof.Rows.bits_add ?_ ?_ | refine' PyProof.Rows.bits_sub ?_ ?_ | refine' PyProof.Rows.bits_neg ?_ | refine' PyProof.Rows.bits_ite ?_ ?_ | refine' bits_rnd ?_ | refine' PyProof.Rows.bits_fdiv ?_ | refine' PyProof.Rows.bits_fmod ?_ ?_ | exact Nat.le_refl _)); (case o9 => with_unfolding_all exact rfl)) | (refine' Bin.mod ?m9; (case m9 => first | decide | exact h0 | omega)) | (refine' Bin.fdiv ?m9 (noPyB ?n9 ?o9); (case m9 => first | decide | omega); (case n9 => (with_reducible repeat' first | exact b_m0 | exact b_m1 | exact b_m2 | exact b_m3 | exact b_x | exact b_y | exact b_p | exact b_q | refine' PyProof.Rows.bits_mul ?_ ?_ | refine' PyProof.Rows.bits_add ?_ ?_ | refine' PyProof.Rows.bits_sub ?_ ?_ | refine' PyProof.Rows.bits_neg ?_ | refine' PyProof.Rows.bits_ite ?_ ?_ | refine' bits_rnd ?_ | refine' PyProof.Rows.bits_fdiv ?_ | refine' PyProof.Rows.bits_fmod ?_ ?_ | exact Nat.le_refl _)); (case o9 => with_unfolding_all exact rfl)) | exact Una.neg
    | exact Cmp.lt | exact Cmp.le | exact Cmp.gt | exact Cmp.ge | exact Cmp.eq | exact Cmp.ne | exact Cmp.eqB
    | exact ItemOf.lst hm | (with_unfolding_all exact ItemOf.lst (.head _)) | (with_unfolding_all exact ItemOf.lst (.tail _ (.head _))) | exact ItemOf.tup hm | (with_unfolding_all exact ItemOf.tup (.head _))
    | exact Nat.le_trans (Nat.le_of_ble_eq_true rfl) hC | ((show _ ≠ _); first | exact h0 | decide | omega)
        | (refine' Nat.le_trans ?m9 (Nat.le_of_ble_eq_true ?o9); (case m9 => (with_reducible repeat' first | exact b_m0 | exact b_m1 | exact b_m2 | exact b_m3 | exact b_x | exact b_y | exact b_p | exact b_q | refine' PyProof.Rows.bits_mul ?_ ?_ | refine' PyProof.Rows.bits_add ?_ ?_ | refine' PyProof.Rows.bits_sub ?_ ?_ | refine' PyProof.Rows.bits_neg ?_ | refine' PyProof.Rows.bits_ite ?_ ?_ | refine' bits_rnd ?_ | refine' PyProof.Rows.bits_fdiv ?_ | refine' PyProof.Rows.bits_fmod ?_ ?_ | exact Nat.le_refl _)); (case o9 => with_unfolding_all exact rfl))
    | (refine' V.call i_divided ?g9 ?_ ?_ (f_divided _ _ _ ?_ ?_ ?_); (case g9 => with_unfolding_all exact rfl))
    | (refine' V.call i_determinant ?g9 ?_ ?_ (f_determinant ?_ ?_ ?_ ?_ ?_); (case g9 => with_unfolding_all exact rfl))
    | exact hm
    | exact b_x
    | (with_unfolding_all exact rfl))
  case hk2 => exact Nat.le_trans (Nat.le_of_ble_eq_true rfl) hC
end
end Mine
end
section
open PySem PySem.W PyProof.Rows PySem.Calls
set_option Elab.async false
set_option linter.unusedVariables false
set_option maxRecDepth 100000
set_option maxHeartbeats 4000000
namespace Mine
theorem warm_F6 : PySem.Challenge.rw_pb0513_01.Holds → kK = kK := by
  k_fill
  intro _; rfl
/-- the deck: at most 24 ints that are not below nought and below 10 ^ 15 -/
structure DeckOk (ds : List Int) : Prop where
  lo : ∀ x ∈ ds, 0 ≤ x ∧ x < 1000000000000000
  len : ds.length ≤ 24
theorem DeckOk.tl {d : Int} {ds : List Int} (h : DeckOk (d :: ds)) : DeckOk ds := ⟨fun x hx => h.lo x (.tail _ hx), by have := h.len; simp at this; omega⟩
theorem DeckOk.hd {d d' : Int} {ds : List Int} (h : DeckOk (d :: ds)) (h' : 0 ≤ d' ∧ d' < 1000000000000000) : DeckOk (d' :: ds) := ⟨fun x hx => by
  rcases List.mem_cons.mp hx with rfl | hx
  · exact h'
  · exact h.lo x (.tail _ hx), by have := h.len; simp at this ⊢; omega⟩
abbrev deck (d : Addr) (ds : List Int) : Addr × HO := (d, HO.lst (intL ds))
theorem f_draw {η : Hp} (d : Addr) (ds : List Int) (many : Int) (hd : DeckOk ds) (hm : 1 ≤ many) (b_many : bits many ≤ 60) : Fn 238 1 [.ref d, .int many] (deck d ds :: η) fun p η' => ∃ r ds', p = .int r ∧ 0 ≤ r ∧ r < many ∧ DeckOk ds' ∧ η' = deck d ds' :: η := by
  refine' Fn.enter2 "deck" "many" (fun P => ?ho) (fun P => ?hcd) (fun s v1 v2 => ?hb) ?he ?h
  case ho => exact rfl
  case hcd => kernel_rfl
  case hb => exact BindsTo.of_eq rfl
  case he => rfl
  intro C hC
  refine' R.ife (T.cmpH (V.up (p := .ref d) ?v1 (E.lst (Es.nil ⟨Nat.zero_le _, fun l => ⟨decide (ds = []), CmpH.eqL (ms := []) (.tail _ (.head _)) (.head _), fun h => ?k1, fun h => ?k2⟩⟩))) rfl)
  case v1 => (with_reducible repeat' first
    | exact V.int
    | (refine' V.lo ?a9; (case a9 => with_unfolding_all exact rfl))
    | (refine' V.grain ?g9; (case g9 => with_unfolding_all exact rfl)) | (refine' V.lone ?g9; (case g9 => with_unfolding_all exact rfl))
    | refine' V.bin ?_ ?_ ?_
    | refine' V.una ?_ ?_
    | (refine' V.cmp ?_ ?_ ?_ ?d9; (case d9 => with_unfolding_all exact rfl))
    | (refine' W.cmp ?_ ?_ ?_ ?d9; (case d9 => with_unfolding_all exact rfl))
    | refine' V.iti ?_ ?_ ?_
    | (refine' V.abs (g_abs _) ?g9 ?_ ?n9; (case g9 => with_unfolding_all exact rfl); (case n9 => with_unfolding_all exact rfl))
    | refine' V.itc ?_ ?_ ?_
    | exact V.boolc | exact V.nonec | refine' V.bone ?_ | (refine' V.band ?_ (fun _ => ?_)) | (refine' V.bor ?_ (fun _ => ?_)) | (refine' V.not ?_)
    | (refine' W.not ?_) | exact W.and0 | exact W.or0 | (refine' W.and ?_ (fun _ => ?_)) | (refine' W.or ?_ (fun _ => ?_))
    | (refine' W.of ?_ ?d9; (case d9 => with_unfolding_all exact rfl))
    | exact Vs.nil | (refine' Vs.cons ?_ ?n9 ?_; (case n9 => with_unfolding_all exact rfl))
    | exact Bin.add | exact Bin.sub | (refine' Bin.mul (mulB ?m9 ?n9 ?o9); (case m9 => (with_reducible repeat' first | exact b_many | refine' PyProof.Rows.bits_mul ?_ ?_ | refine' PyProof.Rows.bits_add ?_ ?_ | refine' PyProof.Rows.bits_sub ?_ ?_ | refine' PyProof.Rows.bits_neg ?_ | refine' PyProof.Rows.bits_ite ?_ ?_ | refine' bits_rnd ?_ | refine' PyProof.Rows.bits_fdiv ?_ | refine' PyProof.Rows.bits_fmod ?_ ?_ | exact Nat.le_refl _)); (case n9 => (with_reducible repeat' first | exact b_many | refine' PyProof.Rows.bits_mul ?_ ?_ | refine' PyProof.Rows.bits_add ?_ ?_ | refine' PyProof.Rows.bits_sub ?_ ?_ | refine' PyProof.Rows.bits_neg ?_ | refine' PyProof.Rows.bits_ite ?_ ?_ | refine' bits_rnd ?_ | refine' PyProof.Rows.bits_fdiv ?_ | refine' PyProof.Rows.bits_fmod ?_ ?_ | exact Nat.le_refl _)); (case o9 => with_unfolding_all exact rfl)) | (refine' Bin.mod ?m9; (case m9 => first | decide | exact h0 | omega)) | (refine' Bin.fdiv ?m9 (noPyB ?n9 ?o9); (case m9 => first | decide | omega); (case n9 => (with_reducible repeat' first | exact b_many | refine' PyProof.Rows.bits_mul ?_ ?_ | refine' PyProof.Rows.bits_add ?_ ?_ | refine' PyProof.Rows.bits_sub ?_ ?_ | refine' PyProof.Rows.bits_neg ?_ | refine' PyProof.Rows.bits_ite ?_ ?_ | refine' bits_rnd ?_ | refine' PyProof.Rows.bits_fdiv ?_ | refine' PyProof.Rows.bits_fmod ?_ ?_ | exact Nat.le_refl _)); (case o9 => with_unfolding_all exact rfl)) | exact Una.neg
    | exact Cmp.lt | exact Cmp.le | exact Cmp.gt | exact Cmp.ge | exact Cmp.eq | exact Cmp.ne | exact Cmp.eqB
    | exact ItemOf.lst hm | (with_unfolding_all exact ItemOf.lst (.head _)) | (with_unfolding_all exact ItemOf.lst (.tail _ (.head _))) | exact ItemOf.tup hm | (with_unfolding_all exact ItemOf.tup (.head _))
    | exact Nat.le_trans (Nat.le_of_ble_eq_true rfl) hC | ((show _ ≠ _); first | exact h0 | decide | omega)
        | (refine' Nat.le_trans ?m9 (Nat.le_of_ble_eq_true ?o9); (case m9 => (with_reducible repeat' first | exact b_many | refine' PyProof.Rows.bits_mul ?_ ?_ | refine' PyProof.Rows.bits_add ?_ ?_ | refine' PyProof.Rows.bits_sub ?_ ?_ | refine' PyProof.Rows.bits_neg ?_ | refine' PyProof.Rows.bits_ite ?_ ?_ | refine' bits_rnd ?_ | refine' PyProof.Rows.bits_fdiv ?_ | refine' PyProof.Rows.bits_fmod ?_ ?_ | exact Nat.le_refl _)); (case o9 => with_unfolding_all exact rfl))
    | (with_unfolding_all exact rfl))
  case k1 =>
    refine' R.ret (V.up V.int ⟨_, .cons _ (.refl _), 0, ds, rfl, Int.le_refl _, by omega, hd, rfl⟩)
  refine R.nil (R.drop ?_)
  cases ds with
  | nil => simp at h
  | cons d0 ds =>
    have h0 := hd.lo d0 (.head _)
    refine R.as1 (p := .int d0) (V.itc (V.lo rfl) (.lst (.head _)) rfl) rfl rfl ?_
    have hmn : many ≠ 0 := by omega
    have f1 : d0.fmod many = d0 % many := Int.fmod_eq_emod_of_nonneg _ (by omega)
    have f2 := Int.emod_nonneg d0 hmn
    have f3 := Int.emod_lt_of_pos d0 (show 0 < many by omega)
    refine' R.ife (W.up (b := decide (d0 < many)) ?w ⟨fun h1 => ?q1, fun h1 => ?q2⟩)
    case w => (with_reducible repeat' first
    | exact V.int
    | (refine' V.lo ?a9; (case a9 => with_unfolding_all exact rfl))
    | (refine' V.grain ?g9; (case g9 => with_unfolding_all exact rfl)) | (refine' V.lone ?g9; (case g9 => with_unfolding_all exact rfl))
    | refine' V.bin ?_ ?_ ?_
    | refine' V.una ?_ ?_
    | (refine' V.cmp ?_ ?_ ?_ ?d9; (case d9 => with_unfolding_all exact rfl))
    | (refine' W.cmp ?_ ?_ ?_ ?d9; (case d9 => with_unfolding_all exact rfl))
    | refine' V.iti ?_ ?_ ?_
    | (refine' V.abs (g_abs _) ?g9 ?_ ?n9; (case g9 => with_unfolding_all exact rfl); (case n9 => with_unfolding_all exact rfl))
    | refine' V.itc ?_ ?_ ?_
    | exact V.boolc | exact V.nonec | refine' V.bone ?_ | (refine' V.band ?_ (fun _ => ?_)) | (refine' V.bor ?_ (fun _ => ?_)) | (refine' V.not ?_)
    | (refine' W.not ?_) | exact W.and0 | exact W.or0 | (refine' W.and ?_ (fun _ => ?_)) | (refine' W.or ?_ (fun _ => ?_))
    | (refine' W.of ?_ ?d9; (case d9 => with_unfolding_all exact rfl))
    | exact Vs.nil | (refine' Vs.cons ?_ ?n9 ?_; (case n9 => with_unfolding_all exact rfl))
    | exact Bin.add | exact Bin.sub | (refine' Bin.mul (mulB ?m9 ?n9 ?o9); (case m9 => (with_reducible repeat' first | exact b_many | refine' PyProof.Rows.bits_mul ?_ ?_ | refine' PyProof.Rows.bits_add ?_ ?_ | refine' PyProof.Rows.bits_sub ?_ ?_ | refine' PyProof.Rows.bits_neg ?_ | refine' PyProof.Rows.bits_ite ?_ ?_ | refine' bits_rnd ?_ | refine' PyProof.Rows.bits_fdiv ?_ | refine' PyProof.Rows.bits_fmod ?_ ?_ | exact Nat.le_refl _)); (case n9 => (with_reducible repeat' first | exact b_many | refine' PyProof.Rows.bits_mul ?_ ?_ | refine' PyProof.Rows.bits_add ?_ ?_ | refine' PyProof.Rows.bits_sub ?_ ?_ | refine' PyProof.Rows.bits_neg ?_ | refine' PyProof.Rows.bits_ite ?_ ?_ | refine' bits_rnd ?_ | refine' PyProof.Rows.bits_fdiv ?_ | refine' PyProof.Rows.bits_fmod ?_ ?_ | exact Nat.le_refl _)); (case o9 => with_unfolding_all exact rfl)) | (refine' Bin.mod ?m9; (case m9 => first | decide | exact h0 | omega)) | (refine' Bin.fdiv ?m9 (noPyB ?n9 ?o9); (case m9 => first | decide | omega); (case n9 => (with_reducible repeat' first | exact b_many | refine' PyProof.Rows.bits_mul ?_ ?_ | refine' PyProof.Rows.bits_add ?_ ?_ | refine' PyProof.Rows.bits_sub ?_ ?_ | refine' PyProof.Rows.bits_neg ?_ | refine' PyProof.Rows.bits_ite ?_ ?_ | refine' bits_rnd ?_ | refine' PyProof.Rows.bits_fdiv ?_ | refine' PyProof.Rows.bits_fmod ?_ ?_ | exact Nat.le_refl _)); (case o9 => with_unfolding_all exact rfl)) | exact Una.neg
    | exact Cmp.lt | exact Cmp.le | exact Cmp.gt | exact Cmp.ge | exact Cmp.eq | exact Cmp.ne | exact Cmp.eqB
    | exact ItemOf.lst hm | (with_unfolding_all exact ItemOf.lst (.head _)) | (with_unfolding_all exact ItemOf.lst (.tail _ (.head _))) | exact ItemOf.tup hm | (with_unfolding_all exact ItemOf.tup (.head _))
    | exact Nat.le_trans (Nat.le_of_ble_eq_true rfl) hC | ((show _ ≠ _); first | exact h0 | decide | omega)
        | (refine' Nat.le_trans ?m9 (Nat.le_of_ble_eq_true ?o9); (case m9 => (with_reducible repeat' first | exact b_many | refine' PyProof.Rows.bits_mul ?_ ?_ | refine' PyProof.Rows.bits_add ?_ ?_ | refine' PyProof.Rows.bits_sub ?_ ?_ | refine' PyProof.Rows.bits_neg ?_ | refine' PyProof.Rows.bits_ite ?_ ?_ | refine' bits_rnd ?_ | refine' PyProof.Rows.bits_fdiv ?_ | refine' PyProof.Rows.bits_fmod ?_ ?_ | exact Nat.le_refl _)); (case o9 => with_unfolding_all exact rfl))
    | (with_unfolding_all exact rfl))
    case q1 =>
      refine' R.expr (E.pop0 ?v2 rfl .head (by simp; have := hd.tl.len; omega) (R.nil (R.re1 (p := .int (d0.fmod many)) ?v3 ⟨_, ds, rfl, by omega, by omega, hd.tl, rfl⟩))) rfl rfl
      case v2 => (with_reducible repeat' first
    | exact V.int
    | (refine' V.lo ?a9; (case a9 => with_unfolding_all exact rfl))
    | (refine' V.grain ?g9; (case g9 => with_unfolding_all exact rfl)) | (refine' V.lone ?g9; (case g9 => with_unfolding_all exact rfl))
    | refine' V.bin ?_ ?_ ?_
    | refine' V.una ?_ ?_
    | (refine' V.cmp ?_ ?_ ?_ ?d9; (case d9 => with_unfolding_all exact rfl))
    | (refine' W.cmp ?_ ?_ ?_ ?d9; (case d9 => with_unfolding_all exact rfl))
    | refine' V.iti ?_ ?_ ?_
    | (refine' V.abs (g_abs _) ?g9 ?_ ?n9; (case g9 => with_unfolding_all exact rfl); (case n9 => with_unfolding_all exact rfl))
    | refine' V.itc ?_ ?_ ?_
    | exact V.boolc | exact V.nonec | refine' V.bone ?_ | (refine' V.band ?_ (fun _ => ?_)) | (refine' V.bor ?_ (fun _ => ?_)) | (refine' V.not ?_)
    | (refine' W.not ?_) | exact W.and0 | exact W.or0 | (refine' W.and ?_ (fun _ => ?_)) | (refine' W.or ?_ (fun _ => ?_))
    | (refine' W.of ?_ ?d9; (case d9 => with_unfolding_all exact rfl))
    | exact Vs.nil | (refine' Vs.cons ?_ ?n9 ?_; (case n9 => with_unfolding_all exact rfl))
    | exact Bin.add | exact Bin.sub | (refine' Bin.mul (mulB ?m9 ?n9 ?o9); (case m9 => (with_reducible repeat' first | exact b_many | refine' PyProof.Rows.bits_mul ?_ ?_ | refine' PyProof.Rows.bits_add ?_ ?_ | refine' PyProof.Rows.bits_sub ?_ ?_ | refine' PyProof.Rows.bits_neg ?_ | refine' PyProof.Rows.bits_ite ?_ ?_ | refine' bits_rnd ?_ | refine' PyProof.Rows.bits_fdiv ?_ | refine' PyProof.Rows.bits_fmod ?_ ?_ | exact Nat.le_refl _)); (case n9 => (with_reducible repeat' first | exact b_many | refine' PyProof.Rows.bits_mul ?_ ?_ | refine' PyProof.Rows.bits_add ?_ ?_ | refine' PyProof.Rows.bits_sub ?_ ?_ | refine' PyProof.Rows.bits_neg ?_ | refine' PyProof.Rows.bits_ite ?_ ?_ | refine' bits_rnd ?_ | refine' PyProof.Rows.bits_fdiv ?_ | refine' PyProof.Rows.bits_fmod ?_ ?_ | exact Nat.le_refl _)); (case o9 => with_unfolding_all exact rfl)) | (refine' Bin.mod ?m9; (case m9 => first | decide | exact h0 | omega)) | (refine' Bin.fdiv ?m9 (noPyB ?n9 ?o9); (case m9 => first | decide | omega); (case n9 => (with_reducible repeat' first | exact b_many | refine' PyProof.Rows.bits_mul ?_ ?_ | refine' PyProof.Rows.bits_add ?_ ?_ | refine' PyProof.Rows.bits_sub ?_ ?_ | refine' PyProof.Rows.bits_neg ?_ | refine' PyProof.Rows.bits_ite ?_ ?_ | refine' bits_rnd ?_ | refine' PyProof.Rows.bits_fdiv ?_ | refine' PyProof.Rows.bits_fmod ?_ ?_ | exact Nat.le_refl _)); (case o9 => with_unfolding_all exact rfl)) | exact Una.neg
    | exact Cmp.lt | exact Cmp.le | exact Cmp.gt | exact Cmp.ge | exact Cmp.eq | exact Cmp.ne | exact Cmp.eqB
    | exact ItemOf.lst hm | (with_unfolding_all exact ItemOf.lst (.head _)) | (with_unfolding_all exact ItemOf.lst (.tail _ (.head _))) | exact ItemOf.tup hm | (with_unfolding_all exact ItemOf.tup (.head _))
    | exact Nat.le_trans (Nat.le_of_ble_eq_true rfl) hC | ((show _ ≠ _); first | exact h0 | decide | omega)
        | (refine' Nat.le_trans ?m9 (Nat.le_of_ble_eq_true ?o9); (case m9 => (with_reducible repeat' first | exact b_many | refine' PyProof.Rows.bits_mul ?_ ?_ | refine' PyProof.Rows.bits_add ?_ ?_ | refine' PyProof.Rows.bits_sub ?_ ?_ | refine' PyProof.Rows.bits_neg ?_ | refine' PyProof.Rows.bits_ite ?_ ?_ | refine' bits_rnd ?_ | refine' PyProof.Rows.bits_fdiv ?_ | refine' PyProof.Rows.bits_fmod ?_ ?_ | exact Nat.le_refl _)); (case o9 => with_unfolding_all exact rfl))
    | (with_unfolding_all exact rfl))
      case v3 => exact V.bin (V.lo rfl) (V.lo rfl) (Bin.mod hmn)
    case q2 =>
      have d1 : d0.fdiv many = d0 / many := Int.fdiv_eq_ediv_of_nonneg _ (by omega)
      have d2 := Int.ediv_nonneg h0.1 (show 0 ≤ many by omega)
      have d3 := Int.ediv_le_self many h0.1
      refine' R.asSub (V.up (p := .int (d0.fdiv many)) ?v4 (V.up (p := .ref d) ?v5 (V.up V.int ⟨d, intL (d0 :: ds), 0, deck d (d0.fdiv many :: ds) :: η, rfl, rfl, Int.le_refl _, Nat.succ_pos (intL ds).length, by decide, .head, R.nil (R.re1 (p := .int (d0.fmod many)) ?v6 ⟨_, d0.fdiv many :: ds, rfl, by omega, by omega, hd.hd (by omega), rfl⟩)⟩))) rfl
      case v4 => exact V.bin (V.lo rfl) (V.lo rfl) (Bin.fdiv hmn (noPyB b_many rfl))
      case v5 => (with_reducible repeat' first
    | exact V.int
    | (refine' V.lo ?a9; (case a9 => with_unfolding_all exact rfl))
    | (refine' V.grain ?g9; (case g9 => with_unfolding_all exact rfl)) | (refine' V.lone ?g9; (case g9 => with_unfolding_all exact rfl))
    | refine' V.bin ?_ ?_ ?_
    | refine' V.una ?_ ?_
    | (refine' V.cmp ?_ ?_ ?_ ?d9; (case d9 => with_unfolding_all exact rfl))
    | (refine' W.cmp ?_ ?_ ?_ ?d9; (case d9 => with_unfolding_all exact rfl))
    | refine' V.iti ?_ ?_ ?_
    | (refine' V.abs (g_abs _) ?g9 ?_ ?n9; (case g9 => with_unfolding_all exact rfl); (case n9 => with_unfolding_all exact rfl))
    | refine' V.itc ?_ ?_ ?_
    | exact V.boolc | exact V.nonec | refine' V.bone ?_ | (refine' V.band ?_ (fun _ => ?_)) | (refine' V.bor ?_ (fun _ => ?_)) | (refine' V.not ?_)
    | (refine' W.not ?_) | exact W.and0 | exact W.or0 | (refine' W.and ?_ (fun _ => ?_)) | (refine' W.or ?_ (fun _ => ?_))
    | (refine' W.of ?_ ?d9; (case d9 => with_unfolding_all exact rfl))
    | exact Vs.nil | (refine' Vs.cons ?_ ?n9 ?_; (case n9 => with_unfolding_all exact rfl))
    | exact Bin.add | exact Bin.sub | (refine' Bin.mul (mulB ?m9 ?n9 ?o9); (case m9 => (with_reducible repeat' first | exact b_many | refine' PyProof.Rows.bits_mul ?_ ?_ | refine' PyProof.Rows.bits_add ?_ ?_ | refine' PyProof.Rows.bits_sub ?_ ?_ | refine' PyProof.Rows.bits_neg ?_ | refine' PyProof.Rows.bits_ite ?_ ?_ | refine' bits_rnd ?_ | refine' PyProof.Rows.bits_fdiv ?_ | refine' PyProof.Rows.bits_fmod ?_ ?_ | exact Nat.le_refl _)); (case n9 => (with_reducible repeat' first | exact b_many | refine' PyProof.Rows.bits_mul ?_ ?_ | refine' PyProof.Rows.bits_add ?_ ?_ | refine' PyProof.Rows.bits_sub ?_ ?_ | refine' PyProof.Rows.bits_neg ?_ | refine' PyProof.Rows.bits_ite ?_ ?_ | refine' bits_rnd ?_ | refine' PyProof.Rows.bits_fdiv ?_ | refine' PyProof.Rows.bits_fmod ?_ ?_ | exact Nat.le_refl _)); (case o9 => with_unfolding_all exact rfl)) | (refine' Bin.mod ?m9; (case m9 => first | decide | exact h0 | omega)) | (refine' Bin.fdiv ?m9 (noPyB ?n9 ?o9); (case m9 => first | decide | omega); (case n9 => (with_reducible repeat' first | exact b_many | refine' PyProof.Rows.bits_mul ?_ ?_ | refine' PyProof.Rows.bits_add ?_ ?_ | refine' PyProof.Rows.bits_sub ?_ ?_ | refine' PyProof.Rows.bits_neg ?_ | refine' PyProof.Rows.bits_ite ?_ ?_ | refine' bits_rnd ?_ | refine' PyProof.Rows.bits_fdiv ?_ | refine' PyProof.Rows.bits_fmod ?_ ?_ | exact Nat.le_refl _)); (case o9 => with_unfolding_all exact rfl)) | exact Una.neg
    | exact Cmp.lt | exact Cmp.le | exact Cmp.gt | exact Cmp.ge | exact Cmp.eq | exact Cmp.ne | exact Cmp.eqB
    | exact ItemOf.lst hm | (with_unfolding_all exact ItemOf.lst (.head _)) | (with_unfolding_all exact ItemOf.lst (.tail _ (.head _))) | exact ItemOf.tup hm | (with_unfolding_all exact ItemOf.tup (.head _))
    | exact Nat.le_trans (Nat.le_of_ble_eq_true rfl) hC | ((show _ ≠ _); first | exact h0 | decide | omega)
        | (refine' Nat.le_trans ?m9 (Nat.le_of_ble_eq_true ?o9); (case m9 => (with_reducible repeat' first | exact b_many | refine' PyProof.Rows.bits_mul ?_ ?_ | refine' PyProof.Rows.bits_add ?_ ?_ | refine' PyProof.Rows.bits_sub ?_ ?_ | refine' PyProof.Rows.bits_neg ?_ | refine' PyProof.Rows.bits_ite ?_ ?_ | refine' bits_rnd ?_ | refine' PyProof.Rows.bits_fdiv ?_ | refine' PyProof.Rows.bits_fmod ?_ ?_ | exact Nat.le_refl _)); (case o9 => with_unfolding_all exact rfl))
    | (with_unfolding_all exact rfl))
      case v6 => exact V.bin (V.lo rfl) (V.lo rfl) (Bin.mod hmn)
/-- a number of the laws own -/
abbrev Num (x : Int) : Prop := -1000000000 ≤ x ∧ x ≤ 1000000000
theorem Num.bits {x : Int} (h : Num x) : bits x ≤ 30 := bits_of_abs (by have := h.1; have := h.2; omega)
theorem f_number {η : Hp} (d : Addr) (ds : List Int) (hd : DeckOk ds) : Fn 245 2 [.ref d] (deck d ds :: η) fun p η' => ∃ x ds', p = .int x ∧ Num x ∧ DeckOk ds' ∧ η' = deck d ds' :: η := by
  refine' Fn.enter1 "deck" (fun P => ?ho) (fun P => ?hcd) (fun s v1 => ?hb) ?he ?h
  case ho => exact rfl
  case hcd => kernel_rfl
  case hb => exact BindsTo.of_eq rfl
  case he => rfl
  intro C hC
  refine' R.assign (E.mkL (ps := [.int 0, .int 1000000, .int (-1000000), .int 500000, .int (-2), .int 1, .int 0, .int (2 * 1000000), .int (72 * 1000000), .int (-1)]) ?vs rfl fun l => ⟨_, _, Sto.loc rfl, R.perm (.swap _ _ _) ?k1⟩) rfl
  case vs => (with_reducible repeat' first
    | exact V.int
    | (refine' V.lo ?a9; (case a9 => with_unfolding_all exact rfl))
    | (refine' V.grain ?g9; (case g9 => with_unfolding_all exact rfl)) | (refine' V.lone ?g9; (case g9 => with_unfolding_all exact rfl))
    | refine' V.bin ?_ ?_ ?_
    | refine' V.una ?_ ?_
    | (refine' V.cmp ?_ ?_ ?_ ?d9; (case d9 => with_unfolding_all exact rfl))
    | (refine' W.cmp ?_ ?_ ?_ ?d9; (case d9 => with_unfolding_all exact rfl))
    | refine' V.iti ?_ ?_ ?_
    | (refine' V.abs (g_abs _) ?g9 ?_ ?n9; (case g9 => with_unfolding_all exact rfl); (case n9 => with_unfolding_all exact rfl))
    | refine' V.itc ?_ ?_ ?_
    | exact V.boolc | exact V.nonec | refine' V.bone ?_ | (refine' V.band ?_ (fun _ => ?_)) | (refine' V.bor ?_ (fun _ => ?_)) | (refine' V.not ?_)
    | (refine' W.not ?_) | exact W.and0 | exact W.or0 | (refine' W.and ?_ (fun _ => ?_)) | (refine' W.or ?_ (fun _ => ?_))
    | (refine' W.of ?_ ?d9; (case d9 => with_unfolding_all exact rfl))
    | exact Vs.nil | (refine' Vs.cons ?_ ?n9 ?_; (case n9 => with_unfolding_all exact rfl))
    | exact Bin.add | exact Bin.sub | (refine' Bin.mul (mulB ?m9 ?n9 ?o9); (case m9 => (with_reducible repeat' first  | refine' PyProof.Rows.bits_mul ?_ ?_ | refine' PyProof.Rows.bits_add ?_ ?_ | refine' PyProof.Rows.bits_sub ?_ ?_ | refine' PyProof.Rows.bits_neg ?_ | refine' PyProof.Rows.bits_ite ?_ ?_ | refine' bits_rnd ?_ | refine' PyProof.Rows.bits_fdiv ?_ | refine' PyProof.Rows.bits_fmod ?_ ?_ | exact Nat.le_refl _)); (case n9 => (with_reducible repeat' first  | refine' PyProof.Rows.bits_mul ?_ ?_ | refine' PyProof.Rows.bits_add ?_ ?_ | refine' PyProof.Rows.bits_sub ?_ ?_ | refine' PyProof.Rows.bits_neg ?_ | refine' PyProof.Rows.bits_ite ?_ ?_ | refine' bits_rnd ?_ | refine' PyProof.Rows.bits_fdiv ?_ | refine' PyProof.Rows.bits_fmod ?_ ?_ | exact Nat.le_refl _)); (case o9 => with_unfolding_all exact rfl)) | (refine' Bin.mod ?m9; (case m9 => first | decide | exact h0 | omega)) | (refine' Bin.fdiv ?m9 (noPyB ?n9 ?o9); (case m9 => first | decide | omega); (case n9 => (with_reducible repeat' first  | refine' PyProof.Rows.bits_mul ?_ ?_ | refine' PyProof.Rows.bits_add ?_ ?_ | refine' PyProof.Rows.bits_sub ?_ ?_ | refine' PyProof.Rows.bits_neg ?_ | refine' PyProof.Rows.bits_ite ?_ ?_ | refine' bits_rnd ?_ | refine' PyProof.Rows.bits_fdiv ?_ | refine' PyProof.Rows.bits_fmod ?_ ?_ | exact Nat.le_refl _)); (case o9 => with_unfolding_all exact rfl)) | exact Una.neg
    | exact Cmp.lt | exact Cmp.le | exact Cmp.gt | exact Cmp.ge | exact Cmp.eq | exact Cmp.ne | exact Cmp.eqB
    | exact ItemOf.lst hm | (with_unfolding_all exact ItemOf.lst (.head _)) | (with_unfolding_all exact ItemOf.lst (.tail _ (.head _))) | exact ItemOf.tup hm | (with_unfolding_all exact ItemOf.tup (.head _))
    | exact Nat.le_trans (Nat.le_of_ble_eq_true rfl) hC | ((show _ ≠ _); first | exact h0 | decide | omega)
        | (refine' Nat.le_trans ?m9 (Nat.le_of_ble_eq_true ?o9); (case m9 => (with_reducible repeat' first  | refine' PyProof.Rows.bits_mul ?_ ?_ | refine' PyProof.Rows.bits_add ?_ ?_ | refine' PyProof.Rows.bits_sub ?_ ?_ | refine' PyProof.Rows.bits_neg ?_ | refine' PyProof.Rows.bits_ite ?_ ?_ | refine' bits_rnd ?_ | refine' PyProof.Rows.bits_fdiv ?_ | refine' PyProof.Rows.bits_fmod ?_ ?_ | exact Nat.le_refl _)); (case o9 => with_unfolding_all exact rfl))
    | (with_unfolding_all exact rfl))
  refine' R.assign (E.fn i_law_draw rfl (k := 1) (ps := [.ref d, .int 11]) ?vs2 ?hk ((f_draw d ds 11 hd (by decide) (by decide)).mono fun p η' ⟨r, ds', e1, r0, r1, hd', e2⟩ => ?k2)) rfl
  case vs2 => (with_reducible repeat' first
    | exact V.int
    | (refine' V.lo ?a9; (case a9 => with_unfolding_all exact rfl))
    | (refine' V.grain ?g9; (case g9 => with_unfolding_all exact rfl)) | (refine' V.lone ?g9; (case g9 => with_unfolding_all exact rfl))
    | refine' V.bin ?_ ?_ ?_
    | refine' V.una ?_ ?_
    | (refine' V.cmp ?_ ?_ ?_ ?d9; (case d9 => with_unfolding_all exact rfl))
    | (refine' W.cmp ?_ ?_ ?_ ?d9; (case d9 => with_unfolding_all exact rfl))
    | refine' V.iti ?_ ?_ ?_
    | (refine' V.abs (g_abs _) ?g9 ?_ ?n9; (case g9 => with_unfolding_all exact rfl); (case n9 => with_unfolding_all exact rfl))
    | refine' V.itc ?_ ?_ ?_
    | exact V.boolc | exact V.nonec | refine' V.bone ?_ | (refine' V.band ?_ (fun _ => ?_)) | (refine' V.bor ?_ (fun _ => ?_)) | (refine' V.not ?_)
    | (refine' W.not ?_) | exact W.and0 | exact W.or0 | (refine' W.and ?_ (fun _ => ?_)) | (refine' W.or ?_ (fun _ => ?_))
    | (refine' W.of ?_ ?d9; (case d9 => with_unfolding_all exact rfl))
    | exact Vs.nil | (refine' Vs.cons ?_ ?n9 ?_; (case n9 => with_unfolding_all exact rfl))
    | exact Bin.add | exact Bin.sub | (refine' Bin.mul (mulB ?m9 ?n9 ?o9); (case m9 => (with_reducible repeat' first  | refine' PyProof.Rows.bits_mul ?_ ?_ | refine' PyProof.Rows.bits_add ?_ ?_ | refine' PyProof.Rows.bits_sub ?_ ?_ | refine' PyProof.Rows.bits_neg ?_ | refine' PyProof.Rows.bits_ite ?_ ?_ | refine' bits_rnd ?_ | refine' PyProof.Rows.bits_fdiv ?_ | refine' PyProof.Rows.bits_fmod ?_ ?_ | exact Nat.le_refl _)); (case n9 => (with_reducible repeat' first  | refine' PyProof.Rows.bits_mul ?_ ?_ | refine' PyProof.Rows.bits_add ?_ ?_ | refine' PyProof.Rows.bits_sub ?_ ?_ | refine' PyProof.Rows.bits_neg ?_ | refine' PyProof.Rows.bits_ite ?_ ?_ | refine' bits_rnd ?_ | refine' PyProof.Rows.bits_fdiv ?_ | refine' PyProof.Rows.bits_fmod ?_ ?_ | exact Nat.le_refl _)); (case o9 => with_unfolding_all exact rfl)) | (refine' Bin.mod ?m9; (case m9 => first | decide | exact h0 | omega)) | (refine' Bin.fdiv ?m9 (noPyB ?n9 ?o9); (case m9 => first | decide | omega); (case n9 => (with_reducible repeat' first  | refine' PyProof.Rows.bits_mul ?_ ?_ | refine' PyProof.Rows.bits_add ?_ ?_ | refine' PyProof.Rows.bits_sub ?_ ?_ | refine' PyProof.Rows.bits_neg ?_ | refine' PyProof.Rows.bits_ite ?_ ?_ | refine' bits_rnd ?_ | refine' PyProof.Rows.bits_fdiv ?_ | refine' PyProof.Rows.bits_fmod ?_ ?_ | exact Nat.le_refl _)); (case o9 => with_unfolding_all exact rfl)) | exact Una.neg
    | exact Cmp.lt | exact Cmp.le | exact Cmp.gt | exact Cmp.ge | exact Cmp.eq | exact Cmp.ne | exact Cmp.eqB
    | exact ItemOf.lst hm | (with_unfolding_all exact ItemOf.lst (.head _)) | (with_unfolding_all exact ItemOf.lst (.tail _ (.head _))) | exact ItemOf.tup hm | (with_unfolding_all exact ItemOf.tup (.head _))
    | exact Nat.le_trans (Nat.le_of_ble_eq_true rfl) hC | ((show _ ≠ _); first | exact h0 | decide | omega)
        | (refine' Nat.le_trans ?m9 (Nat.le_of_ble_eq_true ?o9); (case m9 => (with_reducible repeat' first  | refine' PyProof.Rows.bits_mul ?_ ?_ | refine' PyProof.Rows.bits_add ?_ ?_ | refine' PyProof.Rows.bits_sub ?_ ?_ | refine' PyProof.Rows.bits_neg ?_ | refine' PyProof.Rows.bits_ite ?_ ?_ | refine' bits_rnd ?_ | refine' PyProof.Rows.bits_fdiv ?_ | refine' PyProof.Rows.bits_fmod ?_ ?_ | exact Nat.le_refl _)); (case o9 => with_unfolding_all exact rfl))
    | (with_unfolding_all exact rfl))
  case hk => exact Nat.le_trans (Nat.le_of_ble_eq_true rfl) hC
  subst e1 e2
  refine ⟨_, _, Sto.loc rfl, ?_⟩
  refine' R.ret (E.ite (W.up (b := decide (r < 10)) ?w ⟨fun h => ?q1, fun h => ?q2⟩))
  case w => (with_reducible repeat' first
    | exact V.int
    | (refine' V.lo ?a9; (case a9 => with_unfolding_all exact rfl))
    | (refine' V.grain ?g9; (case g9 => with_unfolding_all exact rfl)) | (refine' V.lone ?g9; (case g9 => with_unfolding_all exact rfl))
    | refine' V.bin ?_ ?_ ?_
    | refine' V.una ?_ ?_
    | (refine' V.cmp ?_ ?_ ?_ ?d9; (case d9 => with_unfolding_all exact rfl))
    | (refine' W.cmp ?_ ?_ ?_ ?d9; (case d9 => with_unfolding_all exact rfl))
    | refine' V.iti ?_ ?_ ?_
    | (refine' V.abs (g_abs _) ?g9 ?_ ?n9; (case g9 => with_unfolding_all exact rfl); (case n9 => with_unfolding_all exact rfl))
    | refine' V.itc ?_ ?_ ?_
    | exact V.boolc | exact V.nonec | refine' V.bone ?_ | (refine' V.band ?_ (fun _ => ?_)) | (refine' V.bor ?_ (fun _ => ?_)) | (refine' V.not ?_)
    | (refine' W.not ?_) | exact W.and0 | exact W.or0 | (refine' W.and ?_ (fun _ => ?_)) | (refine' W.or ?_ (fun _ => ?_))
    | (refine' W.of ?_ ?d9; (case d9 => with_unfolding_all exact rfl))
    | exact Vs.nil | (refine' Vs.cons ?_ ?n9 ?_; (case n9 => with_unfolding_all exact rfl))
    | exact Bin.add | exact Bin.sub | (refine' Bin.mul (mulB ?m9 ?n9 ?o9); (case m9 => (with_reducible repeat' first  | refine' PyProof.Rows.bits_mul ?_ ?_ | refine' PyProof.Rows.bits_add ?_ ?_ | refine' PyProof.Rows.bits_sub ?_ ?_ | refine' PyProof.Rows.bits_neg ?_ | refine' PyProof.Rows.bits_ite ?_ ?_ | refine' bits_rnd ?_ | refine' PyProof.Rows.bits_fdiv ?_ | refine' PyProof.Rows.bits_fmod ?_ ?_ | exact Nat.le_refl _)); (case n9 => (with_reducible repeat' first  | refine' PyProof.Rows.bits_mul ?_ ?_ | refine' PyProof.Rows.bits_add ?_ ?_ | refine' PyProof.Rows.bits_sub ?_ ?_ | refine' PyProof.Rows.bits_neg ?_ | refine' PyProof.Rows.bits_ite ?_ ?_ | refine' bits_rnd ?_ | refine' PyProof.Rows.bits_fdiv ?_ | refine' PyProof.Rows.bits_fmod ?_ ?_ | exact Nat.le_refl _)); (case o9 => with_unfolding_all exact rfl)) | (refine' Bin.mod ?m9; (case m9 => first | decide | exact h0 | omega)) | (refine' Bin.fdiv ?m9 (noPyB ?n9 ?o9); (case m9 => first | decide | omega); (case n9 => (with_reducible repeat' first  | refine' PyProof.Rows.bits_mul ?_ ?_ | refine' PyProof.Rows.bits_add ?_ ?_ | refine' PyProof.Rows.bits_sub ?_ ?_ | refine' PyProof.Rows.bits_neg ?_ | refine' PyProof.Rows.bits_ite ?_ ?_ | refine' bits_rnd ?_ | refine' PyProof.Rows.bits_fdiv ?_ | refine' PyProof.Rows.bits_fmod ?_ ?_ | exact Nat.le_refl _)); (case o9 => with_unfolding_all exact rfl)) | exact Una.neg
    | exact Cmp.lt | exact Cmp.le | exact Cmp.gt | exact Cmp.ge | exact Cmp.eq | exact Cmp.ne | exact Cmp.eqB
    | exact ItemOf.lst hm | (with_unfolding_all exact ItemOf.lst (.head _)) | (with_unfolding_all exact ItemOf.lst (.tail _ (.head _))) | exact ItemOf.tup hm | (with_unfolding_all exact ItemOf.tup (.head _))
    | exact Nat.le_trans (Nat.le_of_ble_eq_true rfl) hC | ((show _ ≠ _); first | exact h0 | decide | omega)
        | (refine' Nat.le_trans ?m9 (Nat.le_of_ble_eq_true ?o9); (case m9 => (with_reducible repeat' first  | refine' PyProof.Rows.bits_mul ?_ ?_ | refine' PyProof.Rows.bits_add ?_ ?_ | refine' PyProof.Rows.bits_sub ?_ ?_ | refine' PyProof.Rows.bits_neg ?_ | refine' PyProof.Rows.bits_ite ?_ ?_ | refine' bits_rnd ?_ | refine' PyProof.Rows.bits_fdiv ?_ | refine' PyProof.Rows.bits_fmod ?_ ?_ | exact Nat.le_refl _)); (case o9 => with_unfolding_all exact rfl))
    | (with_unfolding_all exact rfl))
  case q1 =>
    have h := of_decide_eq_true h
    have hx : ∃ x, ([.int 0, .int 1000000, .int (-1000000), .int 500000, .int (-2), .int 1, .int 0, .int (2 * 1000000), .int (72 * 1000000), .int (-1)] : List PV)[r.toNat]? = some (.int x) ∧ Num x := by
      have hn : r.toNat < 10 := by omega
      generalize r.toNat = j at hn
      rcases (show j = 0 ∨ j = 1 ∨ j = 2 ∨ j = 3 ∨ j = 4 ∨ j = 5 ∨ j = 6 ∨ j = 7 ∨ j = 8 ∨ j = 9 by omega) with rfl | rfl | rfl | rfl | rfl | rfl | rfl | rfl | rfl | rfl <;> exact ⟨_, rfl, by decide⟩
    obtain ⟨x, hx, hN⟩ := hx
    exact E.item (V.up (p := .ref l) (V.lo rfl) (V.up (p := .int r) (V.lo rfl) ⟨l, _, r, .int x, rfl, rfl, .lst (.tail _ (.head _)), r0, by omega, hx, Back.s (.cons_cons _ (.cons _ (.refl _))) ⟨x, ds', rfl, hN, hd', rfl⟩⟩)) rfl
  case q2 =>
    refine' E.bin (E.fn i_law_draw rfl (k := 1) (ps := [.ref d, .int (2 * 10 ^ (9 : Int).toNat)]) ?vs3 ?hk3 ((f_draw d ds' _ hd' (by decide) (by decide)).mono ?k3))
    case vs3 => exact .cons (V.lo rfl) rfl (.cons (V.bin V.int (V.bin V.int V.int (Bin.pow (by decide) (by decide) (by decide))) (Bin.mul (mulB (m := 2) (n := 30) (by decide) (by decide) rfl))) rfl .nil)
    case hk3 => exact Nat.le_trans (Nat.le_of_ble_eq_true rfl) hC
    rintro p η' ⟨r, ds2, rfl, r0, r1, hd2, rfl⟩
    have e9 : (10 : Int) ^ (9 : Int).toNat = 1000000000 := by decide
    rw [e9] at r1
    refine V.up (V.bin V.int V.int (Bin.pow (by decide) (by decide) (by decide))) ⟨_, Bin.sub, Back.s (.cons_cons _ (.cons _ (.refl _))) ⟨_, ds2, rfl, ?_, hd2, rfl⟩⟩
    rw [e9]
    exact ⟨by omega, by omega⟩
end Mine
end
section
open PySem PySem.W PyProof.Rows PySem.Calls
set_option Elab.async false
set_option linter.unusedVariables false
set_option maxRecDepth 100000
set_option maxHeartbeats 4000000
namespace Mine
theorem warm_F7 : PySem.Challenge.rw_pb0513_01.Holds → kK = kK := by
  k_fill
  intro _; rfl
theorem f_matrix_copy {η : Hp} {a : Addr} {xs : List PV} (hx : xs.length ≤ 1000) : MkL 108 1 [.ref a] ((a, HO.lst xs) :: η) xs := by
  refine' Fn.enter1 "m" (fun P => ?ho) (fun P => ?hcd) (fun s v1 => ?hb) ?he ?h
  case ho => exact rfl
  case hcd => kernel_rfl
  case hb => exact BindsTo.of_eq rfl
  case he => rfl
  intro C hC
  refine' R.ret ?e1
  case e1 =>
    refine' E.comp ?hcl ?hc (Cs.list (EM.lo ?lo ⟨rfl, rfl⟩) hx) hx (CompGo.pure id xs [] ?pp) ?hf ?hs
    case hcl => exact rfl
    case hc => rfl
    case lo => rfl
    case pp =>
      intro p hp C' h1 h2 h3
      exact V.lo rfl
    case hf =>
      rintro ys η' ⟨rfl, rfl⟩ hl l
      refine Back.r ⟨l, rfl, ?_⟩
      rw [List.nil_append, List.map_id]; rfl
    case hs => intro z; rfl
end Mine
end
section
open PySem PySem.W PyProof.Rows PySem.Calls
set_option Elab.async false
set_option linter.unusedVariables false
set_option maxRecDepth 100000
set_option maxHeartbeats 4000000
namespace Mine
theorem warm_F8 : PySem.Challenge.rw_pb0513_01.Holds → kK = kK := by
  k_fill
  intro _; rfl
/-- the figures of n, from behind; none of nought -/
def dz (n : Nat) : List Int := if h : n = 0 then [] else (48 + ((n % 10 : Nat) : Int)) :: dz (n / 10)
termination_by n
decreasing_by exact Nat.div_lt_self (Nat.pos_of_ne_zero h) (by decide)
def dd (n : Nat) : List Int := (48 + ((n % 10 : Nat) : Int)) :: dz (n / 10)
theorem dz_zero : dz 0 = [] := by rw [dz]; exact dif_pos rfl
theorem dz_pos {n : Nat} (h : 0 < n) : dz n = (48 + ((n % 10 : Nat) : Int)) :: dz (n / 10) := by
  conv => lhs; rw [dz]
  exact dif_neg (Nat.ne_of_gt h)
theorem dz_len : ∀ (k n : Nat), n < 10 ^ k → (dz n).length ≤ k
  | 0, n, h => by
    obtain rfl : n = 0 := by simpa using h
    rw [dz_zero]; exact Nat.le_refl _
  | k + 1, n, h => by
    by_cases h0 : n = 0
    · subst h0; rw [dz_zero]; exact Nat.zero_le _
    · rw [dz_pos (Nat.pos_of_ne_zero h0), List.length_cons]
      exact Nat.succ_le_succ (dz_len k _ (Nat.div_lt_of_lt_mul (by rw [Nat.pow_succ] at h; omega)))
theorem dz_in : ∀ (k n : Nat), n < 10 ^ k → ∀ x ∈ dz n, 48 ≤ x ∧ x < 58
  | 0, n, h, x, hx => by
    obtain rfl : n = 0 := by simpa using h
    rw [dz_zero] at hx; cases hx
  | k + 1, n, h, x, hx => by
    by_cases h0 : n = 0
    · subst h0; rw [dz_zero] at hx; cases hx
    · rw [dz_pos (Nat.pos_of_ne_zero h0)] at hx
      rcases List.mem_cons.mp hx with rfl | hx
      · omega
      · exact dz_in k _ (Nat.div_lt_of_lt_mul (by rw [Nat.pow_succ] at h; omega)) x hx
theorem dd_len {k n : Nat} (h : n < 10 ^ k) : (dd n).length ≤ k + 1 := by
  have := dz_len k (n / 10) (Nat.lt_of_le_of_lt (Nat.div_le_self _ _) h)
  unfold dd
  rw [List.length_cons]; omega
theorem dd_in {k n : Nat} (h : n < 10 ^ k) : ∀ x ∈ dd n, 48 ≤ x ∧ x < 58 := fun x hx => by
  rcases List.mem_cons.mp hx with rfl | hx
  · omega
  · exact dz_in k _ (Nat.lt_of_le_of_lt (Nat.div_le_self _ _) h) x hx
theorem fm10 (r : Nat) : (r : Int).fmod 10 = ((r % 10 : Nat) : Int) := by rw [Int.fmod_eq_emod_of_nonneg _ (by decide)]; omega
theorem fd10 (r : Nat) : (r : Int).fdiv 10 = ((r / 10 : Nat) : Int) := by rw [Int.fdiv_eq_ediv_of_nonneg _ (by decide)]; omega
theorem intL_app (fs gs : List Int) : intL (fs ++ gs) = intL fs ++ intL gs := List.map_append
theorem intL_rev (fs : List Int) : intL fs.reverse = (intL fs).reverse := List.map_reverse
theorem in_of {fs : List Int} (h : ∀ x ∈ fs, 48 ≤ x ∧ x < 58) : InB fs.reverse := fun x hx => by
  have := h x (List.mem_reverse.mp hx); omega
theorem f_decimal (η : Hp) (n : Nat) (hn : n < 10 ^ 30) : Pure 54 1 [.int n] η (bytI (dd n).reverse) := by
  refine' Fn.enter1 "number" (fun P => ?ho) (fun P => ?hcd) (fun s v1 => ?hb) ?he ?h
  case ho => exact rfl
  case hcd => kernel_rfl
  case hb => exact BindsTo.of_eq rfl
  case he => rfl
  intro C hC
  refine' R.as1 (p := .int (n : Int)) ?v1 rfl rfl ?k1
  case v1 =>
    refine' V.ite (b := decide ((0 : Int) ≤ n)) ?w (fun _ => V.lo rfl) (fun h => absurd (of_decide_eq_false h) (by omega))
    case w => (with_reducible repeat' first
    | exact V.int
    | (refine' V.lo ?a9; (case a9 => with_unfolding_all exact rfl))
    | (refine' V.grain ?g9; (case g9 => with_unfolding_all exact rfl)) | (refine' V.lone ?g9; (case g9 => with_unfolding_all exact rfl))
    | refine' V.bin ?_ ?_ ?_
    | refine' V.una ?_ ?_
    | (refine' V.cmp ?_ ?_ ?_ ?d9; (case d9 => with_unfolding_all exact rfl))
    | (refine' W.cmp ?_ ?_ ?_ ?d9; (case d9 => with_unfolding_all exact rfl))
    | refine' V.iti ?_ ?_ ?_
    | (refine' V.abs (g_abs _) ?g9 ?_ ?n9; (case g9 => with_unfolding_all exact rfl); (case n9 => with_unfolding_all exact rfl))
    | refine' V.itc ?_ ?_ ?_
    | exact V.boolc | exact V.nonec | refine' V.bone ?_ | (refine' V.band ?_ (fun _ => ?_)) | (refine' V.bor ?_ (fun _ => ?_)) | (refine' V.not ?_)
    | (refine' W.not ?_) | exact W.and0 | exact W.or0 | (refine' W.and ?_ (fun _ => ?_)) | (refine' W.or ?_ (fun _ => ?_))
    | (refine' W.of ?_ ?d9; (case d9 => with_unfolding_all exact rfl))
    | exact Vs.nil | (refine' Vs.cons ?_ ?n9 ?_; (case n9 => with_unfolding_all exact rfl))
    | exact Bin.add | exact Bin.sub | (refine' Bin.mul (mulB ?m9 ?n9 ?o9); (case m9 => (with_reducible repeat' first  | refine' PyProof.Rows.bits_mul ?_ ?_ | refine' PyProof.Rows.bits_add ?_ ?_ | refine' PyProof.Rows.bits_sub ?_ ?_ | refine' PyProof.Rows.bits_neg ?_ | refine' PyProof.Rows.bits_ite ?_ ?_ | refine' bits_rnd ?_ | refine' PyProof.Rows.bits_fdiv ?_ | refine' PyProof.Rows.bits_fmod ?_ ?_ | exact Nat.le_refl _)); (case n9 => (with_reducible repeat' first  | refine' PyProof.Rows.bits_mul ?_ ?_ | refine' PyProof.Rows.bits_add ?_ ?_ | refine' PyProof.Rows.bits_sub ?_ ?_ | refine' PyProof.Rows.bits_neg ?_ | refine' PyProof.Rows.bits_ite ?_ ?_ | refine' bits_rnd ?_ | refine' PyProof.Rows.bits_fdiv ?_ | refine' PyProof.Rows.bits_fmod ?_ ?_ | exact Nat.le_refl _)); (case o9 => with_unfolding_all exact rfl)) | (refine' Bin.mod ?m9; (case m9 => first | decide | exact h0 | omega)) | (refine' Bin.fdiv ?m9 (noPyB ?n9 ?o9); (case m9 => first | decide | omega); (case n9 => (with_reducible repeat' first  | refine' PyProof.Rows.bits_mul ?_ ?_ | refine' PyProof.Rows.bits_add ?_ ?_ | refine' PyProof.Rows.bits_sub ?_ ?_ | refine' PyProof.Rows.bits_neg ?_ | refine' PyProof.Rows.bits_ite ?_ ?_ | refine' bits_rnd ?_ | refine' PyProof.Rows.bits_fdiv ?_ | refine' PyProof.Rows.bits_fmod ?_ ?_ | exact Nat.le_refl _)); (case o9 => with_unfolding_all exact rfl)) | exact Una.neg
    | exact Cmp.lt | exact Cmp.le | exact Cmp.gt | exact Cmp.ge | exact Cmp.eq | exact Cmp.ne | exact Cmp.eqB
    | exact ItemOf.lst hm | (with_unfolding_all exact ItemOf.lst (.head _)) | (with_unfolding_all exact ItemOf.lst (.tail _ (.head _))) | exact ItemOf.tup hm | (with_unfolding_all exact ItemOf.tup (.head _))
    | exact Nat.le_trans (Nat.le_of_ble_eq_true rfl) hC | ((show _ ≠ _); first | exact h0 | decide | omega)
        | (refine' Nat.le_trans ?m9 (Nat.le_of_ble_eq_true ?o9); (case m9 => (with_reducible repeat' first  | refine' PyProof.Rows.bits_mul ?_ ?_ | refine' PyProof.Rows.bits_add ?_ ?_ | refine' PyProof.Rows.bits_sub ?_ ?_ | refine' PyProof.Rows.bits_neg ?_ | refine' PyProof.Rows.bits_ite ?_ ?_ | refine' bits_rnd ?_ | refine' PyProof.Rows.bits_fdiv ?_ | refine' PyProof.Rows.bits_fmod ?_ ?_ | exact Nat.le_refl _)); (case o9 => with_unfolding_all exact rfl))
    | (with_unfolding_all exact rfl))
  refine' R.assign (E.mkL (ps := [.int (48 + (n : Int).fmod 10)]) ?vs rfl fun l => ⟨_, _, Sto.loc rfl, ?k2⟩) rfl
  case vs => (with_reducible repeat' first
    | exact V.int
    | (refine' V.lo ?a9; (case a9 => with_unfolding_all exact rfl))
    | (refine' V.grain ?g9; (case g9 => with_unfolding_all exact rfl)) | (refine' V.lone ?g9; (case g9 => with_unfolding_all exact rfl))
    | refine' V.bin ?_ ?_ ?_
    | refine' V.una ?_ ?_
    | (refine' V.cmp ?_ ?_ ?_ ?d9; (case d9 => with_unfolding_all exact rfl))
    | (refine' W.cmp ?_ ?_ ?_ ?d9; (case d9 => with_unfolding_all exact rfl))
    | refine' V.iti ?_ ?_ ?_
    | (refine' V.abs (g_abs _) ?g9 ?_ ?n9; (case g9 => with_unfolding_all exact rfl); (case n9 => with_unfolding_all exact rfl))
    | refine' V.itc ?_ ?_ ?_
    | exact V.boolc | exact V.nonec | refine' V.bone ?_ | (refine' V.band ?_ (fun _ => ?_)) | (refine' V.bor ?_ (fun _ => ?_)) | (refine' V.not ?_)
    | (refine' W.not ?_) | exact W.and0 | exact W.or0 | (refine' W.and ?_ (fun _ => ?_)) | (refine' W.or ?_ (fun _ => ?_))
    | (refine' W.of ?_ ?d9; (case d9 => with_unfolding_all exact rfl))
    | exact Vs.nil | (refine' Vs.cons ?_ ?n9 ?_; (case n9 => with_unfolding_all exact rfl))
    | exact Bin.add | exact Bin.sub | (refine' Bin.mul (mulB ?m9 ?n9 ?o9); (case m9 => (with_reducible repeat' first  | refine' PyProof.Rows.bits_mul ?_ ?_ | refine' PyProof.Rows.bits_add ?_ ?_ | refine' PyProof.Rows.bits_sub ?_ ?_ | refine' PyProof.Rows.bits_neg ?_ | refine' PyProof.Rows.bits_ite ?_ ?_ | refine' bits_rnd ?_ | refine' PyProof.Rows.bits_fdiv ?_ | refine' PyProof.Rows.bits_fmod ?_ ?_ | exact Nat.le_refl _)); (case n9 => (with_reducible repeat' first  | refine' PyProof.Rows.bits_mul ?_ ?_ | refine' PyProof.Rows.bits_add ?_ ?_ | refine' PyProof.Rows.bits_sub ?_ ?_ | refine' PyProof.Rows.bits_neg ?_ | refine' PyProof.Rows.bits_ite ?_ ?_ | refine' bits_rnd ?_ | refine' PyProof.Rows.bits_fdiv ?_ | refine' PyProof.Rows.bits_fmod ?_ ?_ | exact Nat.le_refl _)); (case o9 => with_unfolding_all exact rfl)) | (refine' Bin.mod ?m9; (case m9 => first | decide | exact h0 | omega)) | (refine' Bin.fdiv ?m9 (noPyB ?n9 ?o9); (case m9 => first | decide | omega); (case n9 => (with_reducible repeat' first  | refine' PyProof.Rows.bits_mul ?_ ?_ | refine' PyProof.Rows.bits_add ?_ ?_ | refine' PyProof.Rows.bits_sub ?_ ?_ | refine' PyProof.Rows.bits_neg ?_ | refine' PyProof.Rows.bits_ite ?_ ?_ | refine' bits_rnd ?_ | refine' PyProof.Rows.bits_fdiv ?_ | refine' PyProof.Rows.bits_fmod ?_ ?_ | exact Nat.le_refl _)); (case o9 => with_unfolding_all exact rfl)) | exact Una.neg
    | exact Cmp.lt | exact Cmp.le | exact Cmp.gt | exact Cmp.ge | exact Cmp.eq | exact Cmp.ne | exact Cmp.eqB
    | exact ItemOf.lst hm | (with_unfolding_all exact ItemOf.lst (.head _)) | (with_unfolding_all exact ItemOf.lst (.tail _ (.head _))) | exact ItemOf.tup hm | (with_unfolding_all exact ItemOf.tup (.head _))
    | exact Nat.le_trans (Nat.le_of_ble_eq_true rfl) hC | ((show _ ≠ _); first | exact h0 | decide | omega)
        | (refine' Nat.le_trans ?m9 (Nat.le_of_ble_eq_true ?o9); (case m9 => (with_reducible repeat' first  | refine' PyProof.Rows.bits_mul ?_ ?_ | refine' PyProof.Rows.bits_add ?_ ?_ | refine' PyProof.Rows.bits_sub ?_ ?_ | refine' PyProof.Rows.bits_neg ?_ | refine' PyProof.Rows.bits_ite ?_ ?_ | refine' bits_rnd ?_ | refine' PyProof.Rows.bits_fdiv ?_ | refine' PyProof.Rows.bits_fmod ?_ ?_ | exact Nat.le_refl _)); (case o9 => with_unfolding_all exact rfl))
    | (with_unfolding_all exact rfl))
  refine' R.as1 (p := .int ((n : Int).fdiv 10)) ?v3 rfl rfl ?k3
  case v3 => exact V.bin (V.lo rfl) V.int (Bin.fdiv (by decide) (noPyB (k := 4) (by decide) rfl))
  refine R.loop (σ := Nat × List Int) (fun c => [("rest", .int c.1), ("found", .ref l), ("number", .int n)]) (fun c => (l, .lst (intL c.2)) :: η) (fun c => c.2 ++ dz c.1 = dd n) (fun c => c.1) (n / 10, [48 + ((n % 10 : Nat) : Int)]) rfl
    (.cons (by rw [fd10]; rfl) (.cons rfl (.cons rfl .nil))) (by rw [fm10]; exact .refl _) fun ⟨r, fs⟩ hP => ?_
  replace hP : fs ++ dz r = dd n := hP
  have hlen : fs.length ≤ 31 := by
    have := dd_len hn
    rw [← hP, List.length_append] at this
    omega
  refine' W.up (b := decide ((0 : Int) < r)) ?w4 ⟨fun hc => ?q1, fun hc => ?q2⟩
  case w4 => (with_reducible repeat' first
    | exact V.int
    | (refine' V.lo ?a9; (case a9 => with_unfolding_all exact rfl))
    | (refine' V.grain ?g9; (case g9 => with_unfolding_all exact rfl)) | (refine' V.lone ?g9; (case g9 => with_unfolding_all exact rfl))
    | refine' V.bin ?_ ?_ ?_
    | refine' V.una ?_ ?_
    | (refine' V.cmp ?_ ?_ ?_ ?d9; (case d9 => with_unfolding_all exact rfl))
    | (refine' W.cmp ?_ ?_ ?_ ?d9; (case d9 => with_unfolding_all exact rfl))
    | refine' V.iti ?_ ?_ ?_
    | (refine' V.abs (g_abs _) ?g9 ?_ ?n9; (case g9 => with_unfolding_all exact rfl); (case n9 => with_unfolding_all exact rfl))
    | refine' V.itc ?_ ?_ ?_
    | exact V.boolc | exact V.nonec | refine' V.bone ?_ | (refine' V.band ?_ (fun _ => ?_)) | (refine' V.bor ?_ (fun _ => ?_)) | (refine' V.not ?_)
    | (refine' W.not ?_) | exact W.and0 | exact W.or0 | (refine' W.and ?_ (fun _ => ?_)) | (refine' W.or ?_ (fun _ => ?_))
    | (refine' W.of ?_ ?d9; (case d9 => with_unfolding_all exact rfl))
    | exact Vs.nil | (refine' Vs.cons ?_ ?n9 ?_; (case n9 => with_unfolding_all exact rfl))
    | exact Bin.add | exact Bin.sub | (refine' Bin.mul (mulB ?m9 ?n9 ?o9); (case m9 => (with_reducible repeat' first  | refine' PyProof.Rows.bits_mul ?_ ?_ | refine' PyProof.Rows.bits_add ?_ ?_ | refine' PyProof.Rows.bits_sub ?_ ?_ | refine' PyProof.Rows.bits_neg ?_ | refine' PyProof.Rows.bits_ite ?_ ?_ | refine' bits_rnd ?_ | refine' PyProof.Rows.bits_fdiv ?_ | refine' PyProof.Rows.bits_fmod ?_ ?_ | exact Nat.le_refl _)); (case n9 => (with_reducible repeat' first  | refine' PyProof.Rows.bits_mul ?_ ?_ | refine' PyProof.Rows.bits_add ?_ ?_ | refine' PyProof.Rows.bits_sub ?_ ?_ | refine' PyProof.Rows.bits_neg ?_ | refine' PyProof.Rows.bits_ite ?_ ?_ | refine' bits_rnd ?_ | refine' PyProof.Rows.bits_fdiv ?_ | refine' PyProof.Rows.bits_fmod ?_ ?_ | exact Nat.le_refl _)); (case o9 => with_unfolding_all exact rfl)) | (refine' Bin.mod ?m9; (case m9 => first | decide | exact h0 | omega)) | (refine' Bin.fdiv ?m9 (noPyB ?n9 ?o9); (case m9 => first | decide | omega); (case n9 => (with_reducible repeat' first  | refine' PyProof.Rows.bits_mul ?_ ?_ | refine' PyProof.Rows.bits_add ?_ ?_ | refine' PyProof.Rows.bits_sub ?_ ?_ | refine' PyProof.Rows.bits_neg ?_ | refine' PyProof.Rows.bits_ite ?_ ?_ | refine' bits_rnd ?_ | refine' PyProof.Rows.bits_fdiv ?_ | refine' PyProof.Rows.bits_fmod ?_ ?_ | exact Nat.le_refl _)); (case o9 => with_unfolding_all exact rfl)) | exact Una.neg
    | exact Cmp.lt | exact Cmp.le | exact Cmp.gt | exact Cmp.ge | exact Cmp.eq | exact Cmp.ne | exact Cmp.eqB
    | exact ItemOf.lst hm | (with_unfolding_all exact ItemOf.lst (.head _)) | (with_unfolding_all exact ItemOf.lst (.tail _ (.head _))) | exact ItemOf.tup hm | (with_unfolding_all exact ItemOf.tup (.head _))
    | exact Nat.le_trans (Nat.le_of_ble_eq_true rfl) hC | ((show _ ≠ _); first | exact h0 | decide | omega)
        | (refine' Nat.le_trans ?m9 (Nat.le_of_ble_eq_true ?o9); (case m9 => (with_reducible repeat' first  | refine' PyProof.Rows.bits_mul ?_ ?_ | refine' PyProof.Rows.bits_add ?_ ?_ | refine' PyProof.Rows.bits_sub ?_ ?_ | refine' PyProof.Rows.bits_neg ?_ | refine' PyProof.Rows.bits_ite ?_ ?_ | refine' bits_rnd ?_ | refine' PyProof.Rows.bits_fdiv ?_ | refine' PyProof.Rows.bits_fmod ?_ ?_ | exact Nat.le_refl _)); (case o9 => with_unfolding_all exact rfl))
    | (with_unfolding_all exact rfl))
  case q1 =>
    have h0 : 0 < r := by have := of_decide_eq_true hc; omega
    refine' R.expr (E.append (a := l) (xs := intL fs) (V.lo rfl) rfl rfl (.head _) (V.up (p := .int (48 + (r : Int).fmod 10)) ?v5 ⟨_, _, .head, by show (intL fs).length ≤ 1000; rw [List.length_map]; omega, ?k5⟩)) rfl rfl
    case v5 => exact V.bin V.int (V.bin (V.lo rfl) V.int (Bin.mod (by decide))) Bin.add
    refine' R.as1 (p := .int ((r : Int).fdiv 10)) ?v6 rfl rfl ?k6
    case v6 => exact V.bin (V.lo rfl) V.int (Bin.fdiv (by decide) (noPyB (k := 4) (by decide) rfl))
    refine R.nx ⟨(r / 10, fs ++ [48 + ((r % 10 : Nat) : Int)]), .cons (by rw [fd10]; rfl) (.cons rfl (.cons rfl .nil)), by rw [fm10, intL_app]; exact .refl _, ?_, Nat.div_lt_self h0 (by decide)⟩
    show (fs ++ [48 + ((r % 10 : Nat) : Int)]) ++ dz (r / 10) = dd n
    rw [List.append_assoc, ← hP, dz_pos h0]; rfl
  have h0 : r = 0 := by have := of_decide_eq_false hc; omega
  subst h0
  rw [dz_zero, List.append_nil] at hP
  replace hP : fs = dd n := hP
  subst hP
  refine' R.if1 (b := decide ((n : Int) < 0)) ?w7 (fun h => absurd (of_decide_eq_true h) (by omega)) (fun _ => R.nil ?k7)
  case w7 => (with_reducible repeat' first
    | exact V.int
    | (refine' V.lo ?a9; (case a9 => with_unfolding_all exact rfl))
    | (refine' V.grain ?g9; (case g9 => with_unfolding_all exact rfl)) | (refine' V.lone ?g9; (case g9 => with_unfolding_all exact rfl))
    | refine' V.bin ?_ ?_ ?_
    | refine' V.una ?_ ?_
    | (refine' V.cmp ?_ ?_ ?_ ?d9; (case d9 => with_unfolding_all exact rfl))
    | (refine' W.cmp ?_ ?_ ?_ ?d9; (case d9 => with_unfolding_all exact rfl))
    | refine' V.iti ?_ ?_ ?_
    | (refine' V.abs (g_abs _) ?g9 ?_ ?n9; (case g9 => with_unfolding_all exact rfl); (case n9 => with_unfolding_all exact rfl))
    | refine' V.itc ?_ ?_ ?_
    | exact V.boolc | exact V.nonec | refine' V.bone ?_ | (refine' V.band ?_ (fun _ => ?_)) | (refine' V.bor ?_ (fun _ => ?_)) | (refine' V.not ?_)
    | (refine' W.not ?_) | exact W.and0 | exact W.or0 | (refine' W.and ?_ (fun _ => ?_)) | (refine' W.or ?_ (fun _ => ?_))
    | (refine' W.of ?_ ?d9; (case d9 => with_unfolding_all exact rfl))
    | exact Vs.nil | (refine' Vs.cons ?_ ?n9 ?_; (case n9 => with_unfolding_all exact rfl))
    | exact Bin.add | exact Bin.sub | (refine' Bin.mul (mulB ?m9 ?n9 ?o9); (case m9 => (with_reducible repeat' first  | refine' PyProof.Rows.bits_mul ?_ ?_ | refine' PyProof.Rows.bits_add ?_ ?_ | refine' PyProof.Rows.bits_sub ?_ ?_ | refine' PyProof.Rows.bits_neg ?_ | refine' PyProof.Rows.bits_ite ?_ ?_ | refine' bits_rnd ?_ | refine' PyProof.Rows.bits_fdiv ?_ | refine' PyProof.Rows.bits_fmod ?_ ?_ | exact Nat.le_refl _)); (case n9 => (with_reducible repeat' first  | refine' PyProof.Rows.bits_mul ?_ ?_ | refine' PyProof.Rows.bits_add ?_ ?_ | refine' PyProof.Rows.bits_sub ?_ ?_ | refine' PyProof.Rows.bits_neg ?_ | refine' PyProof.Rows.bits_ite ?_ ?_ | refine' bits_rnd ?_ | refine' PyProof.Rows.bits_fdiv ?_ | refine' PyProof.Rows.bits_fmod ?_ ?_ | exact Nat.le_refl _)); (case o9 => with_unfolding_all exact rfl)) | (refine' Bin.mod ?m9; (case m9 => first | decide | exact h0 | omega)) | (refine' Bin.fdiv ?m9 (noPyB ?n9 ?o9); (case m9 => first | decide | omega); (case n9 => (with_reducible repeat' first  | refine' PyProof.Rows.bits_mul ?_ ?_ | refine' PyProof.Rows.bits_add ?_ ?_ | refine' PyProof.Rows.bits_sub ?_ ?_ | refine' PyProof.Rows.bits_neg ?_ | refine' PyProof.Rows.bits_ite ?_ ?_ | refine' bits_rnd ?_ | refine' PyProof.Rows.bits_fdiv ?_ | refine' PyProof.Rows.bits_fmod ?_ ?_ | exact Nat.le_refl _)); (case o9 => with_unfolding_all exact rfl)) | exact Una.neg
    | exact Cmp.lt | exact Cmp.le | exact Cmp.gt | exact Cmp.ge | exact Cmp.eq | exact Cmp.ne | exact Cmp.eqB
    | exact ItemOf.lst hm | (with_unfolding_all exact ItemOf.lst (.head _)) | (with_unfolding_all exact ItemOf.lst (.tail _ (.head _))) | exact ItemOf.tup hm | (with_unfolding_all exact ItemOf.tup (.head _))
    | exact Nat.le_trans (Nat.le_of_ble_eq_true rfl) hC | ((show _ ≠ _); first | exact h0 | decide | omega)
        | (refine' Nat.le_trans ?m9 (Nat.le_of_ble_eq_true ?o9); (case m9 => (with_reducible repeat' first  | refine' PyProof.Rows.bits_mul ?_ ?_ | refine' PyProof.Rows.bits_add ?_ ?_ | refine' PyProof.Rows.bits_sub ?_ ?_ | refine' PyProof.Rows.bits_neg ?_ | refine' PyProof.Rows.bits_ite ?_ ?_ | refine' bits_rnd ?_ | refine' PyProof.Rows.bits_fdiv ?_ | refine' PyProof.Rows.bits_fmod ?_ ?_ | exact Nat.le_refl _)); (case o9 => with_unfolding_all exact rfl))
    | (with_unfolding_all exact rfl))
  refine' R.ret (E.ty (T := "bytes") (V.bl g_bytes boot_bytes rfl rfl (by decide)) (Es.cons (EM.toE (EM.rev (a := l) (xs := intL (dd n)) rfl (.head _) (by rw [List.length_map]; omega) fun l2 => Es.nil ?k8))))
  case k8 =>
    refine BltT.bytes (ns := (dd n).reverse) (a := l2) (by rw [intL_rev]; exact .head _) (in_of (dd_in hn)) (by rw [List.length_reverse]; omega) (Back.s (.cons _ (.cons _ (.refl _))) ⟨rfl, rfl⟩)
end Mine
end
section
open PySem PySem.W PyProof.Rows PySem.Calls
set_option Elab.async false
set_option linter.unusedVariables false
set_option maxRecDepth 100000
set_option maxHeartbeats 4000000
namespace Mine
theorem warm_F9 : PySem.Challenge.rw_pb0513_01.Holds → kK = kK := by
  k_fill
  intro _; rfl
def six (f : Nat) : List Int := [48 + ((f % 10 : Nat) : Int), 48 + ((f / 10 % 10 : Nat) : Int), 48 + ((f / 100 % 10 : Nat) : Int), 48 + ((f / 1000 % 10 : Nat) : Int), 48 + ((f / 10000 % 10 : Nat) : Int), 48 + ((f / 100000 % 10 : Nat) : Int)]
theorem dd_grain {f : Nat} (h : f < 1000000) : dd (1000000 + f) = six f ++ [49] := by
  unfold dd six
  rw [dz_pos (show 0 < (1000000 + f) / 10 by omega), dz_pos (show 0 < (1000000 + f) / 10 / 10 by omega), dz_pos (show 0 < (1000000 + f) / 10 / 10 / 10 by omega), dz_pos (show 0 < (1000000 + f) / 10 / 10 / 10 / 10 by omega), dz_pos (show 0 < (1000000 + f) / 10 / 10 / 10 / 10 / 10 by omega), dz_pos (show 0 < (1000000 + f) / 10 / 10 / 10 / 10 / 10 / 10 by omega)]
  rw [show (1000000 + f) / 10 / 10 / 10 / 10 / 10 / 10 / 10 = 0 by omega, dz_zero, show (1000000 + f) / 10 / 10 / 10 / 10 / 10 / 10 % 10 = 1 by omega, show (1000000 + f) % 10 = f % 10 by omega, show (1000000 + f) / 10 % 10 = f / 10 % 10 by omega, show (1000000 + f) / 10 / 10 % 10 = f / 100 % 10 by omega,
    show (1000000 + f) / 10 / 10 / 10 % 10 = f / 1000 % 10 by omega, show (1000000 + f) / 10 / 10 / 10 / 10 % 10 = f / 10000 % 10 by omega, show (1000000 + f) / 10 / 10 / 10 / 10 / 10 % 10 = f / 100000 % 10 by omega]
  rfl
theorem six_in (f : Nat) : ∀ x ∈ six f, 48 ≤ x ∧ x < 58 := fun x hx => by
  unfold six at hx
  simp only [List.mem_cons, List.not_mem_nil, or_false] at hx
  rcases hx with rfl | rfl | rfl | rfl | rfl | rfl <;> omega
/-- without the noughts at the head, one figure at least -/
def st : List Int → List Int
  | [] => []
  | [a] => [a]
  | a :: b :: r => if a = 48 then st (b :: r) else a :: b :: r
def oct (v : Int) : List Int := (if v < 0 then [45] else []) ++ (dd (v.natAbs / 1000000)).reverse ++ [46] ++ (st (six (v.natAbs % 1000000))).reverse
theorem st_sub : ∀ fs : List Int, (∀ x ∈ st fs, x ∈ fs) ∧ (st fs).length ≤ fs.length
  | [] => ⟨fun _ h => h, Nat.le_refl _⟩
  | [a] => ⟨fun _ h => h, Nat.le_refl _⟩
  | a :: b :: r => by
    unfold st
    split
    · have := st_sub (b :: r)
      exact ⟨fun x hx => .tail _ (this.1 x hx), Nat.le_succ_of_le this.2⟩
    · exact ⟨fun _ h => h, Nat.le_refl _⟩
section
variable {sc : Shape} {C : Ctx sc} {ρ : Rho} {η : Hp} {e : Expr} {p q : PV} {x : Str} {pos p1 xpos : Pos} {ck : Nat} {ns : List Int} {l : List UInt8}
theorem V.as (h : V C ρ η e p) (e0 : p = q) : V C ρ η e q := e0 ▸ h
theorem W.as {b c : Bool} (h : W C ρ η e b) (e0 : b = c) : W C ρ η e c := e0 ▸ h
theorem V.byI (h : byteArr ns = l.toArray) : V C ρ η (.Constant (.bytes l) ck pos) (bytI ns) := by
  unfold bytI
  rw [h]
  exact V.byc
theorem V.lenB (hx : look1 sc ρ x = some (bytI ns)) (hz : ns.length ≤ 100000) (hg : isGlob sc "len" = true) : V C ρ η (.Call (.Name "len" xpos) [.Name x p1] [] pos) (.int (ns.length : Int)) :=
  E.blt (V.bl g_len boot_len rfl hg (by decide)) (Es.cons ((V.lo hx).up (Es.nil (Blt.lenB hz ⟨rfl, rfl⟩))))
theorem V.lenL {a : Addr} {xs : List PV} (hx : look1 sc ρ x = some (.ref a)) (hm : (a, HO.lst xs) ∈ η) (hz : xs.length ≤ 1000) (hg : isGlob sc "len" = true) : V C ρ η (.Call (.Name "len" xpos) [.Name x p1] [] pos) (.int (xs.length : Int)) :=
  E.blt (V.bl g_len boot_len rfl hg (by decide)) (Es.cons ((V.lo hx).up (Es.nil (Blt.len hm hz ⟨rfl, rfl⟩))))
theorem V.strc {x : Str} {pos : Pos} : V C ρ η (.Constant (.str x) ck pos) (.str x) := V.at fun _ _ _ _ _ _ _ _ _ _ q => wpAny_Constant_str (q _ _ ⟨_, rfl⟩)
theorem Cmp.eqS {a b : Str} : Cmp .Eq (.str a) (.str b) (a == b) := fun _ _ _ _ _ _ _ ⟨_, e1⟩ ⟨_, e2⟩ q => by subst e1 e2; exact eq_str (q _)
end
theorem rev_last (a : Int) (r : List Int) : (a :: r).reverse.getD (((a :: r).reverse.length : Nat) - 1 : Int).toNat 0 = a := by
  rw [List.length_reverse, List.length_cons]
  have e : (((r.length + 1 : Nat) : Int) - 1).toNat = r.length := by omega
  rw [e, List.reverse_cons, List.getD_eq_getElem?_getD, List.getElem?_append_right (by simp)]
  simp
theorem rev_init (a : Int) (r : List Int) : (a :: r).reverse.take (((a :: r).reverse.length : Nat) - 1 : Int).toNat = r.reverse := by
  rw [List.length_reverse, List.length_cons]
  have e : (((r.length + 1 : Nat) : Int) - 1).toNat = r.length := by omega
  rw [e, List.reverse_cons, List.take_append_of_le_length (by simp)]
  exact List.take_of_length_le (by simp)
theorem f_octets (η : Hp) (v : Int) (hv : v.natAbs < 10 ^ 30) : Pure 68 2 [.str "real", .int v] η (bytI (oct v)) := by
  refine' Fn.enter2 "kind" "value" (fun P => ?ho) (fun P => ?hcd) (fun s v1 v2 => ?hb) ?he ?h
  case ho => exact rfl
  case hcd => kernel_rfl
  case hb => exact BindsTo.of_eq rfl
  case he => rfl
  intro C hC
  refine' R.if1 (b := ("real" : Str) == "integer") ?w1 (fun h => absurd h (by decide)) (fun _ => R.nil ?k1)
  case w1 => exact W.cmp (V.lo rfl) (V.integer rfl) Cmp.eqS rfl
  refine' R.as1 (p := .int ((v.natAbs : Nat) : Int)) ?v1 rfl rfl ?k2
  case v1 => exact V.as (V.abs (g_abs _) rfl (V.lo rfl) rfl) (by rw [abs_ite])
  have hf : v.natAbs % 1000000 < 1000000 := Nat.mod_lt _ (by decide)
  have em : (1000000 : Int) + ((v.natAbs : Nat) : Int).fmod 1000000 = ((1000000 + v.natAbs % 1000000 : Nat) : Int) := by
    rw [Int.fmod_eq_emod_of_nonneg _ (by decide)]; omega
  have ed : ((v.natAbs : Nat) : Int).fdiv 1000000 = ((v.natAbs / 1000000 : Nat) : Int) := by
    rw [Int.fdiv_eq_ediv_of_nonneg _ (by decide)]; omega
  have s6 := six_in (v.natAbs % 1000000)
  have s6r : InB (six (v.natAbs % 1000000) ++ [49]).reverse := fun x hx => by
    rcases List.mem_append.mp (List.mem_reverse.mp hx) with h | h
    · have := s6 x h; omega
    · rw [List.mem_singleton.mp h]; omega
  refine' R.as1 (p := bytI (six (v.natAbs % 1000000)).reverse) ?v2 rfl rfl ?k3
  case v2 =>
    refine' V.as (V.fromB (k := 1) (ns := (six (v.natAbs % 1000000) ++ [49]).reverse) (V.as (V.call i_decimal_octets rfl (.cons (V.as (V.bin (V.grain rfl) (V.bin (V.lo rfl) (V.grain rfl) (Bin.mod (by decide))) Bin.add) (congrArg PV.int em)) rfl .nil) ?hk (f_decimal η (1000000 + v.natAbs % 1000000) (by omega))) (by rw [dd_grain hf])) rfl s6r (by simp [six]) (fun _ _ _ => rfl)) ?e
    case hk => exact Nat.le_trans (Nat.le_of_ble_eq_true rfl) hC
    case e => rw [List.reverse_append]; rfl
  refine R.loop (σ := List Int) (fun fs => [("behind", bytI fs.reverse), ("size", .int ((v.natAbs : Nat) : Int)), ("value", .int v)]) (fun _ => η) (fun fs => st fs = st (six (v.natAbs % 1000000)) ∧ fs.length ≤ 6 ∧ ∀ x ∈ fs, 48 ≤ x ∧ x < 58) (fun fs => fs.length) (six (v.natAbs % 1000000)) ⟨rfl, Nat.le_refl _, s6⟩
    (.cons rfl (.cons rfl (.cons rfl .nil))) (.refl _) fun fs ⟨h1, h2, h3⟩ => ?_
  have hfr : InB fs.reverse := in_of h3
  have hz : fs.reverse.length ≤ 100000 := by rw [List.length_reverse]; omega
  refine' W.up (b := decide ((1 : Int) < (fs.reverse.length : Nat)) && (fs.reverse.getD ((fs.reverse.length : Nat) - 1 : Int).toNat 0 == 48)) ?w4 ⟨fun hc => ?q1, fun hc => ?q2⟩
  case w4 =>
    refine' W.and (W.cmp (V.lenB rfl hz rfl) V.int Cmp.gt rfl) fun h => ?w5
    have h' := of_decide_eq_true h
    exact W.as (W.and (W.cmp (V.itemB (V.lo rfl) (V.bin (V.lenB rfl hz rfl) V.int Bin.sub) hfr hz (by omega) (by omega) rfl (fun _ _ _ => rfl)) V.int Cmp.eq rfl) fun _ => W.and0) (Bool.and_true _)
  case q1 =>
    rw [Bool.and_eq_true, decide_eq_true_eq, beq_iff_eq] at hc
    rw [List.length_reverse] at hc
    match fs, h1, h2, h3, hfr, hz, hc with
    | [], _, _, _, _, _, hc => simp at hc
    | [a], _, _, _, _, _, hc => simp at hc
    | a :: b :: r, h1, h2, h3, hfr, hz, hc =>
      have ha : a = 48 := by
        have := rev_last a (b :: r)
        rw [List.length_reverse] at this
        rw [this] at hc; exact hc.2
      refine' R.as1 (p := bytI (b :: r).reverse) ?v6 rfl rfl ?k6
      case v6 => exact V.as (V.toB (V.lo rfl) (V.bin (V.lenB rfl hz rfl) V.int Bin.sub) (by rw [List.length_reverse, List.length_cons]; omega) hfr hz (fun _ _ _ => rfl)) (by rw [rev_init])
      refine R.nx ⟨b :: r, .cons rfl (.cons rfl (.cons rfl .nil)), .refl _, ⟨?_, by simp at h2 ⊢; omega, fun x hx => h3 x (.tail _ hx)⟩, Nat.lt_succ_self _⟩
      rw [← h1]
      conv => rhs; unfold st
      rw [if_pos ha]
  have hst : fs = st (six (v.natAbs % 1000000)) := by
    rw [← h1]
    match fs, hc with
    | [], _ => rfl
    | [a], _ => rfl
    | a :: b :: r, hc =>
      conv => rhs; unfold st
      rw [if_neg]
      intro ha
      rw [rev_last, ha, List.length_reverse] at hc
      simp at hc
      omega
  subst hst
  have hd1 : (dd (v.natAbs / 1000000)).length ≤ 31 := dd_len (k := 30) (Nat.lt_of_le_of_lt (Nat.div_le_self _ _) hv)
  have l6 := (st_sub (six (v.natAbs % 1000000))).2
  refine' R.re1 (p := bytI (oct v)) ?v7 ⟨rfl, rfl⟩
  case v7 =>
    refine' V.bin (V.bin (V.bin (V.ite (b := decide (v < 0)) (p := bytI (if v < 0 then [45] else [])) ?w7 (fun h => ?a1) (fun h => ?a2)) (V.call i_decimal_octets rfl (.cons (V.as (V.bin (V.lo rfl) (V.grain rfl) (Bin.fdiv (by decide) (noPyB (k := 20) (by decide) rfl))) (congrArg PV.int ed)) rfl .nil) ?hk2 (f_decimal η (v.natAbs / 1000000) ?hn2)) (Bin.addB ?z1)) (V.byI (ns := [46]) rfl) (Bin.addB ?z2)) (V.lo rfl) (Bin.addB ?z3)
    case w7 => (with_reducible repeat' first
    | exact V.int
    | (refine' V.lo ?a9; (case a9 => with_unfolding_all exact rfl))
    | (refine' V.grain ?g9; (case g9 => with_unfolding_all exact rfl)) | (refine' V.lone ?g9; (case g9 => with_unfolding_all exact rfl))
    | refine' V.bin ?_ ?_ ?_
    | refine' V.una ?_ ?_
    | (refine' V.cmp ?_ ?_ ?_ ?d9; (case d9 => with_unfolding_all exact rfl))
    | (refine' W.cmp ?_ ?_ ?_ ?d9; (case d9 => with_unfolding_all exact rfl))
    | refine' V.iti ?_ ?_ ?_
    | (refine' V.abs (g_abs _) ?g9 ?_ ?n9; (case g9 => with_unfolding_all exact rfl); (case n9 => with_unfolding_all exact rfl))
    | refine' V.itc ?_ ?_ ?_
    | exact V.boolc | exact V.nonec | refine' V.bone ?_ | (refine' V.band ?_ (fun _ => ?_)) | (refine' V.bor ?_ (fun _ => ?_)) | (refine' V.not ?_)
    | (refine' W.not ?_) | exact W.and0 | exact W.or0 | (refine' W.and ?_ (fun _ => ?_)) | (refine' W.or ?_ (fun _ => ?_))
    | (refine' W.of ?_ ?d9; (case d9 => with_unfolding_all exact rfl))
    | exact Vs.nil | (refine' Vs.cons ?_ ?n9 ?_; (case n9 => with_unfolding_all exact rfl))
    | exact Bin.add | exact Bin.sub | (refine' Bin.mul (mulB ?m9 ?n9 ?o9); (case m9 => (with_reducible repeat' first  | refine' PyProof.Rows.bits_mul ?_ ?_ | refine' PyProof.Rows.bits_add ?_ ?_ | refine' PyProof.Rows.bits_sub ?_ ?_ | refine' PyProof.Rows.bits_neg ?_ | refine' PyProof.Rows.bits_ite ?_ ?_ | refine' bits_rnd ?_ | refine' PyProof.Rows.bits_fdiv ?_ | refine' PyProof.Rows.bits_fmod ?_ ?_ | exact Nat.le_refl _)); (case n9 => (with_reducible repeat' first  | refine' PyProof.Rows.bits_mul ?_ ?_ | refine' PyProof.Rows.bits_add ?_ ?_ | refine' PyProof.Rows.bits_sub ?_ ?_ | refine' PyProof.Rows.bits_neg ?_ | refine' PyProof.Rows.bits_ite ?_ ?_ | refine' bits_rnd ?_ | refine' PyProof.Rows.bits_fdiv ?_ | refine' PyProof.Rows.bits_fmod ?_ ?_ | exact Nat.le_refl _)); (case o9 => with_unfolding_all exact rfl)) | (refine' Bin.mod ?m9; (case m9 => first | decide | exact h0 | omega)) | (refine' Bin.fdiv ?m9 (noPyB ?n9 ?o9); (case m9 => first | decide | omega); (case n9 => (with_reducible repeat' first  | refine' PyProof.Rows.bits_mul ?_ ?_ | refine' PyProof.Rows.bits_add ?_ ?_ | refine' PyProof.Rows.bits_sub ?_ ?_ | refine' PyProof.Rows.bits_neg ?_ | refine' PyProof.Rows.bits_ite ?_ ?_ | refine' bits_rnd ?_ | refine' PyProof.Rows.bits_fdiv ?_ | refine' PyProof.Rows.bits_fmod ?_ ?_ | exact Nat.le_refl _)); (case o9 => with_unfolding_all exact rfl)) | exact Una.neg
    | exact Cmp.lt | exact Cmp.le | exact Cmp.gt | exact Cmp.ge | exact Cmp.eq | exact Cmp.ne | exact Cmp.eqB
    | exact ItemOf.lst hm | (with_unfolding_all exact ItemOf.lst (.head _)) | (with_unfolding_all exact ItemOf.lst (.tail _ (.head _))) | exact ItemOf.tup hm | (with_unfolding_all exact ItemOf.tup (.head _))
    | exact Nat.le_trans (Nat.le_of_ble_eq_true rfl) hC | ((show _ ≠ _); first | exact h0 | decide | omega)
        | (refine' Nat.le_trans ?m9 (Nat.le_of_ble_eq_true ?o9); (case m9 => (with_reducible repeat' first  | refine' PyProof.Rows.bits_mul ?_ ?_ | refine' PyProof.Rows.bits_add ?_ ?_ | refine' PyProof.Rows.bits_sub ?_ ?_ | refine' PyProof.Rows.bits_neg ?_ | refine' PyProof.Rows.bits_ite ?_ ?_ | refine' bits_rnd ?_ | refine' PyProof.Rows.bits_fdiv ?_ | refine' PyProof.Rows.bits_fmod ?_ ?_ | exact Nat.le_refl _)); (case o9 => with_unfolding_all exact rfl))
    | (with_unfolding_all exact rfl))
    case a1 => rw [if_pos (of_decide_eq_true h)]; exact V.byI rfl
    case a2 => rw [if_neg (of_decide_eq_false h)]; exact V.byI rfl
    case hk2 => exact Nat.le_trans (Nat.le_of_ble_eq_true rfl) hC
    case hn2 => exact Nat.lt_of_le_of_lt (Nat.div_le_self _ _) hv
    case z1 => rw [List.length_reverse]; split <;> simp <;> omega
    case z2 => rw [List.length_append, List.length_reverse]; split <;> simp <;> omega
    case z3 => rw [List.length_append, List.length_append, List.length_reverse, List.length_reverse]; simp [six] at l6; split <;> simp <;> omega
end Mine
end
section
open PySem PySem.W PyProof.Rows PySem.Calls
set_option Elab.async false
set_option linter.unusedVariables false
set_option maxRecDepth 100000
set_option maxHeartbeats 4000000
namespace Mine
theorem warm_F10 : PySem.Challenge.rw_pb0513_01.Holds → kK = kK := by
  k_fill
  intro _; rfl
section
variable {sc : Shape} {C : Ctx sc} {ρ : Rho} {η : Hp} {e : Expr} {x : Str} {pos p1 cp sp up xpos spos : Pos} {ck : Nat} {a : Addr} {fs : List Int} {Φ : PV → Hp → Prop}
/-- objects that are needed no more are dropped -/
theorem E.keep (h : E C ρ η e fun p η' => ∃ η'', List.Sublist η'' η' ∧ Φ p η'') : E C ρ η e Φ := fun ok s Q Er st q => h ok s Q Er st fun p v η' h' tk' ⟨η'', hs, w⟩ i st' => q p v η'' h' tk' w i (st'.sub hs)
theorem V.bytesRev (hx : look1 sc ρ x = some (.ref a)) (hm : (a, HO.lst (intL fs)) ∈ η) (hr : InB fs.reverse) (hz : fs.length ≤ 1000) (hg : isGlob sc "bytes" = true) :
    V C ρ η (.Call (.Name "bytes" xpos) [.Subscript (.Name x p1) (.Slice none none (some (.UnaryOp .USub (.Constant (.int 1) ck cp) up)) sp) spos] [] pos) (bytI fs.reverse) :=
  E.keep (E.ty (T := "bytes") (V.bl g_bytes boot_bytes rfl hg (by decide)) (Es.cons (EM.toE (EM.rev hx hm (by show (intL fs).length ≤ 1000; rw [List.length_map]; exact hz) fun l2 => Es.nil (BltT.bytes (a := l2) (ns := fs.reverse) (by rw [intL_rev]; exact .head _) hr (by rw [List.length_reverse]; exact hz) ⟨η, .cons _ (.refl _), rfl, rfl⟩)))))
end
def wf (acc : List Int) (v : Int) : List Int := acc ++ (if 1 < acc.length then [32] else []) ++ oct v
def wr (ms : List Int) : List Int := ms.foldl wf [91] ++ [93]
theorem oct_len (v : Int) : 1 ≤ (oct v).length := by
  unfold oct
  simp only [List.length_append, List.length_cons, List.length_nil]
  omega
theorem oct_len2 {v : Int} (hv : v.natAbs < 10 ^ 30) : (oct v).length ≤ 40 := by
  have h1 := dd_len (k := 30) (Nat.lt_of_le_of_lt (Nat.div_le_self v.natAbs 1000000) hv)
  have h2 := (st_sub (six (v.natAbs % 1000000))).2
  have h3 : (six (v.natAbs % 1000000)).length = 6 := rfl
  unfold oct
  simp only [List.length_append, List.length_reverse, List.length_cons, List.length_nil]
  split <;> simp only [List.length_cons, List.length_nil] <;> omega
theorem wf_first (v : Int) : wf [91] v = [91] ++ oct v := rfl
theorem wf_next {acc : List Int} (h : 1 < acc.length) (v : Int) : wf acc v = acc ++ ([32] ++ oct v) := by
  unfold wf
  rw [if_pos h, List.append_assoc]
theorem wf_len (acc : List Int) (v : Int) : acc.length + 1 ≤ (wf acc v).length := by
  have := oct_len v
  unfold wf
  simp only [List.length_append]
  omega
theorem wr_six (m0 m1 m2 m3 m4 m5 : Int) : wr [m0, m1, m2, m3, m4, m5] = [91] ++ (oct m0 ++ ([32] ++ oct m1) ++ ([32] ++ oct m2) ++ ([32] ++ oct m3) ++ ([32] ++ oct m4) ++ ([32] ++ oct m5)) ++ [93] := by
  unfold wr
  simp only [List.foldl_cons, List.foldl_nil]
  have l0 := wf_len [91] m0
  have l1 := wf_len (wf [91] m0) m1
  have l2 := wf_len (wf (wf [91] m0) m1) m2
  have l3 := wf_len (wf (wf (wf [91] m0) m1) m2) m3
  simp only [List.length_cons, List.length_nil] at l0
  rw [wf_next (by have := wf_len (wf (wf (wf (wf [91] m0) m1) m2) m3) m4; omega), wf_next (by omega), wf_next (by omega), wf_next (by omega), wf_next (by omega), wf_first]
  simp only [List.append_assoc]
theorem joined_six (s p0 p1 p2 p3 p4 p5 : Array UInt8) : Builtin.Bytes.joined s [p0, p1, p2, p3, p4, p5] = p0 ++ (s ++ p1) ++ (s ++ p2) ++ (s ++ p3) ++ (s ++ p4) ++ (s ++ p5) := by
  simp [Builtin.Bytes.joined, List.zipIdx, Array.append_assoc]
def Num6 (v : Int) : Prop := v.natAbs < 10 ^ 30
theorem f_matrix_octets {η : Hp} {a : Addr} {m0 m1 m2 m3 m4 m5 : Int} (h0 : m0.natAbs < 10 ^ 30) (h1 : m1.natAbs < 10 ^ 30) (h2 : m2.natAbs < 10 ^ 30) (h3 : m3.natAbs < 10 ^ 30) (h4 : m4.natAbs < 10 ^ 30) (h5 : m5.natAbs < 10 ^ 30) :
    Pure 224 3 [.ref a] ((a, HO.lst (intL [m0, m1, m2, m3, m4, m5])) :: η) (bytI (wr [m0, m1, m2, m3, m4, m5])) := by
  refine' Fn.enter1 "m" (fun P => ?ho) (fun P => ?hcd) (fun s v1 => ?hb) ?he ?h
  case ho => exact rfl
  case hcd => kernel_rfl
  case hb => exact BindsTo.of_eq rfl
  case he => rfl
  intro C hC
  have b0 := oct_len2 h0
  have b1 := oct_len2 h1
  have b2 := oct_len2 h2
  have b3 := oct_len2 h3
  have b4 := oct_len2 h4
  have b5 := oct_len2 h5
  have hin : ∀ v ∈ [m0, m1, m2, m3, m4, m5], v.natAbs < 10 ^ 30 := fun v hv => by
    simp only [List.mem_cons, List.not_mem_nil, or_false] at hv
    rcases hv with rfl | rfl | rfl | rfl | rfl | rfl <;> assumption
  refine' R.ret (E.bin (E.bin (V.up (V.byI (ns := [91]) rfl) (E.join (pss := [byteArr (oct m0), byteArr (oct m1), byteArr (oct m2), byteArr (oct m3), byteArr (oct m4), byteArr (oct m5)]) rfl rfl ?e1))))
  case e1 =>
    refine' E.comp ?hcl ?hc (Cs.list (EM.lo ?lo ⟨rfl, rfl⟩) (by show 6 ≤ 1000; decide)) (by show 6 ≤ 1000; decide) (CompGo.pure (fun p => match p with | .int v => bytI (oct v) | q => q) (intL [m0, m1, m2, m3, m4, m5]) [] ?pp) ?hf ?hs
    case hcl => exact rfl
    case hc => rfl
    case lo => rfl
    case pp =>
      intro p hp C' q1 q2 q3
      obtain ⟨v, hv, rfl⟩ := List.mem_map.mp hp
      exact V.call i_number_octets rfl (.cons V.strc rfl (.cons (V.lo rfl) rfl .nil)) (by rw [q2]; exact Nat.le_trans (Nat.le_of_ble_eq_true rfl) hC) (f_octets _ v (hin v hv))
    case hs => intro z; rfl
    case hf =>
      rintro ys η' ⟨rfl, rfl⟩ hl l
      have eJ : Builtin.Bytes.joined [32].toArray [byteArr (oct m0), byteArr (oct m1), byteArr (oct m2), byteArr (oct m3), byteArr (oct m4), byteArr (oct m5)] = byteArr (oct m0 ++ ([32] ++ oct m1) ++ ([32] ++ oct m2) ++ ([32] ++ oct m3) ++ ([32] ++ oct m4) ++ ([32] ++ oct m5)) := by
        rw [joined_six]
        simp only [byteArr_app]
        rfl
      rw [eJ]
      have lJ : (oct m0 ++ ([32] ++ oct m1) ++ ([32] ++ oct m2) ++ ([32] ++ oct m3) ++ ([32] ++ oct m4) ++ ([32] ++ oct m5)).length ≤ 1000 := by
        simp only [List.length_append, List.length_cons, List.length_nil]; omega
      refine ⟨l, rfl, .head _, by show 2 ≤ 6; decide, by rw [byteArr_size]; omega, ?_, _, Bin.addB (by rw [List.length_singleton]; omega), V.up (V.byI (ns := [93]) rfl) ⟨_, Bin.addB (by rw [List.length_append, List.length_singleton, List.length_singleton]; omega), Back.s (.cons _ (.refl _)) ⟨?_, rfl⟩⟩⟩
      · simp only [List.foldl_cons, List.foldl_nil, byteArr_size, List.length_cons, List.length_nil, List.size_toArray]
        omega
      · rw [wr_six]
/-- the state of the second while: what has been signed, what is left -/
theorem six_take (f : Nat) : ∀ i : Nat, i < 6 → (six f).take (i + 1) = (six f).take i ++ [48 + ((f / 10 ^ i % 10 : Nat) : Int)]
  | 0, _ => by simp [six]
  | 1, _ => by simp [six]
  | 2, _ => by simp [six]
  | 3, _ => by simp [six]
  | 4, _ => by simp [six]
  | 5, _ => by simp [six]
  | n + 6, h => by omega
theorem InB.app {a b : List Int} (h : InB a) (k : InB b) : InB (a ++ b) := fun x hx => (List.mem_append.mp hx).elim (h x) (k x)
def sg (ss : List Int) (w : Nat) : List Int := if ss = [] then dd w else ss ++ dz w
theorem sg_next {ss : List Int} {w : Nat} (h : 0 < w ∨ ss = []) : sg (ss ++ [48 + ((w % 10 : Nat) : Int)]) (w / 10) = sg ss w := by
  unfold sg
  rw [if_neg (by simp)]
  by_cases e : ss = []
  · subst e
    rw [if_pos rfl]; rfl
  · rw [if_neg e, dz_pos (h.resolve_right e), List.append_assoc]; rfl
end Mine
end
section
open PySem PySem.W PyProof.Rows PySem.Calls
set_option Elab.async false
set_option linter.unusedVariables false
set_option maxRecDepth 100000
set_option maxHeartbeats 4000000
namespace Mine
theorem warm_F11 : PySem.Challenge.rw_pb0513_01.Holds → kK = kK := by
  k_fill
  intro _; rfl
section
variable {sc : Shape} {C : Ctx sc} {ρ : Rho} {η : Hp} {e1 : Expr} {b1 : Bool} {x : Str} {pos p1 lp cpos : Pos} {a : Addr} {fs : List Int} {Θ : Bool → Hp → Prop}
/-- «.. or x == []» -/
theorem T.orL (h1 : W C ρ η e1 b1) (hx : look1 sc ρ x = some (.ref a)) (hm : (a, HO.lst (intL fs)) ∈ η) (k : ∀ η1, List.Sublist η η1 → Θ (b1 || decide (fs = [])) η1) : T C ρ η (.BoolOp .Or [e1, .Compare (.Name x p1) [.Eq] [.List [] lp] cpos] pos) Θ := by
  refine T.or (h1.up ⟨fun h => ?_, fun h => ?_⟩)
  · have := k η (.refl _)
    rwa [h, Bool.true_or] at this
  · refine T.or (T.cmpH (V.up (p := .ref a) (V.lo hx) (E.lst (Es.nil ⟨Nat.zero_le _, fun l => ⟨decide (fs = []), CmpH.eqL (ms := []) (.tail _ hm) (.head _), fun h' => ?_, fun h' => T.or0 ?_⟩⟩))) rfl)
    · have := k ((l, .lst []) :: η) (.cons _ (.refl _))
      rwa [h, h', Bool.false_or] at this
    · have := k ((l, .lst []) :: η) (.cons _ (.refl _))
      rwa [h, h', Bool.false_or] at this
end
theorem f_written {η : Hp} {a : Addr} {ms : List Int} (hm : ∀ v ∈ ms, v.natAbs < 10 ^ 30) (hl : ms.length ≤ 100) :
    Pure 274 1 [.ref a] ((a, HO.lst (intL ms)) :: η) (bytI (wr ms)) := by
  refine' Fn.enter1 "m" (fun P => ?ho) (fun P => ?hcd) (fun s v1 => ?hb) ?he ?h
  case ho => exact rfl
  case hcd => kernel_rfl
  case hb => exact BindsTo.of_eq rfl
  case he => rfl
  intro C hC
  refine' R.as1 (p := bytI [91]) (V.byI rfl) rfl rfl ?k1
  refine R.forL (a := a) (xs := intL ms) (V.lo rfl) rfl (σ := List Int) (fun acc => [("found", bytI acc)]) (fun _ => η) (fun i acc => acc = (ms.take i).foldl wf [91] ∧ 1 ≤ acc.length ∧ acc.length ≤ 1 + 50 * i ∧ i ≤ 100) [91] ⟨rfl, Nat.le_refl _, Nat.le_refl _, Nat.zero_le _⟩ (.cons rfl .nil) (.refl _)
    (fun i acc p hp ⟨e0, hlo, hhi, hi⟩ C1 c1 c2 c3 => ?turn) (fun acc ⟨e0, hlo, hhi, hi⟩ => ?fin) (fun _ => rfl)
  case fin =>
    rw [List.length_map, List.take_of_length_le (Nat.le_refl _)] at e0
    refine' R.re1 (p := bytI (wr ms)) ?v9 ⟨rfl, rfl⟩
    case v9 =>
      refine V.as (V.bin (V.lo rfl) (V.byI (ns := [93]) rfl) (Bin.addB (by rw [List.length_singleton]; omega))) ?_
      rw [e0]; rfl
  case turn =>
    obtain ⟨v, hv, rfl⟩ : ∃ v, ms[i]? = some v ∧ p = .int v := by
      rw [List.getElem?_map] at hp
      obtain ⟨v, h1, h2⟩ := Option.map_eq_some_iff.mp hp
      exact ⟨v, h1, h2.symm⟩
    have hvn := hm v (List.mem_of_getElem? hv)
    have hi2 : i < ms.length := (List.getElem?_eq_some_iff.mp hv).1
    have hf : v.natAbs % 1000000 < 1000000 := Nat.mod_lt _ (by decide)
    have em : ((v.natAbs : Nat) : Int).fmod 1000000 = ((v.natAbs % 1000000 : Nat) : Int) := by
      rw [Int.fmod_eq_emod_of_nonneg _ (by decide)]; omega
    have ed : ((v.natAbs : Nat) : Int).fdiv 1000000 = ((v.natAbs / 1000000 : Nat) : Int) := by
      rw [Int.fdiv_eq_ediv_of_nonneg _ (by decide)]; omega
    have vabs : ∀ {sc : Shape} {C : Ctx sc} {ρ : Rho} {η : Hp} {x1 x2 x3 : Pos}, isGlob sc "abs" = true → look1 sc ρ "number" = some (.int v) → V C ρ η (.Call (.Name "abs" x1) [.Name "number" x2] [] x3) (.int ((v.natAbs : Nat) : Int)) := fun hg hx =>
      V.as (V.abs (g_abs _) hg (V.lo hx) rfl) (by rw [abs_ite])
    refine' R.tupS ["figures", "rest"] (E.tup (Es.x (E.mkL (es := []) (ps := []) .nil rfl fun l => Es.v (p := .int ((v.natAbs % 1000000 : Nat) : Int)) ?v2 rfl (Es.nil ⟨by show 2 ≤ 1000; decide, fun t => ⟨_, _, rfl, .head _, rfl, _, _, .cons (Sto.loc rfl) (.cons (Sto.loc rfl) .nil), R.drop ?k2⟩⟩)) rfl)) rfl rfl
    case v2 => exact V.as (V.bin (vabs rfl rfl) (V.lone rfl) (Bin.mod (by decide))) (congrArg PV.int em)
    generalize hfe : v.natAbs % 1000000 = f at *
    refine R.forR (n := 6) (ER.range g_range rfl) (by decide) rfl (σ := Nat) (fun j => [("rest", .int ((f / 10 ^ j : Nat) : Int)), ("figures", .ref l), ("number", .int v), ("found", bytI acc)]) (fun j => (l, .lst (intL ((six f).take j))) :: η) (fun i j => j = i) 0 rfl
      (.cons (by rw [Nat.pow_zero, Nat.div_one]; rfl) (.cons rfl (.cons rfl (.cons rfl .nil)))) (.refl _) (fun j j' hj ej C2 d1 d2 d3 => ?turn2) (fun j' ej => ?fin2) (fun _ => rfl)
    case turn2 =>
      subst ej
      refine' R.expr (E.append (a := l) (xs := intL ((six f).take j')) (V.lo rfl) rfl rfl (.head _) (V.up (p := .int (48 + ((f / 10 ^ j' : Nat) : Int).fmod 10)) ?v5 ⟨_, _, .head, ?z5, ?k5⟩)) rfl rfl
      case v5 => exact V.bin V.int (V.bin (V.lo rfl) V.int (Bin.mod (by decide))) Bin.add
      case z5 => show (intL ((six f).take j')).length ≤ 1000; rw [List.length_map, List.length_take]; omega
      refine' R.as1 (p := .int (((f / 10 ^ j' : Nat) : Int).fdiv 10)) ?v6 rfl rfl ?k6
      case v6 => exact V.bin (V.lo rfl) V.int (Bin.fdiv (by decide) (noPyB (k := 4) (by decide) rfl))
      refine R.nil ⟨j' + 1, .cons ?_ (.cons rfl (.cons rfl (.cons rfl .nil))), ?_, rfl⟩
      · rw [fd10, Nat.div_div_eq_div_mul, ← Nat.pow_succ]; rfl
      · rw [fm10, six_take f j' hj, intL_app]; exact .refl _
    subst ej
    have s6 := six_in f
    refine R.loop (σ := List Int) (fun fs => [("figures", .ref l), ("number", .int v), ("found", bytI acc)]) (fun fs => (l, .lst (intL fs)) :: η) (fun fs => st fs = st (six f) ∧ fs.length ≤ 6 ∧ ∀ x ∈ fs, 48 ≤ x ∧ x < 58) (fun fs => fs.length) (six f) ⟨rfl, Nat.le_refl _, s6⟩
      (.cons rfl (.cons rfl (.cons rfl .nil))) (.refl _) fun fs ⟨h1, h2, h3⟩ => ?_
    refine' W.up (b := decide ((1 : Int) < ((intL fs).length : Nat)) && (fs.headD 0 == 48)) ?w4 ⟨fun hc => ?q1, fun hc => ?q2⟩
    case w4 =>
      refine' W.and (W.cmp (V.lenL (a := l) (xs := intL fs) rfl (.head _) (by show (intL fs).length ≤ 1000; rw [List.length_map]; omega) rfl) V.int Cmp.gt rfl) fun h => ?w5
      have h' := of_decide_eq_true h
      rw [List.length_map] at h'
      match fs, h' with
      | a1 :: b1 :: r1, _ => exact W.as (W.and (W.cmp (V.itc (V.lo rfl) (.lst (.head _)) rfl) V.int Cmp.eq rfl) fun _ => W.and0) (Bool.and_true _)
    case q1 =>
      rw [Bool.and_eq_true, decide_eq_true_eq, beq_iff_eq, List.length_map] at hc
      match fs, h1, h2, h3, hc with
      | [], _, _, _, hc => simp at hc
      | [a1], _, _, _, hc => simp at hc
      | a1 :: b1 :: r1, h1, h2, h3, hc =>
        have ha : a1 = 48 := hc.2
        refine' R.expr (E.pop0 (V.lo rfl) rfl (zs := intL (b1 :: r1)) .head (by rw [List.length_map]; simp at h2 ⊢; omega) ?kpop) rfl rfl
        refine R.nx ⟨b1 :: r1, .cons rfl (.cons rfl (.cons rfl .nil)), .refl _, ⟨?_, by simp at h2 ⊢; omega, fun x hx => h3 x (.tail _ hx)⟩, Nat.lt_succ_self _⟩
        rw [← h1]
        conv => rhs; unfold st
        rw [if_pos ha]
    have hst : fs = st (six f) := by
      rw [← h1]
      match fs, hc with
      | [], _ => rfl
      | [a1], _ => rfl
      | a1 :: b1 :: r1, hc =>
        conv => rhs; unfold st
        rw [if_neg]
        intro ha
        rw [List.length_map] at hc
        first | (simp [ha] at hc; done) | (simp [ha] at hc; omega)
    subst hst
    generalize hN : v.natAbs / 1000000 = N at *
    have hNn : N < 10 ^ 30 := by
      rw [← hN]; exact Nat.lt_of_le_of_lt (Nat.div_le_self _ _) hvn
    have ddl := dd_len (k := 30) hNn
    refine' R.tupS ["whole", "signs"] (E.tup (Es.v (p := .int (N : Int)) ?v7 rfl (Es.x (E.mkL (es := []) (ps := []) .nil rfl fun l2 => Es.nil ⟨by show 2 ≤ 1000; decide, fun t => ⟨_, _, rfl, .head _, rfl, _, _, .cons (Sto.loc rfl) (.cons (Sto.loc rfl) .nil), R.drop ?k7⟩⟩) rfl))) rfl rfl
    case v7 => exact V.as (V.bin (vabs rfl rfl) (V.lone rfl) (Bin.fdiv (by decide) (noPyB (k := 20) (by decide) rfl))) (congrArg PV.int ed)
    refine R.loop (σ := List Int × Nat) (fun c => [("whole", .int c.2), ("signs", .ref l2), ("figures", .ref l), ("number", .int v), ("found", bytI acc)]) (fun c => (l2, .lst (intL c.1)) :: (l, .lst (intL (st (six f)))) :: η) (fun c => sg c.1 c.2 = dd N) (fun c => if c.1 = [] then c.2 + 1 else c.2) ([], N) rfl
      (.cons rfl (.cons rfl (.cons rfl (.cons rfl (.cons rfl .nil))))) (.refl _) fun ⟨ss, w⟩ hP => ?_
    replace hP : sg ss w = dd N := hP
    have hsl : ss.length ≤ 31 := by
      by_cases e : ss = []
      · rw [e]; exact Nat.zero_le _
      · unfold sg at hP
        rw [if_neg e] at hP
        have := congrArg List.length hP
        rw [List.length_append] at this
        omega
    refine T.orL (b1 := decide ((0 : Int) < w)) (a := l2) (fs := ss) ?w9 rfl (.head _) fun η1 hs1 => ⟨fun hc => R.sub hs1 ?body, fun hc => R.sub hs1 ?aft⟩
    case w9 => exact W.cmp (V.lo rfl) V.int Cmp.gt rfl
    case body =>
      have h0 : 0 < w ∨ ss = [] := by
        rw [Bool.or_eq_true, decide_eq_true_eq, decide_eq_true_eq] at hc
        exact hc.imp (fun h => by omega) id
      refine' R.expr (E.append (a := l2) (xs := intL ss) (V.lo rfl) rfl rfl (.head _) (V.up (p := .int (48 + (w : Int).fmod 10)) ?v8 ⟨_, _, .head, by show (intL ss).length ≤ 1000; rw [List.length_map]; omega, ?k8⟩)) rfl rfl
      case v8 => exact V.bin V.int (V.bin (V.lo rfl) V.int (Bin.mod (by decide))) Bin.add
      refine' R.as1 (p := .int ((w : Int).fdiv 10)) ?v9 rfl rfl ?k9
      case v9 => exact V.bin (V.lo rfl) V.int (Bin.fdiv (by decide) (noPyB (k := 4) (by decide) rfl))
      refine R.nx ⟨(ss ++ [48 + ((w % 10 : Nat) : Int)], w / 10), .cons (by rw [fd10]; rfl) (.cons rfl (.cons rfl (.cons rfl (.cons rfl .nil)))), by rw [fm10, intL_app]; exact .refl _, ?_, ?_⟩
      · show sg (ss ++ [48 + ((w % 10 : Nat) : Int)]) (w / 10) = dd N
        rw [sg_next h0, hP]
      · show (if ss ++ [48 + ((w % 10 : Nat) : Int)] = [] then w / 10 + 1 else w / 10) < if ss = [] then w + 1 else w
        rw [if_neg (by simp)]
        by_cases e : ss = []
        · rw [if_pos e]; exact Nat.lt_succ_of_le (Nat.div_le_self _ _)
        · rw [if_neg e]; exact Nat.div_lt_self (h0.resolve_right e) (by decide)
    have hss : ss = dd N := by
      rw [Bool.or_eq_false_iff, decide_eq_false_iff_not, decide_eq_false_iff_not] at hc
      have hw : w = 0 := by omega
      unfold sg at hP
      rwa [if_neg hc.2, hw, dz_zero, List.append_nil] at hP
    subst hss
    refine' R.as1 (p := bytI (if v < 0 then [45] else [])) (V.ite (b := decide (v < 0)) ?w10 (fun h => ?a1) (fun h => ?a2)) rfl rfl ?k10
    case w10 => (with_reducible repeat' first
    | exact V.int
    | (refine' V.lo ?a9; (case a9 => with_unfolding_all exact rfl))
    | (refine' V.grain ?g9; (case g9 => with_unfolding_all exact rfl)) | (refine' V.lone ?g9; (case g9 => with_unfolding_all exact rfl))
    | refine' V.bin ?_ ?_ ?_
    | refine' V.una ?_ ?_
    | (refine' V.cmp ?_ ?_ ?_ ?d9; (case d9 => with_unfolding_all exact rfl))
    | (refine' W.cmp ?_ ?_ ?_ ?d9; (case d9 => with_unfolding_all exact rfl))
    | refine' V.iti ?_ ?_ ?_
    | (refine' V.abs (g_abs _) ?g9 ?_ ?n9; (case g9 => with_unfolding_all exact rfl); (case n9 => with_unfolding_all exact rfl))
    | refine' V.itc ?_ ?_ ?_
    | exact V.boolc | exact V.nonec | refine' V.bone ?_ | (refine' V.band ?_ (fun _ => ?_)) | (refine' V.bor ?_ (fun _ => ?_)) | (refine' V.not ?_)
    | (refine' W.not ?_) | exact W.and0 | exact W.or0 | (refine' W.and ?_ (fun _ => ?_)) | (refine' W.or ?_ (fun _ => ?_))
    | (refine' W.of ?_ ?d9; (case d9 => with_unfolding_all exact rfl))
    | exact Vs.nil | (refine' Vs.cons ?_ ?n9 ?_; (case n9 => with_unfolding_all exact rfl))
    | exact Bin.add | exact Bin.sub | (refine' Bin.mul (mulB ?m9 ?n9 ?o9); (case m9 => (with_reducible repeat' first  | refine' PyProof.Rows.bits_mul ?_ ?_ | refine' PyProof.Rows.bits_add ?_ ?_ | refine' PyProof.Rows.bits_sub ?_ ?_ | refine' PyProof.Rows.bits_neg ?_ | refine' PyProof.Rows.bits_ite ?_ ?_ | refine' bits_rnd ?_ | refine' PyProof.Rows.bits_fdiv ?_ | refine' PyProof.Rows.bits_fmod ?_ ?_ | exact Nat.le_refl _)); (case n9 => (with_reducible repeat' first  | refine' PyProof.Rows.bits_mul ?_ ?_ | refine' PyProof.Rows.bits_add ?_ ?_ | refine' PyProof.Rows.bits_sub ?_ ?_ | refine' PyProof.Rows.bits_neg ?_ | refine' PyProof.Rows.bits_ite ?_ ?_ | refine' bits_rnd ?_ | refine' PyProof.Rows.bits_fdiv ?_ | refine' PyProof.Rows.bits_fmod ?_ ?_ | exact Nat.le_refl _)); (case o9 => with_unfolding_all exact rfl)) | (refine' Bin.mod ?m9; (case m9 => first | decide | exact h0 | omega)) | (refine' Bin.fdiv ?m9 (noPyB ?n9 ?o9); (case m9 => first | decide | omega); (case n9 => (with_reducible repeat' first  | refine' PyProof.Rows.bits_mul ?_ ?_ | refine' PyProof.Rows.bits_add ?_ ?_ | refine' PyProof.Rows.bits_sub ?_ ?_ | refine' PyProof.Rows.bits_neg ?_ | refine' PyProof.Rows.bits_ite ?_ ?_ | refine' bits_rnd ?_ | refine' PyProof.Rows.bits_fdiv ?_ | refine' PyProof.Rows.bits_fmod ?_ ?_ | exact Nat.le_refl _)); (case o9 => with_unfolding_all exact rfl)) | exact Una.neg
    | exact Cmp.lt | exact Cmp.le | exact Cmp.gt | exact Cmp.ge | exact Cmp.eq | exact Cmp.ne | exact Cmp.eqB
    | exact ItemOf.lst hm | (with_unfolding_all exact ItemOf.lst (.head _)) | (with_unfolding_all exact ItemOf.lst (.tail _ (.head _))) | exact ItemOf.tup hm | (with_unfolding_all exact ItemOf.tup (.head _))
    | exact Nat.le_trans (Nat.le_of_ble_eq_true rfl) hC | ((show _ ≠ _); first | exact h0 | decide | omega)
        | (refine' Nat.le_trans ?m9 (Nat.le_of_ble_eq_true ?o9); (case m9 => (with_reducible repeat' first  | refine' PyProof.Rows.bits_mul ?_ ?_ | refine' PyProof.Rows.bits_add ?_ ?_ | refine' PyProof.Rows.bits_sub ?_ ?_ | refine' PyProof.Rows.bits_neg ?_ | refine' PyProof.Rows.bits_ite ?_ ?_ | refine' bits_rnd ?_ | refine' PyProof.Rows.bits_fdiv ?_ | refine' PyProof.Rows.bits_fmod ?_ ?_ | exact Nat.le_refl _)); (case o9 => with_unfolding_all exact rfl))
    | (with_unfolding_all exact rfl))
    case a1 => rw [if_pos (of_decide_eq_true h)]; exact V.byI rfl
    case a2 => rw [if_neg (of_decide_eq_false h)]; exact V.byI rfl
    have l6 := (st_sub (six f)).2
    have l6' : (six f).length = 6 := rfl
    have s5 : (if v < 0 then [45] else ([] : List Int)).length ≤ 1 := by split <;> decide
    have s4 : (if 1 < acc.length then [32] else ([] : List Int)).length ≤ 1 := by split <;> decide
    refine' R.as1 (p := bytI (acc ++ (if 1 < acc.length then [32] else []) ++ (if v < 0 then [45] else []) ++ (dd N).reverse ++ [46] ++ (st (six f)).reverse)) ?v11 rfl rfl ?k11
    case v11 =>
      refine' V.bin (V.bin (V.bin (V.bin (V.bin (V.lo rfl) (V.ite (b := decide ((1 : Int) < (acc.length : Nat))) (p := bytI (if 1 < acc.length then [32] else [])) ?w12 (fun h => ?a3) (fun h => ?a4)) (Bin.addB ?y1)) (V.lo rfl) (Bin.addB ?y2)) (V.bytesRev (a := l2) (fs := dd N) rfl (.head _) (in_of (dd_in hNn)) (by omega) rfl) (Bin.addB ?y3)) (V.byI (ns := [46]) rfl) (Bin.addB ?y4))
        (V.bytesRev (a := l) (fs := st (six f)) rfl (.tail _ (.head _)) (in_of fun x hx => s6 x ((st_sub (six f)).1 x hx)) (by omega) rfl) (Bin.addB ?y5)
      case w12 => exact W.cmp (V.lenB rfl (by omega) rfl) V.int Cmp.gt rfl
      case a3 => rw [if_pos (show 1 < acc.length by have := of_decide_eq_true h; omega)]; exact V.byI rfl
      case a4 => rw [if_neg (show ¬ 1 < acc.length by have := of_decide_eq_false h; omega)]; exact V.byI rfl
      case y1 => omega
      case y2 => rw [List.length_append]; omega
      case y3 => rw [List.length_append, List.length_append, List.length_reverse]; omega
      case y4 => rw [List.length_append, List.length_append, List.length_append, List.length_reverse]; simp only [List.length_cons, List.length_nil]; omega
      case y5 => rw [List.length_append, List.length_append, List.length_append, List.length_append, List.length_reverse, List.length_reverse]; simp only [List.length_cons, List.length_nil]; omega
    have ewf : acc ++ (if 1 < acc.length then [32] else []) ++ (if v < 0 then [45] else []) ++ (dd N).reverse ++ [46] ++ (st (six f)).reverse = wf acc v := by
      unfold wf oct
      rw [hN, hfe]
      simp only [List.append_assoc]
    have oc := oct_len2 hvn
    refine R.nil ⟨wf acc v, .cons (by rw [ewf]; rfl) .nil, .cons _ (.cons _ (.refl _)), ?_, ?_, ?_, by omega⟩
    · rw [List.take_add_one, hv, List.foldl_append, ← e0]; rfl
    · have := wf_len acc v; omega
    · unfold wf
      rw [List.length_append, List.length_append]
      omega
end Mine
end
section
open PySem PySem.W PyProof.Rows PySem.Calls
set_option Elab.async false
set_option linter.unusedVariables false
set_option maxRecDepth 100000
set_option maxHeartbeats 4000000
namespace Mine
theorem warm_F12 : PySem.Challenge.rw_pb0513_01.Holds → kK = kK := by
  k_fill
  intro _; rfl
def sgn (x : Int) : Int := (if decide (0 < x) = true then 1 else 0) - if decide (x < 0) = true then 1 else 0
theorem sgn_pos {x : Int} (h : 0 < x) : sgn x = 1 := by unfold sgn; rw [if_pos (by simpa using h), if_neg (by simp; omega)]; rfl
theorem sgn_neg {x : Int} (h : x < 0) : sgn x = -1 := by unfold sgn; rw [if_neg (by simp; omega), if_pos (by simpa using h)]; rfl
theorem sgn_zero : sgn 0 = 0 := rfl
theorem sgn_eq0 {x : Int} (h : sgn x = 0) : x = 0 := by
  rcases Int.lt_trichotomy x 0 with h' | h' | h'
  · rw [sgn_neg h'] at h; omega
  · exact h'
  · rw [sgn_pos h'] at h; omega
/-- the quarters by four signs -/
def qs (s : List Int) : Option (Int × Bool) :=
  if s = [1, 0, 0, 1] then some (0, false) else if s = [-1, 0, 0, 1] then some (0, true) else if s = [0, 1, -1, 0] then some (1, false) else if s = [0, -1, -1, 0] then some (1, true)
  else if s = [-1, 0, 0, -1] then some (2, false) else if s = [1, 0, 0, -1] then some (2, true) else if s = [0, -1, 1, 0] then some (3, false) else if s = [0, 1, 1, 0] then some (3, true) else none
def qt (m0 m1 m2 m3 : Int) : Option (Int × Bool) := if m0 * m3 = m1 * m2 then none else qs [sgn m0, sgn m1, sgn m2, sgn m3]
def qu (m0 m1 m2 m3 : Int) : Option (Int × Bool) :=
  if (!((m1 == 0 && m2 == 0) || (m0 == 0 && m3 == 0)) || (m0 * m3 - m1 * m2 == 0)) = true then none
  else if ((if decide (m0 * m3 - m1 * m2 < 0) = true then -m1 else m1) == 0) = true then some (if decide (0 < if decide (m0 * m3 - m1 * m2 < 0) = true then -m0 else m0) = true then 0 else 2, decide (m0 * m3 - m1 * m2 < 0))
  else some (if decide (0 < if decide (m0 * m3 - m1 * m2 < 0) = true then -m1 else m1) = true then 1 else 3, decide (m0 * m3 - m1 * m2 < 0))
theorem qs_none {a b c d : Int} (h : ¬ (b = 0 ∧ c = 0) ∧ ¬ (a = 0 ∧ d = 0)) : qs [a, b, c, d] = none := by
  unfold qs
  simp only [List.cons.injEq, and_true]
  repeat rw [if_neg (by omega)]
theorem qu_qt (m0 m1 m2 m3 : Int) : qu m0 m1 m2 m3 = qt m0 m1 m2 m3 := by
  unfold qu qt
  by_cases hs : m0 * m3 = m1 * m2
  · rw [if_pos hs, if_pos]
    simp [hs]
  rw [if_neg hs]
  have hs' : (m0 * m3 - m1 * m2 == 0) = false := by simp; omega
  rw [hs', Bool.or_false]
  by_cases h1 : m1 = 0 ∧ m2 = 0
  · obtain ⟨rfl, rfl⟩ := h1
    simp only [Int.zero_mul, Int.mul_zero, Int.sub_zero] at *
    have n0 : m0 ≠ 0 := fun e => hs (by rw [e, Int.zero_mul])
    have n3 : m3 ≠ 0 := fun e => hs (by rw [e, Int.mul_zero])
    rcases Int.lt_or_gt_of_ne n0 with a | a <;> rcases Int.lt_or_gt_of_ne n3 with b | b
    · have := Int.mul_pos_of_neg_of_neg a b
      simp [sgn_neg a, sgn_neg b, sgn_zero, qs, show ¬ m0 * m3 < 0 by omega, show ¬ 0 < m0 by omega]
    · have := Int.mul_neg_of_neg_of_pos a b
      simp [sgn_neg a, sgn_pos b, sgn_zero, qs, this, a, show 0 < -m0 by omega]
    · have := Int.mul_neg_of_pos_of_neg a b
      simp [sgn_pos a, sgn_neg b, sgn_zero, qs, this, show 0 ≤ m0 by omega, show ¬ 0 < -m0 by omega]
    · have := Int.mul_pos a b
      simp [sgn_pos a, sgn_pos b, sgn_zero, qs, show ¬ m0 * m3 < 0 by omega, a]
  · by_cases h2 : m0 = 0 ∧ m3 = 0
    · obtain ⟨rfl, rfl⟩ := h2
      simp only [Int.zero_mul, Int.mul_zero, Int.zero_sub] at *
      have n1 : m1 ≠ 0 := fun e => hs (by rw [e, Int.zero_mul])
      have n2 : m2 ≠ 0 := fun e => hs (by rw [e, Int.mul_zero])
      rcases Int.lt_or_gt_of_ne n1 with a | a <;> rcases Int.lt_or_gt_of_ne n2 with b | b
      · have := Int.mul_pos_of_neg_of_neg a b
        simp [sgn_neg a, sgn_neg b, sgn_zero, qs, show -(m1 * m2) < 0 by omega, show 0 < -m1 by omega, n1, this, a]
      · have := Int.mul_neg_of_neg_of_pos a b
        simp [sgn_neg a, sgn_pos b, sgn_zero, qs, show ¬ -(m1 * m2) < 0 by omega, show ¬ 0 < m1 by omega, n1, show ¬ 0 < m1 * m2 by omega]
      · have := Int.mul_neg_of_pos_of_neg a b
        simp [sgn_pos a, sgn_neg b, sgn_zero, qs, show ¬ -(m1 * m2) < 0 by omega, a, n1, show ¬ 0 < m1 * m2 by omega]
      · have := Int.mul_pos a b
        simp [sgn_pos a, sgn_pos b, sgn_zero, qs, show -(m1 * m2) < 0 by omega, show ¬ 0 < -m1 by omega, n1, this, show ¬ m1 < 0 by omega]
    · have hu : ((m1 == 0 && m2 == 0) || (m0 == 0 && m3 == 0)) = false := by
        rw [Bool.or_eq_false_iff, ← Bool.not_eq_true, ← Bool.not_eq_true, Bool.and_eq_true, Bool.and_eq_true, beq_iff_eq, beq_iff_eq, beq_iff_eq, beq_iff_eq]
        exact ⟨h1, h2⟩
      rw [hu, if_pos (show (!false) = true from rfl), qs_none ⟨fun h => h1 ⟨sgn_eq0 h.1, sgn_eq0 h.2⟩, fun h => h2 ⟨sgn_eq0 h.1, sgn_eq0 h.2⟩⟩]
theorem f_turns {η : Hp} {a : Addr} {m0 m1 m2 m3 m4 m5 : Int} (hm : (a, HO.lst (intL [m0, m1, m2, m3, m4, m5])) ∈ η) (b_m0 : bits m0 ≤ 40) (b_m1 : bits m1 ≤ 40) (b_m2 : bits m2 ≤ 40) (b_m3 : bits m3 ≤ 40) : Fn 231 3 [.ref a] η (RQ (qt m0 m1 m2 m3) η) := by
  rw [← qu_qt]
  refine' Fn.enter1 "m" (fun P => ?ho) (fun P => ?hcd) (fun s v1 => ?hb) ?he ?h
  case ho => exact rfl
  case hcd => kernel_rfl
  case hb => exact BindsTo.of_eq rfl
  case he => rfl
  intro C hC
  refine' R.ifr (b := (!((m1 == 0 && m2 == 0) || (m0 == 0 && m3 == 0)) || (m0 * m3 - m1 * m2 == 0))) ?w (fun h => V.up V.nonec ?e1) fun h => ?k
  case w =>
    refine' W.as (b := !((m1 == 0 && m2 == 0) || (m0 == 0 && m3 == 0)) || ((m0 * m3 - m1 * m2 == 0) || false)) ?w0 (by rw [Bool.or_false])
    case w0 => (with_reducible repeat' first
    | exact V.int
    | (refine' V.lo ?a9; (case a9 => with_unfolding_all exact rfl))
    | (refine' V.grain ?g9; (case g9 => with_unfolding_all exact rfl)) | (refine' V.lone ?g9; (case g9 => with_unfolding_all exact rfl))
    | refine' V.bin ?_ ?_ ?_
    | refine' V.una ?_ ?_
    | (refine' V.cmp ?_ ?_ ?_ ?d9; (case d9 => with_unfolding_all exact rfl))
    | (refine' W.cmp ?_ ?_ ?_ ?d9; (case d9 => with_unfolding_all exact rfl))
    | refine' V.iti ?_ ?_ ?_
    | (refine' V.abs (g_abs _) ?g9 ?_ ?n9; (case g9 => with_unfolding_all exact rfl); (case n9 => with_unfolding_all exact rfl))
    | refine' V.itc ?_ ?_ ?_
    | exact V.boolc | exact V.nonec | refine' V.bone ?_ | (refine' V.band ?_ (fun _ => ?_)) | (refine' V.bor ?_ (fun _ => ?_)) | (refine' V.not ?_)
    | (refine' W.not ?_) | exact W.and0 | exact W.or0 | (refine' W.and ?_ (fun _ => ?_)) | (refine' W.or ?_ (fun _ => ?_))
    | (refine' W.of ?_ ?d9; (case d9 => with_unfolding_all exact rfl))
    | exact Vs.nil | (refine' Vs.cons ?_ ?n9 ?_; (case n9 => with_unfolding_all exact rfl))
    | exact Bin.add | exact Bin.sub | (refine' Bin.mul (mulB ?m9 ?n9 ?o9); (case m9 => (with_reducible repeat' first | exact b_m0 | exact b_m1 | exact b_m2 | exact b_m3 | refine' PyProof.Rows.bits_mul ?_ ?_ | refine' PyProof.Rows.bits_add ?_ ?_ | refine' PyProof.Rows.bits_sub ?_ ?_ | refine' PyProof.Rows.bits_neg ?_ | refine' PyProof.Rows.bits_ite ?_ ?_ | refine' bits_rnd ?_ | refine' PyProof.Rows.bits_fdiv ?_ | refine' PyProof.Rows.bits_fmod ?_ ?_ | exact Nat.le_refl _)); (case n9 => (with_reducible repeat' first | exact b_m0 | exact b_m1 | exact b_m2 | exact b_m3 | refine' PyProof.Rows.bits_mul ?_ ?_ | refine' PyProof.Rows.bits_add ?_ ?_ | refine' PyProof.Rows.bits_sub ?_ ?_ | refine' PyProof.Rows.bits_neg ?_ | refine' PyProof.Rows.bits_ite ?_ ?_ | refine' bits_rnd ?_ | refine' PyProof.Rows.bits_fdiv ?_ | refine' PyProof.Rows.bits_fmod ?_ ?_ | exact Nat.le_refl _)); (case o9 => with_unfolding_all exact rfl)) | (refine' Bin.mod ?m9; (case m9 => first | decide | exact h0 | omega)) | (refine' Bin.fdiv ?m9 (noPyB ?n9 ?o9); (case m9 => first | decide | omega); (case n9 => (with_reducible repeat' first | exact b_m0 | exact b_m1 | exact b_m2 | exact b_m3 | refine' PyProof.Rows.bits_mul ?_ ?_ | refine' PyProof.Rows.bits_add ?_ ?_ | refine' PyProof.Rows.bits_sub ?_ ?_ | refine' PyProof.Rows.bits_neg ?_ | refine' PyProof.Rows.bits_ite ?_ ?_ | refine' bits_rnd ?_ | refine' PyProof.Rows.bits_fdiv ?_ | refine' PyProof.Rows.bits_fmod ?_ ?_ | exact Nat.le_refl _)); (case o9 => with_unfolding_all exact rfl)) | exact Una.neg
    | exact Cmp.lt | exact Cmp.le | exact Cmp.gt | exact Cmp.ge | exact Cmp.eq | exact Cmp.ne | exact Cmp.eqB
    | exact ItemOf.lst hm | (with_unfolding_all exact ItemOf.lst (.head _)) | (with_unfolding_all exact ItemOf.lst (.tail _ (.head _))) | exact ItemOf.tup hm | (with_unfolding_all exact ItemOf.tup (.head _))
    | exact Nat.le_trans (Nat.le_of_ble_eq_true rfl) hC | ((show _ ≠ _); first | exact h0 | decide | omega)
        | (refine' Nat.le_trans ?m9 (Nat.le_of_ble_eq_true ?o9); (case m9 => (with_reducible repeat' first | exact b_m0 | exact b_m1 | exact b_m2 | exact b_m3 | refine' PyProof.Rows.bits_mul ?_ ?_ | refine' PyProof.Rows.bits_add ?_ ?_ | refine' PyProof.Rows.bits_sub ?_ ?_ | refine' PyProof.Rows.bits_neg ?_ | refine' PyProof.Rows.bits_ite ?_ ?_ | refine' bits_rnd ?_ | refine' PyProof.Rows.bits_fdiv ?_ | refine' PyProof.Rows.bits_fmod ?_ ?_ | exact Nat.le_refl _)); (case o9 => with_unfolding_all exact rfl))
    | (refine' V.call i_determinant ?g9 ?_ ?_ (f_determinant ?_ ?_ ?_ ?_ ?_); (case g9 => with_unfolding_all exact rfl))
    | (refine' V.call i_is_upright ?g9 ?_ ?_ (f_is_upright ?_); (case g9 => with_unfolding_all exact rfl))
    | (refine' V.call i_is_singular ?g9 ?_ ?_ (f_is_singular ?_ ?_ ?_ ?_ ?_); (case g9 => with_unfolding_all exact rfl))
    | (refine' V.call i_is_mirror ?g9 ?_ ?_ (f_is_mirror ?_ ?_ ?_ ?_ ?_); (case g9 => with_unfolding_all exact rfl))
    | exact hm
    | (with_unfolding_all exact rfl))
  case e1 => unfold qu; rw [if_pos h]; exact ⟨rfl, rfl⟩
  have hu : qu m0 m1 m2 m3 = _ := if_neg (ne_true_of_eq_false h)
  rw [hu]
  refine' R.as1 (p := .bool (decide (m0 * m3 - m1 * m2 < 0))) ?v1 rfl rfl ?k1
  case v1 => (with_reducible repeat' first
    | exact V.int
    | (refine' V.lo ?a9; (case a9 => with_unfolding_all exact rfl))
    | (refine' V.grain ?g9; (case g9 => with_unfolding_all exact rfl)) | (refine' V.lone ?g9; (case g9 => with_unfolding_all exact rfl))
    | refine' V.bin ?_ ?_ ?_
    | refine' V.una ?_ ?_
    | (refine' V.cmp ?_ ?_ ?_ ?d9; (case d9 => with_unfolding_all exact rfl))
    | (refine' W.cmp ?_ ?_ ?_ ?d9; (case d9 => with_unfolding_all exact rfl))
    | refine' V.iti ?_ ?_ ?_
    | (refine' V.abs (g_abs _) ?g9 ?_ ?n9; (case g9 => with_unfolding_all exact rfl); (case n9 => with_unfolding_all exact rfl))
    | refine' V.itc ?_ ?_ ?_
    | exact V.boolc | exact V.nonec | refine' V.bone ?_ | (refine' V.band ?_ (fun _ => ?_)) | (refine' V.bor ?_ (fun _ => ?_)) | (refine' V.not ?_)
    | (refine' W.not ?_) | exact W.and0 | exact W.or0 | (refine' W.and ?_ (fun _ => ?_)) | (refine' W.or ?_ (fun _ => ?_))
    | (refine' W.of ?_ ?d9; (case d9 => with_unfolding_all exact rfl))
    | exact Vs.nil | (refine' Vs.cons ?_ ?n9 ?_; (case n9 => with_unfolding_all exact rfl))
    | exact Bin.add | exact Bin.sub | (refine' Bin.mul (mulB ?m9 ?n9 ?o9); (case m9 => (with_reducible repeat' first | exact b_m0 | exact b_m1 | exact b_m2 | exact b_m3 | refine' PyProof.Rows.bits_mul ?_ ?_ | refine' PyProof.Rows.bits_add ?_ ?_ | refine' PyProof.Rows.bits_sub ?_ ?_ | refine' PyProof.Rows.bits_neg ?_ | refine' PyProof.Rows.bits_ite ?_ ?_ | refine' bits_rnd ?_ | refine' PyProof.Rows.bits_fdiv ?_ | refine' PyProof.Rows.bits_fmod ?_ ?_ | exact Nat.le_refl _)); (case n9 => (with_reducible repeat' first | exact b_m0 | exact b_m1 | exact b_m2 | exact b_m3 | refine' PyProof.Rows.bits_mul ?_ ?_ | refine' PyProof.Rows.bits_add ?_ ?_ | refine' PyProof.Rows.bits_sub ?_ ?_ | refine' PyProof.Rows.bits_neg ?_ | refine' PyProof.Rows.bits_ite ?_ ?_ | refine' bits_rnd ?_ | refine' PyProof.Rows.bits_fdiv ?_ | refine' PyProof.Rows.bits_fmod ?_ ?_ | exact Nat.le_refl _)); (case o9 => with_unfolding_all exact rfl)) | (refine' Bin.mod ?m9; (case m9 => first | decide | exact h0 | omega)) | (refine' Bin.fdiv ?m9 (noPyB ?n9 ?o9); (case m9 => first | decide | omega); (case n9 => (with_reducible repeat' first | exact b_m0 | exact b_m1 | exact b_m2 | exact b_m3 | refine' PyProof.Rows.bits_mul ?_ ?_ | refine' PyProof.Rows.bits_add ?_ ?_ | refine' PyProof.Rows.bits_sub ?_ ?_ | refine' PyProof.Rows.bits_neg ?_ | refine' PyProof.Rows.bits_ite ?_ ?_ | refine' bits_rnd ?_ | refine' PyProof.Rows.bits_fdiv ?_ | refine' PyProof.Rows.bits_fmod ?_ ?_ | exact Nat.le_refl _)); (case o9 => with_unfolding_all exact rfl)) | exact Una.neg
    | exact Cmp.lt | exact Cmp.le | exact Cmp.gt | exact Cmp.ge | exact Cmp.eq | exact Cmp.ne | exact Cmp.eqB
    | exact ItemOf.lst hm | (with_unfolding_all exact ItemOf.lst (.head _)) | (with_unfolding_all exact ItemOf.lst (.tail _ (.head _))) | exact ItemOf.tup hm | (with_unfolding_all exact ItemOf.tup (.head _))
    | exact Nat.le_trans (Nat.le_of_ble_eq_true rfl) hC | ((show _ ≠ _); first | exact h0 | decide | omega)
        | (refine' Nat.le_trans ?m9 (Nat.le_of_ble_eq_true ?o9); (case m9 => (with_reducible repeat' first | exact b_m0 | exact b_m1 | exact b_m2 | exact b_m3 | refine' PyProof.Rows.bits_mul ?_ ?_ | refine' PyProof.Rows.bits_add ?_ ?_ | refine' PyProof.Rows.bits_sub ?_ ?_ | refine' PyProof.Rows.bits_neg ?_ | refine' PyProof.Rows.bits_ite ?_ ?_ | refine' bits_rnd ?_ | refine' PyProof.Rows.bits_fdiv ?_ | refine' PyProof.Rows.bits_fmod ?_ ?_ | exact Nat.le_refl _)); (case o9 => with_unfolding_all exact rfl))
    | (refine' V.call i_determinant ?g9 ?_ ?_ (f_determinant ?_ ?_ ?_ ?_ ?_); (case g9 => with_unfolding_all exact rfl))
    | (refine' V.call i_is_upright ?g9 ?_ ?_ (f_is_upright ?_); (case g9 => with_unfolding_all exact rfl))
    | (refine' V.call i_is_singular ?g9 ?_ ?_ (f_is_singular ?_ ?_ ?_ ?_ ?_); (case g9 => with_unfolding_all exact rfl))
    | (refine' V.call i_is_mirror ?g9 ?_ ?_ (f_is_mirror ?_ ?_ ?_ ?_ ?_); (case g9 => with_unfolding_all exact rfl))
    | exact hm
    | (with_unfolding_all exact rfl))
  generalize decide (m0 * m3 - m1 * m2 < 0) = mir at *
  refine' R.tupU ["x", "y"] [("x", _), ("y", _)] ?ue rfl rfl rfl rfl
  case ue =>
    refine' E.ite (W.up (b := mir) ?w1 ⟨fun h1 => E.tup (Vs.up (ps := [.int (if mir = true then -m0 else m0), .int (if mir = true then -m1 else m1)]) ?vs1 ⟨Nat.le_of_ble_eq_true rfl, fun l => ⟨_, _, rfl, .head _, rfl, _, _, .cons (Sto.loc rfl) (.cons (Sto.loc rfl) .nil), R.drop ?g1⟩⟩),
      fun h1 => E.tup (Vs.up (ps := [.int (if mir = true then -m0 else m0), .int (if mir = true then -m1 else m1)]) ?vs2 ⟨Nat.le_of_ble_eq_true rfl, fun l => ⟨_, _, rfl, .head _, rfl, _, _, .cons (Sto.loc rfl) (.cons (Sto.loc rfl) .nil), R.drop ?g2⟩⟩)⟩)
    case w1 => (with_reducible repeat' first
    | exact V.int
    | (refine' V.lo ?a9; (case a9 => with_unfolding_all exact rfl))
    | (refine' V.grain ?g9; (case g9 => with_unfolding_all exact rfl)) | (refine' V.lone ?g9; (case g9 => with_unfolding_all exact rfl))
    | refine' V.bin ?_ ?_ ?_
    | refine' V.una ?_ ?_
    | (refine' V.cmp ?_ ?_ ?_ ?d9; (case d9 => with_unfolding_all exact rfl))
    | (refine' W.cmp ?_ ?_ ?_ ?d9; (case d9 => with_unfolding_all exact rfl))
    | refine' V.iti ?_ ?_ ?_
    | (refine' V.abs (g_abs _) ?g9 ?_ ?n9; (case g9 => with_unfolding_all exact rfl); (case n9 => with_unfolding_all exact rfl))
    | refine' V.itc ?_ ?_ ?_
    | exact V.boolc | exact V.nonec | refine' V.bone ?_ | (refine' V.band ?_ (fun _ => ?_)) | (refine' V.bor ?_ (fun _ => ?_)) | (refine' V.not ?_)
    | (refine' W.not ?_) | exact W.and0 | exact W.or0 | (refine' W.and ?_ (fun _ => ?_)) | (refine' W.or ?_ (fun _ => ?_))
    | (refine' W.of ?_ ?d9; (case d9 => with_unfolding_all exact rfl))
    | exact Vs.nil | (refine' Vs.cons ?_ ?n9 ?_; (case n9 => with_unfolding_all exact rfl))
    | exact Bin.add | exact Bin.sub | (refine' Bin.mul (mulB ?m9 ?n9 ?o9); (case m9 => (with_reducible repeat' first | exact b_m0 | exact b_m1 | exact b_m2 | exact b_m3 | refine' PyProof.Rows.bits_mul ?_ ?_ | refine' PyProof.Rows.bits_add ?_ ?_ | refine' PyProof.Rows.bits_sub ?_ ?_ | refine' PyProof.Rows.bits_neg ?_ | refine' PyProof.Rows.bits_ite ?_ ?_ | refine' bits_rnd ?_ | refine' PyProof.Rows.bits_fdiv ?_ | refine' PyProof.Rows.bits_fmod ?_ ?_ | exact Nat.le_refl _)); (case n9 => (with_reducible repeat' first | exact b_m0 | exact b_m1 | exact b_m2 | exact b_m3 | refine' PyProof.Rows.bits_mul ?_ ?_ | refine' PyProof.Rows.bits_add ?_ ?_ | refine' PyProof.Rows.bits_sub ?_ ?_ | refine' PyProof.Rows.bits_neg ?_ | refine' PyProof.Rows.bits_ite ?_ ?_ | refine' bits_rnd ?_ | refine' PyProof.Rows.bits_fdiv ?_ | refine' PyProof.Rows.bits_fmod ?_ ?_ | exact Nat.le_refl _)); (case o9 => with_unfolding_all exact rfl)) | (refine' Bin.mod ?m9; (case m9 => first | decide | exact h0 | omega)) | (refine' Bin.fdiv ?m9 (noPyB ?n9 ?o9); (case m9 => first | decide | omega); (case n9 => (with_reducible repeat' first | exact b_m0 | exact b_m1 | exact b_m2 | exact b_m3 | refine' PyProof.Rows.bits_mul ?_ ?_ | refine' PyProof.Rows.bits_add ?_ ?_ | refine' PyProof.Rows.bits_sub ?_ ?_ | refine' PyProof.Rows.bits_neg ?_ | refine' PyProof.Rows.bits_ite ?_ ?_ | refine' bits_rnd ?_ | refine' PyProof.Rows.bits_fdiv ?_ | refine' PyProof.Rows.bits_fmod ?_ ?_ | exact Nat.le_refl _)); (case o9 => with_unfolding_all exact rfl)) | exact Una.neg
    | exact Cmp.lt | exact Cmp.le | exact Cmp.gt | exact Cmp.ge | exact Cmp.eq | exact Cmp.ne | exact Cmp.eqB
    | exact ItemOf.lst hm | (with_unfolding_all exact ItemOf.lst (.head _)) | (with_unfolding_all exact ItemOf.lst (.tail _ (.head _))) | exact ItemOf.tup hm | (with_unfolding_all exact ItemOf.tup (.head _))
    | exact Nat.le_trans (Nat.le_of_ble_eq_true rfl) hC | ((show _ ≠ _); first | exact h0 | decide | omega)
        | (refine' Nat.le_trans ?m9 (Nat.le_of_ble_eq_true ?o9); (case m9 => (with_reducible repeat' first | exact b_m0 | exact b_m1 | exact b_m2 | exact b_m3 | refine' PyProof.Rows.bits_mul ?_ ?_ | refine' PyProof.Rows.bits_add ?_ ?_ | refine' PyProof.Rows.bits_sub ?_ ?_ | refine' PyProof.Rows.bits_neg ?_ | refine' PyProof.Rows.bits_ite ?_ ?_ | refine' bits_rnd ?_ | refine' PyProof.Rows.bits_fdiv ?_ | refine' PyProof.Rows.bits_fmod ?_ ?_ | exact Nat.le_refl _)); (case o9 => with_unfolding_all exact rfl))
    | (refine' V.call i_determinant ?g9 ?_ ?_ (f_determinant ?_ ?_ ?_ ?_ ?_); (case g9 => with_unfolding_all exact rfl))
    | (refine' V.call i_is_upright ?g9 ?_ ?_ (f_is_upright ?_); (case g9 => with_unfolding_all exact rfl))
    | (refine' V.call i_is_singular ?g9 ?_ ?_ (f_is_singular ?_ ?_ ?_ ?_ ?_); (case g9 => with_unfolding_all exact rfl))
    | (refine' V.call i_is_mirror ?g9 ?_ ?_ (f_is_mirror ?_ ?_ ?_ ?_ ?_); (case g9 => with_unfolding_all exact rfl))
    | exact hm
    | (with_unfolding_all exact rfl))
    case vs1 =>
      rw [if_pos h1, if_pos h1]
      (with_reducible repeat' first
    | exact V.int
    | (refine' V.lo ?a9; (case a9 => with_unfolding_all exact rfl))
    | (refine' V.grain ?g9; (case g9 => with_unfolding_all exact rfl)) | (refine' V.lone ?g9; (case g9 => with_unfolding_all exact rfl))
    | refine' V.bin ?_ ?_ ?_
    | refine' V.una ?_ ?_
    | (refine' V.cmp ?_ ?_ ?_ ?d9; (case d9 => with_unfolding_all exact rfl))
    | (refine' W.cmp ?_ ?_ ?_ ?d9; (case d9 => with_unfolding_all exact rfl))
    | refine' V.iti ?_ ?_ ?_
    | (refine' V.abs (g_abs _) ?g9 ?_ ?n9; (case g9 => with_unfolding_all exact rfl); (case n9 => with_unfolding_all exact rfl))
    | refine' V.itc ?_ ?_ ?_
    | exact V.boolc | exact V.nonec | refine' V.bone ?_ | (refine' V.band ?_ (fun _ => ?_)) | (refine' V.bor ?_ (fun _ => ?_)) | (refine' V.not ?_)
    | (refine' W.not ?_) | exact W.and0 | exact W.or0 | (refine' W.and ?_ (fun _ => ?_)) | (refine' W.or ?_ (fun _ => ?_))
    | (refine' W.of ?_ ?d9; (case d9 => with_unfolding_all exact rfl))
    | exact Vs.nil | (refine' Vs.cons ?_ ?n9 ?_; (case n9 => with_unfolding_all exact rfl))
    | exact Bin.add | exact Bin.sub | (refine' Bin.mul (mulB ?m9 ?n9 ?o9); (case m9 => (with_reducible repeat' first | exact b_m0 | exact b_m1 | exact b_m2 | exact b_m3 | refine' PyProof.Rows.bits_mul ?_ ?_ | refine' PyProof.Rows.bits_add ?_ ?_ | refine' PyProof.Rows.bits_sub ?_ ?_ | refine' PyProof.Rows.bits_neg ?_ | refine' PyProof.Rows.bits_ite ?_ ?_ | refine' bits_rnd ?_ | refine' PyProof.Rows.bits_fdiv ?_ | refine' PyProof.Rows.bits_fmod ?_ ?_ | exact Nat.le_refl _)); (case n9 => (with_reducible repeat' first | exact b_m0 | exact b_m1 | exact b_m2 | exact b_m3 | refine' PyProof.Rows.bits_mul ?_ ?_ | refine' PyProof.Rows.bits_add ?_ ?_ | refine' PyProof.Rows.bits_sub ?_ ?_ | refine' PyProof.Rows.bits_neg ?_ | refine' PyProof.Rows.bits_ite ?_ ?_ | refine' bits_rnd ?_ | refine' PyProof.Rows.bits_fdiv ?_ | refine' PyProof.Rows.bits_fmod ?_ ?_ | exact Nat.le_refl _)); (case o9 => with_unfolding_all exact rfl)) | (refine' Bin.mod ?m9; (case m9 => first | decide | exact h0 | omega)) | (refine' Bin.fdiv ?m9 (noPyB ?n9 ?o9); (case m9 => first | decide | omega); (case n9 => (with_reducible repeat' first | exact b_m0 | exact b_m1 | exact b_m2 | exact b_m3 | refine' PyProof.Rows.bits_mul ?_ ?_ | refine' PyProof.Rows.bits_add ?_ ?_ | refine' PyProof.Rows.bits_sub ?_ ?_ | refine' PyProof.Rows.bits_neg ?_ | refine' PyProof.Rows.bits_ite ?_ ?_ | refine' bits_rnd ?_ | refine' PyProof.Rows.bits_fdiv ?_ | refine' PyProof.Rows.bits_fmod ?_ ?_ | exact Nat.le_refl _)); (case o9 => with_unfolding_all exact rfl)) | exact Una.neg
    | exact Cmp.lt | exact Cmp.le | exact Cmp.gt | exact Cmp.ge | exact Cmp.eq | exact Cmp.ne | exact Cmp.eqB
    | exact ItemOf.lst hm | (with_unfolding_all exact ItemOf.lst (.head _)) | (with_unfolding_all exact ItemOf.lst (.tail _ (.head _))) | exact ItemOf.tup hm | (with_unfolding_all exact ItemOf.tup (.head _))
    | exact Nat.le_trans (Nat.le_of_ble_eq_true rfl) hC | ((show _ ≠ _); first | exact h0 | decide | omega)
        | (refine' Nat.le_trans ?m9 (Nat.le_of_ble_eq_true ?o9); (case m9 => (with_reducible repeat' first | exact b_m0 | exact b_m1 | exact b_m2 | exact b_m3 | refine' PyProof.Rows.bits_mul ?_ ?_ | refine' PyProof.Rows.bits_add ?_ ?_ | refine' PyProof.Rows.bits_sub ?_ ?_ | refine' PyProof.Rows.bits_neg ?_ | refine' PyProof.Rows.bits_ite ?_ ?_ | refine' bits_rnd ?_ | refine' PyProof.Rows.bits_fdiv ?_ | refine' PyProof.Rows.bits_fmod ?_ ?_ | exact Nat.le_refl _)); (case o9 => with_unfolding_all exact rfl))
    | (refine' V.call i_determinant ?g9 ?_ ?_ (f_determinant ?_ ?_ ?_ ?_ ?_); (case g9 => with_unfolding_all exact rfl))
    | (refine' V.call i_is_upright ?g9 ?_ ?_ (f_is_upright ?_); (case g9 => with_unfolding_all exact rfl))
    | (refine' V.call i_is_singular ?g9 ?_ ?_ (f_is_singular ?_ ?_ ?_ ?_ ?_); (case g9 => with_unfolding_all exact rfl))
    | (refine' V.call i_is_mirror ?g9 ?_ ?_ (f_is_mirror ?_ ?_ ?_ ?_ ?_); (case g9 => with_unfolding_all exact rfl))
    | exact hm
    | (with_unfolding_all exact rfl))
    case vs2 =>
      rw [if_neg (ne_true_of_eq_false h1), if_neg (ne_true_of_eq_false h1)]
      (with_reducible repeat' first
    | exact V.int
    | (refine' V.lo ?a9; (case a9 => with_unfolding_all exact rfl))
    | (refine' V.grain ?g9; (case g9 => with_unfolding_all exact rfl)) | (refine' V.lone ?g9; (case g9 => with_unfolding_all exact rfl))
    | refine' V.bin ?_ ?_ ?_
    | refine' V.una ?_ ?_
    | (refine' V.cmp ?_ ?_ ?_ ?d9; (case d9 => with_unfolding_all exact rfl))
    | (refine' W.cmp ?_ ?_ ?_ ?d9; (case d9 => with_unfolding_all exact rfl))
    | refine' V.iti ?_ ?_ ?_
    | (refine' V.abs (g_abs _) ?g9 ?_ ?n9; (case g9 => with_unfolding_all exact rfl); (case n9 => with_unfolding_all exact rfl))
    | refine' V.itc ?_ ?_ ?_
    | exact V.boolc | exact V.nonec | refine' V.bone ?_ | (refine' V.band ?_ (fun _ => ?_)) | (refine' V.bor ?_ (fun _ => ?_)) | (refine' V.not ?_)
    | (refine' W.not ?_) | exact W.and0 | exact W.or0 | (refine' W.and ?_ (fun _ => ?_)) | (refine' W.or ?_ (fun _ => ?_))
    | (refine' W.of ?_ ?d9; (case d9 => with_unfolding_all exact rfl))
    | exact Vs.nil | (refine' Vs.cons ?_ ?n9 ?_; (case n9 => with_unfolding_all exact rfl))
    | exact Bin.add | exact Bin.sub | (refine' Bin.mul (mulB ?m9 ?n9 ?o9); (case m9 => (with_reducible repeat' first | exact b_m0 | exact b_m1 | exact b_m2 | exact b_m3 | refine' PyProof.Rows.bits_mul ?_ ?_ | refine' PyProof.Rows.bits_add ?_ ?_ | refine' PyProof.Rows.bits_sub ?_ ?_ | refine' PyProof.Rows.bits_neg ?_ | refine' PyProof.Rows.bits_ite ?_ ?_ | refine' bits_rnd ?_ | refine' PyProof.Rows.bits_fdiv ?_ | refine' PyProof.Rows.bits_fmod ?_ ?_ | exact Nat.le_refl _)); (case n9 => (with_reducible repeat' first | exact b_m0 | exact b_m1 | exact b_m2 | exact b_m3 | refine' PyProof.Rows.bits_mul ?_ ?_ | refine' PyProof.Rows.bits_add ?_ ?_ | refine' PyProof.Rows.bits_sub ?_ ?_ | refine' PyProof.Rows.bits_neg ?_ | refine' PyProof.Rows.bits_ite ?_ ?_ | refine' bits_rnd ?_ | refine' PyProof.Rows.bits_fdiv ?_ | refine' PyProof.Rows.bits_fmod ?_ ?_ | exact Nat.le_refl _)); (case o9 => with_unfolding_all exact rfl)) | (refine' Bin.mod ?m9; (case m9 => first | decide | exact h0 | omega)) | (refine' Bin.fdiv ?m9 (noPyB ?n9 ?o9); (case m9 => first | decide | omega); (case n9 => (with_reducible repeat' first | exact b_m0 | exact b_m1 | exact b_m2 | exact b_m3 | refine' PyProof.Rows.bits_mul ?_ ?_ | refine' PyProof.Rows.bits_add ?_ ?_ | refine' PyProof.Rows.bits_sub ?_ ?_ | refine' PyProof.Rows.bits_neg ?_ | refine' PyProof.Rows.bits_ite ?_ ?_ | refine' bits_rnd ?_ | refine' PyProof.Rows.bits_fdiv ?_ | refine' PyProof.Rows.bits_fmod ?_ ?_ | exact Nat.le_refl _)); (case o9 => with_unfolding_all exact rfl)) | exact Una.neg
    | exact Cmp.lt | exact Cmp.le | exact Cmp.gt | exact Cmp.ge | exact Cmp.eq | exact Cmp.ne | exact Cmp.eqB
    | exact ItemOf.lst hm | (with_unfolding_all exact ItemOf.lst (.head _)) | (with_unfolding_all exact ItemOf.lst (.tail _ (.head _))) | exact ItemOf.tup hm | (with_unfolding_all exact ItemOf.tup (.head _))
    | exact Nat.le_trans (Nat.le_of_ble_eq_true rfl) hC | ((show _ ≠ _); first | exact h0 | decide | omega)
        | (refine' Nat.le_trans ?m9 (Nat.le_of_ble_eq_true ?o9); (case m9 => (with_reducible repeat' first | exact b_m0 | exact b_m1 | exact b_m2 | exact b_m3 | refine' PyProof.Rows.bits_mul ?_ ?_ | refine' PyProof.Rows.bits_add ?_ ?_ | refine' PyProof.Rows.bits_sub ?_ ?_ | refine' PyProof.Rows.bits_neg ?_ | refine' PyProof.Rows.bits_ite ?_ ?_ | refine' bits_rnd ?_ | refine' PyProof.Rows.bits_fdiv ?_ | refine' PyProof.Rows.bits_fmod ?_ ?_ | exact Nat.le_refl _)); (case o9 => with_unfolding_all exact rfl))
    | (refine' V.call i_determinant ?g9 ?_ ?_ (f_determinant ?_ ?_ ?_ ?_ ?_); (case g9 => with_unfolding_all exact rfl))
    | (refine' V.call i_is_upright ?g9 ?_ ?_ (f_is_upright ?_); (case g9 => with_unfolding_all exact rfl))
    | (refine' V.call i_is_singular ?g9 ?_ ?_ (f_is_singular ?_ ?_ ?_ ?_ ?_); (case g9 => with_unfolding_all exact rfl))
    | (refine' V.call i_is_mirror ?g9 ?_ ?_ (f_is_mirror ?_ ?_ ?_ ?_ ?_); (case g9 => with_unfolding_all exact rfl))
    | exact hm
    | (with_unfolding_all exact rfl))
    all_goals
      generalize (if mir = true then -m0 else m0) = x at *
      generalize (if mir = true then -m1 else m1) = y at *
      refine' R.if1 (b := y == 0) ?w2 (fun h2 => R.ret (E.tup (Vs.up (ps := [.int (if decide (0 < x) = true then 0 else 2), .bool mir]) ?vs3 ⟨Nat.le_of_ble_eq_true rfl, fun l => Thn.r ?e3⟩))) (fun h2 => R.nil (R.reT (ps := [.int (if decide (0 < y) = true then 1 else 3), .bool mir]) ?vs4 rfl fun l => ?e4))
      case w2 => (with_reducible repeat' first
    | exact V.int
    | (refine' V.lo ?a9; (case a9 => with_unfolding_all exact rfl))
    | (refine' V.grain ?g9; (case g9 => with_unfolding_all exact rfl)) | (refine' V.lone ?g9; (case g9 => with_unfolding_all exact rfl))
    | refine' V.bin ?_ ?_ ?_
    | refine' V.una ?_ ?_
    | (refine' V.cmp ?_ ?_ ?_ ?d9; (case d9 => with_unfolding_all exact rfl))
    | (refine' W.cmp ?_ ?_ ?_ ?d9; (case d9 => with_unfolding_all exact rfl))
    | refine' V.iti ?_ ?_ ?_
    | (refine' V.abs (g_abs _) ?g9 ?_ ?n9; (case g9 => with_unfolding_all exact rfl); (case n9 => with_unfolding_all exact rfl))
    | refine' V.itc ?_ ?_ ?_
    | exact V.boolc | exact V.nonec | refine' V.bone ?_ | (refine' V.band ?_ (fun _ => ?_)) | (refine' V.bor ?_ (fun _ => ?_)) | (refine' V.not ?_)
    | (refine' W.not ?_) | exact W.and0 | exact W.or0 | (refine' W.and ?_ (fun _ => ?_)) | (refine' W.or ?_ (fun _ => ?_))
    | (refine' W.of ?_ ?d9; (case d9 => with_unfolding_all exact rfl))
    | exact Vs.nil | (refine' Vs.cons ?_ ?n9 ?_; (case n9 => with_unfolding_all exact rfl))
    | exact Bin.add | exact Bin.sub | (refine' Bin.mul (mulB ?m9 ?n9 ?o9); (case m9 => (with_reducible repeat' first | exact b_m0 | exact b_m1 | exact b_m2 | exact b_m3 | refine' PyProof.Rows.bits_mul ?_ ?_ | refine' PyProof.Rows.bits_add ?_ ?_ | refine' PyProof.Rows.bits_sub ?_ ?_ | refine' PyProof.Rows.bits_neg ?_ | refine' PyProof.Rows.bits_ite ?_ ?_ | refine' bits_rnd ?_ | refine' PyProof.Rows.bits_fdiv ?_ | refine' PyProof.Rows.bits_fmod ?_ ?_ | exact Nat.le_refl _)); (case n9 => (with_reducible repeat' first | exact b_m0 | exact b_m1 | exact b_m2 | exact b_m3 | refine' PyProof.Rows.bits_mul ?_ ?_ | refine' PyProof.Rows.bits_add ?_ ?_ | refine' PyProof.Rows.bits_sub ?_ ?_ | refine' PyProof.Rows.bits_neg ?_ | refine' PyProof.Rows.bits_ite ?_ ?_ | refine' bits_rnd ?_ | refine' PyProof.Rows.bits_fdiv ?_ | refine' PyProof.Rows.bits_fmod ?_ ?_ | exact Nat.le_refl _)); (case o9 => with_unfolding_all exact rfl)) | (refine' Bin.mod ?m9; (case m9 => first | decide | exact h0 | omega)) | (refine' Bin.fdiv ?m9 (noPyB ?n9 ?o9); (case m9 => first | decide | omega); (case n9 => (with_reducible repeat' first | exact b_m0 | exact b_m1 | exact b_m2 | exact b_m3 | refine' PyProof.Rows.bits_mul ?_ ?_ | refine' PyProof.Rows.bits_add ?_ ?_ | refine' PyProof.Rows.bits_sub ?_ ?_ | refine' PyProof.Rows.bits_neg ?_ | refine' PyProof.Rows.bits_ite ?_ ?_ | refine' bits_rnd ?_ | refine' PyProof.Rows.bits_fdiv ?_ | refine' PyProof.Rows.bits_fmod ?_ ?_ | exact Nat.le_refl _)); (case o9 => with_unfolding_all exact rfl)) | exact Una.neg
    | exact Cmp.lt | exact Cmp.le | exact Cmp.gt | exact Cmp.ge | exact Cmp.eq | exact Cmp.ne | exact Cmp.eqB
    | exact ItemOf.lst hm | (with_unfolding_all exact ItemOf.lst (.head _)) | (with_unfolding_all exact ItemOf.lst (.tail _ (.head _))) | exact ItemOf.tup hm | (with_unfolding_all exact ItemOf.tup (.head _))
    | exact Nat.le_trans (Nat.le_of_ble_eq_true rfl) hC | ((show _ ≠ _); first | exact h0 | decide | omega)
        | (refine' Nat.le_trans ?m9 (Nat.le_of_ble_eq_true ?o9); (case m9 => (with_reducible repeat' first | exact b_m0 | exact b_m1 | exact b_m2 | exact b_m3 | refine' PyProof.Rows.bits_mul ?_ ?_ | refine' PyProof.Rows.bits_add ?_ ?_ | refine' PyProof.Rows.bits_sub ?_ ?_ | refine' PyProof.Rows.bits_neg ?_ | refine' PyProof.Rows.bits_ite ?_ ?_ | refine' bits_rnd ?_ | refine' PyProof.Rows.bits_fdiv ?_ | refine' PyProof.Rows.bits_fmod ?_ ?_ | exact Nat.le_refl _)); (case o9 => with_unfolding_all exact rfl))
    | (refine' V.call i_determinant ?g9 ?_ ?_ (f_determinant ?_ ?_ ?_ ?_ ?_); (case g9 => with_unfolding_all exact rfl))
    | (refine' V.call i_is_upright ?g9 ?_ ?_ (f_is_upright ?_); (case g9 => with_unfolding_all exact rfl))
    | (refine' V.call i_is_singular ?g9 ?_ ?_ (f_is_singular ?_ ?_ ?_ ?_ ?_); (case g9 => with_unfolding_all exact rfl))
    | (refine' V.call i_is_mirror ?g9 ?_ ?_ (f_is_mirror ?_ ?_ ?_ ?_ ?_); (case g9 => with_unfolding_all exact rfl))
    | exact hm
    | (with_unfolding_all exact rfl))
      case vs3 => (with_reducible repeat' first
    | exact V.int
    | (refine' V.lo ?a9; (case a9 => with_unfolding_all exact rfl))
    | (refine' V.grain ?g9; (case g9 => with_unfolding_all exact rfl)) | (refine' V.lone ?g9; (case g9 => with_unfolding_all exact rfl))
    | refine' V.bin ?_ ?_ ?_
    | refine' V.una ?_ ?_
    | (refine' V.cmp ?_ ?_ ?_ ?d9; (case d9 => with_unfolding_all exact rfl))
    | (refine' W.cmp ?_ ?_ ?_ ?d9; (case d9 => with_unfolding_all exact rfl))
    | refine' V.iti ?_ ?_ ?_
    | (refine' V.abs (g_abs _) ?g9 ?_ ?n9; (case g9 => with_unfolding_all exact rfl); (case n9 => with_unfolding_all exact rfl))
    | refine' V.itc ?_ ?_ ?_
    | exact V.boolc | exact V.nonec | refine' V.bone ?_ | (refine' V.band ?_ (fun _ => ?_)) | (refine' V.bor ?_ (fun _ => ?_)) | (refine' V.not ?_)
    | (refine' W.not ?_) | exact W.and0 | exact W.or0 | (refine' W.and ?_ (fun _ => ?_)) | (refine' W.or ?_ (fun _ => ?_))
    | (refine' W.of ?_ ?d9; (case d9 => with_unfolding_all exact rfl))
    | exact Vs.nil | (refine' Vs.cons ?_ ?n9 ?_; (case n9 => with_unfolding_all exact rfl))
    | exact Bin.add | exact Bin.sub | (refine' Bin.mul (mulB ?m9 ?n9 ?o9); (case m9 => (with_reducible repeat' first | exact b_m0 | exact b_m1 | exact b_m2 | exact b_m3 | refine' PyProof.Rows.bits_mul ?_ ?_ | refine' PyProof.Rows.bits_add ?_ ?_ | refine' PyProof.Rows.bits_sub ?_ ?_ | refine' PyProof.Rows.bits_neg ?_ | refine' PyProof.Rows.bits_ite ?_ ?_ | refine' bits_rnd ?_ | refine' PyProof.Rows.bits_fdiv ?_ | refine' PyProof.Rows.bits_fmod ?_ ?_ | exact Nat.le_refl _)); (case n9 => (with_reducible repeat' first | exact b_m0 | exact b_m1 | exact b_m2 | exact b_m3 | refine' PyProof.Rows.bits_mul ?_ ?_ | refine' PyProof.Rows.bits_add ?_ ?_ | refine' PyProof.Rows.bits_sub ?_ ?_ | refine' PyProof.Rows.bits_neg ?_ | refine' PyProof.Rows.bits_ite ?_ ?_ | refine' bits_rnd ?_ | refine' PyProof.Rows.bits_fdiv ?_ | refine' PyProof.Rows.bits_fmod ?_ ?_ | exact Nat.le_refl _)); (case o9 => with_unfolding_all exact rfl)) | (refine' Bin.mod ?m9; (case m9 => first | decide | exact h0 | omega)) | (refine' Bin.fdiv ?m9 (noPyB ?n9 ?o9); (case m9 => first | decide | omega); (case n9 => (with_reducible repeat' first | exact b_m0 | exact b_m1 | exact b_m2 | exact b_m3 | refine' PyProof.Rows.bits_mul ?_ ?_ | refine' PyProof.Rows.bits_add ?_ ?_ | refine' PyProof.Rows.bits_sub ?_ ?_ | refine' PyProof.Rows.bits_neg ?_ | refine' PyProof.Rows.bits_ite ?_ ?_ | refine' bits_rnd ?_ | refine' PyProof.Rows.bits_fdiv ?_ | refine' PyProof.Rows.bits_fmod ?_ ?_ | exact Nat.le_refl _)); (case o9 => with_unfolding_all exact rfl)) | exact Una.neg
    | exact Cmp.lt | exact Cmp.le | exact Cmp.gt | exact Cmp.ge | exact Cmp.eq | exact Cmp.ne | exact Cmp.eqB
    | exact ItemOf.lst hm | (with_unfolding_all exact ItemOf.lst (.head _)) | (with_unfolding_all exact ItemOf.lst (.tail _ (.head _))) | exact ItemOf.tup hm | (with_unfolding_all exact ItemOf.tup (.head _))
    | exact Nat.le_trans (Nat.le_of_ble_eq_true rfl) hC | ((show _ ≠ _); first | exact h0 | decide | omega)
        | (refine' Nat.le_trans ?m9 (Nat.le_of_ble_eq_true ?o9); (case m9 => (with_reducible repeat' first | exact b_m0 | exact b_m1 | exact b_m2 | exact b_m3 | refine' PyProof.Rows.bits_mul ?_ ?_ | refine' PyProof.Rows.bits_add ?_ ?_ | refine' PyProof.Rows.bits_sub ?_ ?_ | refine' PyProof.Rows.bits_neg ?_ | refine' PyProof.Rows.bits_ite ?_ ?_ | refine' bits_rnd ?_ | refine' PyProof.Rows.bits_fdiv ?_ | refine' PyProof.Rows.bits_fmod ?_ ?_ | exact Nat.le_refl _)); (case o9 => with_unfolding_all exact rfl))
    | (refine' V.call i_determinant ?g9 ?_ ?_ (f_determinant ?_ ?_ ?_ ?_ ?_); (case g9 => with_unfolding_all exact rfl))
    | (refine' V.call i_is_upright ?g9 ?_ ?_ (f_is_upright ?_); (case g9 => with_unfolding_all exact rfl))
    | (refine' V.call i_is_singular ?g9 ?_ ?_ (f_is_singular ?_ ?_ ?_ ?_ ?_); (case g9 => with_unfolding_all exact rfl))
    | (refine' V.call i_is_mirror ?g9 ?_ ?_ (f_is_mirror ?_ ?_ ?_ ?_ ?_); (case g9 => with_unfolding_all exact rfl))
    | exact hm
    | (with_unfolding_all exact rfl))
      case e3 => rw [if_pos h2]; exact ⟨l, rfl, rfl⟩
      case vs4 => (with_reducible repeat' first
    | exact V.int
    | (refine' V.lo ?a9; (case a9 => with_unfolding_all exact rfl))
    | (refine' V.grain ?g9; (case g9 => with_unfolding_all exact rfl)) | (refine' V.lone ?g9; (case g9 => with_unfolding_all exact rfl))
    | refine' V.bin ?_ ?_ ?_
    | refine' V.una ?_ ?_
    | (refine' V.cmp ?_ ?_ ?_ ?d9; (case d9 => with_unfolding_all exact rfl))
    | (refine' W.cmp ?_ ?_ ?_ ?d9; (case d9 => with_unfolding_all exact rfl))
    | refine' V.iti ?_ ?_ ?_
    | (refine' V.abs (g_abs _) ?g9 ?_ ?n9; (case g9 => with_unfolding_all exact rfl); (case n9 => with_unfolding_all exact rfl))
    | refine' V.itc ?_ ?_ ?_
    | exact V.boolc | exact V.nonec | refine' V.bone ?_ | (refine' V.band ?_ (fun _ => ?_)) | (refine' V.bor ?_ (fun _ => ?_)) | (refine' V.not ?_)
    | (refine' W.not ?_) | exact W.and0 | exact W.or0 | (refine' W.and ?_ (fun _ => ?_)) | (refine' W.or ?_ (fun _ => ?_))
    | (refine' W.of ?_ ?d9; (case d9 => with_unfolding_all exact rfl))
    | exact Vs.nil | (refine' Vs.cons ?_ ?n9 ?_; (case n9 => with_unfolding_all exact rfl))
    | exact Bin.add | exact Bin.sub | (refine' Bin.mul (mulB ?m9 ?n9 ?o9); (case m9 => (with_reducible repeat' first | exact b_m0 | exact b_m1 | exact b_m2 | exact b_m3 | refine' PyProof.Rows.bits_mul ?_ ?_ | refine' PyProof.Rows.bits_add ?_ ?_ | refine' PyProof.Rows.bits_sub ?_ ?_ | refine' PyProof.Rows.bits_neg ?_ | refine' PyProof.Rows.bits_ite ?_ ?_ | refine' bits_rnd ?_ | refine' PyProof.Rows.bits_fdiv ?_ | refine' PyProof.Rows.bits_fmod ?_ ?_ | exact Nat.le_refl _)); (case n9 => (with_reducible repeat' first | exact b_m0 | exact b_m1 | exact b_m2 | exact b_m3 | refine' PyProof.Rows.bits_mul ?_ ?_ | refine' PyProof.Rows.bits_add ?_ ?_ | refine' PyProof.Rows.bits_sub ?_ ?_ | refine' PyProof.Rows.bits_neg ?_ | refine' PyProof.Rows.bits_ite ?_ ?_ | refine' bits_rnd ?_ | refine' PyProof.Rows.bits_fdiv ?_ | refine' PyProof.Rows.bits_fmod ?_ ?_ | exact Nat.le_refl _)); (case o9 => with_unfolding_all exact rfl)) | (refine' Bin.mod ?m9; (case m9 => first | decide | exact h0 | omega)) | (refine' Bin.fdiv ?m9 (noPyB ?n9 ?o9); (case m9 => first | decide | omega); (case n9 => (with_reducible repeat' first | exact b_m0 | exact b_m1 | exact b_m2 | exact b_m3 | refine' PyProof.Rows.bits_mul ?_ ?_ | refine' PyProof.Rows.bits_add ?_ ?_ | refine' PyProof.Rows.bits_sub ?_ ?_ | refine' PyProof.Rows.bits_neg ?_ | refine' PyProof.Rows.bits_ite ?_ ?_ | refine' bits_rnd ?_ | refine' PyProof.Rows.bits_fdiv ?_ | refine' PyProof.Rows.bits_fmod ?_ ?_ | exact Nat.le_refl _)); (case o9 => with_unfolding_all exact rfl)) | exact Una.neg
    | exact Cmp.lt | exact Cmp.le | exact Cmp.gt | exact Cmp.ge | exact Cmp.eq | exact Cmp.ne | exact Cmp.eqB
    | exact ItemOf.lst hm | (with_unfolding_all exact ItemOf.lst (.head _)) | (with_unfolding_all exact ItemOf.lst (.tail _ (.head _))) | exact ItemOf.tup hm | (with_unfolding_all exact ItemOf.tup (.head _))
    | exact Nat.le_trans (Nat.le_of_ble_eq_true rfl) hC | ((show _ ≠ _); first | exact h0 | decide | omega)
        | (refine' Nat.le_trans ?m9 (Nat.le_of_ble_eq_true ?o9); (case m9 => (with_reducible repeat' first | exact b_m0 | exact b_m1 | exact b_m2 | exact b_m3 | refine' PyProof.Rows.bits_mul ?_ ?_ | refine' PyProof.Rows.bits_add ?_ ?_ | refine' PyProof.Rows.bits_sub ?_ ?_ | refine' PyProof.Rows.bits_neg ?_ | refine' PyProof.Rows.bits_ite ?_ ?_ | refine' bits_rnd ?_ | refine' PyProof.Rows.bits_fdiv ?_ | refine' PyProof.Rows.bits_fmod ?_ ?_ | exact Nat.le_refl _)); (case o9 => with_unfolding_all exact rfl))
    | (refine' V.call i_determinant ?g9 ?_ ?_ (f_determinant ?_ ?_ ?_ ?_ ?_); (case g9 => with_unfolding_all exact rfl))
    | (refine' V.call i_is_upright ?g9 ?_ ?_ (f_is_upright ?_); (case g9 => with_unfolding_all exact rfl))
    | (refine' V.call i_is_singular ?g9 ?_ ?_ (f_is_singular ?_ ?_ ?_ ?_ ?_); (case g9 => with_unfolding_all exact rfl))
    | (refine' V.call i_is_mirror ?g9 ?_ ?_ (f_is_mirror ?_ ?_ ?_ ?_ ?_); (case g9 => with_unfolding_all exact rfl))
    | exact hm
    | (with_unfolding_all exact rfl))
      case e4 => rw [if_neg (ne_true_of_eq_false h2)]; exact ⟨l, rfl, rfl⟩
end Mine
end
section
open PySem PySem.W PyProof.Rows PySem.Calls
set_option Elab.async false
set_option linter.unusedVariables false
set_option maxRecDepth 100000
set_option maxHeartbeats 4000000
namespace Mine
theorem warm_F13 : PySem.Challenge.rw_pb0513_01.Holds → kK = kK := by
  k_fill
  intro _; rfl
def rowX : Nat → List Int
  | 0 => [1, 0, 0, 1]
  | 1 => [0, 1, -1, 0]
  | 2 => [-1, 0, 0, -1]
  | _ => [0, -1, 1, 0]
theorem qs_row {i : Nat} (h : i < 4) : qs (rowX i) = some ((i : Int), false) := by
  rcases (show i = 0 ∨ i = 1 ∨ i = 2 ∨ i = 3 by omega) with rfl | rfl | rfl | rfl <;> decide
theorem qs_off {s : List Int} (h : ∀ i, i < 4 → s ≠ rowX i ∧ ∀ a b c d, rowX i = [a, b, c, d] → s ≠ [-a, -b, c, d]) : qs s = none := by
  have h0 := h 0 (by decide)
  have h1 := h 1 (by decide)
  have h2 := h 2 (by decide)
  have h3 := h 3 (by decide)
  unfold qs
  rw [if_neg (show ¬ s = [1, 0, 0, 1] from h0.1), if_neg (show ¬ s = [-1, 0, 0, 1] from h0.2 1 0 0 1 rfl), if_neg (show ¬ s = [0, 1, -1, 0] from h1.1), if_neg (show ¬ s = [0, -1, -1, 0] from h1.2 0 1 (-1) 0 rfl), if_neg (show ¬ s = [-1, 0, 0, -1] from h2.1), if_neg (show ¬ s = [1, 0, 0, -1] from h2.2 (-1) 0 0 (-1) rfl), if_neg (show ¬ s = [0, -1, 1, 0] from h3.1), if_neg (show ¬ s = [0, 1, 1, 0] from h3.2 0 (-1) 1 0 rfl)]
theorem qs_neg {i : Nat} {a b c d : Int} (h : i < 4) (e : rowX i = [a, b, c, d]) : qs [-a, -b, c, d] = some ((i : Int), true) := by
  rcases (show i = 0 ∨ i = 1 ∨ i = 2 ∨ i = 3 by omega) with rfl | rfl | rfl | rfl <;> (cases e; decide)
theorem f_quarters {η : Hp} {a : Addr} {m0 m1 m2 m3 : Int} {r : List Int} (hm : (a, HO.lst (intL (m0 :: m1 :: m2 :: m3 :: r))) ∈ η) (hr : r.length ≤ 900) (b_m0 : bits m0 ≤ 40) (b_m1 : bits m1 ≤ 40) (b_m2 : bits m2 ≤ 40) (b_m3 : bits m3 ≤ 40) : Fn 279 1 [.ref a] η (RQ (qt m0 m1 m2 m3) η) := by
  refine' Fn.enter1 "m" (fun P => ?ho) (fun P => ?hcd) (fun s v1 => ?hb) ?he ?h
  case ho => exact rfl
  case hcd => kernel_rfl
  case hb => exact BindsTo.of_eq rfl
  case he => rfl
  intro C hC
  refine' R.ifr (b := m0 * m3 == m1 * m2) ?w (fun h => V.up V.nonec ?e1) fun h => ?k
  case w => (with_reducible repeat' first
    | exact V.int
    | (refine' V.lo ?a9; (case a9 => with_unfolding_all exact rfl))
    | (refine' V.grain ?g9; (case g9 => with_unfolding_all exact rfl)) | (refine' V.lone ?g9; (case g9 => with_unfolding_all exact rfl))
    | refine' V.bin ?_ ?_ ?_
    | refine' V.una ?_ ?_
    | (refine' V.cmp ?_ ?_ ?_ ?d9; (case d9 => with_unfolding_all exact rfl))
    | (refine' W.cmp ?_ ?_ ?_ ?d9; (case d9 => with_unfolding_all exact rfl))
    | refine' V.iti ?_ ?_ ?_
    | (refine' V.abs (g_abs _) ?g9 ?_ ?n9; (case g9 => with_unfolding_all exact rfl); (case n9 => with_unfolding_all exact rfl))
    | refine' V.itc ?_ ?_ ?_
    | exact V.boolc | exact V.nonec | refine' V.bone ?_ | (refine' V.band ?_ (fun _ => ?_)) | (refine' V.bor ?_ (fun _ => ?_)) | (refine' V.not ?_)
    | (refine' W.not ?_) | exact W.and0 | exact W.or0 | (refine' W.and ?_ (fun _ => ?_)) | (refine' W.or ?_ (fun _ => ?_))
    | (refine' W.of ?_ ?d9; (case d9 => with_unfolding_all exact rfl))
    | exact Vs.nil | (refine' Vs.cons ?_ ?n9 ?_; (case n9 => with_unfolding_all exact rfl))
    | exact Bin.add | exact Bin.sub | (refine' Bin.mul (mulB ?m9 ?n9 ?o9); (case m9 => (with_reducible repeat' first | exact b_m0 | exact b_m1 | exact b_m2 | exact b_m3 | refine' PyProof.Rows.bits_mul ?_ ?_ | refine' PyProof.Rows.bits_add ?_ ?_ | refine' PyProof.Rows.bits_sub ?_ ?_ | refine' PyProof.Rows.bits_neg ?_ | refine' PyProof.Rows.bits_ite ?_ ?_ | refine' bits_rnd ?_ | refine' PyProof.Rows.bits_fdiv ?_ | refine' PyProof.Rows.bits_fmod ?_ ?_ | exact Nat.le_refl _)); (case n9 => (with_reducible repeat' first | exact b_m0 | exact b_m1 | exact b_m2 | exact b_m3 | refine' PyProof.Rows.bits_mul ?_ ?_ | refine' PyProof.Rows.bits_add ?_ ?_ | refine' PyProof.Rows.bits_sub ?_ ?_ | refine' PyProof.Rows.bits_neg ?_ | refine' PyProof.Rows.bits_ite ?_ ?_ | refine' bits_rnd ?_ | refine' PyProof.Rows.bits_fdiv ?_ | refine' PyProof.Rows.bits_fmod ?_ ?_ | exact Nat.le_refl _)); (case o9 => with_unfolding_all exact rfl)) | (refine' Bin.mod ?m9; (case m9 => first | decide | exact h0 | omega)) | (refine' Bin.fdiv ?m9 (noPyB ?n9 ?o9); (case m9 => first | decide | omega); (case n9 => (with_reducible repeat' first | exact b_m0 | exact b_m1 | exact b_m2 | exact b_m3 | refine' PyProof.Rows.bits_mul ?_ ?_ | refine' PyProof.Rows.bits_add ?_ ?_ | refine' PyProof.Rows.bits_sub ?_ ?_ | refine' PyProof.Rows.bits_neg ?_ | refine' PyProof.Rows.bits_ite ?_ ?_ | refine' bits_rnd ?_ | refine' PyProof.Rows.bits_fdiv ?_ | refine' PyProof.Rows.bits_fmod ?_ ?_ | exact Nat.le_refl _)); (case o9 => with_unfolding_all exact rfl)) | exact Una.neg
    | exact Cmp.lt | exact Cmp.le | exact Cmp.gt | exact Cmp.ge | exact Cmp.eq | exact Cmp.ne | exact Cmp.eqB
    | exact ItemOf.lst hm | (with_unfolding_all exact ItemOf.lst (.head _)) | (with_unfolding_all exact ItemOf.lst (.tail _ (.head _))) | exact ItemOf.tup hm | (with_unfolding_all exact ItemOf.tup (.head _))
    | exact Nat.le_trans (Nat.le_of_ble_eq_true rfl) hC | ((show _ ≠ _); first | exact h0 | decide | omega)
        | (refine' Nat.le_trans ?m9 (Nat.le_of_ble_eq_true ?o9); (case m9 => (with_reducible repeat' first | exact b_m0 | exact b_m1 | exact b_m2 | exact b_m3 | refine' PyProof.Rows.bits_mul ?_ ?_ | refine' PyProof.Rows.bits_add ?_ ?_ | refine' PyProof.Rows.bits_sub ?_ ?_ | refine' PyProof.Rows.bits_neg ?_ | refine' PyProof.Rows.bits_ite ?_ ?_ | refine' bits_rnd ?_ | refine' PyProof.Rows.bits_fdiv ?_ | refine' PyProof.Rows.bits_fmod ?_ ?_ | exact Nat.le_refl _)); (case o9 => with_unfolding_all exact rfl))
    | exact hm
    | (with_unfolding_all exact rfl))
  case e1 => unfold qt; rw [if_pos (beq_iff_eq.mp h)]; exact ⟨rfl, rfl⟩
  have hq : qt m0 m1 m2 m3 = qs [sgn m0, sgn m1, sgn m2, sgn m3] := if_neg (fun e => by rw [e] at h; simp at h)
  rw [hq]
  clear hq h
  refine' R.compN (xs := intL [m0, m1, m2, m3]) (η₀ := η) rfl ?hcl rfl rfl (CsN.list (EM.sliceTo (k := 4) rfl hm rfl ?l1 ?l2 fun l => ⟨l, rfl, rfl⟩) (by show 4 ≤ 1000; decide)) (by show 4 ≤ 1000; decide) (CompGo.pure (fun p => match p with | .int v => .int (sgn v) | q => q) (intL [m0, m1, m2, m3]) [] ?pp) ?hf ?hs
  case hcl => exact rfl
  case l1 => rw [List.length_map]; simp
  case l2 => rw [List.length_map]; simp; omega
  case pp =>
    intro p hp C' q1 q2 q3
    obtain ⟨v, hv, rfl⟩ := List.mem_map.mp hp
    exact V.bin (V.cmp (V.lo rfl) V.int Cmp.gt rfl) (V.cmp (V.lo rfl) V.int Cmp.lt rfl) Bin.subB
  case hs => intro z; rfl
  rintro ys η' ⟨rfl, rfl⟩ hlen ls
  have es : ([] : List PV) ++ List.map (fun p => match p with | .int v => .int (sgn v) | q => q) (intL [m0, m1, m2, m3]) = intL [sgn m0, sgn m1, sgn m2, sgn m3] := rfl
  rw [es]
  clear es hlen
  generalize hS : [sgn m0, sgn m1, sgn m2, sgn m3] = S at *
  refine' R.assign (E.lst (Es.x (E.mkL (ps := intL (rowX 0)) ?r0 rfl fun l0 => Es.x (E.mkL (ps := intL (rowX 1)) ?r1 rfl fun l1 => Es.x (E.mkL (ps := intL (rowX 2)) ?r2 rfl fun l2 => Es.x (E.mkL (ps := intL (rowX 3)) ?r3 rfl fun l3 => Es.nil ⟨by show 4 ≤ 1000; decide, fun lr => ⟨_, _, Sto.loc rfl, ?k2⟩⟩) rfl) rfl) rfl) rfl)) rfl
  case r0 => exact .cons V.int rfl (.cons V.int rfl (.cons V.int rfl (.cons V.int rfl .nil)))
  case r1 => exact .cons V.int rfl (.cons V.int rfl (.cons (V.una V.int Una.neg) rfl (.cons V.int rfl .nil)))
  case r2 => exact .cons (V.una V.int Una.neg) rfl (.cons V.int rfl (.cons V.int rfl (.cons (V.una V.int Una.neg) rfl .nil)))
  case r3 => exact .cons V.int rfl (.cons (V.una V.int Una.neg) rfl (.cons V.int rfl (.cons V.int rfl .nil)))
  refine R.forR (n := 4) (ER.range g_range rfl) (by decide) rfl (σ := Unit) (fun _ => [("rows", .ref lr), ("signs", .ref ls)]) (fun _ => (lr, .lst [.ref l0, .ref l1, .ref l2, .ref l3]) :: (l3, .lst (intL (rowX 3))) :: (l2, .lst (intL (rowX 2))) :: (l1, .lst (intL (rowX 1))) :: (l0, .lst (intL (rowX 0))) :: (ls, .lst (intL S)) :: η')
    (fun i _ => ∀ j, j < i → S ≠ rowX j ∧ ∀ a b c d, rowX j = [a, b, c, d] → S ≠ [-a, -b, c, d]) () (fun j hj => absurd hj (Nat.not_lt_zero _)) (.cons rfl (.cons rfl .nil)) (.refl _) (fun i _ hi hI C1 c1 c2 c3 => ?turn) (fun _ hI => ?fin) (fun _ => rfl)
  case fin =>
    refine R.ret (V.up V.nonec ⟨η', .cons _ (.cons _ (.cons _ (.cons _ (.cons _ (.cons _ (.refl _)))))), ?_⟩)
    rw [qs_off hI]
    exact ⟨rfl, rfl⟩
  case turn =>
    obtain ⟨x0, x1, x2, x3, hx⟩ : ∃ x0 x1 x2 x3, rowX i = [x0, x1, x2, x3] := by
      rcases (show i = 0 ∨ i = 1 ∨ i = 2 ∨ i = 3 by omega) with rfl | rfl | rfl | rfl <;> exact ⟨_, _, _, _, rfl⟩
    obtain ⟨l, hl1, hl2⟩ : ∃ l, ([.ref l0, .ref l1, .ref l2, .ref l3] : List PV)[i]? = some (.ref l) ∧ (l, HO.lst (intL (rowX i))) ∈ ((lr, HO.lst [.ref l0, .ref l1, .ref l2, .ref l3]) :: (l3, .lst (intL (rowX 3))) :: (l2, .lst (intL (rowX 2))) :: (l1, .lst (intL (rowX 1))) :: (l0, .lst (intL (rowX 0))) :: (ls, .lst (intL S)) :: η') := by
      rcases (show i = 0 ∨ i = 1 ∨ i = 2 ∨ i = 3 by omega) with rfl | rfl | rfl | rfl
      · exact ⟨l0, rfl, .tail _ (.tail _ (.tail _ (.tail _ (.head _))))⟩
      · exact ⟨l1, rfl, .tail _ (.tail _ (.tail _ (.head _)))⟩
      · exact ⟨l2, rfl, .tail _ (.tail _ (.head _))⟩
      · exact ⟨l3, rfl, .tail _ (.head _)⟩
    have hls : (ls, HO.lst (intL S)) ∈ ((lr, HO.lst [.ref l0, .ref l1, .ref l2, .ref l3]) :: (l3, .lst (intL (rowX 3))) :: (l2, .lst (intL (rowX 2))) :: (l1, .lst (intL (rowX 1))) :: (l0, .lst (intL (rowX 0))) :: (ls, .lst (intL S)) :: η') := .tail _ (.tail _ (.tail _ (.tail _ (.tail _ (.head _)))))
    have hlr : (lr, HO.lst [.ref l0, .ref l1, .ref l2, .ref l3]) ∈ ((lr, HO.lst [.ref l0, .ref l1, .ref l2, .ref l3]) :: (l3, .lst (intL (rowX 3))) :: (l2, .lst (intL (rowX 2))) :: (l1, .lst (intL (rowX 1))) :: (l0, .lst (intL (rowX 0))) :: (ls, .lst (intL S)) :: η') := .head _
    have sub : List.Sublist η' ((lr, HO.lst [.ref l0, .ref l1, .ref l2, .ref l3]) :: (l3, .lst (intL (rowX 3))) :: (l2, .lst (intL (rowX 2))) :: (l1, .lst (intL (rowX 1))) :: (l0, .lst (intL (rowX 0))) :: (ls, .lst (intL S)) :: η') := .cons _ (.cons _ (.cons _ (.cons _ (.cons _ (.cons _ (.refl _))))))
    generalize hη : ((lr, HO.lst [.ref l0, .ref l1, .ref l2, .ref l3]) :: (l3, .lst (intL (rowX 3))) :: (l2, .lst (intL (rowX 2))) :: (l1, .lst (intL (rowX 1))) :: (l0, .lst (intL (rowX 0))) :: (ls, .lst (intL S)) :: η') = η2 at *
    rw [hx] at hl2
    refine' R.as1 (p := .ref l) (V.item (a := lr) (i := i) (V.lo rfl) (V.lo rfl) (.lst hlr) (Nat.ble_eq_true_of_le (by omega)) hl1 rfl) rfl rfl ?k3
    refine' R.ife (T.cmpH (V.up (p := .ref ls) (V.lo rfl) (V.up (p := .ref l) (V.lo rfl) ⟨_, CmpH.eqL hls hl2, fun h => ?a1, fun h => R.nil ?a2⟩)) rfl)
    case a1 =>
      have h := of_decide_eq_true h
      refine R.ret (E.tup (Vs.up (ps := [.int (i : Int), .bool false]) (.cons (V.lo rfl) rfl (.cons V.boolc rfl .nil)) ⟨Nat.le_of_ble_eq_true rfl, fun lt => ?_⟩))
      refine ⟨(lt, .tup [.int (i : Int), .bool false]) :: η', .cons_cons _ sub, ?_⟩
      rw [show qs S = some ((i : Int), false) by rw [h, ← hx]; exact qs_row hi]
      exact ⟨lt, rfl, rfl⟩
    have n1 := of_decide_eq_false h
    refine' R.ife (T.cmpH (V.up (p := .ref ls) (V.lo rfl) (E.mkL (ps := intL [-x0, -x1, x2, x3]) ?vs5 rfl fun l5 => ⟨_, CmpH.eqL (.tail _ hls) (.head _), fun h => ?a3, fun h => R.nil ?a4⟩)) rfl)
    case vs5 => exact .cons (V.una (V.itc (V.lo rfl) (.lst hl2) rfl) Una.neg) rfl (.cons (V.una (V.itc (V.lo rfl) (.lst hl2) rfl) Una.neg) rfl (.cons (V.itc (V.lo rfl) (.lst hl2) rfl) rfl (.cons (V.itc (V.lo rfl) (.lst hl2) rfl) rfl .nil)))
    case a3 =>
      have h := of_decide_eq_true h
      refine R.ret (E.tup (Vs.up (ps := [.int (i : Int), .bool true]) (.cons (V.lo rfl) rfl (.cons V.boolc rfl .nil)) ⟨Nat.le_of_ble_eq_true rfl, fun lt => ?_⟩))
      refine ⟨(lt, .tup [.int (i : Int), .bool true]) :: η', .cons_cons _ (.cons _ sub), ?_⟩
      rw [show qs S = some ((i : Int), true) by rw [h]; exact qs_neg hi hx]
      exact ⟨lt, rfl, rfl⟩
    have n2 := of_decide_eq_false h
    refine R.nil ⟨(), .cons rfl (.cons rfl .nil), .cons _ (.refl _), fun j hj => ?_⟩
    by_cases e : j = i
    · subst e
      refine ⟨fun h => n1 (h.trans hx), fun a b c d h2 h3 => ?_⟩
      rw [hx] at h2
      cases h2
      exact n2 h3
    · exact hI j (by omega)
end Mine
end
section
open PySem PySem.W PyProof.Rows PySem.Calls
set_option Elab.async false
set_option linter.unusedVariables false
set_option maxRecDepth 100000
set_option maxHeartbeats 4000000
namespace Mine
theorem warm_F14 : PySem.Challenge.rw_pb0513_01.Holds → kK = kK := by
  k_fill
  intro _; rfl
/-- near by so many -/
def nearB (most : Int) (ms ns : List Int) : Bool := (List.zipWith (fun x y => decide (-most ≤ x - y) && decide (x - y ≤ most)) ms ns).all id
theorem zip_bools (g : PV → PV → PV) (f : Int → Int → Bool) (h : ∀ x y, g (.int x) (.int y) = .bool (f x y)) : ∀ ms ns : List Int, List.zipWith g (intL ms) (intL ns) = boolL (List.zipWith f ms ns)
  | [], _ => by simp
  | _ :: _, [] => by simp
  | x :: r, y :: t => by
    have := zip_bools g f h r t
    simp only [List.map_cons, List.zipWith_cons_cons, h]
    exact congrArg _ this
theorem zip_ints (g : PV → PV → PV) (f : Int → Int → Int) (h : ∀ x y, g (.int x) (.int y) = .int (f x y)) : ∀ ms ns : List Int, List.zipWith g (intL ms) (intL ns) = intL (List.zipWith f ms ns)
  | [], _ => by simp
  | _ :: _, [] => by simp
  | x :: r, y :: t => by
    have := zip_ints g f h r t
    simp only [List.map_cons, List.zipWith_cons_cons, h]
    exact congrArg _ this
noncomputable abbrev nearSc : Scope := match kSt 27 with
  | .FunctionDef _ _ _ _ _ _ sc .. => sc
  | _ => default
theorem near_body {η : Hp} {a b : Addr} {ms ns : List Int} {most : Int} (hm : ms.length ≤ 900) (C : Ctx (.fn nearSc)) (hcl : C.cl = cellsFrom (C.L + 1) nearSc.names []) :
    R C [("m", .ref a), ("n", .ref b)] (cellsH [("m", .ref a), ("n", .ref b), ("most", .int most)] C.cl ++ (a, HO.lst (intL ms)) :: (b, HO.lst (intL ns)) :: η) (match kSt 27 with | .FunctionDef _ _ bd _ _ _ _ .. => bd | _ => []) (Back fun p η' => p = .bool (nearB most ms ns) ∧ η' = (a, HO.lst (intL ms)) :: (b, HO.lst (intL ns)) :: η) := by
  have e1 : C.cl = [(("most" : Str), C.L + 1)] := by rw [hcl]; rfl
  rw [e1]
  refine R.perm (η' := (a, HO.lst (intL ms)) :: (b, HO.lst (intL ns)) :: (C.L + 1, HO.cell (some (.int most))) :: η) ?hp ?k
  case hp => exact (List.Perm.swap _ _ _).trans (.cons _ (.swap _ _ _))
  refine' R.ret (E.blt (id := "all") (V.bl g_all boot_all rfl rfl (by decide)) (Es.cons (E.zip (η₀ := (C.L + 1, HO.cell (some (.int most))) :: η) (cl := [(("most" : Str), C.L + 1)]) (fun p q => match p, q with | .int x, .int y => .bool (decide (-most ≤ x - y) && decide (x - y ≤ most)) | _, _ => .non) ?hc ?ok ?hz rfl rfl rfl g_zip ?el ?kk ?hs)))
  case hc => show closureFor _ (envX C.cn nearSc C.L C.a C.ccd C.cl) = _; rw [e1]; rfl
  case ok => rfl
  case hz => rw [List.length_map, List.length_map]; omega
  case hs => intro z; rfl
  case el =>
    intro i p q hp hq C' c1 c2 c3
    rw [List.getElem?_map] at hp hq
    obtain ⟨x, _, rfl⟩ := Option.map_eq_some_iff.mp hp
    obtain ⟨y, _, rfl⟩ := Option.map_eq_some_iff.mp hq
    have hmost : ∀ {ps : Pos}, V C' [("other", .int y), ("one", .int x)] ((C.L + 1, HO.cell (some (.int most))) :: η) (.Name "most" ps) (.int most) := fun {ps} => V.ce (c := C.L + 1) (by show look2 _ C'.ccl _ = _; rw [c3]; rfl) (.head _)
    exact V.chain (V.una hmost Una.neg) (V.bin (V.lo rfl) (V.lo rfl) Bin.sub) hmost Cmp.le Cmp.le rfl
  case kk =>
    intro l
    rw [zip_bools _ (fun x y => decide (-most ≤ x - y) && decide (x - y ≤ most)) (fun _ _ => rfl)]
    exact Es.nil (Blt.all (.head _) (Back.s (.cons _ (.cons_cons _ (.cons_cons _ (.cons _ (.refl _))))) ⟨rfl, rfl⟩))
theorem f_near3 {η : Hp} {a b : Addr} {ms ns : List Int} {most : Int} (hm : ms.length ≤ 900) : Fn 191 1 [.ref a, .ref b, .int most] ((a, HO.lst (intL ms)) :: (b, HO.lst (intL ns)) :: η) fun p η' => p = .bool (nearB most ms ns) ∧ η' = (a, HO.lst (intL ms)) :: (b, HO.lst (intL ns)) :: η := by
  refine' Fn.enterD (ps' := [.ref a, .ref b, .int most]) ["m", "n", "most"] [("m", .ref a), ("n", .ref b)] ?hr (fun P => ?ho) (fun P => ?hcd) ?hb ?hn ?hl ?hcs ?hnd ?hco ?hgen ?hk (Nat.le_refl _) (fun C hC hcl => near_body hm C hcl)
  case hr => rfl
  case ho => exact rfl
  case hcd => kernel_rfl
  case hb =>
    intro P s vs iv hX
    refine ⟨vs, iv, ?_⟩
    cases iv with | cons _ iv => cases iv with | cons _ iv => cases iv with | cons _ iv => cases iv; exact BindsTo.of_defaults (T := 186) rfl (hX 186 _ rfl) rfl rfl rfl
  case hn => decide
  case hl => decide
  case hcs => decide
  case hnd => decide
  case hco => rfl
  case hgen => rfl
  case hk => rfl
theorem f_near2 {η : Hp} {a b : Addr} {ms ns : List Int} (hm : ms.length ≤ 900) : Fn 191 1 [.ref a, .ref b] ((a, HO.lst (intL ms)) :: (b, HO.lst (intL ns)) :: η) fun p η' => p = .bool (nearB 1 ms ns) ∧ η' = (a, HO.lst (intL ms)) :: (b, HO.lst (intL ns)) :: η := by
  refine' Fn.enterD (ps' := [.ref a, .ref b, .int 1]) ["m", "n", "most"] [("m", .ref a), ("n", .ref b)] ?hr (fun P => ?ho) (fun P => ?hcd) ?hb ?hn ?hl ?hcs ?hnd ?hco ?hgen ?hk (Nat.le_refl _) (fun C hC hcl => near_body hm C hcl)
  case hr => rfl
  case ho => exact rfl
  case hcd => kernel_rfl
  case hb =>
    intro P s vs iv hX
    cases iv with | @cons _ v1 _ _ i1 iv => cases iv with | @cons _ v2 _ _ i2 iv =>
      cases iv
      exact ⟨[v1, v2, .int 1 407], .cons i1 (.cons i2 (.cons ⟨_, rfl⟩ .nil)), BindsTo.of_defaults (T := 186) rfl (hX 186 _ rfl) rfl rfl rfl⟩
  case hn => decide
  case hl => decide
  case hcs => decide
  case hnd => decide
  case hco => rfl
  case hgen => rfl
  case hk => rfl
end Mine
end
section
open PySem PySem.W PyProof.Rows PySem.Calls
set_option Elab.async false
set_option linter.unusedVariables false
set_option maxRecDepth 100000
set_option maxHeartbeats 4000000
namespace Mine
theorem warm_F15 : PySem.Challenge.rw_pb0513_01.Holds → kK = kK := by
  k_fill
  intro _; rfl
theorem f_drawP {d : Addr} {ds : List Int} {many : Int} (pre post : Hp) (hd : DeckOk ds) (hm : 1 ≤ many) (b_many : bits many ≤ 60) : Fn 238 1 [.ref d, .int many] (pre ++ deck d ds :: post) fun p η' => ∃ r ds', p = .int r ∧ 0 ≤ r ∧ r < many ∧ DeckOk ds' ∧ η' = pre ++ deck d ds' :: post :=
  (Fn.perm List.perm_middle (f_draw (η := pre ++ post) d ds many hd hm b_many)).out fun p η' ⟨r, ds', e1, h0, h1, h2, e2⟩ => ⟨pre ++ deck d ds' :: post, by rw [e2]; exact List.perm_middle.symm, r, ds', e1, h0, h1, h2, rfl⟩
theorem f_numberP {d : Addr} {ds : List Int} (pre post : Hp) (hd : DeckOk ds) : Fn 245 2 [.ref d] (pre ++ deck d ds :: post) fun p η' => ∃ x ds', p = .int x ∧ Num x ∧ DeckOk ds' ∧ η' = pre ++ deck d ds' :: post :=
  (Fn.perm List.perm_middle (f_number (η := pre ++ post) d ds hd)).out fun p η' ⟨r, ds', e1, h0, h2, e2⟩ => ⟨pre ++ deck d ds' :: post, by rw [e2]; exact List.perm_middle.symm, r, ds', e1, h0, h2, rfl⟩
theorem f_copyP {a : Addr} {xs : List PV} (pre post : Hp) (hx : xs.length ≤ 1000) : MkL 108 1 [.ref a] (pre ++ (a, HO.lst xs) :: post) xs :=
  (Fn.perm List.perm_middle (f_matrix_copy (η := pre ++ post) hx)).out fun p η' ⟨l, e1, e2⟩ => ⟨(l, HO.lst xs) :: (pre ++ (a, HO.lst xs) :: post), by rw [e2]; exact .cons _ List.perm_middle.symm, l, e1, rfl⟩
theorem near_all (most : Int) : ∀ (M ss : List Int), ss.length = M.length → nearB most M (List.zipWith (fun x y => x + y) M ss) = ss.all fun s => decide (-most ≤ s) && decide (s ≤ most)
  | [], [], _ => rfl
  | m :: M, s :: ss, h => by
    have ih := near_all most M ss (by simpa using h)
    unfold nearB at ih ⊢
    simp only [List.zipWith_cons_cons, List.all_cons]
    rw [ih]
    congr 1
    show (decide (-most ≤ m - (m + s)) && decide (m - (m + s) ≤ most)) = _
    rw [show m - (m + s) = -s by omega, Bool.and_comm]
    congr 1 <;> (rw [decide_eq_decide]; omega)
theorem near_all' (most : Int) : ∀ (M ss : List Int), ss.length = M.length → nearB most (List.zipWith (fun x y => x + y) M ss) M = ss.all fun s => decide (-most ≤ s) && decide (s ≤ most)
  | [], [], _ => rfl
  | m :: M, s :: ss, h => by
    have ih := near_all' most M ss (by simpa using h)
    unfold nearB at ih ⊢
    simp only [List.zipWith_cons_cons, List.all_cons]
    rw [ih]
    congr 1
    show (decide (-most ≤ m + s - m) && decide (m + s - m ≤ most)) = _
    rw [show m + s - m = s by omega]
theorem far_all {most far : Int} {ss : List Int} (h1 : far ∈ ss.map fun s => if s < 0 then -s else s) (h2 : ∀ b, b ∈ (ss.map fun s => if s < 0 then -s else s) → b ≤ far) : (ss.all fun s => decide (-most ≤ s) && decide (s ≤ most)) = decide (far ≤ most) := by
  rw [Bool.eq_iff_iff, List.all_eq_true, decide_eq_true_eq]
  constructor
  · intro h
    obtain ⟨s, hs, e⟩ := List.mem_map.mp h1
    have := h s hs
    rw [Bool.and_eq_true, decide_eq_true_eq, decide_eq_true_eq] at this
    rw [← e]
    split <;> omega
  · intro h s hs
    have := h2 _ (List.mem_map_of_mem hs)
    rw [Bool.and_eq_true, decide_eq_true_eq, decide_eq_true_eq]
    revert this
    split <;> intro _ <;> constructor <;> omega
theorem set_ne : ∀ (M : List Int) (j : Nat) (x : Int), M[j]? = some x → M.set j (x + 1) ≠ M
  | [], _, _, h => by simp at h
  | m :: M, 0, x, h => by
    simp at h
    subst h
    simp
    omega
  | m :: M, j + 1, x, h => by
    have := set_ne M j x (by simpa using h)
    simpa using this
theorem six_of {P : List Int} (h : P.length = 6) : ∃ a b c d e f, P = [a, b, c, d, e, f] := by
  match P, h with
  | [a, b, c, d, e, f], _ => exact ⟨a, b, c, d, e, f, rfl⟩
theorem intL_set (M : List Int) (j : Nat) (x : Int) : (intL M).set j (.int x) = intL (M.set j x) := by rw [intL, intL, List.map_set]
theorem scale_chain {v r : Int} (h : IsScale v r) (hv : 0 ≤ v) : (decide (0 < v) && !(decide ((2 * r - 1) * (2 * r - 1) ≤ 4 * v * 1000000) && decide (4 * v * 1000000 ≤ (2 * r + 1) * (2 * r + 1)))) = false := by
  by_cases h0 : 0 < v
  · obtain ⟨h1, h2⟩ := h.2.2 h0
    rw [decide_eq_true h0, decide_eq_true h1, decide_eq_true h2]; rfl
  · rw [decide_eq_false h0]; rfl
theorem scale_zero {v r : Int} (h : IsScale v r) : ((v == 0) && (r != 0)) = false := by
  by_cases h0 : v = 0
  · have := h.2.1 h0
    rw [this]; simp
  · have : (v == 0) = false := by simpa using h0
    rw [this]; rfl
theorem scale_bits {v r : Int} (h : IsScale v r) (hv : 0 ≤ v) (b_v : bits v ≤ 100) : bits r ≤ 200 := by
  have h1 := h.1
  by_cases h0 : r = 0
  · subst h0; decide
  · have hp : 0 < v := by
      rcases Int.lt_or_eq_of_le hv with h' | h'
      · exact h'
      · exact absurd (h.2.1 h'.symm) h0
    have h3 := (h.2.2 hp).1
    have h4 := le_sq (show 1 ≤ 2 * r - 1 by omega)
    refine bits_nn (y := 4 * v * 1000000) h1 (by omega) ?_
    exact Nat.le_trans (PyProof.Rows.bits_mul (PyProof.Rows.bits_mul (Nat.le_refl _) b_v) (Nat.le_refl _)) (by decide)
theorem root_bits {n r : Int} (h : IsRoot n r) (b_n : bits n ≤ 250) : bits r ≤ 250 := by
  by_cases h0 : r = 0
  · subst h0; decide
  · exact bits_nn h.1 (Int.le_trans (le_sq (show 1 ≤ r by have := h.1; omega)) h.2.1) b_n
theorem mem_len6 {M : List Int} {k : Nat} (hM : M.length = 6) (hk : k < 6) : ∃ x, M[k]? = some x ∧ (intL M)[k]? = some (.int x) :=
  ⟨M[k]'(by omega), List.getElem?_eq_getElem (by omega), by rw [List.getElem?_map, List.getElem?_eq_getElem (by omega)]; rfl⟩
end Mine
end
section
open PySem PySem.W PyProof.Rows PySem.Calls
set_option Elab.async false
set_option linter.unusedVariables false
set_option maxRecDepth 100000
set_option maxHeartbeats 4000000
namespace Mine
theorem warm_F16 : PySem.Challenge.rw_pb0513_01.Holds → kK = kK := by
  k_fill
  intro _; rfl
theorem f_looks {η : Hp} {d a : Addr} {ds : List Int} {m0 m1 m2 m3 m4 m5 : Int} (hd : DeckOk ds) (n0 : Num m0) (n1 : Num m1) (n2 : Num m2) (n3 : Num m3) (n4 : Num m4) (n5 : Num m5) :
    Fn 257 4 [.ref d, .ref a] (deck d ds :: (a, HO.lst (intL [m0, m1, m2, m3, m4, m5])) :: η) fun p η' => ∃ ds', p = .bool true ∧ DeckOk ds' ∧ η' = deck d ds' :: (a, HO.lst (intL [m0, m1, m2, m3, m4, m5])) :: η := by
  have b_m0 : bits m0 ≤ 40 := Nat.le_trans n0.bits (by decide)
  have b_m1 : bits m1 ≤ 40 := Nat.le_trans n1.bits (by decide)
  have b_m2 : bits m2 ≤ 40 := Nat.le_trans n2.bits (by decide)
  have b_m3 : bits m3 ≤ 40 := Nat.le_trans n3.bits (by decide)
  refine' Fn.enterD (ps' := [.ref d, .ref a]) ["deck", "m"] [("m", .ref a)] ?hr (fun P => ?ho) (fun P => ?hcd) ?hb ?hn ?hl ?hcs ?hnd ?hco ?hgen ?hk (by decide) (fun C hC hcl => ?body)
  case ho => exact rfl
  case hr => rfl
  case hcd => kernel_rfl
  case hb =>
    intro P s vs iv hX
    refine ⟨vs, iv, ?_⟩
    cases iv with | cons _ iv => cases iv with | cons _ iv => cases iv; exact BindsTo.of_eq rfl
  case hn => decide
  case hl => decide
  case hcs => decide
  case hnd => decide
  case hco => rfl
  case hgen => rfl
  case hk => rfl
  have e1 : C.cl = [(("deck" : Str), C.L + 1)] := by rw [hcl]; rfl
  rw [e1]
  clear hcl
  have hC3 : 3 ≤ C.k := by omega
  clear hC
  generalize C.L + 1 = c at *
  refine (show R C [("m", .ref a)] ((c, HO.cell (some (.ref d))) :: deck d ds :: (a, HO.lst (intL [m0, m1, m2, m3, m4, m5])) :: η) _ _ from ?_)
  have hdk : ∀ {ρ : Rho} {η : Hp} {ps : Pos}, (c, HO.cell (some (.ref d))) ∈ η → V C ρ η (.Name "deck" ps) (.ref d) := fun h => V.ce (by show look2 _ C.cl _ = _; rw [e1]; rfl) h
  have hm : (a, HO.lst (intL [m0, m1, m2, m3, m4, m5])) ∈ (c, HO.cell (some (.ref d))) :: deck d ds :: (a, HO.lst (intL [m0, m1, m2, m3, m4, m5])) :: η := .tail _ (.tail _ (.head _))
  refine' R.as1 (p := .int (m0 * m3 - m1 * m2)) ?v1 rfl rfl ?k1
  case v1 => (with_reducible repeat' first
    | exact V.int
    | (refine' V.lo ?a9; (case a9 => with_unfolding_all exact rfl))
    | (refine' V.grain ?g9; (case g9 => with_unfolding_all exact rfl)) | (refine' V.lone ?g9; (case g9 => with_unfolding_all exact rfl))
    | refine' V.bin ?_ ?_ ?_
    | refine' V.una ?_ ?_
    | (refine' V.cmp ?_ ?_ ?_ ?d9; (case d9 => with_unfolding_all exact rfl))
    | (refine' W.cmp ?_ ?_ ?_ ?d9; (case d9 => with_unfolding_all exact rfl))
    | refine' V.iti ?_ ?_ ?_
    | (refine' V.abs (g_abs _) ?g9 ?_ ?n9; (case g9 => with_unfolding_all exact rfl); (case n9 => with_unfolding_all exact rfl))
    | refine' V.itc ?_ ?_ ?_
    | exact V.boolc | exact V.nonec | refine' V.bone ?_ | (refine' V.band ?_ (fun _ => ?_)) | (refine' V.bor ?_ (fun _ => ?_)) | (refine' V.not ?_)
    | (refine' W.not ?_) | exact W.and0 | exact W.or0 | (refine' W.and ?_ (fun _ => ?_)) | (refine' W.or ?_ (fun _ => ?_))
    | (refine' W.of ?_ ?d9; (case d9 => with_unfolding_all exact rfl))
    | exact Vs.nil | (refine' Vs.cons ?_ ?n9 ?_; (case n9 => with_unfolding_all exact rfl))
    | exact Bin.add | exact Bin.sub | (refine' Bin.mul (mulB ?m9 ?n9 ?o9); (case m9 => (with_reducible repeat' first | exact b_m0 | exact b_m1 | exact b_m2 | exact b_m3 | refine' PyProof.Rows.bits_mul ?_ ?_ | refine' PyProof.Rows.bits_add ?_ ?_ | refine' PyProof.Rows.bits_sub ?_ ?_ | refine' PyProof.Rows.bits_neg ?_ | refine' PyProof.Rows.bits_ite ?_ ?_ | refine' bits_rnd ?_ | refine' PyProof.Rows.bits_fdiv ?_ | refine' PyProof.Rows.bits_fmod ?_ ?_ | exact Nat.le_refl _)); (case n9 => (with_reducible repeat' first | exact b_m0 | exact b_m1 | exact b_m2 | exact b_m3 | refine' PyProof.Rows.bits_mul ?_ ?_ | refine' PyProof.Rows.bits_add ?_ ?_ | refine' PyProof.Rows.bits_sub ?_ ?_ | refine' PyProof.Rows.bits_neg ?_ | refine' PyProof.Rows.bits_ite ?_ ?_ | refine' bits_rnd ?_ | refine' PyProof.Rows.bits_fdiv ?_ | refine' PyProof.Rows.bits_fmod ?_ ?_ | exact Nat.le_refl _)); (case o9 => with_unfolding_all exact rfl)) | (refine' Bin.mod ?m9; (case m9 => first | decide | exact h0 | omega)) | (refine' Bin.fdiv ?m9 (noPyB ?n9 ?o9); (case m9 => first | decide | omega); (case n9 => (with_reducible repeat' first | exact b_m0 | exact b_m1 | exact b_m2 | exact b_m3 | refine' PyProof.Rows.bits_mul ?_ ?_ | refine' PyProof.Rows.bits_add ?_ ?_ | refine' PyProof.Rows.bits_sub ?_ ?_ | refine' PyProof.Rows.bits_neg ?_ | refine' PyProof.Rows.bits_ite ?_ ?_ | refine' bits_rnd ?_ | refine' PyProof.Rows.bits_fdiv ?_ | refine' PyProof.Rows.bits_fmod ?_ ?_ | exact Nat.le_refl _)); (case o9 => with_unfolding_all exact rfl)) | exact Una.neg
    | exact Cmp.lt | exact Cmp.le | exact Cmp.gt | exact Cmp.ge | exact Cmp.eq | exact Cmp.ne | exact Cmp.eqB
    | exact ItemOf.lst hm | (with_unfolding_all exact ItemOf.lst (.head _)) | (with_unfolding_all exact ItemOf.lst (.tail _ (.head _))) | exact ItemOf.tup hm | (with_unfolding_all exact ItemOf.tup (.head _))
    | exact Nat.le_trans (Nat.le_of_ble_eq_true rfl) hC | ((show _ ≠ _); first | exact h0 | decide | omega)
        | (refine' Nat.le_trans ?m9 (Nat.le_of_ble_eq_true ?o9); (case m9 => (with_reducible repeat' first | exact b_m0 | exact b_m1 | exact b_m2 | exact b_m3 | refine' PyProof.Rows.bits_mul ?_ ?_ | refine' PyProof.Rows.bits_add ?_ ?_ | refine' PyProof.Rows.bits_sub ?_ ?_ | refine' PyProof.Rows.bits_neg ?_ | refine' PyProof.Rows.bits_ite ?_ ?_ | refine' bits_rnd ?_ | refine' PyProof.Rows.bits_fdiv ?_ | refine' PyProof.Rows.bits_fmod ?_ ?_ | exact Nat.le_refl _)); (case o9 => with_unfolding_all exact rfl))
    | exact hm
    | (refine' V.call i_is_mirror ?g9 ?_ ?_ (f_is_mirror ?_ ?_ ?_ ?_ ?_); (case g9 => with_unfolding_all exact rfl))
    | (with_unfolding_all exact rfl))
  have b_g : bits (m0 * m3 - m1 * m2) ≤ 81 := PyProof.Rows.bits_sub (PyProof.Rows.bits_mul b_m0 b_m3) (PyProof.Rows.bits_mul b_m1 b_m2)
  have hM : intL [m0, m1, m2, m3, m4, m5] = intL [m0, m1, m2, m3, m4, m5] := rfl
  refine' R.ifn (T.orf (W.up (b := decide (m0 * m3 - m1 * m2 < 0) != decide (m0 * m3 - m1 * m2 < 0)) ?w2 ⟨by simp, T.cmp (E.fn i_is_identity rfl (k := 2) (ps := [.ref a]) ?vs2 ?hk2 ((f_is_identity hm).on (E.cmpH (V.up (p := .ref a) (V.lo rfl) (E.mkL (ps := intL [1000000, 0, 0, 1000000, 0, 0]) ?vs3 rfl fun l => ⟨_, CmpH.eqL (.tail _ hm) (.head _), _, Cmp.neB, by simp, R.drop ?k2⟩)) rfl))) rfl⟩))
  case w2 => exact W.cmp (V.call i_is_mirror rfl (.cons (V.lo rfl) rfl .nil) (Nat.le_trans (by decide) hC3) (f_is_mirror hm b_m0 b_m1 b_m2 b_m3)) (V.cmp (V.lo rfl) V.int Cmp.lt rfl) Cmp.neB rfl
  case vs2 => exact .cons (V.lo rfl) rfl .nil
  case hk2 => exact Nat.le_trans (by decide) hC3
  case vs3 => exact .cons (V.lone rfl) rfl (.cons V.int rfl (.cons V.int rfl (.cons (V.lone rfl) rfl (.cons V.int rfl (.cons V.int rfl .nil)))))
  generalize hg : m0 * m3 - m1 * m2 = g at *
  refine' R.assign (E.fn i_matrix_copy rfl (k := 1) (ps := [.ref a]) ?vs4 ?hk4 ((f_copyP [(c, HO.cell (some (.ref d))), deck d ds] η (xs := intL [m0, m1, m2, m3, m4, m5]) (by show 6 ≤ 1000; decide)).on fun l => ⟨_, _, Sto.loc rfl, ?k4⟩)) rfl
  case vs4 => exact .cons (V.lo rfl) rfl .nil
  case hk4 => exact Nat.le_trans (by decide) hC3
  refine' R.ifn (T.cmpH (V.up (p := .ref l) (V.lo rfl) (V.up (p := .ref a) (V.lo rfl) ⟨_, CmpH.neL (.head _) (.tail _ hm), by simp, ?k5⟩)) rfl)
  refine' R.augSub (V.up (p := .ref l) (V.lo rfl) (E.fn i_law_draw rfl (k := 1) (ps := [.ref d, .int 6]) ?vs5 ?hk5 ((f_drawP [(l, HO.lst (intL [m0, m1, m2, m3, m4, m5])), (c, HO.cell (some (.ref d)))] ((a, HO.lst (intL [m0, m1, m2, m3, m4, m5])) :: η) hd (by decide) (by decide)).mono ?k6))) (fun _ _ _ => rfl)
  case vs5 => exact .cons (hdk (.tail _ (.head _))) rfl (.cons V.int rfl .nil)
  case hk5 => exact Nat.le_trans (by decide) hC3
  rintro p η' ⟨r, ds1, rfl, r0, r1, hd1, rfl⟩
  clear hd
  obtain ⟨x, hx1, hx2⟩ := mem_len6 (M := [m0, m1, m2, m3, m4, m5]) rfl (k := r.toNat) (by omega)
  refine ⟨l, intL [m0, m1, m2, m3, m4, m5], r, x, rfl, rfl, r0, by omega, .head _, hx2, V.up V.int ⟨1, _, rfl, .head, ?_⟩⟩
  rw [intL_set]
  refine' R.ifn (T.cmpH (V.up (p := .ref l) (V.lo rfl) (V.up (p := .ref a) (V.lo rfl) ⟨_, CmpH.eqL (ns := [m0, m1, m2, m3, m4, m5].set r.toNat (x + 1)) (ms := [m0, m1, m2, m3, m4, m5]) (.head _) (.tail _ (.tail _ (.tail _ (.head _)))), decide_eq_false (set_ne _ _ _ hx1), R.drop ?k7⟩)) rfl)
  clear hx1 hx2
  refine' R.assign (E.mkL (ps := intL [1000000, 0, 0, 1000000, 0, 0]) ?vs7 rfl fun lp => ⟨_, _, Sto.loc rfl, ?k8⟩) rfl
  case vs7 => exact .cons (V.lone rfl) rfl (.cons V.int rfl (.cons V.int rfl (.cons (V.lone rfl) rfl (.cons V.int rfl (.cons V.int rfl .nil)))))
  refine' R.augSub (V.up (p := .ref lp) (V.lo rfl) (E.fn i_law_draw rfl (k := 1) (ps := [.ref d, .int 6]) ?vs8 ?hk8 ((f_drawP [(lp, HO.lst (intL [1000000, 0, 0, 1000000, 0, 0])), (c, HO.cell (some (.ref d)))] ((a, HO.lst (intL [m0, m1, m2, m3, m4, m5])) :: η) hd1 (by decide) (by decide)).mono ?k9))) (fun _ _ _ => rfl)
  case vs8 => exact .cons (hdk (.tail _ (.head _))) rfl (.cons V.int rfl .nil)
  case hk8 => exact Nat.le_trans (by decide) hC3
  rintro p η' ⟨r2, ds2, rfl, r20, r21, hd2, rfl⟩
  clear hd1 r0 r1 r
  obtain ⟨x2, hx1, hx2⟩ := mem_len6 (M := [1000000, 0, 0, 1000000, 0, 0]) rfl (k := r2.toNat) (by omega)
  refine ⟨lp, intL [1000000, 0, 0, 1000000, 0, 0], r2, x2, rfl, rfl, r20, by omega, .head _, hx2, ?_⟩
  refine' E.item (E.mkL (ps := intL [0, 1, -1]) ?vs9 rfl fun l2 => E.fn i_law_draw rfl (k := 1) (ps := [.ref d, .int 3]) ?vs10 ?hk10 ((f_drawP [(l2, HO.lst (intL [0, 1, -1])), (lp, HO.lst (intL [1000000, 0, 0, 1000000, 0, 0])), (c, HO.cell (some (.ref d)))] ((a, HO.lst (intL [m0, m1, m2, m3, m4, m5])) :: η) hd2 (by decide) (by decide)).mono ?k10)) rfl
  case vs9 => exact .cons V.int rfl (.cons V.int rfl (.cons (V.una V.int Una.neg) rfl .nil))
  case vs10 => exact .cons (hdk (.tail _ (.tail _ (.head _)))) rfl (.cons V.int rfl .nil)
  case hk10 => exact Nat.le_trans (by decide) hC3
  rintro p η' ⟨r3, ds3, rfl, r30, r31, hd3, rfl⟩
  clear hd2
  obtain ⟨y, hy⟩ : ∃ y, (intL [0, 1, -1])[r3.toNat]? = some (.int y) := by
    have hn : r3.toNat < 3 := by omega
    generalize r3.toNat = j at hn
    rcases (show j = 0 ∨ j = 1 ∨ j = 2 by omega) with rfl | rfl | rfl <;> exact ⟨_, rfl⟩
  refine ⟨l2, intL [0, 1, -1], r3, .int y, rfl, rfl, .lst (.head _), r30, by omega, hy, y, _, rfl, .tail .head, R.drop ?_⟩
  rw [intL_set]
  clear hx1 hx2 hy r30 r31
  obtain ⟨q0, q1, q2, q3, q4, q5, hq⟩ := six_of (P := [1000000, 0, 0, 1000000, 0, 0].set r2.toNat (x2 + y)) (by rw [List.length_set]; rfl)
  rw [hq]
  clear hq
  refine' R.ifn (T.cmp (E.fn i_is_identity rfl (k := 2) (ps := [.ref lp]) ?vs11 ?hk11 ((f_is_identity (.head _)).on (E.cmpH (V.up (p := .ref lp) (V.lo rfl) (E.mkL (ps := intL [1000000, 0, 0, 1000000, 0, 0]) ?vs12 rfl fun l3 => ⟨_, CmpH.eqL (.tail _ (.head _)) (.head _), _, Cmp.neB, by simp, R.drop (R.drop ?k12)⟩)) rfl))) rfl)
  case vs11 => exact .cons (V.lo rfl) rfl .nil
  case hk11 => exact Nat.le_trans (by decide) hC3
  case vs12 => exact .cons (V.lone rfl) rfl (.cons V.int rfl (.cons V.int rfl (.cons (V.lone rfl) rfl (.cons V.int rfl (.cons V.int rfl .nil)))))
  refine R.env (ρ' := [("grown", .int g), ("m", .ref a)]) ?he ?k13
  case he =>
    refine SubE.look (.cons rfl (.cons rfl .nil))
  refine' R.tupS ["steps", "most"] (E.tup (Es.x (E.comp (cl := [(("deck" : Str), c)]) (Fin := fun ys η1 => ∃ ss ds', ys = intL ss ∧ (∀ s ∈ ss, -2 ≤ s ∧ s ≤ 2) ∧ DeckOk ds' ∧ η1 = (c, HO.cell (some (.ref d))) :: deck d ds' :: (a, HO.lst (intL [m0, m1, m2, m3, m4, m5])) :: η) ?hcl13 rfl (Cs.range (ER.range g_range rfl) (by decide)) (by show 6 ≤ 1000; decide)
    (CompGo.inv _ _ _ _ ⟨[], ds3, rfl, (fun _ h => nomatch h), hd3, rfl⟩ ?step) ?hf13 (fun _ => rfl)) rfl)) rfl rfl
  case hcl13 => show closureFor _ (envX C.cn _ C.L C.a C.ccd C.cl) = _; rw [e1]; rfl
  case step =>
    rintro p hp ys η1 ⟨ss, ds', rfl, hss, hd', rfl⟩ C1 c1 c2 c3
    refine' E.bin (E.fn i_law_draw rfl (k := 1) (ps := [.ref d, .int 5]) ?vs14 ?hk14 ((f_drawP [(c, HO.cell (some (.ref d)))] ((a, HO.lst (intL [m0, m1, m2, m3, m4, m5])) :: η) hd' (by decide) (by decide)).mono ?k14))
    case vs14 => exact .cons (V.ce (by show look2 _ C1.ccl _ = _; rw [c3]; rfl) (.head _)) rfl (.cons V.int rfl .nil)
    case hk14 => rw [c2]; exact Nat.le_trans (by decide) hC3
    rintro q η2 ⟨r4, ds4, rfl, r40, r41, hd4, rfl⟩
    refine V.up V.int ⟨_, Bin.sub, ss ++ [r4 - 2], ds4, by rw [intL_app]; rfl, fun s hs => ?_, hd4, rfl⟩
    rcases List.mem_append.mp hs with hs | hs
    · exact hss s hs
    · rw [List.mem_singleton.mp hs]; omega
  rintro ys η1 ⟨ss, ds4, rfl, hss, hd4, rfl⟩ hlen ls
  replace hlen : ss.length = 6 := by rw [List.length_map] at hlen; exact hlen
  clear hd3
  refine' Es.x (E.fn i_law_draw rfl (k := 1) (ps := [.ref d, .int 4]) ?vs15 ?hk15 ((f_drawP [(ls, HO.lst (intL ss)), (c, HO.cell (some (.ref d)))] ((a, HO.lst (intL [m0, m1, m2, m3, m4, m5])) :: η) hd4 (by decide) (by decide)).mono ?k15)) rfl
  case vs15 => exact .cons (hdk (.tail _ (.head _))) rfl (.cons V.int rfl .nil)
  case hk15 => exact Nat.le_trans (by decide) hC3
  rintro p η' ⟨most, ds5, rfl, mo0, mo1, hd5, rfl⟩
  clear hd4
  refine Es.nil ⟨by show 2 ≤ 1000; decide, fun t => ⟨_, _, rfl, .head _, rfl, _, _, .cons (Sto.loc rfl) (.cons (Sto.loc rfl) .nil), R.drop ?_⟩⟩
  refine R.perm (η' := (a, HO.lst (intL [m0, m1, m2, m3, m4, m5])) :: (ls, HO.lst (intL ss)) :: (c, HO.cell (some (.ref d))) :: deck d ds5 :: η) (List.perm_middle (l₁ := [(ls, HO.lst (intL ss)), (c, HO.cell (some (.ref d))), deck d ds5])) ?_
  refine' R.zipA (cl := []) (fun p q => match p, q with | .int x, .int y => .int (x + y) | _, _ => .non) rfl ?hcl16 rfl rfl (by show min 6 _ ≤ 1000; omega) rfl rfl rfl g_zip ?el16 (fun lo => ?k16) (fun _ => rfl)
  case hcl16 => exact rfl
  case el16 =>
    intro i p q hp hq C' c1 c2 c3
    rw [List.getElem?_map] at hp hq
    obtain ⟨x, _, rfl⟩ := Option.map_eq_some_iff.mp hp
    obtain ⟨y, _, rfl⟩ := Option.map_eq_some_iff.mp hq
    exact V.bin (V.lo rfl) (V.lo rfl) Bin.add
  rw [zip_ints _ (fun x y => x + y) (fun _ _ => rfl)]
  have na := near_all most [m0, m1, m2, m3, m4, m5] ss hlen
  have nb := near_all' 1 [m0, m1, m2, m3, m4, m5] ss hlen
  have hol : (List.zipWith (fun x y => x + y) [m0, m1, m2, m3, m4, m5] ss).length ≤ 900 := by rw [List.length_zipWith, hlen]; exact Nat.le_trans (Nat.min_le_right _ _) (by decide)
  generalize List.zipWith (fun x y => x + y) [m0, m1, m2, m3, m4, m5] ss = oth at *
  refine R.perm (η' := (ls, HO.lst (intL ss)) :: (lo, HO.lst (intL oth)) :: (a, HO.lst (intL [m0, m1, m2, m3, m4, m5])) :: (c, HO.cell (some (.ref d))) :: deck d ds5 :: η) (List.perm_middle (l₁ := [(lo, HO.lst (intL oth)), (a, HO.lst (intL [m0, m1, m2, m3, m4, m5]))])) ?_
  refine' R.assign (E.blt (id := "max") (V.bl g_max boot_max rfl rfl (by decide)) (Es.cons (E.comp (cl := []) ?hcl17 rfl (Cs.list (a := ls) (xs := intL ss) (EM.lo rfl ⟨rfl, rfl⟩) ?hx17) ?hx18 (CompGo.pure (fun p => match p with | .int x => .int (if x < 0 then -x else x) | q => q) (intL ss) [] ?el17) ?hf17 (fun _ => rfl)))) rfl
  case hcl17 => exact rfl
  case hx17 => rw [List.length_map, hlen]; decide
  case hx18 => rw [List.length_map, hlen]; decide
  case el17 =>
    intro p hp C' c1 c2 c3
    obtain ⟨v, hv, rfl⟩ := List.mem_map.mp hp
    exact V.abs (g_abs _) rfl (V.lo rfl) rfl
  rintro ys η1 ⟨rfl, rfl⟩ _ lf
  have ea : ([] : List PV) ++ (intL ss).map (fun p => match p with | .int x => .int (if x < 0 then -x else x) | q => q) = intL (ss.map fun s => if s < 0 then -s else s) := by
    rw [List.nil_append, intL, intL, List.map_map, List.map_map]; rfl
  rw [ea]
  refine Es.nil (Blt.max (ns := ss.map fun s => if s < 0 then -s else s) (.head _) (by rw [List.length_map, hlen]; decide) fun far hf1 hf2 => ⟨_, _, Sto.loc rfl, R.drop ?_⟩)
  have fa := fun most => far_all (most := most) hf1 hf2
  rw [fa] at na nb
  clear hf1 hf2 fa ea hss
  refine (show R C _ ((ls, HO.lst (intL ss)) :: (lo, HO.lst (intL oth)) :: (a, HO.lst (intL [m0, m1, m2, m3, m4, m5])) :: (c, HO.cell (some (.ref d))) :: deck d ds5 :: η) _ _ from ?_)
  refine' R.ifn (W.up (b := (decide (far ≤ most) != decide (far ≤ most)) || ((decide (far ≤ 1) != decide (far ≤ 1)) || false)) ?w18 ⟨by simp, ?k18⟩)
  case w18 =>
    refine' W.or (W.cmp (V.call (k := 1) i_is_near rfl ?vs18 ?hk18 (Fn.inOut ?hp18 ?f18)) (V.cmp (V.lo rfl) (V.lo rfl) Cmp.le rfl) Cmp.neB rfl) fun _ => W.or (W.cmp (V.call (k := 1) i_is_near rfl ?vs19 ?hk19 (Fn.inOut ?hp19 ?f19)) (V.cmp (V.lo rfl) V.int Cmp.le rfl) Cmp.neB rfl) fun _ => W.or0
    case vs18 => exact .cons (V.lo rfl) rfl (.cons (V.lo rfl) rfl (.cons (V.lo rfl) rfl .nil))
    case hk18 => exact Nat.le_trans (by decide) hC3
    case hp18 => exact (List.perm_middle (l₁ := [(ls, HO.lst (intL ss)), (lo, HO.lst (intL oth))])).trans (.cons _ (.swap _ _ _))
    case f18 =>
      rw [← na]
      exact f_near3 (by show 6 ≤ 900; decide)
    case vs19 => exact .cons (V.lo rfl) rfl (.cons (V.lo rfl) rfl .nil)
    case hk19 => exact Nat.le_trans (by decide) hC3
    case hp19 => exact (List.Perm.swap _ _ _).trans (.cons _ (.swap _ _ _))
    case f19 =>
      rw [← nb]
      exact f_near2 hol
  refine R.drop (R.drop ?_)
  refine R.perm (η' := (c, HO.cell (some (.ref d))) :: deck d ds5 :: (a, HO.lst (intL [m0, m1, m2, m3, m4, m5])) :: η) (List.perm_middle (l₁ := [(c, HO.cell (some (.ref d))), deck d ds5])).symm ?_
  refine R.env (ρ' := [("grown", .int g), ("m", .ref a)]) (SubE.look (.cons rfl (.cons rfl .nil))) ?_
  have hm : (a, HO.lst (intL [m0, m1, m2, m3, m4, m5])) ∈ (c, HO.cell (some (.ref d))) :: deck d ds5 :: (a, HO.lst (intL [m0, m1, m2, m3, m4, m5])) :: η := .tail _ (.tail _ (.head _))
  have hA0 : 0 ≤ rnd ((g.natAbs : Nat) : Int) 1000000 := rnd_nn _ _ (Int.natCast_nonneg _) (by decide)
  have b_ga : bits ((g.natAbs : Nat) : Int) ≤ 81 := PyProof.Rows.bits_of_natAbs_le (by omega) b_g
  have b_A : bits (rnd ((g.natAbs : Nat) : Int) 1000000) ≤ 100 := Nat.le_trans (bits_rnd b_ga) (by decide)
  refine' R.tupS ["scale", "area"] (E.tup (Es.x (E.fn i_matrix_scale rfl (k := 3) (ps := [.ref a]) ?vs20 ?hk20 ((f_scale hm b_m0 b_m1 b_m2 b_m3).mono ?k20)) rfl)) rfl rfl
  case vs20 => exact .cons (V.lo rfl) rfl .nil
  case hk20 => exact hC3
  rintro p η' ⟨⟨sc, rfl, hsc⟩, rfl⟩
  rw [hg] at hsc
  refine Es.v (p := .int (rnd ((g.natAbs : Nat) : Int) 1000000)) ?v21 rfl (Es.nil ⟨by show 2 ≤ 1000; decide, fun t => ⟨_, _, rfl, .head _, rfl, _, _, .cons (Sto.loc rfl) (.cons (Sto.loc rfl) .nil), R.drop ?k21⟩⟩)
  case v21 => exact V.call i_law_part rfl (.cons (V.as (V.abs (g_abs _) rfl (V.lo rfl) rfl) (by rw [abs_ite])) rfl (.cons (V.lone rfl) rfl .nil)) (Nat.le_trans (by decide) hC3) (f_part _ _ _ (Nat.le_trans b_ga (by decide)) (by decide) (by decide))
  have b_sc : bits sc ≤ 200 := scale_bits hsc hA0 b_A
  have sz := scale_zero hsc
  have sc2 := scale_chain hsc hA0
  clear hsc
  generalize rnd ((g.natAbs : Nat) : Int) 1000000 = A at *
  refine' R.ifn (W.up (b := (A == 0) && ((sc != 0) && true)) ?w22 ⟨by rw [Bool.and_true]; exact sz, ?k22⟩)
  case w22 => exact W.and (W.cmp (V.lo rfl) V.int Cmp.eq rfl) fun _ => W.and (W.cmp (V.lo rfl) V.int Cmp.ne rfl) fun _ => W.and0
  refine' R.ifn (W.up (b := decide (0 < A) && (!(decide ((2 * sc - 1) * (2 * sc - 1) ≤ 4 * A * 1000000) && decide (4 * A * 1000000 ≤ (2 * sc + 1) * (2 * sc + 1))) && true)) ?w23 ⟨by rw [Bool.and_true]; exact sc2, ?k23⟩)
  case w23 =>
    have b_2 : bits (2 * sc - 1) ≤ 300 := Nat.le_trans (PyProof.Rows.bits_sub (PyProof.Rows.bits_mul (Nat.le_refl _) b_sc) (Nat.le_refl _)) (by decide)
    have b_3 : bits (2 * sc + 1) ≤ 300 := Nat.le_trans (PyProof.Rows.bits_add (PyProof.Rows.bits_mul (Nat.le_refl _) b_sc) (Nat.le_refl _)) (by decide)
    refine' W.and (W.cmp (V.lo rfl) V.int Cmp.gt rfl) fun _ => W.and (W.not (W.chain (V.bin (V.bin (V.bin V.int (V.lo rfl) (Bin.mul (mulB (Nat.le_refl _) b_sc rfl))) V.int Bin.sub) (V.bin (V.bin V.int (V.lo rfl) (Bin.mul (mulB (Nat.le_refl _) b_sc rfl))) V.int Bin.sub) (Bin.mul (mulB b_2 b_2 rfl)))
      (V.bin (V.bin V.int (V.lo rfl) (Bin.mul (mulB (Nat.le_refl _) b_A rfl))) (V.lone rfl) (Bin.mul (mulB (PyProof.Rows.bits_mul (Nat.le_refl _) b_A) (Nat.le_refl _) rfl)))
      (V.bin (V.bin (V.bin V.int (V.lo rfl) (Bin.mul (mulB (Nat.le_refl _) b_sc rfl))) V.int Bin.add) (V.bin (V.bin V.int (V.lo rfl) (Bin.mul (mulB (Nat.le_refl _) b_sc rfl))) V.int Bin.add) (Bin.mul (mulB b_3 b_3 rfl))) Cmp.le Cmp.le rfl)) fun _ => W.and0
  clear sz sc2
  refine R.env (ρ' := [("m", .ref a)]) (SubE.look (.cons rfl .nil)) ?_
  refine' R.tupS ["x", "y"] (E.tup (Es.x (E.fn i_law_number rfl (k := 2) (ps := [.ref d]) ?vs24 ?hk24 ((f_numberP [(c, HO.cell (some (.ref d)))] ((a, HO.lst (intL [m0, m1, m2, m3, m4, m5])) :: η) hd5).mono ?k24)) rfl)) rfl rfl
  case vs24 => exact .cons (hdk (.head _)) rfl .nil
  case hk24 => exact Nat.le_trans (by decide) hC3
  rintro p η' ⟨x, ds6, rfl, nx, hd6, rfl⟩
  refine' Es.x (E.fn i_law_number rfl (k := 2) (ps := [.ref d]) ?vs25 ?hk25 ((f_numberP [(c, HO.cell (some (.ref d)))] ((a, HO.lst (intL [m0, m1, m2, m3, m4, m5])) :: η) hd6).mono ?k25)) rfl
  case vs25 => exact .cons (hdk (.head _)) rfl .nil
  case hk25 => exact Nat.le_trans (by decide) hC3
  rintro p η' ⟨y, ds7, rfl, ny, hd7, rfl⟩
  refine Es.nil ⟨by show 2 ≤ 1000; decide, fun t => ⟨_, _, rfl, .head _, rfl, _, _, .cons (Sto.loc rfl) (.cons (Sto.loc rfl) .nil), R.drop ?_⟩⟩
  have b_x : bits x ≤ 40 := Nat.le_trans nx.bits (by decide)
  have b_y : bits y ≤ 40 := Nat.le_trans ny.bits (by decide)
  have b_p : bits (m0 * x + m2 * y) ≤ 81 := PyProof.Rows.bits_add (PyProof.Rows.bits_mul b_m0 b_x) (PyProof.Rows.bits_mul b_m2 b_y)
  have b_q : bits (m1 * x + m3 * y) ≤ 81 := PyProof.Rows.bits_add (PyProof.Rows.bits_mul b_m1 b_x) (PyProof.Rows.bits_mul b_m3 b_y)
  have hm7 : (a, HO.lst (intL [m0, m1, m2, m3, m4, m5])) ∈ (c, HO.cell (some (.ref d))) :: deck d ds7 :: (a, HO.lst (intL [m0, m1, m2, m3, m4, m5])) :: η := .tail _ (.tail _ (.head _))
  refine' R.tupS ["far_x", "far_y"] (E.tup (Es.v (p := .int (rnd (m0 * x + m2 * y) 1000000)) ?v26 rfl (Es.v (p := .int (rnd (m1 * x + m3 * y) 1000000)) ?v27 rfl (Es.nil ⟨by show 2 ≤ 1000; decide, fun t => ⟨_, _, rfl, .head _, rfl, _, _, .cons (Sto.loc rfl) (.cons (Sto.loc rfl) .nil), R.drop ?k27⟩⟩)))) rfl rfl
  case v26 => exact V.call i_law_part rfl (.cons (V.bin (V.bin (V.itc (V.lo rfl) (.lst hm7) rfl) (V.lo rfl) (Bin.mul (mulB b_m0 b_x rfl))) (V.bin (V.itc (V.lo rfl) (.lst hm7) rfl) (V.lo rfl) (Bin.mul (mulB b_m2 b_y rfl))) Bin.add) rfl (.cons (V.lone rfl) rfl .nil)) (Nat.le_trans (by decide) hC3) (f_part _ _ _ (Nat.le_trans b_p (by decide)) (by decide) (by decide))
  case v27 => exact V.call i_law_part rfl (.cons (V.bin (V.bin (V.itc (V.lo rfl) (.lst hm7) rfl) (V.lo rfl) (Bin.mul (mulB b_m1 b_x rfl))) (V.bin (V.itc (V.lo rfl) (.lst hm7) rfl) (V.lo rfl) (Bin.mul (mulB b_m3 b_y rfl))) Bin.add) rfl (.cons (V.lone rfl) rfl .nil)) (Nat.le_trans (by decide) hC3) (f_part _ _ _ (Nat.le_trans b_q (by decide)) (by decide) (by decide))
  refine' R.assign (E.fn i_matrix_stretch rfl (k := 3) (ps := [.ref a, .int x, .int y]) ?vs28 ?hk28 ((f_stretch x y hm7 b_m0 b_m1 b_m2 b_m3 b_x b_y).mono ?k28)) rfl
  case vs28 => exact .cons (V.lo rfl) rfl (.cons (V.lo rfl) rfl (.cons (V.lo rfl) rfl .nil))
  case hk28 => exact hC3
  rintro p η' ⟨⟨len, rfl, hlr⟩, rfl⟩
  refine ⟨_, _, Sto.loc rfl, ?_⟩
  have b_fx := bits_rnd (b := 1000000) b_p
  have b_fy := bits_rnd (b := 1000000) b_q
  generalize rnd (m0 * x + m2 * y) 1000000 = fx at *
  generalize rnd (m1 * x + m3 * y) 1000000 = fy at *
  have b_len := root_bits hlr (Nat.le_trans (PyProof.Rows.bits_add (PyProof.Rows.bits_mul b_fx b_fx) (PyProof.Rows.bits_mul b_fy b_fy)) (by decide))
  have b_len1 : bits (len + 1) ≤ 300 := Nat.le_trans (PyProof.Rows.bits_add b_len (Nat.le_refl _)) (by decide)
  have et : (decide (0 ≤ len) && (decide (len * len ≤ fx * fx + fy * fy) && decide (fx * fx + fy * fy < (len + 1) * (len + 1)))) = true := by
    rw [decide_eq_true hlr.1, decide_eq_true hlr.2.1, decide_eq_true hlr.2.2]; rfl
  refine' R.ret (V.up (p := .bool true) (V.as (V.band (V.cmp V.int (V.lo rfl) Cmp.le rfl) fun _ => V.bone (V.chain (V.bin (V.lo rfl) (V.lo rfl) (Bin.mul (mulB b_len b_len rfl))) (V.bin (V.bin (V.lo rfl) (V.lo rfl) (Bin.mul (mulB b_fx b_fx rfl))) (V.bin (V.lo rfl) (V.lo rfl) (Bin.mul (mulB b_fy b_fy rfl))) Bin.add) (V.bin (V.bin (V.lo rfl) V.int Bin.add) (V.bin (V.lo rfl) V.int Bin.add) (Bin.mul (mulB b_len1 b_len1 rfl))) Cmp.le Cmp.lt rfl)) (congrArg PV.bool et))
    (Back.s (.cons _ (.refl _)) ⟨ds7, rfl, hd7, rfl⟩))
end Mine
end
section
open PySem PySem.W PyProof.Rows PySem.Calls
set_option Elab.async false
set_option linter.unusedVariables false
set_option maxRecDepth 100000
set_option maxHeartbeats 4000000
namespace Mine
theorem warm_F17 : PySem.Challenge.rw_pb0513_01.Holds → kK = kK := by
  k_fill
  intro _; rfl
theorem E.reord {sc : Shape} {C : Ctx sc} {ρ : Rho} {η : Hp} {e : Expr} {Φ : PV → Hp → Prop} (h : E C ρ η e fun p η' => ∃ η'', η'.Perm η'' ∧ Φ p η'') : E C ρ η e Φ := fun ok s Q Er st q => h ok s Q Er st fun p v η' h' tk' ⟨η'', hs, w⟩ i st' => q p v η'' h' tk' w i (st'.perm hs)
theorem R.asIfL {sc : Scope} {C : Ctx (.fn sc)} {ρ : Rho} {η : Hp} {et : Expr} {es1 es2 : List Expr} {A B : List Int} {b : Bool} {x : Str} {npos pos ipos p1 p2 : Pos} {ss : List Stmt} {Ψ : Rho → Hp → Flo → Prop} (ht : W C ρ η et b) (h1 : Vs C ρ η es1 (intL A)) (h2 : Vs C ρ η es2 (intL B)) (hA : A.length ≤ 1000) (hB : B.length ≤ 1000) (hk : sc.names.lookup x = some .local)
    (hs : swapsWith (.IfExp et (.List es1 p1) (.List es2 p2) ipos) (some (Expr.Name x npos)) pos.line C.env = pure false) (k : ∀ l, R C ((x, .ref l) :: ρ) ((l, .lst (intL (if b = true then A else B))) :: η) ss Ψ) : R C ρ η (.Assign [.Name x npos] (.IfExp et (.List es1 p1) (.List es2 p2) ipos) pos :: ss) Ψ := by
  refine R.assign (E.ite (ht.up ⟨fun h => E.lst (h1.up ⟨by rw [List.length_map]; exact hA, fun l => ⟨_, _, Sto.loc hk, ?_⟩⟩), fun h => E.lst (h2.up ⟨by rw [List.length_map]; exact hB, fun l => ⟨_, _, Sto.loc hk, ?_⟩⟩)⟩)) hs
  · have := k l
    rwa [if_pos h] at this
  · have := k l
    rwa [if_neg (ne_true_of_eq_false h)] at this
theorem map_font (x m0 m1 m2 m3 m4 m5 : Int) : ([] : List PV) ++ (intL [m0, m1, m2, m3, m4, m5]).map (fun p => match p with | .int v => .int (rnd (v * x) 1000000) | q => q) = intL [rnd (m0 * x) 1000000, rnd (m1 * x) 1000000, rnd (m2 * x) 1000000, rnd (m3 * x) 1000000, rnd (m4 * x) 1000000, rnd (m5 * x) 1000000] := rfl
theorem f_made {η : Hp} {d a : Addr} {ds : List Int} {m0 m1 m2 m3 m4 m5 : Int} (hd : DeckOk ds) (n0 : Num m0) (n1 : Num m1) (n2 : Num m2) (n3 : Num m3) (n4 : Num m4) (n5 : Num m5) :
    Fn 267 4 [.ref d, .ref a] (deck d ds :: (a, HO.lst (intL [m0, m1, m2, m3, m4, m5])) :: η) fun p η' => ∃ ds', p = .bool true ∧ DeckOk ds' ∧ η' = deck d ds' :: (a, HO.lst (intL [m0, m1, m2, m3, m4, m5])) :: η := by
  have b_m0 : bits m0 ≤ 40 := Nat.le_trans n0.bits (by decide)
  have b_m1 : bits m1 ≤ 40 := Nat.le_trans n1.bits (by decide)
  have b_m2 : bits m2 ≤ 40 := Nat.le_trans n2.bits (by decide)
  have b_m3 : bits m3 ≤ 40 := Nat.le_trans n3.bits (by decide)
  have b_m4 : bits m4 ≤ 40 := Nat.le_trans n4.bits (by decide)
  have b_m5 : bits m5 ≤ 40 := Nat.le_trans n5.bits (by decide)
  refine' Fn.enterD (ps' := [.ref d, .ref a]) ["deck", "m"] [("deck", .ref d), ("m", .ref a)] ?hr (fun P => ?ho) (fun P => ?hcd) ?hb ?hn ?hl ?hcs ?hnd ?hco ?hgen ?hk (by decide) (fun C hC hcl => ?body)
  case ho => exact rfl
  case hr => rfl
  case hcd => kernel_rfl
  case hb =>
    intro P s vs iv hX
    refine ⟨vs, iv, ?_⟩
    cases iv with | cons _ iv => cases iv with | cons _ iv => cases iv; exact BindsTo.of_eq rfl
  case hn => decide
  case hl => decide
  case hcs => decide
  case hnd => decide
  case hco => rfl
  case hgen => rfl
  case hk => rfl
  have e1 : C.cl = [(("size" : Str), C.L + 1)] := by rw [hcl]; rfl
  rw [e1]
  clear hcl
  have hC3 : 3 ≤ C.k := by omega
  clear hC
  generalize C.L + 1 = c at *
  refine (show R C [("deck", .ref d), ("m", .ref a)] ((c, HO.cell none) :: deck d ds :: (a, HO.lst (intL [m0, m1, m2, m3, m4, m5])) :: η) _ _ from ?_)
  refine' R.tupS ["dots", "height", "is_down"] (E.tup (Es.x (E.bin (V.up V.int (E.fn i_law_draw rfl (k := 1) (ps := [.ref d, .int 1300]) ?vs1 ?hk1 ((f_drawP [(c, HO.cell none)] ((a, HO.lst (intL [m0, m1, m2, m3, m4, m5])) :: η) hd (by decide) (by decide)).mono ?k1)))) rfl)) rfl rfl
  case vs1 => exact .cons (V.lo rfl) rfl (.cons V.int rfl .nil)
  case hk1 => exact Nat.le_trans (by decide) hC3
  rintro p η' ⟨r1, ds1, rfl, r10, r11, hd1, rfl⟩
  refine' ⟨_, Bin.add, Es.x (E.fn i_law_draw rfl (k := 1) (ps := [.ref d, .int 3000]) ?vs2 ?hk2 ((f_drawP [(c, HO.cell none)] ((a, HO.lst (intL [m0, m1, m2, m3, m4, m5])) :: η) hd1 (by decide) (by decide)).mono ?k2)) rfl⟩
  case vs2 => exact .cons (V.lo rfl) rfl (.cons V.int rfl .nil)
  case hk2 => exact Nat.le_trans (by decide) hC3
  rintro p η' ⟨r2, ds2, rfl, r20, r21, hd2, rfl⟩
  refine' Es.x (E.cmp (E.fn i_law_draw rfl (k := 1) (ps := [.ref d, .int 2]) ?vs3 ?hk3 ((f_drawP [(c, HO.cell none)] ((a, HO.lst (intL [m0, m1, m2, m3, m4, m5])) :: η) hd2 (by decide) (by decide)).mono ?k3)) rfl) rfl
  case vs3 => exact .cons (V.lo rfl) rfl (.cons V.int rfl .nil)
  case hk3 => exact Nat.le_trans (by decide) hC3
  rintro p η' ⟨r3, ds3, rfl, r30, r31, hd3, rfl⟩
  refine V.up V.int ⟨_, Cmp.eq, Es.nil ⟨by show 3 ≤ 1000; decide, fun t => ⟨_, _, rfl, .head _, rfl, _, _, .cons (Sto.loc rfl) (.cons (Sto.loc rfl) (.cons (Sto.loc rfl) .nil)), R.drop ?_⟩⟩⟩
  generalize (r3 == 1) = dn at *
  clear r30 r31 hd hd1 hd2
  have b_dots : bits (1 + r1) ≤ 40 := bits_of_abs (by omega)
  have b_h : bits r2 ≤ 40 := bits_of_abs (by omega)
  generalize hdo : 1 + r1 = dots at *
  have b_ds : bits (dots * 1000000) ≤ 60 := Nat.le_trans (PyProof.Rows.bits_mul b_dots (Nat.le_refl _)) (by decide)
  refine' R.as1 (p := .int (rnd (dots * 1000000) 72)) ?v4 rfl rfl ?k4
  case v4 => exact V.call (k := 1) i_law_part rfl (.cons (V.bin (V.lo rfl) (V.lone rfl) (Bin.mul (mulB (n := 20) b_dots (by decide) rfl))) rfl (.cons V.int rfl .nil)) (Nat.le_trans (by decide) hC3) (f_part _ _ _ (Nat.le_trans b_ds (by decide)) (by decide) (by decide))
  refine' R.asIfL (b := dn) (A := [rnd (dots * 1000000) 72, 0, 0, -rnd (dots * 1000000) 72, 0, r2 * 1000000]) (B := [rnd (dots * 1000000) 72, 0, 0, rnd (dots * 1000000) 72, 0, 0]) ?w5 ?vs5 ?vs6 (Nat.le_of_ble_eq_true rfl) (Nat.le_of_ble_eq_true rfl) rfl rfl (fun ld => ?k5)
  case w5 => (with_reducible repeat' first
    | exact V.int
    | (refine' V.lo ?a9; (case a9 => with_unfolding_all exact rfl))
    | (refine' V.grain ?g9; (case g9 => with_unfolding_all exact rfl)) | (refine' V.lone ?g9; (case g9 => with_unfolding_all exact rfl))
    | refine' V.bin ?_ ?_ ?_
    | refine' V.una ?_ ?_
    | (refine' V.cmp ?_ ?_ ?_ ?d9; (case d9 => with_unfolding_all exact rfl))
    | (refine' W.cmp ?_ ?_ ?_ ?d9; (case d9 => with_unfolding_all exact rfl))
    | refine' V.iti ?_ ?_ ?_
    | (refine' V.abs (g_abs _) ?g9 ?_ ?n9; (case g9 => with_unfolding_all exact rfl); (case n9 => with_unfolding_all exact rfl))
    | refine' V.itc ?_ ?_ ?_
    | exact V.boolc | exact V.nonec | refine' V.bone ?_ | (refine' V.band ?_ (fun _ => ?_)) | (refine' V.bor ?_ (fun _ => ?_)) | (refine' V.not ?_)
    | (refine' W.not ?_) | exact W.and0 | exact W.or0 | (refine' W.and ?_ (fun _ => ?_)) | (refine' W.or ?_ (fun _ => ?_))
    | (refine' W.of ?_ ?d9; (case d9 => with_unfolding_all exact rfl))
    | exact Vs.nil | (refine' Vs.cons ?_ ?n9 ?_; (case n9 => with_unfolding_all exact rfl))
    | exact Bin.add | exact Bin.sub | (refine' Bin.mul (mulB ?m9 ?n9 ?o9); (case m9 => (with_reducible repeat' first | exact b_m0 | exact b_m1 | exact b_m2 | exact b_m3 | exact b_m4 | exact b_m5 | exact b_dots | exact b_h | exact b_ds | refine' PyProof.Rows.bits_mul ?_ ?_ | refine' PyProof.Rows.bits_add ?_ ?_ | refine' PyProof.Rows.bits_sub ?_ ?_ | refine' PyProof.Rows.bits_neg ?_ | refine' PyProof.Rows.bits_ite ?_ ?_ | refine' bits_rnd ?_ | refine' PyProof.Rows.bits_fdiv ?_ | refine' PyProof.Rows.bits_fmod ?_ ?_ | exact Nat.le_refl _)); (case n9 => (with_reducible repeat' first | exact b_m0 | exact b_m1 | exact b_m2 | exact b_m3 | exact b_m4 | exact b_m5 | exact b_dots | exact b_h | exact b_ds | refine' PyProof.Rows.bits_mul ?_ ?_ | refine' PyProof.Rows.bits_add ?_ ?_ | refine' PyProof.Rows.bits_sub ?_ ?_ | refine' PyProof.Rows.bits_neg ?_ | refine' PyProof.Rows.bits_ite ?_ ?_ | refine' bits_rnd ?_ | refine' PyProof.Rows.bits_fdiv ?_ | refine' PyProof.Rows.bits_fmod ?_ ?_ | exact Nat.le_refl _)); (case o9 => with_unfolding_all exact rfl)) | (refine' Bin.mod ?m9; (case m9 => first | decide | exact h0 | omega)) | (refine' Bin.fdiv ?m9 (noPyB ?n9 ?o9); (case m9 => first | decide | omega); (case n9 => (with_reducible repeat' first | exact b_m0 | exact b_m1 | exact b_m2 | exact b_m3 | exact b_m4 | exact b_m5 | exact b_dots | exact b_h | exact b_ds | refine' PyProof.Rows.bits_mul ?_ ?_ | refine' PyProof.Rows.bits_add ?_ ?_ | refine' PyProof.Rows.bits_sub ?_ ?_ | refine' PyProof.Rows.bits_neg ?_ | refine' PyProof.Rows.bits_ite ?_ ?_ | refine' bits_rnd ?_ | refine' PyProof.Rows.bits_fdiv ?_ | refine' PyProof.Rows.bits_fmod ?_ ?_ | exact Nat.le_refl _)); (case o9 => with_unfolding_all exact rfl)) | exact Una.neg
    | exact Cmp.lt | exact Cmp.le | exact Cmp.gt | exact Cmp.ge | exact Cmp.eq | exact Cmp.ne | exact Cmp.eqB
    | exact ItemOf.lst hm | (with_unfolding_all exact ItemOf.lst (.head _)) | (with_unfolding_all exact ItemOf.lst (.tail _ (.head _))) | exact ItemOf.tup hm | (with_unfolding_all exact ItemOf.tup (.head _))
    | exact Nat.le_trans (Nat.le_of_ble_eq_true rfl) hC | ((show _ ≠ _); first | exact h0 | decide | omega)
        | (refine' Nat.le_trans ?m9 (Nat.le_of_ble_eq_true ?o9); (case m9 => (with_reducible repeat' first | exact b_m0 | exact b_m1 | exact b_m2 | exact b_m3 | exact b_m4 | exact b_m5 | exact b_dots | exact b_h | exact b_ds | refine' PyProof.Rows.bits_mul ?_ ?_ | refine' PyProof.Rows.bits_add ?_ ?_ | refine' PyProof.Rows.bits_sub ?_ ?_ | refine' PyProof.Rows.bits_neg ?_ | refine' PyProof.Rows.bits_ite ?_ ?_ | refine' bits_rnd ?_ | refine' PyProof.Rows.bits_fdiv ?_ | refine' PyProof.Rows.bits_fmod ?_ ?_ | exact Nat.le_refl _)); (case o9 => with_unfolding_all exact rfl))
    | (with_unfolding_all exact rfl))
  case vs5 => exact .cons (V.lo rfl) rfl (.cons V.int rfl (.cons V.int rfl (.cons (V.una (V.lo rfl) Una.neg) rfl (.cons V.int rfl (.cons (V.bin (V.lo rfl) (V.lone rfl) (Bin.mul (mulB (n := 20) b_h (by decide) rfl))) rfl .nil)))))
  case vs6 => exact .cons (V.lo rfl) rfl (.cons V.int rfl (.cons V.int rfl (.cons (V.lo rfl) rfl (.cons V.int rfl (.cons V.int rfl .nil)))))
  refine' R.ifn (T.cmpH (E.fn i_default_matrix rfl (k := 2) (ps := [.int dots, .int r2, .bool dn]) ?vs7 ?hk7 ((f_default _ dots r2 dn b_dots b_h).on fun l2 => V.up (p := .ref ld) (V.lo rfl) ⟨_, CmpH.neL (.head _) (.tail _ (.head _)), by simp, R.drop (R.drop ?k7)⟩)) rfl)
  case vs7 => exact .cons (V.lo rfl) rfl (.cons (V.lo rfl) rfl (.cons (V.lo rfl) rfl .nil))
  case hk7 => exact Nat.le_trans (by decide) hC3
  refine R.env (ρ' := [("is_down", .bool dn), ("deck", .ref d), ("m", .ref a)]) (SubE.look (.cons rfl (.cons rfl (.cons rfl .nil)))) ?_
  refine' R.tupS ["wide", "tall"] (E.tup (Es.x (E.bin (E.bin (V.up V.int (E.fn i_law_draw rfl (k := 1) (ps := [.ref d, .int 300]) ?vs8 ?hk8 ((f_drawP [(c, HO.cell none)] ((a, HO.lst (intL [m0, m1, m2, m3, m4, m5])) :: η) hd3 (by decide) (by decide)).mono ?k8))))) rfl)) rfl rfl
  case vs8 => exact .cons (V.lo rfl) rfl (.cons V.int rfl .nil)
  case hk8 => exact Nat.le_trans (by decide) hC3
  rintro p η' ⟨w1, ds4, rfl, w10, w11, hd4, rfl⟩
  have b_w : bits (1 + w1) ≤ 40 := bits_of_abs (by omega)
  refine' ⟨_, Bin.add, V.up (V.lone rfl) ⟨_, Bin.mul (mulB (n := 20) b_w (by decide) rfl), Es.x (E.bin (E.bin (V.up V.int (E.fn i_law_draw rfl (k := 1) (ps := [.ref d, .int 300]) ?vs9 ?hk9 ((f_drawP [(c, HO.cell none)] ((a, HO.lst (intL [m0, m1, m2, m3, m4, m5])) :: η) hd4 (by decide) (by decide)).mono ?k9))))) rfl⟩⟩
  case vs9 => exact .cons (V.lo rfl) rfl (.cons V.int rfl .nil)
  case hk9 => exact Nat.le_trans (by decide) hC3
  rintro p η' ⟨w2, ds5, rfl, w20, w21, hd5, rfl⟩
  have b_t : bits (1 + w2) ≤ 40 := bits_of_abs (by omega)
  refine ⟨_, Bin.add, V.up (V.lone rfl) ⟨_, Bin.mul (mulB (n := 20) b_t (by decide) rfl), Es.nil ⟨by show 2 ≤ 1000; decide, fun t => ⟨_, _, rfl, .head _, rfl, _, _, .cons (Sto.loc rfl) (.cons (Sto.loc rfl) .nil), R.drop ?_⟩⟩⟩⟩
  generalize 1 + w1 = wi at *
  generalize 1 + w2 = ta at *
  refine' R.asIfL (b := dn) (A := [wi * 1000000, 0, 0, -(ta * 1000000), 0, ta * 1000000]) (B := [wi * 1000000, 0, 0, ta * 1000000, 0, 0]) ?w10 ?vs10 ?vs11 (Nat.le_of_ble_eq_true rfl) (Nat.le_of_ble_eq_true rfl) rfl rfl (fun ld => ?k10)
  case w10 => (with_reducible repeat' first
    | exact V.int
    | (refine' V.lo ?a9; (case a9 => with_unfolding_all exact rfl))
    | (refine' V.grain ?g9; (case g9 => with_unfolding_all exact rfl)) | (refine' V.lone ?g9; (case g9 => with_unfolding_all exact rfl))
    | refine' V.bin ?_ ?_ ?_
    | refine' V.una ?_ ?_
    | (refine' V.cmp ?_ ?_ ?_ ?d9; (case d9 => with_unfolding_all exact rfl))
    | (refine' W.cmp ?_ ?_ ?_ ?d9; (case d9 => with_unfolding_all exact rfl))
    | refine' V.iti ?_ ?_ ?_
    | (refine' V.abs (g_abs _) ?g9 ?_ ?n9; (case g9 => with_unfolding_all exact rfl); (case n9 => with_unfolding_all exact rfl))
    | refine' V.itc ?_ ?_ ?_
    | exact V.boolc | exact V.nonec | refine' V.bone ?_ | (refine' V.band ?_ (fun _ => ?_)) | (refine' V.bor ?_ (fun _ => ?_)) | (refine' V.not ?_)
    | (refine' W.not ?_) | exact W.and0 | exact W.or0 | (refine' W.and ?_ (fun _ => ?_)) | (refine' W.or ?_ (fun _ => ?_))
    | (refine' W.of ?_ ?d9; (case d9 => with_unfolding_all exact rfl))
    | exact Vs.nil | (refine' Vs.cons ?_ ?n9 ?_; (case n9 => with_unfolding_all exact rfl))
    | exact Bin.add | exact Bin.sub | (refine' Bin.mul (mulB ?m9 ?n9 ?o9); (case m9 => (with_reducible repeat' first | exact b_m0 | exact b_m1 | exact b_m2 | exact b_m3 | exact b_m4 | exact b_m5 | exact b_dots | exact b_h | exact b_ds | exact b_w | exact b_t | refine' PyProof.Rows.bits_mul ?_ ?_ | refine' PyProof.Rows.bits_add ?_ ?_ | refine' PyProof.Rows.bits_sub ?_ ?_ | refine' PyProof.Rows.bits_neg ?_ | refine' PyProof.Rows.bits_ite ?_ ?_ | refine' bits_rnd ?_ | refine' PyProof.Rows.bits_fdiv ?_ | refine' PyProof.Rows.bits_fmod ?_ ?_ | exact Nat.le_refl _)); (case n9 => (with_reducible repeat' first | exact b_m0 | exact b_m1 | exact b_m2 | exact b_m3 | exact b_m4 | exact b_m5 | exact b_dots | exact b_h | exact b_ds | exact b_w | exact b_t | refine' PyProof.Rows.bits_mul ?_ ?_ | refine' PyProof.Rows.bits_add ?_ ?_ | refine' PyProof.Rows.bits_sub ?_ ?_ | refine' PyProof.Rows.bits_neg ?_ | refine' PyProof.Rows.bits_ite ?_ ?_ | refine' bits_rnd ?_ | refine' PyProof.Rows.bits_fdiv ?_ | refine' PyProof.Rows.bits_fmod ?_ ?_ | exact Nat.le_refl _)); (case o9 => with_unfolding_all exact rfl)) | (refine' Bin.mod ?m9; (case m9 => first | decide | exact h0 | omega)) | (refine' Bin.fdiv ?m9 (noPyB ?n9 ?o9); (case m9 => first | decide | omega); (case n9 => (with_reducible repeat' first | exact b_m0 | exact b_m1 | exact b_m2 | exact b_m3 | exact b_m4 | exact b_m5 | exact b_dots | exact b_h | exact b_ds | exact b_w | exact b_t | refine' PyProof.Rows.bits_mul ?_ ?_ | refine' PyProof.Rows.bits_add ?_ ?_ | refine' PyProof.Rows.bits_sub ?_ ?_ | refine' PyProof.Rows.bits_neg ?_ | refine' PyProof.Rows.bits_ite ?_ ?_ | refine' bits_rnd ?_ | refine' PyProof.Rows.bits_fdiv ?_ | refine' PyProof.Rows.bits_fmod ?_ ?_ | exact Nat.le_refl _)); (case o9 => with_unfolding_all exact rfl)) | exact Una.neg
    | exact Cmp.lt | exact Cmp.le | exact Cmp.gt | exact Cmp.ge | exact Cmp.eq | exact Cmp.ne | exact Cmp.eqB
    | exact ItemOf.lst hm | (with_unfolding_all exact ItemOf.lst (.head _)) | (with_unfolding_all exact ItemOf.lst (.tail _ (.head _))) | exact ItemOf.tup hm | (with_unfolding_all exact ItemOf.tup (.head _))
    | exact Nat.le_trans (Nat.le_of_ble_eq_true rfl) hC | ((show _ ≠ _); first | exact h0 | decide | omega)
        | (refine' Nat.le_trans ?m9 (Nat.le_of_ble_eq_true ?o9); (case m9 => (with_reducible repeat' first | exact b_m0 | exact b_m1 | exact b_m2 | exact b_m3 | exact b_m4 | exact b_m5 | exact b_dots | exact b_h | exact b_ds | exact b_w | exact b_t | refine' PyProof.Rows.bits_mul ?_ ?_ | refine' PyProof.Rows.bits_add ?_ ?_ | refine' PyProof.Rows.bits_sub ?_ ?_ | refine' PyProof.Rows.bits_neg ?_ | refine' PyProof.Rows.bits_ite ?_ ?_ | refine' bits_rnd ?_ | refine' PyProof.Rows.bits_fdiv ?_ | refine' PyProof.Rows.bits_fmod ?_ ?_ | exact Nat.le_refl _)); (case o9 => with_unfolding_all exact rfl))
    | (with_unfolding_all exact rfl))
  case vs10 => exact .cons (V.lo rfl) rfl (.cons V.int rfl (.cons V.int rfl (.cons (V.una (V.lo rfl) Una.neg) rfl (.cons V.int rfl (.cons (V.lo rfl) rfl .nil)))))
  case vs11 => exact .cons (V.lo rfl) rfl (.cons V.int rfl (.cons V.int rfl (.cons (V.lo rfl) rfl (.cons V.int rfl (.cons V.int rfl .nil)))))
  have ei : ([wi * 1000000, 0, 0, -ta * 1000000, 0, ta * 1000000] : List Int) = [wi * 1000000, 0, 0, -(ta * 1000000), 0, ta * 1000000] := by rw [Int.neg_mul]
  have fi := fun η => f_image η wi ta dn b_w b_t
  rw [ei] at fi
  refine' R.ifn (T.cmpH (E.fn i_image_matrix rfl (k := 2) (ps := [.int wi, .int ta, .bool dn]) ?vs12 ?hk12 ((fi _).on fun l2 => V.up (p := .ref ld) (V.lo rfl) ⟨_, CmpH.neL (.head _) (.tail _ (.head _)), by simp, R.drop (R.drop ?k12)⟩)) rfl)
  case vs12 => exact .cons (V.as (V.bin (V.lo rfl) (V.lone rfl) (Bin.fdiv (by decide) (noPyB (k := 20) (by decide) rfl))) (by rw [Int.mul_fdiv_cancel _ (by decide)])) rfl (.cons (V.as (V.bin (V.lo rfl) (V.lone rfl) (Bin.fdiv (by decide) (noPyB (k := 20) (by decide) rfl))) (by rw [Int.mul_fdiv_cancel _ (by decide)])) rfl (.cons (V.lo rfl) rfl .nil))
  case hk12 => exact Nat.le_trans (by decide) hC3
  refine R.env (ρ' := [("deck", .ref d), ("m", .ref a)]) (SubE.look (.cons rfl (.cons rfl .nil))) ?_
  refine' R.assign (E.fn i_law_number rfl (k := 2) (ps := [.ref d]) ?vs13 ?hk13 ((f_numberP [(c, HO.cell none)] ((a, HO.lst (intL [m0, m1, m2, m3, m4, m5])) :: η) hd5).mono ?k13)) rfl
  case vs13 => exact .cons (V.lo rfl) rfl .nil
  case hk13 => exact Nat.le_trans (by decide) hC3
  rintro p η' ⟨x, ds6, rfl, nx, hd6, rfl⟩
  have b_x : bits x ≤ 40 := Nat.le_trans nx.bits (by decide)
  refine ⟨_, _, Sto.cel (c := c) (by rw [e1]; rfl) .head rfl, ?_⟩
  have hsz : ∀ {ρ : Rho} {η : Hp} {ps : Pos}, (c, HO.cell (some (.int x))) ∈ η → V C ρ η (.Name "size" ps) (.int x) := fun h => V.ce (by show look2 _ C.cl _ = _; rw [e1]; rfl) h
  have hm6 : (a, HO.lst (intL [m0, m1, m2, m3, m4, m5])) ∈ (c, HO.cell (some (.int x))) :: deck d ds6 :: (a, HO.lst (intL [m0, m1, m2, m3, m4, m5])) :: η := .tail _ (.tail _ (.head _))
  refine' R.ret (E.cmpH (E.fn i_font_matrix rfl (k := 3) (ps := [.ref a, .int x]) ?vs14 ?hk14 ((f_font x hm6 b_m0 b_m1 b_m2 b_m3 b_m4 b_m5 b_x).mono ?k14)) rfl)
  case vs14 => exact .cons (V.lo rfl) rfl (.cons (hsz (.head _)) rfl .nil)
  case hk14 => exact hC3
  rintro p η' ⟨l3, rfl, rfl⟩
  generalize hl3 : intL [rnd (m0 * x) 1000000, rnd (m1 * x) 1000000, rnd (m2 * x) 1000000, rnd (m3 * x) 1000000, rnd (m4 * x) 1000000, rnd (m5 * x) 1000000] = L3
  refine E.reord (E.perm (η' := (a, HO.lst (intL [m0, m1, m2, m3, m4, m5])) :: (l3, HO.lst L3) :: (c, HO.cell (some (.int x))) :: deck d ds6 :: η) (List.perm_middle (l₁ := [(l3, HO.lst L3), (c, HO.cell (some (.int x))), deck d ds6])) ?_)
  refine' E.comp (cl := [(("size" : Str), c)]) ?hcl15 rfl (Cs.list (a := a) (xs := intL [m0, m1, m2, m3, m4, m5]) (EM.lo rfl ⟨rfl, rfl⟩) (by show 6 ≤ 1000; decide)) (by show 6 ≤ 1000; decide) (CompGo.pure (fun p => match p with | .int v => .int (rnd (v * x) 1000000) | q => q) (intL [m0, m1, m2, m3, m4, m5]) [] ?el15) ?hf15 (fun _ => rfl)
  case hcl15 => show closureFor _ (envX C.cn _ C.L C.a C.ccd C.cl) = _; rw [e1]; rfl
  case el15 =>
    intro p hp C' c1 c2 c3
    obtain ⟨v, hv, rfl⟩ := List.mem_map.mp hp
    have b_v : bits v ≤ 40 := by
      simp only [List.mem_cons, List.not_mem_nil, or_false] at hv
      rcases hv with rfl | rfl | rfl | rfl | rfl | rfl <;> assumption
    have hsz' : ∀ {ps : Pos}, V C' [("number", .int v)] ((l3, HO.lst L3) :: (c, HO.cell (some (.int x))) :: deck d ds6 :: η) (.Name "size" ps) (.int x) := fun {ps} => V.ce (c := c) (by show look2 _ C'.ccl _ = _; rw [c3]; rfl) (.tail _ (.head _))
    exact V.call (k := 1) i_law_part rfl (.cons (V.bin (V.lo rfl) hsz' (Bin.mul (mulB b_v b_x rfl))) rfl (.cons (V.lone rfl) rfl .nil)) (by rw [c2]; exact Nat.le_trans (by decide) hC3) (f_part _ _ _ (Nat.le_trans (PyProof.Rows.bits_mul b_v b_x) (by decide)) (by decide) (by decide))
  rintro ys η1 ⟨rfl, rfl⟩ _ lf
  rw [map_font]
  subst hl3
  refine ⟨(lf, _) :: (l3, _) :: (c, HO.cell (some (.int x))) :: deck d ds6 :: (a, HO.lst (intL [m0, m1, m2, m3, m4, m5])) :: η, .cons _ (List.perm_middle (l₁ := [(l3, _), (c, HO.cell (some (.int x))), deck d ds6])).symm, _, CmpH.eqL (.tail _ (.head _)) (.head _), Back.s (.cons _ (.cons _ (.cons _ (.refl _)))) ⟨ds6, by simp, hd6, rfl⟩⟩
end Mine
end
section
open PySem PySem.W PyProof.Rows PySem.Calls PySem.F
set_option Elab.async false
set_option linter.unusedVariables false
set_option maxRecDepth 100000
namespace Mine
/-! PsError: its class, made with the __init__ of its base -/
abbrev bmE : List Value := [.type "Exception", .type "BaseException", .type "object"]
abbrev clsP : Obj := excClassObj "PsError" "PsError" 45 44 [.ref 32] (.ref 32 :: bmE) true [] [] false none none (some (.ref 36)) none (some (.str "PsError" 220)) (some (.str "PsError" 228)) (some (.bool true)) "Exception.__new__"
section
variable {P : Params} {h : Heap}
theorem px_C (X : (kK P).In h) : h.get? 45 = some clsP := X 45 _ rfl
theorem px_ns (X : (kK P).In h) : h.Ns 44 (h.nsMap 44) := .of_isNs (isNs_of_in X (by kernel_rfl))
theorem px_ns2 (X : (kK P).In h) : h.Ns 31 (h.nsMap 31) := .of_isNs (isNs_of_in X (by kernel_rfl))
theorem px_none (X : (kK P).In h) {x : Str} (e : nsIn (kK P) 44 x = some none) : h.nsMap 44 x = none := nsMap_none_of_in X (by kernel_rfl) e
theorem px_none2 (X : (kK P).In h) {x : Str} (e : nsIn (kK P) 31 x = some none) : h.nsMap 31 x = none := nsMap_none_of_in X (by kernel_rfl) e
theorem px_some2 (X : (kK P).In h) {x : Str} {v : Value} (e : nsIn (kK P) 31 x = some (some v)) : h.nsMap 31 x = some v := by
  have ⟨o, es, ep, ho, hd, _, hf⟩ := px_ns2 X
  unfold nsIn at e
  split at e
  · rename_i q
    rw [X _ _ q] at ho
    cases ho
    cases hd
    split at e
    · rename_i he
      rw [← hf, nsFind, findBy, ← Array.find?_toList, he]
      exact Option.some.inj e
    · split at e <;> cases e
  · cases e
end
section
variable {M : Model} {A : Around} {E : Value → Shared → Prop} {h : Heap} {g : Array GenState} {d : Drawn} {t : Nat} {os : OsState} {P : Params}
/-- a name, looked for along the class, its base and the built-in bases -/
theorem px_lookup (X : (kK P).In h) {name : Str} {r y : Option Value} {Q : Option Value → Shared → Prop} (e1 : nsIn (kK P) 44 name = some none) (e2 : h.nsMap 31 name = r) (hB : typeLookup (.type "Exception") name = pure y) (hq : Q (match r with | some v => some v | none => y) ⟨h, g, d, t, os⟩) :
    wpAny M A (typeLookup (.ref 45) name) Q E ⟨h, g, d, t, os⟩ := by
  have hrest : lookupAlong bmE name = pure y := by rw [typeLookup_eq, excBase_Exception.mroIs] at hB; exact hB
  rw [typeLookup_eq]
  refine wpAny_bind (wpAny_mroOf_exc (px_C X) ?_)
  rw [lookupAlong_cons]
  refine wpAny_bind (wpAny_classOwn_exc (px_C X) (px_ns X) ?_)
  rw [px_none X e1]
  show wpAny _ _ (lookupAlong (.ref 32 :: bmE) name) _ _ _
  rw [lookupAlong_cons]
  refine wpAny_bind (wpAny_classOwn_cls (X 32 _ rfl) (px_ns2 X) ?_)
  rw [e2]
  cases r with
  | some v => exact wpAny_pure hq
  | none =>
    show wpAny _ _ (lookupAlong bmE name) _ _ _
    rw [hrest]; exact wpAny_pure hq
theorem px_checkNew (X : (kK P).In h) {rest : List Value} {Q : Unit → Shared → Prop} (hq : Q () ⟨h, g, d, t, os⟩) : wpAny M A (checkBuiltinCall "Exception.__new__" ⟨.ref 45 :: rest, []⟩) Q E ⟨h, g, d, t, os⟩ := by
  have F := excBase_Exception
  have hC := px_C X
  have hcont : (Value.ref 45 :: .ref 32 :: bmE).contains (.type "Exception") = true := by decide
  have hstar := F.noStar
  simp only [checkBuiltinCall, F.newKind, F.newSplit, F.newRow]
  repeat (first | refine wpAny_loadPart_at hC ?_ | (refine wpAny_isSubtype_exc hC ?_; rw [hcont]) | refine wpAny_staticBase_exc hC ?_ | refine wpAny_madeBy_exc hC ?_ | simp only [bne_self_eq_false, Bool.false_eq_true, if_false] | wp_step)
  exact hq
end
section
variable {prog : Program} {w : World} {A : Around} {E : Value → Shared → Prop} {R : Result → Shared → Prop} {h : Heap} {g : Array GenState} {d : Drawn} {t : Nat} {os : OsState} {P : Params}
abbrev excObj (c : Addr) (t : Addr) : Obj := { cls := .ref c, data := .fields #[.ref t, .none, .none, .none, .bool false, .none] }
theorem px_new (X : (kK P).In h) {rest : List Value} (hq : R (.ok (.ret (.ref (h.objs.size + 1)))) ⟨(h.push { cls := .type "tuple", data := .seq rest.toArray }).push (excObj 45 h.objs.size), g, d, t, os⟩) (hrest : rest.length ≤ sizeLine) :
    codeAny (model prog w) A (.builtin "Exception.__new__" ⟨.ref 45 :: rest, []⟩) R ⟨h, g, d, t, os⟩ := by
  have F := excBase_Exception
  have hC := px_C X
  have hends := F.ends
  have hcB : (Value.ref 45 :: .ref 32 :: bmE).contains (.type "Exception") = true := by decide
  have hcA : (Value.ref 45 :: .ref 32 :: bmE).contains (.type "AttributeError") = false := by decide
  have hcN : (Value.ref 45 :: .ref 32 :: bmE).contains (.type "NameError") = false := by decide
  refine codeAny_builtinAt F.entry ?_
  unfold Builtin.«BaseException.__new__»
  refine PySem.wpAt_bind ?_
  show PySem.wpAt _ _ _ (PySem.stack >>= _) _ _ _
  refine PySem.wpAt_bind (PySem.wpAt_stack fun p below => PySem.wpAt_of_wpAny ?_)
  wp_walk
  refine PySem.wpAt_of_wpAny ?_
  rw [F.owner]
  repeat (first | with_reducible refine wpAny_madeHere_exc F.canon hC ?_ | with_reducible refine wpAny_loadPart_at hC ?_ | (with_reducible refine wpAny_isSubtype_exc hC ?_; first | rw [hcB] | rw [hcA] | rw [hcN]) | wp_step)
  show R _ _
  rw [Heap.size_push]
  exact hq
theorem px_type_call (X : (kK P).In h) {v : Value} {Q : PySem.Fin → Shared → Prop}
    (hq : ∀ h' e, Heap.MadeExcOf h h' e (.ref 45) [v] → wpAny (model prog w) A (call (.ref 29) [.ref e, v]) (fun r s' => r = .none ∧ Q (.done (.ret (.ref e))) s') E ⟨h', g, d, t, os⟩) :
    wpAny (model prog w) A (Builtin.«type.__call__» ⟨[.ref 45, v], []⟩) Q E ⟨h, g, d, t, os⟩ := by
  have hC := px_C X
  repeat (first | with_reducible refine wpAny_loadPart_at hC ?_ | with_reducible refine wpAny_madeBy_exc hC ?_ | wp_step)
  refine codeAny_call_builtin_code (Code.quiet_builtin _ excBase_Exception.quiet) (px_checkNew X ?_)
  refine px_new X ?_ (by rw [sizeLine_eq]; exact Nat.le_of_ble_eq_true rfl)
  show wpAny _ _ _ _ _ _
  have up : ∀ b o, h.get? b = some o → ((h.push { cls := .type "tuple", data := .seq [v].toArray }).push (excObj 45 h.objs.size)).get? b = some o := fun b o e => Heap.get?_push_of_some _ (Heap.get?_push_of_some _ e)
  have hget : ((h.push { cls := .type "tuple", data := .seq [v].toArray }).push (excObj 45 h.objs.size)).get? (h.objs.size + 1) = some (excObj 45 h.objs.size) := by heap_get
  have X₁ : (kK P).In ((h.push { cls := .type "tuple", data := .seq [v].toArray }).push (excObj 45 h.objs.size)) := X.keeps up
  have hC₁ := px_C X₁
  have hcC : (Value.ref 45 :: .ref 32 :: bmE).contains (.ref 45) = true := by decide
  unfold isInstance
  repeat (first | with_reducible refine wpAny_loadPart_at hget ?_ | (with_reducible refine wpAny_isSubtype_exc hC₁ ?_; rw [hcC]) | wp_step)
  show wpAny _ _ (typeLookup (.ref 45) _) _ _ _
  refine px_lookup X₁ (r := some (.ref 29)) (by kernel_rfl) (px_some2 X₁ (by kernel_rfl)) excBase_Exception.init.lookup ?_
  refine wpAny_holding (wpAny_bind ?_)
  unfold bindSpecial
  refine wpAny_bind (wpAny_typeOf (T := "function") ⟨_, X₁ 29 _ rfl, rfl⟩ ?_)
  rw [if_pos (by decide)]
  refine wpAny_pure (wpAny_bind (wpAny_mono (hq _ (h.objs.size + 1) ⟨up, Heap.get?_none_of_le (Nat.le_succ _), h.objs.size, hget, Heap.get?_none_of_le (Nat.le_refl _), ?_⟩) (fun r s' hr => ?_) fun _ _ x => x))
  · exact Heap.get?_push_of_some _ (Heap.get?_push_at rfl rfl)
  · obtain ⟨rfl, hQ⟩ := hr
    wp_walk
    exact hQ
theorem px_call (X : (kK P).In h) {v : Value} {Q : Value → Shared → Prop}
    (hq : ∀ h' e, Heap.MadeExcOf h h' e (.ref 45) [v] → wpAny (model prog w) (A.under (.builtin "type.__call__" ⟨[.ref 45, v], []⟩)) (call (.ref 29) [.ref e, v]) (fun r s' => r = .none ∧ Q (.ref e) s') E ⟨h', g, d, t, os⟩) :
    wpAny (model prog w) A (call (.ref 45) [v]) Q E ⟨h, g, d, t, os⟩ := by
  have hC := px_C X
  have f1 := tc_lookup
  have f2 := tc_bind (.ref 45)
  have hT : (⟨h, g, d, t, os⟩ : Shared).TypeIs (.ref 45) "type" := ⟨_, hC, rfl⟩
  refine wpAny_call (codeAny_of_tree ?_)
  show wpAny _ _ (callAny (.ref 45) _) _ _ _
  repeat (any_goals (first | assumption | with_reducible refine wpAny_loadPart_at hC ?_ | wp_step))
  refine ⟨rfl, ?_⟩
  refine codeAny_call_builtin_at (Code.quiet_builtin _ (by decide +kernel)) entry_typeCall (wpAny_check_type_call_sub hC (px_type_call X fun h' e hm => ?_))
  exact hq h' e hm
end
end Mine
end
section
open PySem
set_option Elab.async false
set_option linter.unusedVariables false
set_option maxRecDepth 100000
namespace Mine
/-! an exception on its way, with its own dict kept in sight -/
def FlyX (B : Heap) (l : List Env) (e : Addr) (cls : Value) (dct : Option Addr) (fl : Value) (h : Heap) : Prop :=
  B.StaysIn h ∧ B.get? e = none ∧ h.FunFrames B l ∧ ∃ oe vs T oT ts, h.get? e = some oe ∧ (oe.cls = cls ∧ oe.dict = dct) ∧ oe.data = .fields vs ∧ vs[1]? = some (.ref T) ∧ B.get? T = none ∧ T ≠ e ∧ h.get? T = some oT ∧ oT.data = .fields ts ∧ ts[3]? = some fl
theorem FlyX.obj {B h : Heap} {l : List Env} {e : Addr} {cls fl : Value} {dct : Option Addr} (x : FlyX B l e cls dct fl h) : ∃ oe vs, h.get? e = some oe ∧ oe.cls = cls ∧ oe.dict = dct ∧ oe.data = .fields vs :=
  let ⟨_, _, _, oe, vs, _, _, _, he, hc, hd, _⟩ := x; ⟨oe, vs, he, hc.1, hc.2, hd⟩
theorem FlyX.tail {B h : Heap} {env : Env} {l : List Env} {e : Addr} {cls fl : Value} {dct : Option Addr} (x : FlyX B (env :: l) e cls dct fl h) : FlyX B l e cls dct fl h :=
  let ⟨a, b, ⟨_, _, c⟩, d⟩ := x; ⟨a, b, c, d⟩
theorem dict_mapFields (f : Array Value → Array Value) (o : Obj) : (Obj.mapFields f o).dict = o.dict := by
  obtain ⟨_, _, dt, _⟩ := o
  cases dt <;> rfl
section
variable {M : Model} {A : Around} {E : Value → Shared → Prop} {s : Shared} {B : Heap} {env : Env} {outer : List Env} {L e : Addr} {cls : Value} {dct : Option Addr} {Q : Unit → Shared → Prop}
/-- a new entry at the head of its traceback -/
theorem fly_entry {oe : Obj} {vs : Array Value} {head : Value} {hadNext : Bool} (hfr : A.frames = some (env :: outer)) (hl : s.heap.FunFrames B (env :: outer)) (hf : env.frame = some L) (he : s.heap.get? e = some oe) (hkb : B.StaysIn s.heap) (hen : B.get? e = none)
    (hd : oe.data = .fields vs) (hsz : 1 < vs.size) (hc : oe.cls = cls ∧ oe.dict = dct) (h : ∀ h', FlyX B (env :: outer) e cls dct (rawInt L) h' → s.heap.UpToSlots h' → Q () { s with heap := h' }) :
    wpAny M A (do let a ← frameOf env; let pl ← entryPlaceOf L hadNext; let b ← EntryCells.newEntry head a .none (rawInt L) .none pl; setField (.ref e) 1 b) Q E s := by
  have nofr : e ∉ (env :: outer).filterMap (·.frame) := fun hm => by
    obtain ⟨_, o, ho, hnf⟩ := hl.mem hm
    rw [he] at ho; cases ho; exact hnf vs hd
  refine wpAny_bind (wpAny_frameOf_fun hfr hl hf fun h₁ so => wpAny_bind (wpAny_entryPlaceOf fun pl hpl => ?_))
  unfold EntryCells.newEntry newFields
  refine wpAny_bind (wpAny_newObj_type ?_ (hpl.sizeOk5 _ _ _ _ _))
  have he₁ : h₁.get? e = some oe := (so.2.1 e nofr).trans he
  have st₁ : B.StaysIn h₁ := fun b o hb => (so.2.1 b fun hm => by rw [(hl.mem hm).1] at hb; cases hb).trans (hkb b o hb)
  generalize hT : ({ cls := .type "traceback", dict := none, data := .fields ([head, .ref L, .none, rawInt L, .none] ++ (if pl.isEmpty then List.replicate 6 Value.none else pl)).toArray } : Obj) = tb
  have he₂ := Heap.get?_push_of_some tb he₁
  refine wpAny_setField he₂ hd hsz (h _ ?_ ?_)
  · have hne : h₁.objs.size ≠ e := Nat.ne_of_gt (Heap.lt_size he₁)
    have hd' := Obj.data_mapFields hd (·.setIfInBounds 1 (Value.ref h₁.objs.size))
    have tbn : tb.isFreed = false := by subst hT; rfl
    refine ⟨fun b o hb => (Heap.get?_update_other _ _ (fun q : e = b => by rw [← q, hen] at hb; cases hb)).trans (Heap.get?_push_of_some _ (st₁ b o hb)), hen, hl.of_keeps fun b o hb hnf => ?_, _, _, h₁.objs.size, tb, _, Heap.get?_update_self _ he₂ (Obj.isFreed_of_fields hd'),
      ⟨(Obj.cls_mapFields _ _).trans hc.1, (dict_mapFields _ _).trans hc.2⟩, hd', by simp [hsz], st₁.fresh, hne, (Heap.get?_update_other _ _ hne.symm).trans (Heap.get?_push_size h₁ tbn), by subst hT; rfl, ?_⟩
    · obtain ⟨sl, hs⟩ := so.2.2 b o hb
      exact ⟨_, (Heap.get?_update_other _ _ (fun q : e = b => by rw [← q, he] at hb; cases hb; exact hnf vs hd)).trans (Heap.get?_push_of_some _ hs), rfl⟩
    · simp
  · intro b o hb hnf
    obtain ⟨sl, hs⟩ := so.2.2 b o hb
    exact ⟨sl, (Heap.get?_update_other _ _ (fun q : e = b => by rw [← q, he] at hb; cases hb; exact hnf vs hd)).trans (Heap.get?_push_of_some _ hs)⟩
/-- the first frame is noted -/
theorem fly_first {oe : Obj} {vs : Array Value} (hfr : A.frames = some (env :: outer)) (hl : s.heap.FunFrames B (env :: outer)) (hf : env.frame = some L) (he : s.heap.get? e = some oe) (hkb : B.StaysIn s.heap) (hen : B.get? e = none)
    (hd : oe.data = .fields vs) (h1 : vs[1]? = some .none) (hc : oe.cls = cls ∧ oe.dict = dct) (h : ∀ h', FlyX B (env :: outer) e cls dct (rawInt L) h' → s.heap.UpToSlots h' → Q () { s with heap := h' }) :
    wpAny M A (noteFrame (.ref e) env) Q E s := by
  unfold noteFrame
  simp only [hf]
  refine wpAny_bind (wpAny_field he hd h1 ?_)
  rw [if_neg (by decide)]
  exact fly_entry hfr hl hf he hkb hen hd (Array.getElem?_eq_some_iff.mp h1).1 hc h
/-- a field of its newest entry is written -/
theorem fly_set {fl x : Value} {l : List Env} {T : Addr} {oe oT : Obj} {vs ts : Array Value} (hkb : B.StaysIn s.heap) (hen : B.get? e = none) (hl : s.heap.FunFrames B l) (he : s.heap.get? e = some oe) (hc : oe.cls = cls ∧ oe.dict = dct) (hd : oe.data = .fields vs) (h1 : vs[1]? = some (.ref T))
    (hnT : B.get? T = none) (hTe : T ≠ e) (hT : s.heap.get? T = some oT) (hdT : oT.data = .fields ts) (h3 : ts[3]? = some fl) (h : ∀ h', FlyX B l e cls dct x h' → h'.get? e = some oe → s.heap.UpToSlots h' → Q () { s with heap := h' }) :
    wpAny M A (setField (.ref T) 3 x) Q E s := by
  have hs3 := (Array.getElem?_eq_some_iff.mp h3).1
  refine wpAny_setField hT hdT hs3 ?_
  have oth : ∀ b, b ≠ T → (s.heap.update T (Obj.mapFields (·.setIfInBounds 3 x))).get? b = s.heap.get? b := fun b hb => Heap.get?_update_other _ _ (Ne.symm hb)
  have nrec : ∀ b o, s.heap.get? b = some o → (∀ vs, o.data ≠ .fields vs) → b ≠ T := fun b o hb hnf q => by
    rw [q, hT] at hb; cases hb; exact hnf ts hdT
  have hd' := Obj.data_mapFields hdT (·.setIfInBounds 3 x)
  refine h _ ⟨fun b o hb => (oth b fun q => by rw [q, hnT] at hb; cases hb).trans (hkb b o hb), hen, hl.of_keeps fun b o hb hnf => ⟨o, (oth b (nrec b o hb hnf)).trans hb, rfl⟩, oe, vs, T, _, _, (oth e (Ne.symm hTe)).trans he, hc, hd, h1, hnT, hTe,
    Heap.get?_update_self _ hT (Obj.isFreed_of_fields hd'), hd', by simp [hs3]⟩ ((oth e (Ne.symm hTe)).trans he) fun b o hb hnf => ⟨o.slots, (oth b (nrec b o hb hnf)).trans hb⟩
/-- it is in no frame's hands -/
theorem fly_free {fl : Value} {l : List Env} (x : FlyX B l e cls dct fl s.heap) (h : ∀ h', FlyX B l e cls dct .none h' → s.heap.UpToSlots h' → Q () { s with heap := h' }) : wpAny M A (setFlight (.ref e) none) Q E s := by
  obtain ⟨hkb, hen, hl, oe, vs, T, oT, ts, he, hc, hd, h1, hnT, hTe, hT, hdT, h3⟩ := x
  unfold setFlight
  refine wpAny_bind (wpAny_field he hd h1 ?_)
  rw [if_pos (show (Value.ref T != Value.none) = true from by simp)]
  exact fly_set hkb hen hl he hc hd h1 hnT hTe hT hdT h3 fun h' y _ u => h h' y u
/-- a further frame is noted -/
theorem fly_next (hfr : A.frames = some (env :: outer)) (hf : env.frame = some L) (x : FlyX B (env :: outer) e cls dct .none s.heap) (h : ∀ h', FlyX B (env :: outer) e cls dct (rawInt L) h' → s.heap.UpToSlots h' → Q () { s with heap := h' }) :
    wpAny M A (noteFrame (.ref e) env) Q E s := by
  obtain ⟨hkb, hen, hl, oe, vs, T, oT, ts, he, hc, hd, h1, hnT, hTe, hT, hdT, h3⟩ := x
  unfold noteFrame
  simp only [hf]
  refine wpAny_bind (wpAny_field he hd h1 ?_)
  rw [if_pos (show (Value.ref T != Value.none) = true from by simp)]
  refine wpAny_bind (wpAny_field hT hdT h3 ?_)
  rw [if_neg (show ¬ ((Value.none == rawInt L) = true) from by simp [rawInt])]
  refine wpAny_bind (fly_set (x := .none) hkb hen hl he hc hd h1 hnT hTe hT hdT h3 fun h₁ ⟨y1, y2, y3, _⟩ e₁ u => ?_)
  exact fly_entry hfr y3 hf e₁ y1 hen hd (Array.getElem?_eq_some_iff.mp h1).1 hc fun h' y u' => h h' y (u.trans u')
/-- it leaves the frame in which it was made -/
theorem fly_leave {oe : Obj} {vs : Array Value} (hfr : A.frames = some (env :: outer)) (hl : s.heap.FunFrames B (env :: outer)) (hf : env.frame = some L) (he : s.heap.get? e = some oe) (hkb : B.StaysIn s.heap) (hen : B.get? e = none)
    (hd : oe.data = .fields vs) (h1 : vs[1]? = some .none) (hc : oe.cls = cls ∧ oe.dict = dct) (h : ∀ h', FlyX B outer e cls dct .none h' → s.heap.UpToSlots h' → Q () { s with heap := h' }) :
    wpAny M A (leaving env (.ref e)) Q E s := by
  unfold leaving
  exact wpAny_bind (fly_first hfr hl hf he hkb hen hd h1 hc fun h₁ x u => fly_free x fun h₂ y u' => h h₂ y.tail (u.trans u'))
end
end Mine
end
section
open PySem PySem.W PyProof.Rows PySem.Calls PySem.F
open Builtin Builtin.ObjectAttr
set_option Elab.async false
set_option linter.unusedVariables false
set_option maxRecDepth 100000
namespace Mine
theorem px_ga : Slot "Exception" "__getattribute__" "BaseException.__getattribute__" := .of (owner := "BaseException") (n := "__getattribute__") (by rw [typeLookup_type, builtinLookup_eq_fast]; kernel_rfl) (by decide +kernel) (by decide +kernel) (by decide +kernel)
    (by first | exact .inl (by decide +kernel) | exact .inr (by decide +kernel)) (by rw [isSubtype_type]; kernel_rfl)
theorem px_lk_getattr : typeLookup (.type "Exception") "__getattr__" = pure none := by rw [typeLookup_type, builtinLookup_eq_fast]; kernel_rfl
theorem px_lk_told : typeLookup (.type "Exception") "told" = pure none := by rw [typeLookup_type, builtinLookup_eq_fast]; kernel_rfl
section
variable {prog : Program} {w : World} {A : Around} {E : Value → Shared → Prop} {h : Heap} {g : Array GenState} {d : Drawn} {t : Nat} {os : OsState} {P : Params} {x dx : Addr} {o : Obj} {mA : Str → Option Value} {v : Value}
/-- `self.told = v` -/
theorem px_store_entry {tk : Tok} {Q : Fin → Shared → Prop} (X : (kK P).In h) (hx : h.get? x = some o) (hc : o.cls = .ref 45) (hnc : ∀ c, o.data ≠ .cls c) (hdn : o.dict = none) (hx45 : x ≠ 45)
    (hq : ∀ h' tk', h'.get? x = some { o with dict := some h.objs.size } → h'.Ns1 h.objs.size (fun y => if y = "told" then some v else none) → (∀ b ob, b ≠ x → h.get? b = some ob → h'.get? b = some ob) → Q (.done (.ret .none)) ⟨h', g, d, tk', os⟩) :
    wpAny (model prog w) A (Builtin.«object.__setattr__» ⟨[.ref x, .str "told" tk, v], []⟩) Q E ⟨h, g, d, t, os⟩ := by
  have hC := px_C X
  have hpass := store_Exception.passes (.ref x)
  unfold Builtin.«object.__setattr__»
  repeat (first | rw [refuse_eq] | (rw [refuseLoop_ref, refuseLoop_ref, hpass]) | (with_reducible refine wpAny_loadPart_at hx ?_; rw [hc]) | with_reducible refine wpAny_mroOf_exc hC ?_ | (with_reducible refine px_lookup X (r := none) (by kernel_rfl) (px_none2 X (by kernel_rfl)) px_lk_told ?_) | wp_step)
  rw [hdn, if_neg (by simp [typeHasDict])]
  split
  · rename_i hcd
    cases hcd
  split
  · rename_i c hcd
    exact absurd hcd (hnc c)
  · have hx₁ : (h.push { cls := .type "dict", data := .dict #[] }).get? x = some o := Heap.get?_push_of_some _ hx
    have hxs : x ≠ h.objs.size := Nat.ne_of_lt (Heap.lt_size hx)
    refine wpAny_bind (wpAny_alloc' ?_)
    refine wpAny_bind (wpAny_update' hx₁ ?_)
    refine wpAny_pure ?_
    have hgd : ((h.push { cls := .type "dict", data := .dict #[] }).update x fun o => { cls := o.cls, dict := some h.objs.size, data := o.data, slots := o.slots }).get? h.objs.size
        = some { cls := .type "dict", data := .dict #[] } :=
      (Heap.get?_update_ne _ _ _ _ hxs.symm).trans (Heap.get?_push_at rfl rfl)
    have hnd : ((h.push { cls := .type "dict", data := .dict #[] }).update x fun o => { cls := o.cls, dict := some h.objs.size, data := o.data, slots := o.slots }).Ns h.objs.size (fun _ => none) :=
      ⟨_, #[], _, hgd, rfl, fun e he => absurd he (by simp), fun _ => rfl⟩
    show wpAny _ _ (storeInDict h.objs.size (.str "told" tk) "told" v) _ _ _
    unfold storeInDict newKeyGuard
    refine wpAny_bind (wpAny_pure (wpAny_bind (wpAny_nsSet1 (Heap.Ns1.of_empty hnd) fun h' hn' hs => ?_)))
    obtain ⟨oD, esD, epD, hoD, hdD, hcD⟩ := hn'.count (Within.cons "told" v Within.nil)
    refine wpAny_bind (wpAny_lookBehind hoD (by rw [hdD]; exact pastItsLine_dict (Nat.le_trans hcD (by rw [List.length_cons, List.length_nil, sizeLine_eq]; omega))) ?_)
    wp_walk
    refine hq h' _ ?_ hn' (fun b ob hbx hb => (hs.2 b (Nat.ne_of_lt (Heap.lt_size hb))).trans ((Heap.get?_update_ne _ _ _ _ hbx).trans (Heap.get?_push_of_some _ hb)))
    refine (hs.2 x hxs).trans (Heap.get?_update_self _ hx₁ ?_)
    have hfr := (Heap.get?_some_iff.mp hx).2
    obtain ⟨oc, od, odt, osl⟩ := o
    cases odt <;> first | rfl | exact hfr
theorem px_check_sa {M : Model} {nameV : Value} {Q : Unit → Shared → Prop} (X : (kK P).In h) (hx : h.get? x = some o) (hc : o.cls = .ref 45) (hq : Q () ⟨h, g, d, t, os⟩) :
    wpAny M A (checkBuiltinCall "object.__setattr__" ⟨[.ref x, nameV, v], []⟩) Q E ⟨h, g, d, t, os⟩ := by
  have hC := px_C X
  have SF := store_Exception
  have hcB : (Value.ref 45 :: .ref 32 :: bmE).contains (.type "object") = true := by decide
  have ha := SF.args (.ref x) nameV v
  simp only [checkBuiltinCall, SF.kind, SF.split]
  refine wpAny_bind ?_
  · unfold isInstance
    repeat (first | (with_reducible refine wpAny_loadPart_at hx ?_; rw [hc]) | (with_reducible refine wpAny_isSubtype_exc hC ?_; rw [hcB]) | wp_step)
    exact hq
theorem px_store {Q : Unit → Shared → Prop} (X : (kK P).In h) (hx : h.get? x = some o) (hc : o.cls = .ref 45) (hnc : ∀ c, o.data ≠ .cls c) (hdn : o.dict = none) (hx45 : x ≠ 45)
    (hq : ∀ h' tk', h'.get? x = some { o with dict := some h.objs.size } → h'.Ns1 h.objs.size (fun y => if y = "told" then some v else none) → (∀ b ob, b ≠ x → h.get? b = some ob → h'.get? b = some ob) → Q () ⟨h', g, d, tk', os⟩) :
    wpAny (model prog w) A (setAttr (.ref x) "told" v) Q E ⟨h, g, d, t, os⟩ := by
  have SF := store_Exception
  have f3 := SF.slot.bind (.ref x)
  unfold setAttr callSpecial? specialOf
  repeat (any_goals (first | assumption | (with_reducible refine wpAny_loadPart_at hx ?_; rw [hc]) | (with_reducible refine px_lookup X (r := none) (by kernel_rfl) (px_none2 X (by kernel_rfl)) SF.slot.lookup ?_) | wp_step))
  refine codeAny_call_builtin SF.slot.plain SF.entry (px_check_sa X hx hc (px_store_entry X hx hc hnc hdn hx45 fun h' tk' a b c => ?_))
  repeat (any_goals (first | assumption | wp_step))
  exact hq h' tk' a b c
/-- `x.told` -/
theorem px_load_entry {tk : Tok} {Q : Fin → Shared → Prop} (X : (kK P).In h) (hx : h.get? x = some o) (hc : o.cls = .ref 45) (hnc : ∀ c, o.data ≠ .cls c) (hdx : o.dict = some dx) (hns : h.Ns dx mA) (hv : mA "told" = some v) (hq : Q (.done (.ret v)) ⟨h, g, d, t, os⟩) :
    wpAny (model prog w) A (Builtin.«object.__getattribute__» ⟨[.ref x, .str "told" tk], []⟩) Q E ⟨h, g, d, t, os⟩ := by
  have hC := px_C X
  unfold Builtin.«object.__getattribute__»
  repeat (first | (with_reducible refine wpAny_loadPart_at hx ?_; rw [hc]) | (with_reducible refine px_lookup X (r := none) (by kernel_rfl) (px_none2 X (by kernel_rfl)) px_lk_told ?_) | wp_step)
  split
  · rename_i c hcd
    exact absurd hcd (hnc c)
  unfold instanceDict
  repeat (first | (with_reducible refine wpAny_loadPart_at hx ?_; rw [hc]) | with_reducible refine wpAny_loadPart_at hC ?_ | wp_step)
  rw [hdx]
  repeat (first | (with_reducible refine wpAny_nsGet hns ?_; rw [hv]) | wp_step)
  exact hq
theorem px_check_ga {M : Model} {nameV : Value} {Q : Unit → Shared → Prop} (X : (kK P).In h) (hx : h.get? x = some o) (hc : o.cls = .ref 45) (hq : Q () ⟨h, g, d, t, os⟩) :
    wpAny M A (checkBuiltinCall "BaseException.__getattribute__" ⟨[.ref x, nameV], []⟩) Q E ⟨h, g, d, t, os⟩ := by
  have hC := px_C X
  have hk : builtinKind "BaseException.__getattribute__" = some .slot := by decide +kernel
  have hsplit : splitId "BaseException.__getattribute__" = some ("BaseException", "__getattribute__") := by decide +kernel
  have hcB : (Value.ref 45 :: .ref 32 :: bmE).contains (.type "BaseException") = true := by decide
  have ha := F.args_bexc_ga (.ref x) nameV
  simp only [checkBuiltinCall, hk, hsplit]
  refine wpAny_bind ?_
  · unfold isInstance
    repeat (first | (with_reducible refine wpAny_loadPart_at hx ?_; rw [hc]) | (with_reducible refine wpAny_isSubtype_exc hC ?_; rw [hcB]) | wp_step)
    exact hq
theorem px_load {expr : Bool} {Q : Value → Shared → Prop} (X : (kK P).In h) (hx : h.get? x = some o) (hc : o.cls = .ref 45) (hnc : ∀ c, o.data ≠ .cls c) (hdx : o.dict = some dx) (hns : h.Ns dx mA) (hv : mA "told" = some v) (hh : handedOut v = pure v) (hq : Q v ⟨h, g, d, t + 1, os⟩) :
    wpAny (model prog w) A (getAttr (.ref x) "told" expr) Q E ⟨h, g, d, t, os⟩ := by
  have f3 := px_ga.bind (.ref x)
  have hx0 : (expr && onTheHeap (Value.builtin "BaseException.__getattribute__")) = false := by cases expr <;> rfl
  have hx2 : (Value.builtin "BaseException.__getattribute__" == Value.builtin "object.__getattribute__") = false := by decide +kernel
  have hx1 : (onTheHeap (Value.ref 45) && Value.builtin "BaseException.__getattribute__" == Value.builtin "object.__getattribute__") = false := by rw [hx2]; rfl
  unfold getAttr
  repeat (any_goals (first | assumption | (with_reducible refine wpAny_loadPart_at hx ?_; rw [hc]) | (with_reducible refine px_lookup X (r := none) (by kernel_rfl) (px_none2 X (by kernel_rfl)) px_ga.lookup ?_) | (with_reducible refine px_lookup X (r := none) (by kernel_rfl) (px_none2 X (by kernel_rfl)) px_lk_getattr ?_) | wp_step))
  refine codeAny_call_builtin px_ga.plain F.entry_bexc_ga (px_check_ga X hx hc (px_load_entry X hx hc hnc hdx hns hv ?_))
  repeat (any_goals (first | assumption | wp_step))
end
end Mine
end
section
open PySem PySem.W PyProof.Rows PySem.Calls
set_option Elab.async false
set_option linter.unusedVariables false
set_option maxRecDepth 100000
namespace Mine
/-! PsError(v): made, raised -/
structure Thrown (h h' : Heap) (e D : Addr) (v : Value) : Prop where
  keeps : ∀ b o, h.get? b = some o → h'.get? b = some o
  newE : h.get? e = none
  newD : h.get? D = none
  ne : e ≠ D
  obj : ∃ t, h'.get? e = some { cls := .ref 45, dict := some D, data := .fields #[.ref t, .none, .none, .none, .bool false, .none] }
  dct : h'.Ns1 D (fun y => if y = "told" then some v else none)
section
variable {prog : Program} {w : World} {A : Around} {E : Value → Shared → Prop} {h : Heap} {g : Array GenState} {d : Drawn} {t : Nat} {os : OsState} {P : Params} {v : Value}
theorem px_initGo {name qual : Str} {params : Arguments} {body : List Stmt} {scope : Scope} {dV kV doc pm cdv ct oc : Value} {an od : Option Addr} {osl : Array (Option Value)} {p1 p2 p3 p4 : Pos}
    (ho : (kK P).lookup 29 = some ⟨oc, od, .func (fnOf name qual params body scope dV kV doc pm an cdv ct), osl⟩) (hcd : codeIn (kK P) cdv qual = true)
    {e ta : Addr} (hb : BindsTo ⟨h, g, d, t, os⟩ (fnOf name qual params body scope dV kV doc pm an cdv ct) ⟨[.ref e, v], []⟩ [("self", .ref e), ("told", v)])
    (hbody : body = [.Assign [.Attribute (.Name "self" p1) "told" p2] (.Name "told" p3) p4]) (hsc : scope.names = [(("self" : Str), NameKind.local), (("told" : Str), NameKind.local)]) (hk : scope.kind = .function) (hco : scope.isCoroutine = false) (hgen : scope.isGenerator = false)
    (X : (kK P).In h) (hlim : h.NoLimit) (hroom : A.depth < recursionLimit) (he : h.get? e = some { cls := .ref 45, data := .fields #[.ref ta, .none, .none, .none, .bool false, .none] }) {Q : Value → Shared → Prop}
    (hq : ∀ h' D tk', (∀ b o, b ≠ e → h.get? b = some o → h'.get? b = some o) → h.get? D = none → e ≠ D → h'.get? e = some { cls := .ref 45, dict := some D, data := .fields #[.ref ta, .none, .none, .none, .bool false, .none] } →
      h'.Ns1 D (fun y => if y = "told" then some v else none) → Q .none ⟨h', g, d, tk', os⟩) :
    wpAny (model prog w) A (call (.ref 29) [.ref e, v]) Q E ⟨h, g, d, t, os⟩ := by
  refine wpAny_call (codeAny_call_def (fd := fnOf name qual params body scope dV kV doc pm an cdv ct) (body := body) (binds := [("self", .ref e), ("told", v)]) hroom (X _ _ ho) rfl hlim (codeRec_of X hcd) rfl hb ?_ ?_ (fun h₀ hns hkp => ?_) hco hgen hk)
  · intro x hx
    rw [show (fnOf name qual params body scope dV kV doc pm an cdv ct).scope.names = _ from hsc] at hx
    rcases List.mem_cons.mp hx with rfl | hx
    · intro q; cases q
    · rcases List.mem_cons.mp hx with rfl | hx
      · intro q; cases q
      · cases hx
  · intro y hy
    rw [show (fnOf name qual params body scope dV kV doc pm an cdv ct).scope.names = _ from hsc]
    rcases List.mem_cons.mp hy with rfl | hy
    · rfl
    · rcases List.mem_cons.mp hy with rfl | hy
      · rfl
      · cases hy
  subst hbody
  have X₀ : (kK P).In h₀ := X.keeps hkp
  have kd : ∀ x, (callEnv (fnOf name qual params [.Assign [.Attribute (.Name "self" p1) "told" p2] (.Name "told" p3) p4] scope dV kV doc pm an cdv ct) h.objs.size 29).kindOf x = scope.names.lookup x := fun _ => rfl
  refine wpAny_execs_cons (plainObj_wpAny_Assign_Attribute ?_ rfl)
  refine wpAny_Name (wpAny_loadName_local (v := v) hk (by rw [kd, hsc]; rfl) hns (by rfl) ?_) (by decide)
  refine wpAny_Name (wpAny_loadName_local (v := .ref e) hk (by rw [kd, hsc]; rfl) hns (by rfl) ?_) (by decide)
  refine px_store X₀ (hkp _ _ he) rfl (fun c q => by cases q) rfl (fun q => ?_) fun h' tk' a b c => ?_
  · subst q; rw [px_C X] at he; cases he
  · refine wpAny_execs_nil ?_
    have hlt : h₀.objs.size ≠ e := Nat.ne_of_gt (Heap.lt_size (hkp _ _ he))
    refine hq h' h₀.objs.size _ (fun b' o hbe hb => c b' o hbe (hkp _ _ hb)) ?_ (Ne.symm hlt) a b
    cases q : h.get? h₀.objs.size with
    | none => rfl
    | some o => exact absurd (Heap.lt_size (hkp _ _ q)) (Nat.lt_irrefl _)
theorem px_initCall {e ta : Addr} (X : (kK P).In h) (hlim : h.NoLimit) (hroom : A.depth < recursionLimit) (he : h.get? e = some { cls := .ref 45, data := .fields #[.ref ta, .none, .none, .none, .bool false, .none] }) {Q : Value → Shared → Prop}
    (hq : ∀ h' D tk', (∀ b o, b ≠ e → h.get? b = some o → h'.get? b = some o) → h.get? D = none → e ≠ D → h'.get? e = some { cls := .ref 45, dict := some D, data := .fields #[.ref ta, .none, .none, .none, .bool false, .none] } →
      h'.Ns1 D (fun y => if y = "told" then some v else none) → Q .none ⟨h', g, d, tk', os⟩) :
    wpAny (model prog w) A (call (.ref 29) [.ref e, v]) Q E ⟨h, g, d, t, os⟩ := by
  refine' px_initGo (P := P) ?ho ?hcd ?hb ?hbody ?hsc ?hk ?hco ?hgen X hlim hroom he hq
  case ho => exact rfl
  case hcd => kernel_rfl
  case hb => exact BindsTo.of_defaults (T := 22) rfl (X 22 _ rfl) rfl rfl rfl
  case hbody => exact rfl
  case hsc => exact rfl
  case hk => exact rfl
  case hco => exact rfl
  case hgen => exact rfl
/-- the whole call -/
theorem px_made (X : (kK P).In h) (hlim : h.NoLimit) (hroom : (A.under (.builtin "type.__call__" ⟨[.ref 45, v], []⟩)).depth < recursionLimit) {Q : Value → Shared → Prop} (hq : ∀ h' e D tk', Thrown h h' e D v → Q (.ref e) ⟨h', g, d, tk', os⟩) :
    wpAny (model prog w) A (call (.ref 45) [v]) Q E ⟨h, g, d, t, os⟩ :=
  px_call X fun h' e hm => by
    obtain ⟨ta, ht, htn, _⟩ := hm.there
    refine px_initCall (X.keeps hm.keeps) (hlim.keeps hm.keeps) hroom ht fun h₂ D tk' a b c e1 e2 => ⟨rfl, hq h₂ e D tk' ⟨fun b' o hb => a b' o (fun q => by rw [q, hm.new] at hb; cases hb) (hm.keeps _ _ hb), hm.new, ?_, c, ⟨ta, e1⟩, e2⟩⟩
    cases q : h.get? D with
    | none => rfl
    | some o => rw [hm.keeps _ _ q] at b; cases b
end
/-- raise x -/
theorem px_raise {M : Model} {A : Around} {E : Value → Shared → Prop} {s : Shared} {env : Env} {P : Params} {x : Expr} {pos : Pos} {Q : Flow → Shared → Prop} (hh : A.handled = none)
    (h : wpAny M A (eval x env) (fun v s₁ => (kK P).In s₁.heap ∧ ∃ e o, v = .ref e ∧ s₁.heap.get? e = some o ∧ o.cls = .ref 45 ∧ (∃ t, o.data = .fields #[.ref t, .none, .none, .none, .bool false, .none]) ∧ E (.ref e) s₁) E s) :
    wpAny M A (exec (.Raise (some x) none pos) env) Q E s := by
  rw [arm_exec_Raise]
  refine wpAny_bind (wpAny_standAt ?_)
  have hcB : (Value.ref 45 :: .ref 32 :: bmE).contains (.type "BaseException") = true := by decide
  simp only [evalOpt, Option.map]
  unfold raiseStmt
  refine wpAny_bind (wpAny_bind (wpAny_mono h (fun v s₁ h₁ => wpAny_bind (wpAny_standAt (wpAny_pure ?_))) fun _ _ x => x))
  obtain ⟨X, e, o, rfl, he, hc, ⟨tt, hd⟩, hE⟩ := h₁
  obtain ⟨hp, g, d, tk, os⟩ := s₁
  have hC := px_C X
  obtain ⟨oc, od, odt, osl⟩ := o
  obtain rfl : oc = .ref 45 := hc
  obtain rfl : odt = .fields #[.ref tt, .none, .none, .none, .bool false, .none] := hd
  repeat (first | with_reducible refine wpAny_loadPart_at he ?_ | with_reducible refine wpAny_loadPart_at hC ?_ | (with_reducible refine wpAny_isSubtype_exc hC ?_; rw [hcB]) | wp_step)
  exact wpAny_raiseNew_none hh hE
end Mine
end
section
open PySem PySem.W PyProof.Rows PySem.Calls
set_option Elab.async false
set_option linter.unusedVariables false
set_option maxRecDepth 100000
namespace Mine
/-- an exception that came out of a call, seen from the caller's frame -/
structure ThrB {sc : Scope} (C : Ctx (.fn sc)) (ρ : Rho) (η : Hp) (e D : Addr) (v : Value) (B : Heap) (m : Str → Option Value) (news : Led) (h : Heap) : Prop where
  up : C.h₀.UpToSlots h
  ns : h.Ns C.L m
  above : C.h₀.objs.size ≤ C.L
  keep : ∀ b o, C.h₀.get? b = some o → b ∉ C.outer.filterMap (·.frame) → B.get? b = some o
  nm : C.Nm ρ m
  led : LedOf η news
  nodup : (η.map (·.1) ++ C.hid.map (·.1)).Nodup
  news : ∀ q ∈ C.all news, B.get? q.1 = some q.2 ∧ q.1 ≠ C.L ∧ C.h₀.get? q.1 = none ∧ q.1 ≠ D
  dct : B.Ns1 D (fun y => if y = "told" then some v else none)
  dL : D ≠ C.L
  d0 : C.h₀.get? D = none
  e0 : C.h₀.get? e = none
theorem ThrB.step {sc : Scope} {C : Ctx (.fn sc)} {ρ : Rho} {η : Hp} {e D : Addr} {v : Value} {B : Heap} {m : Str → Option Value} {news : Led} {h h' : Heap} (T : ThrB C ρ η e D v B m news h) (u : h.UpToSlots h') : ThrB C ρ η e D v B m news h' :=
  { T with up := T.up.trans u, ns := u.ns T.ns }
def Thr {sc : Scope} (C : Ctx (.fn sc)) (ρ : Rho) (η : Hp) (e D : Addr) (v : Value) (h : Heap) : Prop := ∃ B m news, FlyX B (C.fenv :: C.outer) e (.ref 45) (some D) .none h ∧ ThrB C ρ η e D v B m news h
/-- these statements raise PsError(p) -/
def RX {sc : Scope} (C : Ctx (.fn sc)) (η₀ : Hp) (ρ : Rho) (η : Hp) (ss : List Stmt) (p : PV) : Prop :=
  C.Ok → ∀ (s : Shared) (Q : Flow → Shared → Prop) (Er : Value → Shared → Prop), St C ρ η s.heap → (∀ v ρ' h₁ h₂ e D tk, Is p v → St C ρ' η₀ h₁ → Thrown h₁ h₂ e D v → Er (.ref e) (Sh s h₂ tk)) → wpAny C.M C.A (execs ss C.env) Q Er s
def FnX (f : Addr) (k : Nat) (ps : List PV) (η : Hp) (p : PV) : Prop :=
  ∀ (sc : Scope) (C : Ctx (.fn sc)), k ≤ C.k → C.Ok → ∀ (ρ : Rho) (s : Shared) (vs : List Value) (Q : Value → Shared → Prop) (Er : Value → Shared → Prop), AreV ps vs → St C ρ η s.heap →
    (∀ v e D h' tk', Is p v → Thr C ρ η e D v h' → Er (.ref e) (Sh s h' tk')) → wpAny C.M C.A (call (.ref f) vs) Q Er s
theorem exec_of_execs {M : Model} {A : Around} {st : Stmt} {env : Env} {Q : Flow → Shared → Prop} {E : Value → Shared → Prop} {s : Shared} (h : wpAny M A (execs [st] env) Q E s) : wpAny M A (exec st env) Q E s := by
  have e : execs [st] env = exec st env := by
    rw [execs_cons]
    conv => rhs; rw [← bind_pure (exec st env)]
    congr 1
    funext f
    cases f <;> rfl
  rw [← e]; exact h
section
variable {sc : Scope} {C : Ctx (.fn sc)} {ρ : Rho} {η η₀ : Hp} {ss : List Stmt} {p : PV}
theorem RX.pre {s1 : Stmt} (h : R C ρ η [s1] fun ρ' η' f => f = .next ∧ RX C η₀ ρ' η' ss p) : RX C η₀ ρ η (s1 :: ss) p := fun ok s Q Er st q =>
  wpAny_execs_cons (exec_of_execs (h ok s _ Er st fun f fl ρ' η' h' tk' ⟨e1, w⟩ i st' => by
    subst e1
    obtain rfl : fl = .next := i
    exact w ok _ _ Er st' q))
theorem RX.ift {test : Expr} {body orelse : List Stmt} {pos : Pos} (h : T C ρ η test fun b η' => b = true ∧ η' = η) (hb : RX C η₀ ρ η body p) : RX C η₀ ρ η (.If test body orelse pos :: ss) p := fun ok s Q Er st q =>
  wpAny_execs_cons (wpAny_If (h ok s _ Er st fun b η' h' tk' ⟨e1, e2⟩ st' => by
    subst e1 e2
    exact hb ok _ _ Er st' q))
theorem RX.raise {ea : Expr} {np cpos pos : Pos} (hg : isGlob (.fn sc) "PsError" = true) (hv : V C ρ η ea p) (hn : notStar ea = true) (hk : 2 ≤ C.k) (hsub : List.Sublist η₀ η) :
    RX C η₀ ρ η (.Raise (some (.Call (.Name "PsError" np) [ea] [] cpos)) none pos :: ss) p := fun ok s Q Er st q => by
  refine wpAny_execs_cons (px_raise (P := C.w.params) rfl (Call_ ((V.gl (p := .ref 45) (v := .ref 45) (by kernel_rfl) rfl hg) ok s _ _ st fun pf vf η1 h1 tk1 ⟨e1, e2⟩ i st1 => ?_)))
  subst e1 e2
  obtain rfl : vf = .ref 45 := i
  refine callWith_K (h₀ := C.h₀) (K := kK C.w.params) ok.X (by kernel_rfl) ((Vs.cons hv hn Vs.nil).up (Ξ := fun ps η2 => ps = [p] ∧ η2 = η1) ⟨rfl, rfl⟩ ok _ _ _ _ st1 fun ps vs η2 h2 tk2 w is st2 => ?_) (star_plain hn) rfl
  obtain ⟨e1, e2⟩ := w
  subst e1 e2
  cases is with
  | @cons _ v _ _ ip is =>
    cases is
    have st3 := st2
    obtain ⟨m, news, F, N, hm, hl, hnn⟩ := st3
    have X := ok.X.keeps F.keep
    have hd := ok.hd
    refine ⟨X, px_made (P := C.w.params) X (ok.T.nolimit.keeps F.keep) ?_ fun h' e D tk' T => ?_⟩
    · show C.dp + 1 < _
      omega
    · obtain ⟨t, ho⟩ := T.obj
      exact ⟨X.keeps T.keeps, e, _, rfl, ho, rfl, ⟨t, rfl⟩, q v ρ h2 h' e D tk' ip (st2.sub hsub) T⟩
end
section
variable {f : Addr} {k : Nat} {ps : List PV} {η : Hp} {p : PV} {name qual : Str} {params : Arguments} {body : List Stmt} {scope : Scope} {dV kV doc pm cdv ct oc : Value} {an od : Option Addr} {osl : Array (Option Value)}
/-- a def whose statements raise -/
theorem FnX.enter (names : List Str) (ρ₀ : Rho) (hρ : (names.zip ps).reverse = ρ₀) (ho : ∀ P, List.lookup f (kK P) = some ⟨oc, od, .func (fnOf name qual params body scope dV kV doc pm an cdv ct), osl⟩) (hcd : ∀ P, codeIn (kK P) cdv qual = true)
    (hb : ∀ s vs, AreV ps vs → BindsTo s (fnOf name qual params body scope dV kV doc pm an cdv ct) ⟨vs, []⟩ (names.zip vs))
    (hl : ∀ x ∈ names, scope.names.lookup x = some .local) (hcell : ∀ x ∈ scope.names, x.2 ≠ .cell)
    (hco : scope.isCoroutine = false) (hgen : scope.isGenerator = false) (hk : scope.kind = .function) (k1 : 1 ≤ k)
    (h : ∀ C : Ctx (.fn scope), k ≤ C.k + 1 → RX C η ρ₀ η body p) : FnX f k ps η p := fun sc C hkC ok ρ s vs Q Er iv st q => by
  subst hρ
  have hr := ok.hd
  have hu := ok.hu
  obtain ⟨m, news, F, N, hm, hld, hn⟩ := st
  refine wpAny_call (code_def ok.B F ok.X N ok.T rfl rfl ok.hk (ho _) (hcd _) (by show C.dp < _; omega) (hb s vs iv) (fun y hy => hl _ (List.of_mem_zip hy).1) (fun g L' h₁ FG F' N' B' X' T' => ?_) hco hgen hk hcell)
  refine h ⟨C.w, C.mean, C.mg, C.mb, C.dp + 1, C.un + 3, C.k - 1, C.gd, qual, f, cdv, [], C.fenv :: C.outer, C.A, C.base, g, L', C.hid, 0, [], fun _ => none, fun _ => none⟩ (by show k ≤ C.k - 1 + 1; omega)
    ⟨B', X', T', hk, by show C.dp + 1 + (C.k - 1) < _; omega, by show C.un + 3 + 8 * (C.k - 1) + 70 < _; omega, trivial⟩ _ _ _
    ⟨_, news, F', N', ⟨trivial, (Binds.zip iv).rev.look⟩, hld, hn⟩ (fun v ρ' h₂ h₃ e D tk iV st' T => ?_)
  obtain ⟨m₂, news₂, F₂, N₂, hm₂, hl₂, hn₂⟩ := st'
  obtain ⟨t, hobj⟩ := T.obj
  show wpAny _ _ (leaving (envOf qual scope L' f cdv) (.ref e)) _ _ _
  have K' := B'.push (name := qual) (scope := scope) (a := f) (cd := cdv) F₂ hk
  have hin : ∀ env ∈ (envOf qual scope L' f cdv :: C.fenv :: C.outer), ∀ b, env.frame = some b → b ∈ e :: (envOf qual scope L' f cdv :: C.fenv :: C.outer).filterMap (·.frame) := fun env he b hb => .tail _ (List.mem_filterMap.mpr ⟨env, he, hb⟩)
  have ff : h₃.FunFrames C.base (envOf qual scope L' f cdv :: C.fenv :: C.outer) := K'.frames.of_keeps fun b o hb _ => ⟨o, T.keeps b o hb, rfl⟩
  have nL : C.h₀.get? C.L = none := kts_self F
  have nL' : g.get? L' = none := kts_self F₂
  have gL : ∃ o, g.get? C.L = some o := let ⟨o, _, _, ho, _⟩ := FG.ns; ⟨o, ho⟩
  have fr : ∀ b, b ∈ (envOf qual scope L' f cdv :: C.fenv :: C.outer).filterMap (·.frame) → b = L' ∨ b = C.L ∨ b ∈ C.outer.filterMap (·.frame) := fun b hb => by
    rcases kts_mem hb with z | z
    · exact .inl z
    · rw [List.filterMap_cons] at z
      rcases List.mem_cons.mp z with z | z
      · exact .inr (.inl z)
      · exact .inr (.inr z)
  have fg : ∀ b, b ∈ (C.fenv :: C.outer).filterMap (·.frame) → ∃ o, g.get? b = some o := fun b hb => let ⟨_, o, ho, _⟩ := B'.frames.mem hb; ⟨o, ho⟩
  have h2L' : ∃ o, h₂.get? L' = some o := let ⟨o, _, _, ho, _⟩ := F₂.ns; ⟨o, ho⟩
  have fh : ∀ b, b ∈ (envOf qual scope L' f cdv :: C.fenv :: C.outer).filterMap (·.frame) → ∃ o, h₂.get? b = some o := fun b hb => by
    rcases kts_mem hb with z | z
    · rw [z]; exact h2L'
    · obtain ⟨o, ho⟩ := fg b z
      exact ⟨o, F₂.keep _ _ ho⟩
  refine fly_leave (B := hideAll h₃ (e :: (envOf qual scope L' f cdv :: C.fenv :: C.outer).filterMap (·.frame))) (L := L') rfl (funFrames_hide ff hin) rfl hobj (fun b o q => of_hideAll _ q) (hideAll_none _ (.head _)) rfl rfl ⟨rfl, rfl⟩ fun h' x u => ?_
  have up3 : C.h₀.UpToSlots h₃ := .of_keeps fun b o hb => T.keeps _ _ (F₂.keep _ _ (FG.keep _ _ hb))
  have nonew : ∀ b o, h₂.get? b = some o → b ∉ (envOf qual scope L' f cdv :: C.fenv :: C.outer).filterMap (·.frame) → (hideAll h₃ (e :: (envOf qual scope L' f cdv :: C.fenv :: C.outer).filterMap (·.frame))).get? b = some o := fun b o hb hnf =>
    hideAll_get _ (T.keeps _ _ hb) fun hm' => by
      rcases List.mem_cons.mp hm' with z | z
      · rw [z, T.newE] at hb; cases hb
      · exact hnf z
  have none2 : ∀ b, h₂.get? b = none → C.h₀.get? b = none := fun b hb => kts_none (fun b o e => F₂.keep b o (FG.keep b o e)) hb
  refine q v e D h' _ iV ⟨_, m, news₂, x, {
    up := up3.trans u
    ns := u.ns ((Heap.UpToSlots.of_keeps fun b o hb => T.keeps _ _ (F₂.keep _ _ hb)).ns FG.ns)
    above := F.above
    keep := fun b o hb hnf => nonew b o (F₂.keep _ _ (FG.keep _ _ hb)) fun hm' => by
      rcases fr b hm' with z | z | z
      · rw [z] at hb
        have := FG.keep _ _ hb
        rw [nL'] at this; cases this
      · rw [z, nL] at hb; cases hb
      · exact hnf z
    nm := hm
    led := hl₂
    nodup := hn₂
    news := fun q hq => ?_
    dct := T.dct.at fun o ho => hideAll_get _ ho fun hm' => ?_
    dL := fun z => ?_
    d0 := none2 D T.newD
    e0 := none2 e T.newE }⟩
  · obtain ⟨n1, n2, n3⟩ := N₂ q hq
    refine ⟨nonew _ _ n1 fun hm' => ?_, fun z => ?_, kts_none FG.keep n3, fun z => ?_⟩
    · rcases kts_mem hm' with z | z
      · exact n2 z
      · obtain ⟨o, ho⟩ := fg _ z
        rw [n3] at ho; cases ho
    · obtain ⟨o, ho⟩ := gL
      rw [← z, n3] at ho; cases ho
    · rw [z, T.newD] at n1; cases n1
  · rcases List.mem_cons.mp hm' with z | z
    · exact T.ne z.symm
    · obtain ⟨o, ho⟩ := fh _ z
      rw [T.newD] at ho; cases ho
  · obtain ⟨o, ho⟩ := gL
    have := F₂.keep _ _ ho
    rw [← z, T.newD] at this; cases this
end
end Mine
end
section
open PySem PySem.W PyProof.Rows PySem.Calls
set_option Elab.async false
set_option linter.unusedVariables false
set_option maxRecDepth 100000
namespace Mine
/-! expressions reckoned while an exception is handled: they leave the heap as it stands -/
def VX {sc : Shape} (C : Ctx sc) (A : Around) (ρ : Rho) (η : Hp) (e : Expr) (p : PV) : Prop :=
  C.Ok → ∀ (s : Shared) (Q : Value → Shared → Prop) (Er : Value → Shared → Prop), St C ρ η s.heap → (∀ v tk', Is p v → Q v (Sh s s.heap tk')) → wpAny C.M A (eval e C.env) Q Er s
section
variable {sc : Shape} {C : Ctx sc} {A : Around} {ρ : Rho} {η : Hp} {e e1 e2 : Expr} {p p1 p2 : PV} {pos cp : Pos} {x : Str} {ck : Nat} {b1 b2 : Bool}
theorem VX.lo (h : look1 sc ρ x = some p) : VX C A ρ η (.Name x pos) p := fun ok s Q Er st q => by
  unfold look1 at h
  split at h
  · rename_i h1 h2
    obtain ⟨m, news, F, N, hm, hl, hn⟩ := st
    obtain ⟨v, a, i⟩ := hm.2 x p h
    exact wpAny_Name (wpAny_loadName_local (kind_env ok) (kindOf_env.trans h2) (ns_env ok F N) a (q v s.toks i)) h1
  · cases h
theorem VX.int {n : Int} : VX C A ρ η (.Constant (.int n) ck pos) (.int n) := fun ok s Q Er st q => wpAny_Constant_int (q _ _ ⟨_, rfl⟩)
theorem VX.byc {l : List UInt8} : VX C A ρ η (.Constant (.bytes l) ck pos) (.byt l.toArray) := fun ok s Q Er st q => Constant_bytes (q _ _ ⟨_, rfl⟩)
theorem VX.item {a : Addr} {xs : List PV} {n : Int} {i : Nat} (h1 : VX C A ρ η e (.ref a)) (hm : (a, HO.tup xs) ∈ η) (hn : n = (i : Int)) (hi : Nat.ble i 1000 = true) (hx : xs[i]? = some p) : VX C A ρ η (.Subscript e (.Constant (.int n) ck cp) pos) p := fun ok s Q Er st q => by
  subst hn
  refine Subscript_ (h1 ok s _ Er st fun v tk i1 => ?_)
  obtain rfl : v = .ref a := i1
  refine wpAny_Constant_int ?_
  have := Nat.le_of_ble_eq_true hi
  obtain ⟨m, news, F, N, hmm, hl, hnn⟩ := st
  obtain ⟨o, ho, vs, rfl, is⟩ := hl.get hm
  obtain ⟨v, hv, ip⟩ := is.get hx
  have hlt : i < vs.length := by
    rcases Nat.lt_or_ge i vs.length with h | h
    · exact h
    · rw [List.getElem?_eq_none h] at hv; cases hv
  refine item_tupleT (j := i) (l := vs) ⟨_, (N _ (List.mem_append_left _ ho)).1, rfl, _, rfl⟩ (by omega) (by omega) ?_ hv (q v _ ip) (Subscr.of rfl a _ _)
  unfold seqIndex?
  have h1 : ¬ (i : Int) < 0 := by omega
  simp [h1, hlt]
theorem VX.cmp {op : CmpOp} {c : Bool} (h1 : VX C A ρ η e1 p1) (h2 : VX C A ρ η e2 p2) (hb : Cmp op p1 p2 c) (hm : behindInMarks op e2 = false) : VX C A ρ η (.Compare e1 [op] [e2] pos) (.bool c) := fun ok s Q Er st q =>
  wpAny_Compare1 (h1 ok s _ Er st fun v1 _ i1 => h2 ok _ _ Er st fun v2 _ i2 => hb _ _ Er _ v1 v2 _ i1 i2 fun tk' => q (.bool c) tk' rfl) hm
theorem VX.bone {op : BoolOp} (h : VX C A ρ η e p) : VX C A ρ η (.BoolOp op [e] pos) p := fun ok s Q Er st q => BoolOp_one (h ok s Q Er st q)
theorem VX.band {es : List Expr} (h1 : VX C A ρ η e1 (.bool b1)) (h2 : b1 = true → VX C A ρ η (.BoolOp .And (e2 :: es) pos) (.bool b2)) : VX C A ρ η (.BoolOp .And (e1 :: e2 :: es) pos) (.bool (b1 && b2)) := fun ok s Q Er st q =>
  BoolOp_and (h1 ok s _ Er st fun v _ i => by
    obtain rfl : v = .bool b1 := i
    refine wpAny_truthy_bool ?_
    cases b1 with
    | true => exact h2 rfl ok _ _ Er st q
    | false => exact q _ _ rfl)
theorem VX.bor {es : List Expr} (h1 : VX C A ρ η e1 (.bool b1)) (h2 : b1 = false → VX C A ρ η (.BoolOp .Or (e2 :: es) pos) (.bool b2)) : VX C A ρ η (.BoolOp .Or (e1 :: e2 :: es) pos) (.bool (b1 || b2)) := fun ok s Q Er st q =>
  BoolOp_or (h1 ok s _ Er st fun v _ i => by
    obtain rfl : v = .bool b1 := i
    refine wpAny_truthy_bool ?_
    cases b1 with
    | true => exact q _ _ rfl
    | false => exact h2 rfl ok _ _ Er st q)
/-- `fault.told` -/
theorem VX.told {ex D : Addr} {oe oD : Obj} {np : Pos} {v : Value} (h1 : VX C A ρ η (.Name x np) (.ref ex)) (he : (ex, oe) ∈ C.hid) (hD : (D, oD) ∈ C.hid) (hc : oe.cls = .ref 45) (hf : ∃ vs, oe.data = .fields vs) (hd : oe.dict = some D)
    (hn : ∃ es ep, oD.data = .dict es ep ∧ StrKeys es ∧ ∀ y, nsFind es y = (if y = "told" then some v else none)) (hv : handedOut v = pure v) (i : Is p v) : VX C A ρ η (.Attribute (.Name x np) "told" pos) p := fun ok s Q Er st q =>
  Attribute_name (h1 ok s _ Er st fun u tk i1 => by
    obtain rfl : u = .ref ex := i1
    obtain ⟨m, news, F, N, hmm, hl, hnn⟩ := st
    obtain ⟨es, ep, hd1, hd2, hd3⟩ := hn
    obtain ⟨vs, hf⟩ := hf
    have e1 := (N _ (List.mem_append_right _ he)).1
    have e2 := (N _ (List.mem_append_right _ hD)).1
    exact px_load (P := C.w.params) (mA := fun y => if y = "told" then some v else none) (ok.X.keeps F.keep) e1 hc (fun c q => by rw [hf] at q; cases q) hd ⟨oD, es, ep, e2, hd1, hd2, hd3⟩ (if_pos rfl) hv (q v _ i))
end
/-- the frame after an exception came in: its ground with the slots of the outer frames turned -/
abbrev Ctx.to {sc : Scope} (C : Ctx (.fn sc)) (g : Heap) (hid : Led) : Ctx (.fn sc) := { C with h₀ := g, hid := hid }
abbrev Ctx.fs {sc : Scope} (C : Ctx (.fn sc)) : List Addr := C.outer.filterMap (·.frame)
section
variable {sc : Scope} {C : Ctx (.fn sc)} {ρ : Rho} {η : Hp} {e D : Addr} {v : Value}
theorem ThrB.base {B : Heap} {m : Str → Option Value} {news : Led} {h : Heap} {fl : Value} (ok : C.Ok) (x : FlyX B (C.fenv :: C.outer) e (.ref 45) (some D) fl h) (T : ThrB C ρ η e D v B m news h) : ∀ b o, C.base.get? b = some o → h.get? b = some o := fun b o hb =>
  x.1 _ _ (T.keep _ _ (ok.B.stays _ _ hb) fun hm => by rw [(ok.B.frames.mem hm).1] at hb; cases hb)
theorem ThrB.turn {B : Heap} {m : Str → Option Value} {news : Led} {h : Heap} {fl : Value} (ok : C.Ok) (XB : (kK C.w.params).In C.base) (TB : TopIs C.mean C.mg C.mb C.base) (x : FlyX B (C.fenv :: C.outer) e (.ref 45) (some D) fl h) (T : ThrB C ρ η e D v B m news h) :
    ∃ g oe oD, KtsTurn C.fs C.h₀ g ∧ (C.to g ((e, oe) :: (D, oD) :: C.hid)).Ok ∧ St (C.to g ((e, oe) :: (D, oD) :: C.hid)) ρ η h ∧ oe.cls = .ref 45 ∧ (∃ vs, oe.data = .fields vs) ∧ oe.dict = some D ∧ (∃ es ep, oD.data = .dict es ep ∧ StrKeys es ∧ ∀ y, nsFind es y = (if y = "told" then some v else none)) := by
  obtain ⟨Tn, S⟩ := kts_turn_at (h := h) (fs := C.fs) (g := C.h₀)
    (fun b hb => let ⟨_, o, ho, _⟩ := ok.B.frames.mem hb; ⟨o, ho⟩)
    (fun b o ho hnf => x.1 _ _ (T.keep b o ho hnf))
    (fun b o ho hm => by
      obtain ⟨_, o', ho', hd⟩ := ok.B.frames.mem hm
      rw [ho] at ho'; cases ho'
      exact T.up b o ho hd)
  obtain ⟨oe, vs, he, hc, hdct, hd⟩ := x.obj
  obtain ⟨oD, es, ep, hD, hDd, hk, hu, hf⟩ := T.dct
  have stays : C.base.StaysIn (ktsHeap h C.fs C.h₀) := fun b o hb => Tn.other b o (ok.B.stays _ _ hb) fun hm => by rw [(ok.B.frames.mem hm).1] at hb; cases hb
  have eL : e ≠ C.L := fun z => by
    obtain ⟨o, es', ep', ho, hd', _⟩ := T.ns
    rw [← z, he] at ho; cases ho
    rw [hd] at hd'; cases hd'
  refine ⟨_, oe, oD, Tn, ⟨⟨ok.B.stack, stays, ok.B.frames.of_keeps fun b o hb _ => let ⟨sl, hs⟩ := Tn.up hb; ⟨_, hs, rfl⟩⟩, XB.keeps stays, TB.keeps stays, ok.hk, ok.hd, ok.hu, trivial⟩,
    ⟨m, news, ⟨T.ns, S, by rw [Tn.size]; exact T.above⟩, fun q hq => ?_, T.nm, T.led, ?_⟩, hc, ⟨vs, hd⟩, hdct, es, ep, hDd, hk, hf⟩
  · have old : q ∈ C.all news → h.get? q.1 = some q.2 ∧ q.1 ≠ C.L ∧ (ktsHeap h C.fs C.h₀).get? q.1 = none := fun hq => let ⟨a, b, c, _⟩ := T.news q hq; ⟨x.1 _ _ a, b, Tn.none_ _ c⟩
    rcases List.mem_append.mp hq with hq | hq
    · exact old (List.mem_append_left _ hq)
    · rcases List.mem_cons.mp hq with rfl | hq
      · exact ⟨he, eL, Tn.none_ _ T.e0⟩
      · rcases List.mem_cons.mp hq with rfl | hq
        · exact ⟨x.1 _ _ hD, T.dL, Tn.none_ _ T.d0⟩
        · exact old (List.mem_append_right _ hq)
  · have P : (η.map (·.1) ++ ((e, oe) :: (D, oD) :: C.hid).map (·.1)).Perm (e :: D :: (η.map (·.1) ++ C.hid.map (·.1))) := List.perm_middle.trans (.cons _ List.perm_middle)
    have key : ∀ b, b ∈ η.map (·.1) ++ C.hid.map (·.1) → ∃ q ∈ C.all news, q.1 = b := fun b hb => by
      rw [← T.led.keys, ← List.map_append] at hb
      obtain ⟨q, hq, z⟩ := List.mem_map.mp hb
      exact ⟨q, hq, z⟩
    refine P.nodup_iff.mpr (List.nodup_cons.mpr ⟨fun hm => ?_, List.nodup_cons.mpr ⟨fun hm => ?_, T.nodup⟩⟩)
    · rcases List.mem_cons.mp hm with z | hm
      · rw [← z, x.2.1] at hD; cases hD
      · obtain ⟨q, hq, z⟩ := key _ hm
        have := (T.news q hq).1
        rw [z, x.2.1] at this; cases this
    · obtain ⟨q, hq, z⟩ := key _ hm
      exact (T.news q hq).2.2.2 z
/-- the exception is caught and bound -/
theorem catch_as (ok : C.Ok) (XB : (kK C.w.params).In C.base) (TB : TopIs C.mean C.mg C.mb C.base) {s : Shared} {n : Str} {np pos : Pos} {b₀ : Stmt} {suite : List Stmt} {rest : List ExceptHandler} {Q : Flow → Shared → Prop} {Er : Value → Shared → Prop} (T : Thr C ρ η e D v s.heap) (hg : isGlob (.fn sc) "PsError" = true)
    (hn : sc.names.lookup n = some .local)
    (k : ∀ g oe oD h' tk Er', KtsTurn C.fs C.h₀ g → (C.to g ((e, oe) :: (D, oD) :: C.hid)).Ok → St (C.to g ((e, oe) :: (D, oD) :: C.hid)) ((n, .ref e) :: ρ) η h' → oe.cls = .ref 45 → (∃ vs, oe.data = .fields vs) → oe.dict = some D → (∃ es ep, oD.data = .dict es ep ∧ StrKeys es ∧ ∀ y, nsFind es y = (if y = "told" then some v else none)) →
      wpAny C.M (C.A.mark (some (.ref e))) (execs (b₀ :: suite) C.env) (fun f s₄ => wpAny C.M C.A (do bindName C.env n .none; unbindBehindTheSuite C.env n pos) (fun _ s₅ => Q f s₅) Er s₄) Er' (Sh s h' tk)) :
    wpAny C.M C.A (noteFrame (.ref e) C.env) (fun _ s₂ => wpAny C.M C.A (setFlight (.ref e) none) (fun _ s₃ => wpAny C.M C.A (handleBy (.ref e) C.env (.ExceptHandler (some (.Name "PsError" np)) (some n) (b₀ :: suite) pos :: rest)) Q Er s₃) Er s₂) Er s := by
  obtain ⟨B, m, news, x, T⟩ := T
  refine fly_next (L := C.L) rfl rfl x fun h₁ x₁ u₁ => ?_
  refine fly_free x₁ fun h₂ x₂ u₂ => ?_
  have T₂ := T.step (u₁.trans u₂)
  have st₂ := T₂.base ok x₂
  have X₂ : (kK C.w.params).In h₂ := XB.keeps st₂
  have TT₂ : TopIs C.mean C.mg C.mb h₂ := TB.keeps st₂
  obtain ⟨oe, vs, he, hc, hdct, hd⟩ := x₂.obj
  have hg' : (.fn sc : Shape).names.lookup ("PsError" : Str) = some .globalImplicit := by
    unfold isGlob at hg
    split at hg
    · rename_i q1 q2; exact q2
    · cases hg
  refine wpAny_handleBy_cons (codeAny_handlers_test (Name_function_global ok.hk hg' (loadGlobal_global (v := .ref 45) (mg := C.mg) TT₂.g (mg_of X₂ TT₂.g (by kernel_rfl)) ?_))) (by intro q; cases q)
  refine wpAny_excMatches_sub_self (px_C X₂) he hc (by decide) (codeAny_handlers_suite_as ?_)
  refine fly_free x₂ fun h₃ x₃ u₃ => ?_
  have T₃ := T₂.step u₃
  obtain ⟨g, oe, oD, Tn, ok', st', f1, f2, f3, f4⟩ := T₃.turn ok XB TB x₃
  obtain ⟨m', news', F', N', hm', hl', hn'⟩ := st'
  refine storeX_L F' N' (fun h₄ F₄ N₄ => ?_) ok.hk hn
  refine k g oe oD h₄ _ _ Tn ok' ⟨_, news', F₄, N₄, ⟨trivial, fun y p' ey => ?_⟩, hl', hn'⟩ f1 f2 f3 f4
  rw [List.lookup_cons] at ey
  by_cases hy : y = n
  · subst hy
    simp at ey
    exact ⟨.ref e, if_pos rfl, ey ▸ rfl⟩
  · rw [show (y == n) = false from beq_eq_false_iff_ne.mpr hy] at ey
    obtain ⟨v', a, b⟩ := hm'.2 y p' ey
    exact ⟨v', (if_neg hy).trans a, b⟩
end
end Mine
end
section
open PySem PySem.W PyProof.Rows PySem.Calls
set_option Elab.async false
set_option linter.unusedVariables false
set_option maxRecDepth 100000
namespace Mine
/-! statements that may catch an exception: they return, and the ground's frames may have turned -/
def RT {sc : Scope} (C : Ctx (.fn sc)) (ρ : Rho) (η : Hp) (ss : List Stmt) (Φ : PV → Hp → Prop) : Prop :=
  C.Ok → (kK C.w.params).In C.base → TopIs C.mean C.mg C.mb C.base → ∀ (s : Shared) (Q : Flow → Shared → Prop) (Er : Value → Shared → Prop), St C ρ η s.heap →
    (∀ p v g ρ' η' h' tk', Φ p η' → Is p v → KtsTurn C.fs C.h₀ g → St (C.to g C.hid) ρ' η' h' → Q (.ret v) (Sh s h' tk')) → wpAny C.M C.A (execs ss C.env) Q Er s
section
variable {sc : Scope} {C : Ctx (.fn sc)} {ρ : Rho} {η : Hp} {ss : List Stmt} {p : PV} {Φ : PV → Hp → Prop}
theorem RT.pre {s1 : Stmt} (h : R C ρ η [s1] fun ρ' η' f => f = .next ∧ RT C ρ' η' ss Φ) : RT C ρ η (s1 :: ss) Φ := fun ok XB TB s Q Er st q =>
  wpAny_execs_cons (exec_of_execs (h ok s _ Er st fun f fl ρ' η' h' tk' ⟨e1, w⟩ i st' => by
    subst e1
    obtain rfl : fl = .next := i
    exact w ok XB TB _ _ Er st' q))
theorem RT.ofR (h : R C ρ η ss fun _ η' f => ∃ p, f = .ret p ∧ Φ p η') : RT C ρ η ss Φ := fun ok XB TB s Q Er st q =>
  h ok s Q Er st fun f fl ρ' η' h' tk' ⟨p, e1, w⟩ i st' => by
    subst e1
    obtain ⟨v, rfl, i⟩ := i
    exact q p v C.h₀ ρ' η' h' tk' w i .refl st'
/-- the body gives back normally -/
theorem RT.tryN {body : List Stmt} {h₀ : ExceptHandler} {hs : List ExceptHandler} {pos : Pos} (h : R C ρ η body fun ρ' η' f => f = .next ∧ RT C ρ' η' ss Φ) : RT C ρ η (.Try body (h₀ :: hs) [] [] pos :: ss) Φ := fun ok XB TB s Q Er st q =>
  wpAny_execs_cons (wpAny_Try_except (h ok s _ _ st fun f fl ρ' η' h' tk' ⟨e1, w⟩ i st' => by
    subst e1
    obtain rfl : fl = .next := i
    exact wpAny_execs_nil (w ok XB TB _ _ Er st' q)))
/-- the call in its body raises, and it is caught -/
theorem RT.tryX {x n : Str} {f : Addr} {k : Nat} {fn : Str} {xpos npos cpos apos np rpos pos hpos : Pos} {e0 er : Expr} {es : List Expr} {ps : List PV} {v₀ : Array UInt8} {b : Bool} {rest : List ExceptHandler}
    (hf : IsFn fn f) (hgf : isGlob (.fn sc) fn = true) (hk : k ≤ C.k) (hv : Vs C ρ η (e0 :: es) ps) (hX : FnX f k ps η (.byt v₀))
    (hg : isGlob (.fn sc) "PsError" = true) (hn : sc.names.lookup n = some .local)
    (hs : swapsWith (.Call (.Name fn xpos) (e0 :: es) [] cpos) (some (Expr.Name x npos)) apos.line C.env = pure false)
    (hr : ∀ (g : Heap) (hid : Led) (A : Around) (e D : Addr) (oe oD : Obj) (t : Tok), (e, oe) ∈ hid → (D, oD) ∈ hid → oe.cls = .ref 45 → (∃ vs, oe.data = .fields vs) → oe.dict = some D → (∃ es ep, oD.data = .dict es ep ∧ StrKeys es ∧ ∀ y, nsFind es y = (if y = "told" then some (.bytes v₀ t) else none)) →
      VX (C.to g hid) A ((n, .ref e) :: ρ) η er (.bool b))
    (K : Φ (.bool b) η) : RT C ρ η (.Try [.Assign [.Name x npos] (.Call (.Name fn xpos) (e0 :: es) [] cpos) apos] (.ExceptHandler (some (.Name "PsError" np)) (some n) [.Return (some er) rpos] hpos :: rest) [] [] pos :: ss) Φ := fun ok XB TB s Q Er st q => by
  refine wpAny_execs_cons (wpAny_Try_except (wpAny_execs_cons (wpAny_Assign_Name ?_ hs)))
  have go : ∀ (Q' : Value → Shared → Prop) (Er' : Value → Shared → Prop), (∀ v e D h' tk', Is (.byt v₀) v → Thr C ρ η e D v h' → Er' (.ref e) (Sh s h' tk')) → wpAny C.M C.A (eval (.Call (.Name fn xpos) (e0 :: es) [] cpos) C.env) Q' Er' s := fun Q' Er' q' => by
    cases hv with
    | cons h1 h2 h3 =>
      refine Call_ ((V.fn hf hgf) ok s _ Er' st fun pf vf η1 h1' tk1 ⟨e1, e2⟩ i st1 => ?_)
      subst e1 e2
      obtain rfl : vf = .ref f := i
      refine callWith_K (h₀ := C.h₀) ok.X (hf.k _) (((Vs.cons h1 h2 h3).up (Ξ := fun ps' η2 => ps' = _ ∧ η2 = η1) ⟨rfl, rfl⟩) ok _ _ _ Er' st1 fun ps' vs η2 h2' tk2 w is st2 => ?_) (star_plain h2) (any_plain h3)
      obtain ⟨e1, e2⟩ := w
      subst e1 e2
      refine ⟨let ⟨_, _, F, _⟩ := st2; ok.X.keeps F.keep, ?_⟩
      exact hX sc C hk ok ρ _ vs _ Er' is st2 fun v e D h' tk' i T => q' v e D h' tk' i T
  refine go _ _ fun v e D h' tk' i T => ?_
  obtain ⟨t, rfl⟩ := i
  refine catch_as ok XB TB T hg hn fun g oe oD h₁ tk Er' Tn ok' st' f1 f2 f3 f4 => ?_
  refine wpAny_execs_cons (wpAny_Return_some ((hr g _ _ e D oe oD t (.head _) (.tail _ (.head _)) f1 f2 f3 f4) ok' _ _ Er' st' fun v tk' iv => ?_))
  obtain rfl : v = .bool b := iv
  obtain ⟨m, news, F, N, hm, hl, hnn⟩ := st'
  refine wpAny_nameGoes (m := m) hn F.ns (by show (sc.kind == .class || (sc.kind == .module && C.L != mainGlobals)) = false; rw [ok.hk]; rfl) fun h₂ m₂ hn₂ hs₂ => ?_
  have N₂ := N.set hs₂
  refine q (.bool b) (.bool b) g [] η h₂ _ K rfl Tn ⟨m₂, news, F.set hn₂ hs₂, fun q hq => N₂ q ?_, ⟨trivial, fun _ _ z => nomatch z⟩, hl, ?_⟩
  · rcases List.mem_append.mp hq with hq | hq
    · exact List.mem_append_left _ hq
    · exact List.mem_append_right _ (.tail _ (.tail _ hq))
  · exact hnn.sublist ((List.Sublist.refl _).append (.cons _ (.cons _ (.refl _))))
end
/-! a def that may catch an exception, called from the outermost frame -/
def FnT (f : Addr) (k : Nat) (ps : List PV) (η : Hp) (Φ : PV → Hp → Prop) : Prop :=
  ∀ (sc : Scope) (C : Ctx (.fn sc)), k ≤ C.k → C.Ok → C.outer = [] → (kK C.w.params).In C.base → TopIs C.mean C.mg C.mb C.base → ∀ (ρ : Rho) (s : Shared) (vs : List Value) (Q : Value → Shared → Prop) (Er : Value → Shared → Prop), AreV ps vs → St C ρ η s.heap →
    (∀ p v η' h' tk', Φ p η' → Is p v → St C ρ η' h' → Q v (Sh s h' tk')) → wpAny C.M C.A (call (.ref f) vs) Q Er s
section
variable {prog : Program} {w : World} {A₀ A : Around} {s : Shared} {base h₀ : Heap} {env : Env} {outer : List Env} {L f : Addr} {m : Str → Option Value} {news : Led} {R : Result → Shared → Prop} {name qual : Str} {params : Arguments} {body : List Stmt} {scope : Scope} {dV kV doc pm cdv ct : Value} {an : Option Addr} {fo : Obj} {args : Args} {binds : List (Str × Value)}
theorem callT (B : Below A₀ base outer h₀) (F : Fr h₀ L s.heap m) (N : News h₀ L s.heap news) (hlim : h₀.NoLimit) (hA : A.frames = some (env :: outer)) (hf : env.frame = some L) (hke : env.scope.kind = .function)
    (ho : s.heap.get? f = some fo) (hd : fo.data = .func (fnX name qual params body scope [] dV kV doc pm an cdv ct)) (hcd : s.heap.CodeRec cdv qual) (hroom : A.depth < recursionLimit)
    (hbind : BindsTo s (fnX name qual params body scope [] dV kV doc pm an cdv ct) args binds) (hkind : (binds.all fun y => scope.names.lookup y.1 == some .local || scope.names.lookup y.1 == some .cell) = true)
    (hnd : ((cellsFrom 0 scope.names []).map (·.1)).Nodup) (hco : scope.isCoroutine = false) (hgen : scope.isGenerator = false) (hk : scope.kind = .function)
    (h : ∀ g L' h₁ tk cells, Fr h₀ L g m → Fr g L' h₁ (bindL (envOfC qual scope L' f cdv).kindOf binds fun _ => none) → News g L' h₁ (cells ++ news) →
      CellsAre (bindC (envOfC qual scope L' f cdv).kindOf binds fun _ => none) (cellsFrom (L' + 1) scope.names []) cells → Below A base (env :: outer) g → h₀.StaysIn g → (∀ p ∈ news, p.1 < L') →
      wpAny (model prog w) (A.deeper (envOfC qual scope L' f cdv)) (execs body (envOfC qual scope L' f cdv)) (fun fl s' => R (.ok (.ret (match fl with | .ret v => v | _ => .none))) s')
        (fun e s' => wpAny (model prog w) (A.deeper (envOfC qual scope L' f cdv)) (leaving (envOfC qual scope L' f cdv) e) (fun _ s'' => R (.error e) s'') (fun e' s'' => R (.error e') s'') s') { s with heap := h₁, toks := tk }) :
    codeAny (model prog w) A (.call (.ref f) args) R s := by
  have hkind := kindsX hkind
  obtain ⟨FG, BG, st, _⟩ := groundX (R := R) B F N hA hf hke
  refine codeAny_call_function hroom ho hd hco hgen rfl hcd (hbind _ _ _ _ (wpAny_newFunctionEnv_cells hk (hkind _) fun env' he s' x => ?_))
  subst he
  have keep := x.toInCall.keep
  have ns := x.toInCall.ns
  have hc := x.cell
  have ha := x.above
  obtain ⟨h₁, tk, rfl, _⟩ := x.done
  refine ⟨(hlim.keeps F.keep).keeps keep, codeAny_func ?_⟩
  obtain ⟨cells, NC, Y⟩ := Cl.news (h₀ := s.heap) (Nat.le_refl _) fun n c hm => ⟨hc n c (lookup_of_mem_nodup (cellsFrom_names scope.names 0 (s.heap.objs.size + 1) [] [] rfl ▸ hnd) hm), ha n c hm⟩
  refine h _ s.heap.objs.size h₁ tk cells FG ⟨ns, fun b o e => keep b o (of_hideAll _ e), Nat.le_of_eq (hideAll_size _ _)⟩ (fun p hp => ?_) Y BG st fun p hp => Heap.lt_size (N p hp).1
  rcases List.mem_append.mp hp with hp | hp
  · refine ⟨(NC p hp).1, (NC p hp).2.1, ?_⟩
    cases q : (hideAll s.heap (news.map (·.1))).get? p.1 with
    | none => rfl
    | some o => have := of_hideAll _ q; rw [(NC p hp).2.2] at this; cases this
  · exact ⟨keep _ _ (N p hp).1, Nat.ne_of_lt (Heap.lt_size (N p hp).1), hideAll_none _ (List.mem_map_of_mem hp)⟩
end
section
variable {f : Addr} {k : Nat} {ps ps' : List PV} {η : Hp} {Φ : PV → Hp → Prop} {name qual : Str} {params : Arguments} {body : List Stmt} {scope : Scope} {dV kV doc pm cdv ct oc : Value} {an od : Option Addr} {osl : Array (Option Value)}
theorem FnT.enter (names : List Str) (ρ₀ : Rho) (hρ : locs scope (names.zip ps) = ρ₀) (ho : ∀ P, List.lookup f (kK P) = some ⟨oc, od, .func (fnOf name qual params body scope dV kV doc pm an cdv ct), osl⟩) (hcd : ∀ P, codeIn (kK P) cdv qual = true)
    (hb : ∀ s vs, AreV ps vs → BindsTo s (fnOf name qual params body scope dV kV doc pm an cdv ct) ⟨vs, []⟩ (names.zip vs))
    (hn : names.Nodup) (hl : ∀ x ∈ names, (scope.names.lookup x == some .local || scope.names.lookup x == some .cell) = true) (hcs : ∀ y ∈ cellsFrom 0 scope.names [], scope.names.lookup y.1 ≠ some .local) (hnd : ((cellsFrom 0 scope.names []).map (·.1)).Nodup)
    (hco : scope.isCoroutine = false) (hgen : scope.isGenerator = false) (hk : scope.kind = .function) (k1 : 1 ≤ k)
    (h : ∀ C : Ctx (.fn scope), k ≤ C.k + 1 → C.cl = cellsFrom (C.L + 1) scope.names [] → RT C ρ₀ (cellsH (names.zip ps) C.cl ++ η) body (fun p η' => ∃ η'', List.Sublist η'' η' ∧ Φ p η'')) : FnT f k ps η Φ := fun sc C hkC ok hout XB TB ρ s vs Q Er iv st q => by
  subst hρ
  have hr := ok.hd
  have hu := ok.hu
  obtain ⟨m, news, F, N, hm, hld, hnn⟩ := st
  refine wpAny_call (callT ok.B F N ok.T.nolimit rfl rfl ok.hk ((ok.X.keeps F.keep) _ _ (ho _)) rfl (codeRec_of (ok.X.keeps F.keep) (hcd _)) (by show C.dp < _; omega) (hb s vs iv) (List.all_eq_true.mpr fun y hy => hl _ (List.of_mem_zip hy).1) hnd hco hgen hk (fun g L' h₁ tk cells FG F' N' Y B' stg low => ?_))
  have hkd : ∀ x, (envOfC qual scope L' f cdv).kindOf x = scope.names.lookup x := fun _ => rfl
  have names_eq : ∀ (a b : Nat) (l : List (Str × NameKind)) (u v : List (Str × Addr)), u.map (·.1) = v.map (·.1) → (cellsFrom a l u).map (·.1) = (cellsFrom b l v).map (·.1) := by
    intro a b l
    induction l generalizing a b with
    | nil => intro u v e; exact e
    | cons y r ih =>
      intro u v e
      obtain ⟨x, kd⟩ := y
      unfold cellsFrom
      split
      · exact ih _ _ _ _ (by rw [List.map_cons, List.map_cons, e])
      · exact ih _ _ _ _ e
  have hcs' : ∀ y ∈ cellsFrom (L' + 1) scope.names [], (envOfC qual scope L' f cdv).kindOf y.1 ≠ some .local := fun y hy => by
    have z : y.1 ∈ (cellsFrom (L' + 1) scope.names []).map (·.1) := List.mem_map_of_mem (f := Prod.fst) hy
    rw [names_eq (L' + 1) 0 _ _ [] rfl] at z
    obtain ⟨w, hw, e⟩ := List.mem_map.mp z
    rw [hkd, ← e]
    exact hcs w hw
  have CL := cells_led iv hn hcs' Y
  have cf := cf_facts scope.names (L' + 1) [] (fun _ h => nomatch h) .nil
  have hkeys : (cellsH (names.zip ps) (cellsFrom (L' + 1) scope.names [])).map (·.1) = (cellsFrom (L' + 1) scope.names []).map (·.2) := by
    unfold cellsH; rw [List.map_map]; rfl
  have hnd2 : ((cellsH (names.zip ps) (cellsFrom (L' + 1) scope.names []) ++ η).map (·.1) ++ C.hid.map (·.1)).Nodup := by
    rw [List.map_append, List.append_assoc, hkeys]
    refine List.nodup_append.mpr ⟨cf.1, hnn, fun u hu v hv e => ?_⟩
    subst e
    obtain ⟨y, hy, e⟩ := List.mem_map.mp hu
    have hy2 : L' + 1 ≤ y.2 := (cf.2 y hy).resolve_left fun h => nomatch h
    have hv' : u ∈ (C.all news).map (·.1) := by
      rw [Ctx.all, List.map_append, hld.keys]; exact hv
    obtain ⟨q, hq, e2⟩ := List.mem_map.mp hv'
    have hq2 := low q hq
    rw [e2, ← e] at hq2
    exact Nat.lt_irrefl _ (Nat.lt_trans hq2 hy2)
  refine h ⟨C.w, C.mean, C.mg, C.mb, C.dp + 1, C.un + 3, C.k - 1, C.gd, qual, f, cdv, cellsFrom (L' + 1) scope.names [], C.fenv :: C.outer, C.A, C.base, g, L', C.hid, 0, [], fun _ => none, fun _ => none⟩ (by show k ≤ C.k - 1 + 1; omega) rfl
    ⟨B', ok.X.keeps stg, ok.T.keeps stg, hk, by show C.dp + 1 + (C.k - 1) < _; omega, by show C.un + 3 + 8 * (C.k - 1) + 70 < _; omega, trivial⟩ XB TB _ _ _
    ⟨_, cells ++ news, F', fun z hz => N' z (by rw [Ctx.all, ← List.append_assoc]; exact hz), ⟨trivial, fun x p e => ?_⟩, CL.app hld, hnd2⟩ (fun p v g' ρ' η' h' tk' w i Tn st' => ?_)
  · have z := locs_get e
    rcases bindL_get (K := (envOfC qual scope L' f cdv).kindOf) (by rw [hkd]; exact z.1) iv names (fun _ => none) hn with ⟨e1, _⟩ | ⟨p', v, e1, e2, e3⟩
    · rw [z.2] at e1; cases e1
    · rw [z.2] at e1; cases e1
      exact ⟨v, e2, e3⟩
  · obtain ⟨η'', hs, w⟩ := w
    obtain ⟨m', news', F2, N2, hm2, hl2, hn2⟩ := st'.sub hs
    have hfs : ∀ b, b ∈ (C.fenv :: C.outer).filterMap (·.frame) → b = C.L := fun b hb => by
      rw [hout] at hb
      rcases List.mem_cons.mp hb with z | z
      · exact z
      · cases z
    have nL : C.h₀.get? C.L = none := kts_self F
    have Tn' : KtsTurn ((C.fenv :: C.outer).filterMap (·.frame)) g g' := Tn
    obtain ⟨oL, es, ep, hLg, hLd, hL1, hL2⟩ := FG.ns
    obtain ⟨sl, hsl⟩ := Tn'.up hLg
    refine q p v η'' h' tk' w i ⟨m, news', ⟨⟨_, es, ep, F2.keep _ _ hsl, hLd, hL1, hL2⟩, fun b o e => F2.keep _ _ (Tn'.other _ _ (FG.keep _ _ e) fun hb => by rw [hfs _ hb, nL] at e; cases e), F.above⟩, fun y hy => ?_, hm, hl2, hn2⟩
    obtain ⟨n1, n2, n3⟩ := N2 y hy
    refine ⟨n1, fun z => ?_, ?_⟩
    · rw [z] at n3
      have n3' : g'.get? C.L = none := n3
      rw [hsl] at n3'; cases n3'
    · cases z : C.h₀.get? y.1 with
      | none => rfl
      | some o =>
        obtain ⟨sl', hs'⟩ := Tn'.up (stg _ _ z)
        have n3' : g'.get? y.1 = none := n3
        rw [hs'] at n3'; cases n3'
end
end Mine
end
section
open PySem PySem.W PyProof.Rows PySem.Calls
set_option Elab.async false
set_option linter.unusedVariables false
set_option maxRecDepth 100000
set_option maxHeartbeats 4000000
namespace Mine
theorem warm_F18 : PySem.Challenge.rw_pb0513_01.Holds → kK = kK := by
  k_fill
  intro _; rfl
section
variable {η : Hp} {sa ta : Addr} {s0 s1 s2 s3 t0 t1 t2 t3 : Int}
def undef : Array UInt8 := #[117, 110, 100, 101, 102, 105, 110, 101, 100, 114, 101, 115, 117, 108, 116]
abbrev btw (s0 s1 s2 s3 t0 t1 t2 t3 : Int) : List Int := [rnd ((t2 - t0) * 1000000) (s2 - s0), 0, 0, rnd ((t3 - t1) * 1000000) (s3 - s1), t0 - rnd (s0 * rnd ((t2 - t0) * 1000000) (s2 - s0)) 1000000, t1 - rnd (s1 * rnd ((t3 - t1) * 1000000) (s3 - s1)) 1000000]
theorem f_between (hs : (sa, HO.tup (intL [s0, s1, s2, s3])) ∈ η) (ht : (ta, HO.tup (intL [t0, t1, t2, t3])) ∈ η) (b_s0 : bits s0 ≤ 40) (b_s1 : bits s1 ≤ 40) (b_s2 : bits s2 ≤ 40) (b_s3 : bits s3 ≤ 40) (b_t0 : bits t0 ≤ 40) (b_t1 : bits t1 ≤ 40) (b_t2 : bits t2 ≤ 40) (b_t3 : bits t3 ≤ 40) (hw : s2 - s0 ≠ 0) (hh : s3 - s1 ≠ 0) :
    MkL 198 3 [.ref sa, .ref ta] η (intL (btw s0 s1 s2 s3 t0 t1 t2 t3)) := by
  have b_w : bits (s2 - s0) ≤ 41 := PyProof.Rows.bits_sub b_s2 b_s0
  have b_h : bits (s3 - s1) ≤ 41 := PyProof.Rows.bits_sub b_s3 b_s1
  refine' Fn.enter2 "source" "target" (fun P => ?ho) (fun P => ?hcd) (fun s v1 v2 => ?hb) ?he ?h
  case ho => exact rfl
  case hcd => kernel_rfl
  case hb => exact BindsTo.of_eq rfl
  case he => rfl
  intro C hC
  refine' R.tupS ["wide", "tall"] (E.tup (Vs.up (ps := [.int (s2 - s0), .int (s3 - s1)]) ?vs1 ⟨Nat.le_of_ble_eq_true rfl, fun l => ⟨_, _, rfl, .head _, rfl, _, _, .cons (Sto.loc rfl) (.cons (Sto.loc rfl) .nil), R.drop ?k1⟩⟩)) rfl rfl
  case vs1 => (with_reducible repeat' first
    | exact V.int
    | (refine' V.lo ?a9; (case a9 => with_unfolding_all exact rfl))
    | (refine' V.grain ?g9; (case g9 => with_unfolding_all exact rfl)) | (refine' V.lone ?g9; (case g9 => with_unfolding_all exact rfl))
    | refine' V.bin ?_ ?_ ?_
    | refine' V.una ?_ ?_
    | (refine' V.cmp ?_ ?_ ?_ ?d9; (case d9 => with_unfolding_all exact rfl))
    | (refine' W.cmp ?_ ?_ ?_ ?d9; (case d9 => with_unfolding_all exact rfl))
    | refine' V.iti ?_ ?_ ?_
    | (refine' V.abs (g_abs _) ?g9 ?_ ?n9; (case g9 => with_unfolding_all exact rfl); (case n9 => with_unfolding_all exact rfl))
    | refine' V.itc ?_ ?_ ?_
    | exact V.boolc | exact V.nonec | refine' V.bone ?_ | (refine' V.band ?_ (fun _ => ?_)) | (refine' V.bor ?_ (fun _ => ?_)) | (refine' V.not ?_)
    | (refine' W.not ?_) | exact W.and0 | exact W.or0 | (refine' W.and ?_ (fun _ => ?_)) | (refine' W.or ?_ (fun _ => ?_))
    | (refine' W.of ?_ ?d9; (case d9 => with_unfolding_all exact rfl))
    | exact Vs.nil | (refine' Vs.cons ?_ ?n9 ?_; (case n9 => with_unfolding_all exact rfl))
    | exact Bin.add | exact Bin.sub | (refine' Bin.mul (mulB ?m9 ?n9 ?o9); (case m9 => (with_reducible repeat' first | exact b_s0 | exact b_s1 | exact b_s2 | exact b_s3 | exact b_t0 | exact b_t1 | exact b_t2 | exact b_t3 | exact b_w | exact b_h | refine' PyProof.Rows.bits_mul ?_ ?_ | refine' PyProof.Rows.bits_add ?_ ?_ | refine' PyProof.Rows.bits_sub ?_ ?_ | refine' PyProof.Rows.bits_neg ?_ | refine' PyProof.Rows.bits_ite ?_ ?_ | refine' bits_rnd ?_ | refine' PyProof.Rows.bits_fdiv ?_ | refine' PyProof.Rows.bits_fmod ?_ ?_ | exact Nat.le_refl _)); (case n9 => (with_reducible repeat' first | exact b_s0 | exact b_s1 | exact b_s2 | exact b_s3 | exact b_t0 | exact b_t1 | exact b_t2 | exact b_t3 | exact b_w | exact b_h | refine' PyProof.Rows.bits_mul ?_ ?_ | refine' PyProof.Rows.bits_add ?_ ?_ | refine' PyProof.Rows.bits_sub ?_ ?_ | refine' PyProof.Rows.bits_neg ?_ | refine' PyProof.Rows.bits_ite ?_ ?_ | refine' bits_rnd ?_ | refine' PyProof.Rows.bits_fdiv ?_ | refine' PyProof.Rows.bits_fmod ?_ ?_ | exact Nat.le_refl _)); (case o9 => with_unfolding_all exact rfl)) | (refine' Bin.mod ?m9; (case m9 => first | decide | exact h0 | omega)) | (refine' Bin.fdiv ?m9 (noPyB ?n9 ?o9); (case m9 => first | decide | omega); (case n9 => (with_reducible repeat' first | exact b_s0 | exact b_s1 | exact b_s2 | exact b_s3 | exact b_t0 | exact b_t1 | exact b_t2 | exact b_t3 | exact b_w | exact b_h | refine' PyProof.Rows.bits_mul ?_ ?_ | refine' PyProof.Rows.bits_add ?_ ?_ | refine' PyProof.Rows.bits_sub ?_ ?_ | refine' PyProof.Rows.bits_neg ?_ | refine' PyProof.Rows.bits_ite ?_ ?_ | refine' bits_rnd ?_ | refine' PyProof.Rows.bits_fdiv ?_ | refine' PyProof.Rows.bits_fmod ?_ ?_ | exact Nat.le_refl _)); (case o9 => with_unfolding_all exact rfl)) | exact Una.neg
    | exact Cmp.lt | exact Cmp.le | exact Cmp.gt | exact Cmp.ge | exact Cmp.eq | exact Cmp.ne | exact Cmp.eqB
    | exact ItemOf.lst hm | (with_unfolding_all exact ItemOf.lst (.head _)) | (with_unfolding_all exact ItemOf.lst (.tail _ (.head _))) | exact ItemOf.tup hm | (with_unfolding_all exact ItemOf.tup (.head _))
    | exact Nat.le_trans (Nat.le_of_ble_eq_true rfl) hC | ((show _ ≠ _); first | exact h0 | decide | omega)
        | (refine' Nat.le_trans ?m9 (Nat.le_of_ble_eq_true ?o9); (case m9 => (with_reducible repeat' first | exact b_s0 | exact b_s1 | exact b_s2 | exact b_s3 | exact b_t0 | exact b_t1 | exact b_t2 | exact b_t3 | exact b_w | exact b_h | refine' PyProof.Rows.bits_mul ?_ ?_ | refine' PyProof.Rows.bits_add ?_ ?_ | refine' PyProof.Rows.bits_sub ?_ ?_ | refine' PyProof.Rows.bits_neg ?_ | refine' PyProof.Rows.bits_ite ?_ ?_ | refine' bits_rnd ?_ | refine' PyProof.Rows.bits_fdiv ?_ | refine' PyProof.Rows.bits_fmod ?_ ?_ | exact Nat.le_refl _)); (case o9 => with_unfolding_all exact rfl))
    | (refine' V.call i_divided ?g9 ?_ ?_ (f_divided _ _ _ ?_ ?_ ?_); (case g9 => with_unfolding_all exact rfl))
    | exact ItemOf.tup hs | exact ItemOf.tup ht
    | (with_unfolding_all exact rfl))
  refine' R.ifn (W.up (b := (s2 - s0 == 0) || ((s3 - s1 == 0) || false)) ?w2 ⟨?e2, ?k2⟩)
  case w2 => (with_reducible repeat' first
    | exact V.int
    | (refine' V.lo ?a9; (case a9 => with_unfolding_all exact rfl))
    | (refine' V.grain ?g9; (case g9 => with_unfolding_all exact rfl)) | (refine' V.lone ?g9; (case g9 => with_unfolding_all exact rfl))
    | refine' V.bin ?_ ?_ ?_
    | refine' V.una ?_ ?_
    | (refine' V.cmp ?_ ?_ ?_ ?d9; (case d9 => with_unfolding_all exact rfl))
    | (refine' W.cmp ?_ ?_ ?_ ?d9; (case d9 => with_unfolding_all exact rfl))
    | refine' V.iti ?_ ?_ ?_
    | (refine' V.abs (g_abs _) ?g9 ?_ ?n9; (case g9 => with_unfolding_all exact rfl); (case n9 => with_unfolding_all exact rfl))
    | refine' V.itc ?_ ?_ ?_
    | exact V.boolc | exact V.nonec | refine' V.bone ?_ | (refine' V.band ?_ (fun _ => ?_)) | (refine' V.bor ?_ (fun _ => ?_)) | (refine' V.not ?_)
    | (refine' W.not ?_) | exact W.and0 | exact W.or0 | (refine' W.and ?_ (fun _ => ?_)) | (refine' W.or ?_ (fun _ => ?_))
    | (refine' W.of ?_ ?d9; (case d9 => with_unfolding_all exact rfl))
    | exact Vs.nil | (refine' Vs.cons ?_ ?n9 ?_; (case n9 => with_unfolding_all exact rfl))
    | exact Bin.add | exact Bin.sub | (refine' Bin.mul (mulB ?m9 ?n9 ?o9); (case m9 => (with_reducible repeat' first | exact b_s0 | exact b_s1 | exact b_s2 | exact b_s3 | exact b_t0 | exact b_t1 | exact b_t2 | exact b_t3 | exact b_w | exact b_h | refine' PyProof.Rows.bits_mul ?_ ?_ | refine' PyProof.Rows.bits_add ?_ ?_ | refine' PyProof.Rows.bits_sub ?_ ?_ | refine' PyProof.Rows.bits_neg ?_ | refine' PyProof.Rows.bits_ite ?_ ?_ | refine' bits_rnd ?_ | refine' PyProof.Rows.bits_fdiv ?_ | refine' PyProof.Rows.bits_fmod ?_ ?_ | exact Nat.le_refl _)); (case n9 => (with_reducible repeat' first | exact b_s0 | exact b_s1 | exact b_s2 | exact b_s3 | exact b_t0 | exact b_t1 | exact b_t2 | exact b_t3 | exact b_w | exact b_h | refine' PyProof.Rows.bits_mul ?_ ?_ | refine' PyProof.Rows.bits_add ?_ ?_ | refine' PyProof.Rows.bits_sub ?_ ?_ | refine' PyProof.Rows.bits_neg ?_ | refine' PyProof.Rows.bits_ite ?_ ?_ | refine' bits_rnd ?_ | refine' PyProof.Rows.bits_fdiv ?_ | refine' PyProof.Rows.bits_fmod ?_ ?_ | exact Nat.le_refl _)); (case o9 => with_unfolding_all exact rfl)) | (refine' Bin.mod ?m9; (case m9 => first | decide | exact h0 | omega)) | (refine' Bin.fdiv ?m9 (noPyB ?n9 ?o9); (case m9 => first | decide | omega); (case n9 => (with_reducible repeat' first | exact b_s0 | exact b_s1 | exact b_s2 | exact b_s3 | exact b_t0 | exact b_t1 | exact b_t2 | exact b_t3 | exact b_w | exact b_h | refine' PyProof.Rows.bits_mul ?_ ?_ | refine' PyProof.Rows.bits_add ?_ ?_ | refine' PyProof.Rows.bits_sub ?_ ?_ | refine' PyProof.Rows.bits_neg ?_ | refine' PyProof.Rows.bits_ite ?_ ?_ | refine' bits_rnd ?_ | refine' PyProof.Rows.bits_fdiv ?_ | refine' PyProof.Rows.bits_fmod ?_ ?_ | exact Nat.le_refl _)); (case o9 => with_unfolding_all exact rfl)) | exact Una.neg
    | exact Cmp.lt | exact Cmp.le | exact Cmp.gt | exact Cmp.ge | exact Cmp.eq | exact Cmp.ne | exact Cmp.eqB
    | exact ItemOf.lst hm | (with_unfolding_all exact ItemOf.lst (.head _)) | (with_unfolding_all exact ItemOf.lst (.tail _ (.head _))) | exact ItemOf.tup hm | (with_unfolding_all exact ItemOf.tup (.head _))
    | exact Nat.le_trans (Nat.le_of_ble_eq_true rfl) hC | ((show _ ≠ _); first | exact h0 | decide | omega)
        | (refine' Nat.le_trans ?m9 (Nat.le_of_ble_eq_true ?o9); (case m9 => (with_reducible repeat' first | exact b_s0 | exact b_s1 | exact b_s2 | exact b_s3 | exact b_t0 | exact b_t1 | exact b_t2 | exact b_t3 | exact b_w | exact b_h | refine' PyProof.Rows.bits_mul ?_ ?_ | refine' PyProof.Rows.bits_add ?_ ?_ | refine' PyProof.Rows.bits_sub ?_ ?_ | refine' PyProof.Rows.bits_neg ?_ | refine' PyProof.Rows.bits_ite ?_ ?_ | refine' bits_rnd ?_ | refine' PyProof.Rows.bits_fdiv ?_ | refine' PyProof.Rows.bits_fmod ?_ ?_ | exact Nat.le_refl _)); (case o9 => with_unfolding_all exact rfl))
    | (refine' V.call i_divided ?g9 ?_ ?_ (f_divided _ _ _ ?_ ?_ ?_); (case g9 => with_unfolding_all exact rfl))
    | exact ItemOf.tup hs | exact ItemOf.tup ht
    | (with_unfolding_all exact rfl))
  case e2 => simp [hw, hh]
  refine' R.as1 (p := .int (rnd ((t2 - t0) * 1000000) (s2 - s0))) ?v3 rfl rfl ?k3
  case v3 => exact V.call (k := 2) i_matrix_quotient rfl (.cons (V.bin (V.bin (V.itc (V.lo rfl) (.tup ht) rfl) (V.itc (V.lo rfl) (.tup ht) rfl) Bin.sub) (V.grain rfl) (Bin.mul (mulB (n := 20) (PyProof.Rows.bits_sub b_t2 b_t0) (by decide) rfl))) rfl (.cons (V.lo rfl) rfl .nil)) (Nat.le_trans (by decide) hC) (f_matrix_quotient _ _ _ (Nat.le_trans (PyProof.Rows.bits_mul (PyProof.Rows.bits_sub b_t2 b_t0) (Nat.le_refl _)) (by decide)) (Nat.le_trans b_w (by decide)) hw)
  refine' R.as1 (p := .int (rnd ((t3 - t1) * 1000000) (s3 - s1))) ?v4 rfl rfl ?k4
  case v4 => exact V.call (k := 2) i_matrix_quotient rfl (.cons (V.bin (V.bin (V.itc (V.lo rfl) (.tup ht) rfl) (V.itc (V.lo rfl) (.tup ht) rfl) Bin.sub) (V.grain rfl) (Bin.mul (mulB (n := 20) (PyProof.Rows.bits_sub b_t3 b_t1) (by decide) rfl))) rfl (.cons (V.lo rfl) rfl .nil)) (Nat.le_trans (by decide) hC) (f_matrix_quotient _ _ _ (Nat.le_trans (PyProof.Rows.bits_mul (PyProof.Rows.bits_sub b_t3 b_t1) (Nat.le_refl _)) (by decide)) (Nat.le_trans b_h (by decide)) hh)
  have b_x : bits (rnd ((t2 - t0) * 1000000) (s2 - s0)) ≤ 80 := Nat.le_trans (bits_rnd (b := s2 - s0) (PyProof.Rows.bits_mul (PyProof.Rows.bits_sub b_t2 b_t0) (Nat.le_refl _))) (by decide)
  have b_y : bits (rnd ((t3 - t1) * 1000000) (s3 - s1)) ≤ 80 := Nat.le_trans (bits_rnd (b := s3 - s1) (PyProof.Rows.bits_mul (PyProof.Rows.bits_sub b_t3 b_t1) (Nat.le_refl _))) (by decide)
  unfold btw
  generalize rnd ((t2 - t0) * 1000000) (s2 - s0) = x at *
  generalize rnd ((t3 - t1) * 1000000) (s3 - s1) = y at *
  refine' R.reL (ps := [.int x, .int 0, .int 0, .int y, .int (t0 - rnd (s0 * x) 1000000), .int (t1 - rnd (s1 * y) 1000000)]) ?vs5 rfl fun l => ⟨l, rfl, rfl⟩
  case vs5 => (with_reducible repeat' first
    | exact V.int
    | (refine' V.lo ?a9; (case a9 => with_unfolding_all exact rfl))
    | (refine' V.grain ?g9; (case g9 => with_unfolding_all exact rfl)) | (refine' V.lone ?g9; (case g9 => with_unfolding_all exact rfl))
    | refine' V.bin ?_ ?_ ?_
    | refine' V.una ?_ ?_
    | (refine' V.cmp ?_ ?_ ?_ ?d9; (case d9 => with_unfolding_all exact rfl))
    | (refine' W.cmp ?_ ?_ ?_ ?d9; (case d9 => with_unfolding_all exact rfl))
    | refine' V.iti ?_ ?_ ?_
    | (refine' V.abs (g_abs _) ?g9 ?_ ?n9; (case g9 => with_unfolding_all exact rfl); (case n9 => with_unfolding_all exact rfl))
    | refine' V.itc ?_ ?_ ?_
    | exact V.boolc | exact V.nonec | refine' V.bone ?_ | (refine' V.band ?_ (fun _ => ?_)) | (refine' V.bor ?_ (fun _ => ?_)) | (refine' V.not ?_)
    | (refine' W.not ?_) | exact W.and0 | exact W.or0 | (refine' W.and ?_ (fun _ => ?_)) | (refine' W.or ?_ (fun _ => ?_))
    | (refine' W.of ?_ ?d9; (case d9 => with_unfolding_all exact rfl))
    | exact Vs.nil | (refine' Vs.cons ?_ ?n9 ?_; (case n9 => with_unfolding_all exact rfl))
    | exact Bin.add | exact Bin.sub | (refine' Bin.mul (mulB ?m9 ?n9 ?o9); (case m9 => (with_reducible repeat' first | exact b_s0 | exact b_s1 | exact b_s2 | exact b_s3 | exact b_t0 | exact b_t1 | exact b_t2 | exact b_t3 | exact b_w | exact b_h | exact b_x | exact b_y | refine' PyProof.Rows.bits_mul ?_ ?_ | refine' PyProof.Rows.bits_add ?_ ?_ | refine' PyProof.Rows.bits_sub ?_ ?_ | refine' PyProof.Rows.bits_neg ?_ | refine' PyProof.Rows.bits_ite ?_ ?_ | refine' bits_rnd ?_ | refine' PyProof.Rows.bits_fdiv ?_ | refine' PyProof.Rows.bits_fmod ?_ ?_ | exact Nat.le_refl _)); (case n9 => (with_reducible repeat' first | exact b_s0 | exact b_s1 | exact b_s2 | exact b_s3 | exact b_t0 | exact b_t1 | exact b_t2 | exact b_t3 | exact b_w | exact b_h | exact b_x | exact b_y | refine' PyProof.Rows.bits_mul ?_ ?_ | refine' PyProof.Rows.bits_add ?_ ?_ | refine' PyProof.Rows.bits_sub ?_ ?_ | refine' PyProof.Rows.bits_neg ?_ | refine' PyProof.Rows.bits_ite ?_ ?_ | refine' bits_rnd ?_ | refine' PyProof.Rows.bits_fdiv ?_ | refine' PyProof.Rows.bits_fmod ?_ ?_ | exact Nat.le_refl _)); (case o9 => with_unfolding_all exact rfl)) | (refine' Bin.mod ?m9; (case m9 => first | decide | exact h0 | omega)) | (refine' Bin.fdiv ?m9 (noPyB ?n9 ?o9); (case m9 => first | decide | omega); (case n9 => (with_reducible repeat' first | exact b_s0 | exact b_s1 | exact b_s2 | exact b_s3 | exact b_t0 | exact b_t1 | exact b_t2 | exact b_t3 | exact b_w | exact b_h | exact b_x | exact b_y | refine' PyProof.Rows.bits_mul ?_ ?_ | refine' PyProof.Rows.bits_add ?_ ?_ | refine' PyProof.Rows.bits_sub ?_ ?_ | refine' PyProof.Rows.bits_neg ?_ | refine' PyProof.Rows.bits_ite ?_ ?_ | refine' bits_rnd ?_ | refine' PyProof.Rows.bits_fdiv ?_ | refine' PyProof.Rows.bits_fmod ?_ ?_ | exact Nat.le_refl _)); (case o9 => with_unfolding_all exact rfl)) | exact Una.neg
    | exact Cmp.lt | exact Cmp.le | exact Cmp.gt | exact Cmp.ge | exact Cmp.eq | exact Cmp.ne | exact Cmp.eqB
    | exact ItemOf.lst hm | (with_unfolding_all exact ItemOf.lst (.head _)) | (with_unfolding_all exact ItemOf.lst (.tail _ (.head _))) | exact ItemOf.tup hm | (with_unfolding_all exact ItemOf.tup (.head _))
    | exact Nat.le_trans (Nat.le_of_ble_eq_true rfl) hC | ((show _ ≠ _); first | exact h0 | decide | omega)
        | (refine' Nat.le_trans ?m9 (Nat.le_of_ble_eq_true ?o9); (case m9 => (with_reducible repeat' first | exact b_s0 | exact b_s1 | exact b_s2 | exact b_s3 | exact b_t0 | exact b_t1 | exact b_t2 | exact b_t3 | exact b_w | exact b_h | exact b_x | exact b_y | refine' PyProof.Rows.bits_mul ?_ ?_ | refine' PyProof.Rows.bits_add ?_ ?_ | refine' PyProof.Rows.bits_sub ?_ ?_ | refine' PyProof.Rows.bits_neg ?_ | refine' PyProof.Rows.bits_ite ?_ ?_ | refine' bits_rnd ?_ | refine' PyProof.Rows.bits_fdiv ?_ | refine' PyProof.Rows.bits_fmod ?_ ?_ | exact Nat.le_refl _)); (case o9 => with_unfolding_all exact rfl))
    | (refine' V.call i_divided ?g9 ?_ ?_ (f_divided _ _ _ ?_ ?_ ?_); (case g9 => with_unfolding_all exact rfl))
    | exact ItemOf.tup hs | exact ItemOf.tup ht
    | (with_unfolding_all exact rfl))
theorem f_between_no (hs : (sa, HO.tup (intL [s0, s1, s2, s3])) ∈ η) (hz : s2 - s0 = 0 ∨ s3 - s1 = 0) : FnX 198 3 [.ref sa, .ref ta] η (.byt undef) := by
  refine' FnX.enter ["source", "target"] [("target", .ref ta), ("source", .ref sa)] rfl (fun P => ?ho) (fun P => ?hcd) (fun s vs iv => ?hb) ?hl ?hcell ?hco ?hgen ?hk (by decide) (fun C hC => ?h)
  case ho => exact rfl
  case hcd => kernel_rfl
  case hb => cases iv with | cons _ iv => cases iv with | cons _ iv => cases iv; exact BindsTo.of_eq rfl
  case hl => decide
  case hcell => decide
  case hco => rfl
  case hgen => rfl
  case hk => rfl
  refine' RX.pre (R.tupS ["wide", "tall"] (E.tup (Vs.up (ps := [.int (s2 - s0), .int (s3 - s1)]) ?vs1 ⟨Nat.le_of_ble_eq_true rfl, fun l => ⟨_, _, rfl, .head _, rfl, _, _, .cons (Sto.loc rfl) (.cons (Sto.loc rfl) .nil), R.drop (R.nil ⟨rfl, ?k1⟩)⟩⟩)) rfl rfl)
  case vs1 => (with_reducible repeat' first
    | exact V.int
    | (refine' V.lo ?a9; (case a9 => with_unfolding_all exact rfl))
    | (refine' V.grain ?g9; (case g9 => with_unfolding_all exact rfl)) | (refine' V.lone ?g9; (case g9 => with_unfolding_all exact rfl))
    | refine' V.bin ?_ ?_ ?_
    | refine' V.una ?_ ?_
    | (refine' V.cmp ?_ ?_ ?_ ?d9; (case d9 => with_unfolding_all exact rfl))
    | (refine' W.cmp ?_ ?_ ?_ ?d9; (case d9 => with_unfolding_all exact rfl))
    | refine' V.iti ?_ ?_ ?_
    | (refine' V.abs (g_abs _) ?g9 ?_ ?n9; (case g9 => with_unfolding_all exact rfl); (case n9 => with_unfolding_all exact rfl))
    | refine' V.itc ?_ ?_ ?_
    | exact V.boolc | exact V.nonec | refine' V.bone ?_ | (refine' V.band ?_ (fun _ => ?_)) | (refine' V.bor ?_ (fun _ => ?_)) | (refine' V.not ?_)
    | (refine' W.not ?_) | exact W.and0 | exact W.or0 | (refine' W.and ?_ (fun _ => ?_)) | (refine' W.or ?_ (fun _ => ?_))
    | (refine' W.of ?_ ?d9; (case d9 => with_unfolding_all exact rfl))
    | exact Vs.nil | (refine' Vs.cons ?_ ?n9 ?_; (case n9 => with_unfolding_all exact rfl))
    | exact Bin.add | exact Bin.sub | (refine' Bin.mul (mulB ?m9 ?n9 ?o9); (case m9 => (with_reducible repeat' first  | refine' PyProof.Rows.bits_mul ?_ ?_ | refine' PyProof.Rows.bits_add ?_ ?_ | refine' PyProof.Rows.bits_sub ?_ ?_ | refine' PyProof.Rows.bits_neg ?_ | refine' PyProof.Rows.bits_ite ?_ ?_ | refine' bits_rnd ?_ | refine' PyProof.Rows.bits_fdiv ?_ | refine' PyProof.Rows.bits_fmod ?_ ?_ | exact Nat.le_refl _)); (case n9 => (with_reducible repeat' first  | refine' PyProof.Rows.bits_mul ?_ ?_ | refine' PyProof.Rows.bits_add ?_ ?_ | refine' PyProof.Rows.bits_sub ?_ ?_ | refine' PyProof.Rows.bits_neg ?_ | refine' PyProof.Rows.bits_ite ?_ ?_ | refine' bits_rnd ?_ | refine' PyProof.Rows.bits_fdiv ?_ | refine' PyProof.Rows.bits_fmod ?_ ?_ | exact Nat.le_refl _)); (case o9 => with_unfolding_all exact rfl)) | (refine' Bin.mod ?m9; (case m9 => first | decide | exact h0 | omega)) | (refine' Bin.fdiv ?m9 (noPyB ?n9 ?o9); (case m9 => first | decide | omega); (case n9 => (with_reducible repeat' first  | refine' PyProof.Rows.bits_mul ?_ ?_ | refine' PyProof.Rows.bits_add ?_ ?_ | refine' PyProof.Rows.bits_sub ?_ ?_ | refine' PyProof.Rows.bits_neg ?_ | refine' PyProof.Rows.bits_ite ?_ ?_ | refine' bits_rnd ?_ | refine' PyProof.Rows.bits_fdiv ?_ | refine' PyProof.Rows.bits_fmod ?_ ?_ | exact Nat.le_refl _)); (case o9 => with_unfolding_all exact rfl)) | exact Una.neg
    | exact Cmp.lt | exact Cmp.le | exact Cmp.gt | exact Cmp.ge | exact Cmp.eq | exact Cmp.ne | exact Cmp.eqB
    | exact ItemOf.lst hm | (with_unfolding_all exact ItemOf.lst (.head _)) | (with_unfolding_all exact ItemOf.lst (.tail _ (.head _))) | exact ItemOf.tup hm | (with_unfolding_all exact ItemOf.tup (.head _))
    | exact Nat.le_trans (Nat.le_of_ble_eq_true rfl) hC | ((show _ ≠ _); first | exact h0 | decide | omega)
        | (refine' Nat.le_trans ?m9 (Nat.le_of_ble_eq_true ?o9); (case m9 => (with_reducible repeat' first  | refine' PyProof.Rows.bits_mul ?_ ?_ | refine' PyProof.Rows.bits_add ?_ ?_ | refine' PyProof.Rows.bits_sub ?_ ?_ | refine' PyProof.Rows.bits_neg ?_ | refine' PyProof.Rows.bits_ite ?_ ?_ | refine' bits_rnd ?_ | refine' PyProof.Rows.bits_fdiv ?_ | refine' PyProof.Rows.bits_fmod ?_ ?_ | exact Nat.le_refl _)); (case o9 => with_unfolding_all exact rfl))
    | (refine' V.call i_divided ?g9 ?_ ?_ (f_divided _ _ _ ?_ ?_ ?_); (case g9 => with_unfolding_all exact rfl))
    | exact ItemOf.tup hs | exact ItemOf.tup ht
    | (with_unfolding_all exact rfl))
  refine' RX.ift (W.up (b := (s2 - s0 == 0) || ((s3 - s1 == 0) || false)) ?w2 ⟨?e2, rfl⟩) (RX.raise rfl V.byc rfl (by omega) (.refl _))
  case w2 => (with_reducible repeat' first
    | exact V.int
    | (refine' V.lo ?a9; (case a9 => with_unfolding_all exact rfl))
    | (refine' V.grain ?g9; (case g9 => with_unfolding_all exact rfl)) | (refine' V.lone ?g9; (case g9 => with_unfolding_all exact rfl))
    | refine' V.bin ?_ ?_ ?_
    | refine' V.una ?_ ?_
    | (refine' V.cmp ?_ ?_ ?_ ?d9; (case d9 => with_unfolding_all exact rfl))
    | (refine' W.cmp ?_ ?_ ?_ ?d9; (case d9 => with_unfolding_all exact rfl))
    | refine' V.iti ?_ ?_ ?_
    | (refine' V.abs (g_abs _) ?g9 ?_ ?n9; (case g9 => with_unfolding_all exact rfl); (case n9 => with_unfolding_all exact rfl))
    | refine' V.itc ?_ ?_ ?_
    | exact V.boolc | exact V.nonec | refine' V.bone ?_ | (refine' V.band ?_ (fun _ => ?_)) | (refine' V.bor ?_ (fun _ => ?_)) | (refine' V.not ?_)
    | (refine' W.not ?_) | exact W.and0 | exact W.or0 | (refine' W.and ?_ (fun _ => ?_)) | (refine' W.or ?_ (fun _ => ?_))
    | (refine' W.of ?_ ?d9; (case d9 => with_unfolding_all exact rfl))
    | exact Vs.nil | (refine' Vs.cons ?_ ?n9 ?_; (case n9 => with_unfolding_all exact rfl))
    | exact Bin.add | exact Bin.sub | (refine' Bin.mul (mulB ?m9 ?n9 ?o9); (case m9 => (with_reducible repeat' first  | refine' PyProof.Rows.bits_mul ?_ ?_ | refine' PyProof.Rows.bits_add ?_ ?_ | refine' PyProof.Rows.bits_sub ?_ ?_ | refine' PyProof.Rows.bits_neg ?_ | refine' PyProof.Rows.bits_ite ?_ ?_ | refine' bits_rnd ?_ | refine' PyProof.Rows.bits_fdiv ?_ | refine' PyProof.Rows.bits_fmod ?_ ?_ | exact Nat.le_refl _)); (case n9 => (with_reducible repeat' first  | refine' PyProof.Rows.bits_mul ?_ ?_ | refine' PyProof.Rows.bits_add ?_ ?_ | refine' PyProof.Rows.bits_sub ?_ ?_ | refine' PyProof.Rows.bits_neg ?_ | refine' PyProof.Rows.bits_ite ?_ ?_ | refine' bits_rnd ?_ | refine' PyProof.Rows.bits_fdiv ?_ | refine' PyProof.Rows.bits_fmod ?_ ?_ | exact Nat.le_refl _)); (case o9 => with_unfolding_all exact rfl)) | (refine' Bin.mod ?m9; (case m9 => first | decide | exact h0 | omega)) | (refine' Bin.fdiv ?m9 (noPyB ?n9 ?o9); (case m9 => first | decide | omega); (case n9 => (with_reducible repeat' first  | refine' PyProof.Rows.bits_mul ?_ ?_ | refine' PyProof.Rows.bits_add ?_ ?_ | refine' PyProof.Rows.bits_sub ?_ ?_ | refine' PyProof.Rows.bits_neg ?_ | refine' PyProof.Rows.bits_ite ?_ ?_ | refine' bits_rnd ?_ | refine' PyProof.Rows.bits_fdiv ?_ | refine' PyProof.Rows.bits_fmod ?_ ?_ | exact Nat.le_refl _)); (case o9 => with_unfolding_all exact rfl)) | exact Una.neg
    | exact Cmp.lt | exact Cmp.le | exact Cmp.gt | exact Cmp.ge | exact Cmp.eq | exact Cmp.ne | exact Cmp.eqB
    | exact ItemOf.lst hm | (with_unfolding_all exact ItemOf.lst (.head _)) | (with_unfolding_all exact ItemOf.lst (.tail _ (.head _))) | exact ItemOf.tup hm | (with_unfolding_all exact ItemOf.tup (.head _))
    | exact Nat.le_trans (Nat.le_of_ble_eq_true rfl) hC | ((show _ ≠ _); first | exact h0 | decide | omega)
        | (refine' Nat.le_trans ?m9 (Nat.le_of_ble_eq_true ?o9); (case m9 => (with_reducible repeat' first  | refine' PyProof.Rows.bits_mul ?_ ?_ | refine' PyProof.Rows.bits_add ?_ ?_ | refine' PyProof.Rows.bits_sub ?_ ?_ | refine' PyProof.Rows.bits_neg ?_ | refine' PyProof.Rows.bits_ite ?_ ?_ | refine' bits_rnd ?_ | refine' PyProof.Rows.bits_fdiv ?_ | refine' PyProof.Rows.bits_fmod ?_ ?_ | exact Nat.le_refl _)); (case o9 => with_unfolding_all exact rfl))
    | (refine' V.call i_divided ?g9 ?_ ?_ (f_divided _ _ _ ?_ ?_ ?_); (case g9 => with_unfolding_all exact rfl))
    | exact ItemOf.tup hs | exact ItemOf.tup ht
    | (with_unfolding_all exact rfl))
  case e2 => rcases hz with h | h <;> simp [h]
end
end Mine
end
section
open PySem PySem.W PyProof.Rows PySem.Calls
set_option Elab.async false
set_option linter.unusedVariables false
set_option maxRecDepth 100000
set_option maxHeartbeats 4000000
namespace Mine
theorem warm_F19 : PySem.Challenge.rw_pb0513_01.Holds → kK = kK := by
  k_fill
  intro _; rfl
theorem Cmp.eqYY {a b : Array UInt8} : Cmp .Eq (.byt a) (.byt b) (a.toList == b.toList) := fun _ _ _ _ _ _ _ ⟨_, e1⟩ ⟨_, e2⟩ q => by subst e1 e2; exact eq_bytes (q _)
theorem VX.as {sc : Shape} {C : Ctx sc} {A : Around} {ρ : Rho} {η : Hp} {e : Expr} {p q : PV} (h : VX C A ρ η e p) (k : p = q) : VX C A ρ η e q := k ▸ h
theorem g_tuple (P : Params) : nsIn (kK P) mainGlobals "tuple" = some none := by kernel_rfl
def menu7 : List Int := [0, 1000000, 3 * 1000000, -500000, 7, 72 * 1000000, 10 ^ (9 : Int).toNat + 1]
theorem menu7_at {r : Int} (h0 : 0 ≤ r) (h1 : r < 7) : ∃ x, (intL menu7)[r.toNat]? = some (.int x) ∧ bits x ≤ 40 := by
  have hn : r.toNat < 7 := by omega
  generalize r.toNat = j at hn
  rcases (show j = 0 ∨ j = 1 ∨ j = 2 ∨ j = 3 ∨ j = 4 ∨ j = 5 ∨ j = 6 by omega) with rfl | rfl | rfl | rfl | rfl | rfl | rfl <;> exact ⟨_, rfl, by decide⟩
theorem four_of {P : List Int} (h : P.length = 4) : ∃ a b c d, P = [a, b, c, d] := by
  match P, h with
  | [a, b, c, d], _ => exact ⟨a, b, c, d, rfl⟩
/-- four numbers of the menu -/
theorem four_go {osc s : Scope} {C : Ctx (.fn osc)} {η : Hp} {d : Addr} {ds : List Int} {elt : Expr} {x : Str} {cl : List (Str × Addr)} (pre : Hp) (rs : List PV) (hd : DeckOk ds)
    (h : ∀ ds' p, DeckOk ds' → ∀ C' : Ctx (.comp osc s), C'.w = C.w → C'.k = C.k → C'.ccl = cl → E C' [(x, p)] (pre ++ deck d ds' :: η) elt fun q η' => ∃ y ds'', q = .int y ∧ bits y ≤ 40 ∧ DeckOk ds'' ∧ η' = pre ++ deck d ds'' :: η) :
    CompGo C s cl elt x (fun ys η1 => ∃ ss ds', ys = intL ss ∧ (∀ y ∈ ss, bits y ≤ 40) ∧ DeckOk ds' ∧ η1 = pre ++ deck d ds' :: η) rs [] (pre ++ deck d ds :: η) := by
  refine CompGo.inv _ _ _ _ ⟨[], ds, rfl, (fun _ h => nomatch h), hd, rfl⟩ ?_
  rintro p hp ys η1 ⟨ss, ds', rfl, hss, hd', rfl⟩ C1 c1 c2 c3
  refine (h ds' p hd' C1 c1 c2 c3).mono ?_
  rintro q η2 ⟨y, ds2, rfl, hy, hd2, rfl⟩
  refine ⟨ss ++ [y], ds2, by rw [intL_app]; rfl, fun z hz => ?_, hd2, rfl⟩
  rcases List.mem_append.mp hz with hz | hz
  · exact hss z hz
  · rw [List.mem_singleton.mp hz]; exact hy
theorem boot_tuple : bootBuiltins "tuple" = some (.type "tuple") := rfl
theorem menu_step {osc s : Scope} {C : Ctx (.fn osc)} (hC3 : 3 ≤ C.k) {η : Hp} {lm cm cd d : Addr} (pre : Hp) {p1 p2 p3 p4 p5 p6 : Pos} {ck : Nat} (ds' : List Int) (p : PV) (x : Str) (hd' : DeckOk ds') (hg : isGlob (.comp osc s) "_law_draw" = true)
    (hm : look2 (.comp osc s) [(("menu" : Str), cm), (("deck" : Str), cd)] "menu" = some cm) (hdk' : look2 (.comp osc s) [(("menu" : Str), cm), (("deck" : Str), cd)] "deck" = some cd)
    (hl1 : (lm, HO.lst (intL menu7)) ∈ pre) (hl2 : (cm, HO.cell (some (.ref lm))) ∈ pre) (hl3 : (cd, HO.cell (some (.ref d))) ∈ pre) (C' : Ctx (.comp osc s)) (c1 : C'.w = C.w) (c2 : C'.k = C.k) (c3 : C'.ccl = [(("menu" : Str), cm), (("deck" : Str), cd)]) :
    E C' [(x, p)] (pre ++ deck d ds' :: η) (.Subscript (.Name "menu" p1) (.Call (.Name "_law_draw" p2) [.Name "deck" p3, .Constant (.int 7) ck p4] [] p5) p6) fun q η' => ∃ y ds'', q = .int y ∧ bits y ≤ 40 ∧ DeckOk ds'' ∧ η' = pre ++ deck d ds'' :: η := by
  refine' E.item (V.up (p := .ref lm) ?v1 (E.fn i_law_draw hg (k := 1) (ps := [.ref d, .int 7]) ?vs2 ?hk2 ((f_drawP pre η hd' (by decide) (by decide)).mono ?k2))) rfl
  case v1 => exact V.ce (by show look2 _ C'.ccl _ = _; rw [c3]; exact hm) (List.mem_append_left _ hl2)
  case vs2 => exact .cons (V.ce (by show look2 _ C'.ccl _ = _; rw [c3]; exact hdk') (List.mem_append_left _ hl3)) rfl (.cons V.int rfl .nil)
  case hk2 => rw [c2]; exact Nat.le_trans (by decide) hC3
  rintro q η2 ⟨r, ds2, rfl, r0, r1, hd2, rfl⟩
  obtain ⟨y, hy, hb⟩ := menu7_at r0 r1
  exact ⟨lm, intL menu7, r, .int y, rfl, rfl, .lst (List.mem_append_left _ hl1), r0, by omega, hy, y, ds2, rfl, hb, hd2, rfl⟩
theorem f_between_right {η : Hp} {d : Addr} {ds : List Int} (hd : DeckOk ds) : FnT 262 4 [.ref d] (deck d ds :: η) fun p η' => ∃ ds', p = .bool true ∧ DeckOk ds' ∧ η' = deck d ds' :: η := by
  refine' FnT.enter ["deck"] [] ?hr (fun P => ?ho) (fun P => ?hcd) (fun s vs iv => ?hb) ?hn ?hl ?hcs ?hnd ?hco ?hgen ?hk (by decide) (fun C hC hcl => ?body)
  case ho => exact rfl
  case hr => rfl
  case hcd => kernel_rfl
  case hb => cases iv with | cons _ iv => cases iv; exact BindsTo.of_eq rfl
  case hn => decide
  case hl => decide
  case hcs => decide
  case hnd => decide
  case hco => rfl
  case hgen => rfl
  case hk => rfl
  have e1 : C.cl = [(("menu" : Str), C.L + 2), (("deck" : Str), C.L + 1)] := by rw [hcl]; rfl
  rw [e1]
  clear hcl
  have hC3 : 3 ≤ C.k := by omega
  clear hC
  generalize C.L + 1 = cd at *
  generalize C.L + 2 = cm at *
  refine (show RT C [] ((cm, HO.cell none) :: (cd, HO.cell (some (.ref d))) :: deck d ds :: η) _ _ from ?_)
  have hdk : ∀ {ρ : Rho} {η : Hp} {ps : Pos}, (cd, HO.cell (some (.ref d))) ∈ η → V C ρ η (.Name "deck" ps) (.ref d) := fun h => V.ce (by show look2 _ C.cl _ = _; rw [e1]; rfl) h
  refine' RT.pre (R.assign (E.mkL (ps := intL menu7) ?vs1 rfl fun lm => ⟨_, _, Sto.cel (c := cm) (by rw [e1]; rfl) (.tail .head) rfl, R.nil ⟨rfl, ?k1⟩⟩) rfl)
  case vs1 => exact .cons V.int rfl (.cons (V.lone rfl) rfl (.cons (V.bin V.int (V.lone rfl) (Bin.mul (mulB (m := 2) (n := 20) (by decide) (by decide) rfl))) rfl (.cons (V.una V.int Una.neg) rfl (.cons V.int rfl (.cons (V.bin V.int (V.lone rfl) (Bin.mul (mulB (m := 7) (n := 20) (by decide) (by decide) rfl))) rfl (.cons (V.bin (V.bin V.int V.int (Bin.pow (by decide) (by decide) (by decide))) V.int Bin.add) rfl .nil))))))
  refine (show RT C [] ((lm, HO.lst (intL menu7)) :: (cm, HO.cell (some (.ref lm))) :: (cd, HO.cell (some (.ref d))) :: deck d ds :: η) _ _ from ?_)
  refine' RT.pre (R.assign (E.ty (T := "tuple") (V.bl g_tuple boot_tuple rfl rfl (by decide)) (Es.x (E.comp (cl := [(("menu" : Str), cm), (("deck" : Str), cd)]) (Fin := fun ys η1 => ∃ ss ds', ys = intL ss ∧ (∀ y ∈ ss, bits y ≤ 40) ∧ DeckOk ds' ∧ η1 = [(lm, HO.lst (intL menu7)), (cm, HO.cell (some (.ref lm))), (cd, HO.cell (some (.ref d)))] ++ deck d ds' :: η) ?hcl2 rfl (Cs.range (ER.range g_range rfl) (by decide)) (by show 4 ≤ 1000; decide)
    (four_go [(lm, HO.lst (intL menu7)), (cm, HO.cell (some (.ref lm))), (cd, HO.cell (some (.ref d)))] _ hd ?st2) ?hf2 (fun _ => rfl)) rfl)) rfl)
  case hcl2 => show closureFor _ (envX C.cn _ C.L C.a C.ccd C.cl) = _; rw [e1]; rfl
  case st2 => exact fun ds' p hd' => menu_step hC3 _ ds' p _ hd' rfl rfl rfl (.head _) (.tail _ (.head _)) (.tail _ (.tail _ (.head _)))
  rintro ys η1 ⟨ss, ds2, rfl, hss, hd2, rfl⟩ hlen ls
  replace hlen : ss.length = 4 := by rw [List.length_map] at hlen; exact hlen
  obtain ⟨s0, s1, s2, s3, rfl⟩ := four_of hlen
  have b_s0 := hss s0 (by simp)
  have b_s1 := hss s1 (by simp)
  have b_s2 := hss s2 (by simp)
  have b_s3 := hss s3 (by simp)
  clear hss hlen hd
  refine Es.nil (BltT.tuple (.head _) (by show 4 ≤ 1000; decide) fun sa => ⟨_, _, Sto.loc rfl, R.sub (.cons_cons _ (.cons _ (.refl _))) (R.nil ⟨rfl, ?_⟩)⟩)
  refine (show RT C [("source", .ref sa)] ((sa, HO.tup (intL [s0, s1, s2, s3])) :: (lm, HO.lst (intL menu7)) :: (cm, HO.cell (some (.ref lm))) :: (cd, HO.cell (some (.ref d))) :: deck d ds2 :: η) _ _ from ?_)
  refine' RT.pre (R.assign (E.ty (T := "tuple") (V.bl g_tuple boot_tuple rfl rfl (by decide)) (Es.x (E.comp (cl := [(("menu" : Str), cm), (("deck" : Str), cd)]) (Fin := fun ys η1 => ∃ ss ds', ys = intL ss ∧ (∀ y ∈ ss, bits y ≤ 40) ∧ DeckOk ds' ∧ η1 = [(sa, HO.tup (intL [s0, s1, s2, s3])), (lm, HO.lst (intL menu7)), (cm, HO.cell (some (.ref lm))), (cd, HO.cell (some (.ref d)))] ++ deck d ds' :: η) ?hcl3 rfl (Cs.range (ER.range g_range rfl) (by decide)) (by show 4 ≤ 1000; decide)
    (four_go [(sa, HO.tup (intL [s0, s1, s2, s3])), (lm, HO.lst (intL menu7)), (cm, HO.cell (some (.ref lm))), (cd, HO.cell (some (.ref d)))] _ hd2 ?st3) ?hf3 (fun _ => rfl)) rfl)) rfl)
  case hcl3 => show closureFor _ (envX C.cn _ C.L C.a C.ccd C.cl) = _; rw [e1]; rfl
  case st3 => exact fun ds' p hd' => menu_step hC3 _ ds' p _ hd' rfl rfl rfl (.tail _ (.head _)) (.tail _ (.tail _ (.head _))) (.tail _ (.tail _ (.tail _ (.head _))))
  rintro ys η1 ⟨ss, ds3, rfl, hss, hd3, rfl⟩ hlen lt
  replace hlen : ss.length = 4 := by rw [List.length_map] at hlen; exact hlen
  obtain ⟨t0, t1, t2, t3, rfl⟩ := four_of hlen
  have b_t0 := hss t0 (by simp)
  have b_t1 := hss t1 (by simp)
  have b_t2 := hss t2 (by simp)
  have b_t3 := hss t3 (by simp)
  clear hss hlen hd2
  refine Es.nil (BltT.tuple (.head _) (by show 4 ≤ 1000; decide) fun ta => ⟨_, _, Sto.loc rfl, R.sub (.cons_cons _ (.cons _ (.cons_cons _ (.cons _ (.cons _ (.cons _ (.refl _))))))) (R.nil ⟨rfl, ?_⟩)⟩)
  refine (show RT C [("target", .ref ta), ("source", .ref sa)] ((ta, HO.tup (intL [t0, t1, t2, t3])) :: (sa, HO.tup (intL [s0, s1, s2, s3])) :: deck d ds3 :: η) _ _ from ?_)
  have ht : (ta, HO.tup (intL [t0, t1, t2, t3])) ∈ (ta, HO.tup (intL [t0, t1, t2, t3])) :: (sa, HO.tup (intL [s0, s1, s2, s3])) :: deck d ds3 :: η := .head _
  have hs : (sa, HO.tup (intL [s0, s1, s2, s3])) ∈ (ta, HO.tup (intL [t0, t1, t2, t3])) :: (sa, HO.tup (intL [s0, s1, s2, s3])) :: deck d ds3 :: η := .tail _ (.head _)
  by_cases hz : s2 - s0 = 0 ∨ s3 - s1 = 0
  · refine' RT.tryX (b := true) i_matrix_between rfl (k := 3) hC3 ?vs5 (f_between_no hs hz) rfl rfl rfl ?hr5 ⟨_, .cons _ (.cons _ (.refl _)), ds3, rfl, hd3, rfl⟩
    case vs5 => exact .cons (V.lo rfl) rfl (.cons (V.lo rfl) rfl .nil)
    case hr5 =>
      intro g hid A e D oe oD t h1 h2 h3 h4 h5 h6
      have hz' : ((s0 == s2) || (s1 == s3)) = true := by
        rw [Bool.or_eq_true, beq_iff_eq, beq_iff_eq]; omega
      refine VX.as (VX.band (VX.cmp (VX.told (p := .byt undef) (VX.lo rfl) h1 h2 h3 h4 h5 h6 rfl ⟨t, rfl⟩) VX.byc Cmp.eqYY rfl) fun _ => VX.bone (VX.bor (VX.cmp (VX.item (i := 0) (VX.lo rfl) hs rfl rfl rfl) (VX.item (i := 2) (VX.lo rfl) hs rfl rfl rfl) Cmp.eq rfl) fun _ => VX.bone (VX.cmp (VX.item (i := 1) (VX.lo rfl) hs rfl rfl rfl) (VX.item (i := 3) (VX.lo rfl) hs rfl rfl rfl) Cmp.eq rfl))) ?_
      rw [hz']
      rfl
  · have hw : s2 - s0 ≠ 0 := fun h => hz (.inl h)
    have hh : s3 - s1 ≠ 0 := fun h => hz (.inr h)
    refine' RT.tryN (R.assign (E.fn i_matrix_between rfl (k := 3) (ps := [.ref sa, .ref ta]) ?vs6 hC3 ((f_between hs ht b_s0 b_s1 b_s2 b_s3 b_t0 b_t1 b_t2 b_t3 hw hh).on fun l => ⟨_, _, Sto.loc rfl, R.nil ⟨rfl, RT.ofR ?k6⟩⟩)) rfl)
    case vs6 => exact .cons (V.lo rfl) rfl (.cons (V.lo rfl) rfl .nil)
    have b_w : bits (s2 - s0) ≤ 41 := PyProof.Rows.bits_sub b_s2 b_s0
    have b_h : bits (s3 - s1) ≤ 41 := PyProof.Rows.bits_sub b_s3 b_s1
    have b_x : bits (rnd ((t2 - t0) * 1000000) (s2 - s0)) ≤ 80 := Nat.le_trans (bits_rnd (b := s2 - s0) (PyProof.Rows.bits_mul (PyProof.Rows.bits_sub b_t2 b_t0) (Nat.le_refl _))) (by decide)
    have b_y : bits (rnd ((t3 - t1) * 1000000) (s3 - s1)) ≤ 80 := Nat.le_trans (bits_rnd (b := s3 - s1) (PyProof.Rows.bits_mul (PyProof.Rows.bits_sub b_t3 b_t1) (Nat.le_refl _))) (by decide)
    refine R.perm (η' := (ta, HO.tup (intL [t0, t1, t2, t3])) :: (sa, HO.tup (intL [s0, s1, s2, s3])) :: (l, HO.lst (intL (btw s0 s1 s2 s3 t0 t1 t2 t3))) :: deck d ds3 :: η) (List.Perm.trans (.swap _ _ _) (.cons _ (.swap _ _ _))) ?_
    replace ht : (ta, HO.tup (intL [t0, t1, t2, t3])) ∈ (ta, HO.tup (intL [t0, t1, t2, t3])) :: (sa, HO.tup (intL [s0, s1, s2, s3])) :: (l, HO.lst (intL (btw s0 s1 s2 s3 t0 t1 t2 t3))) :: deck d ds3 :: η := .head _
    replace hs : (sa, HO.tup (intL [s0, s1, s2, s3])) ∈ (ta, HO.tup (intL [t0, t1, t2, t3])) :: (sa, HO.tup (intL [s0, s1, s2, s3])) :: (l, HO.lst (intL (btw s0 s1 s2 s3 t0 t1 t2 t3))) :: deck d ds3 :: η := .tail _ (.head _)
    refine' R.ifn (W.up (b := (s0 == s2) || ((s1 == s3) || false)) ?w7 ⟨?e7, ?k7⟩)
    case w7 => (with_reducible repeat' first
    | exact V.int
    | (refine' V.lo ?a9; (case a9 => with_unfolding_all exact rfl))
    | (refine' V.grain ?g9; (case g9 => with_unfolding_all exact rfl)) | (refine' V.lone ?g9; (case g9 => with_unfolding_all exact rfl))
    | refine' V.bin ?_ ?_ ?_
    | refine' V.una ?_ ?_
    | (refine' V.cmp ?_ ?_ ?_ ?d9; (case d9 => with_unfolding_all exact rfl))
    | (refine' W.cmp ?_ ?_ ?_ ?d9; (case d9 => with_unfolding_all exact rfl))
    | refine' V.iti ?_ ?_ ?_
    | (refine' V.abs (g_abs _) ?g9 ?_ ?n9; (case g9 => with_unfolding_all exact rfl); (case n9 => with_unfolding_all exact rfl))
    | refine' V.itc ?_ ?_ ?_
    | exact V.boolc | exact V.nonec | refine' V.bone ?_ | (refine' V.band ?_ (fun _ => ?_)) | (refine' V.bor ?_ (fun _ => ?_)) | (refine' V.not ?_)
    | (refine' W.not ?_) | exact W.and0 | exact W.or0 | (refine' W.and ?_ (fun _ => ?_)) | (refine' W.or ?_ (fun _ => ?_))
    | (refine' W.of ?_ ?d9; (case d9 => with_unfolding_all exact rfl))
    | exact Vs.nil | (refine' Vs.cons ?_ ?n9 ?_; (case n9 => with_unfolding_all exact rfl))
    | exact Bin.add | exact Bin.sub | (refine' Bin.mul (mulB ?m9 ?n9 ?o9); (case m9 => (with_reducible repeat' first | exact b_s0 | exact b_s1 | exact b_s2 | exact b_s3 | exact b_t0 | exact b_t1 | exact b_t2 | exact b_t3 | exact b_w | exact b_h | exact b_x | exact b_y | refine' PyProof.Rows.bits_mul ?_ ?_ | refine' PyProof.Rows.bits_add ?_ ?_ | refine' PyProof.Rows.bits_sub ?_ ?_ | refine' PyProof.Rows.bits_neg ?_ | refine' PyProof.Rows.bits_ite ?_ ?_ | refine' bits_rnd ?_ | refine' PyProof.Rows.bits_fdiv ?_ | refine' PyProof.Rows.bits_fmod ?_ ?_ | exact Nat.le_refl _)); (case n9 => (with_reducible repeat' first | exact b_s0 | exact b_s1 | exact b_s2 | exact b_s3 | exact b_t0 | exact b_t1 | exact b_t2 | exact b_t3 | exact b_w | exact b_h | exact b_x | exact b_y | refine' PyProof.Rows.bits_mul ?_ ?_ | refine' PyProof.Rows.bits_add ?_ ?_ | refine' PyProof.Rows.bits_sub ?_ ?_ | refine' PyProof.Rows.bits_neg ?_ | refine' PyProof.Rows.bits_ite ?_ ?_ | refine' bits_rnd ?_ | refine' PyProof.Rows.bits_fdiv ?_ | refine' PyProof.Rows.bits_fmod ?_ ?_ | exact Nat.le_refl _)); (case o9 => with_unfolding_all exact rfl)) | (refine' Bin.mod ?m9; (case m9 => first | decide | exact h0 | omega)) | (refine' Bin.fdiv ?m9 (noPyB ?n9 ?o9); (case m9 => first | decide | omega); (case n9 => (with_reducible repeat' first | exact b_s0 | exact b_s1 | exact b_s2 | exact b_s3 | exact b_t0 | exact b_t1 | exact b_t2 | exact b_t3 | exact b_w | exact b_h | exact b_x | exact b_y | refine' PyProof.Rows.bits_mul ?_ ?_ | refine' PyProof.Rows.bits_add ?_ ?_ | refine' PyProof.Rows.bits_sub ?_ ?_ | refine' PyProof.Rows.bits_neg ?_ | refine' PyProof.Rows.bits_ite ?_ ?_ | refine' bits_rnd ?_ | refine' PyProof.Rows.bits_fdiv ?_ | refine' PyProof.Rows.bits_fmod ?_ ?_ | exact Nat.le_refl _)); (case o9 => with_unfolding_all exact rfl)) | exact Una.neg
    | exact Cmp.lt | exact Cmp.le | exact Cmp.gt | exact Cmp.ge | exact Cmp.eq | exact Cmp.ne | exact Cmp.eqB
    | exact ItemOf.lst hm | (with_unfolding_all exact ItemOf.lst (.head _)) | (with_unfolding_all exact ItemOf.lst (.tail _ (.head _))) | exact ItemOf.tup hm | (with_unfolding_all exact ItemOf.tup (.head _))
    | exact Nat.le_trans (Nat.le_of_ble_eq_true rfl) hC | ((show _ ≠ _); first | exact h0 | decide | omega)
        | (refine' Nat.le_trans ?m9 (Nat.le_of_ble_eq_true ?o9); (case m9 => (with_reducible repeat' first | exact b_s0 | exact b_s1 | exact b_s2 | exact b_s3 | exact b_t0 | exact b_t1 | exact b_t2 | exact b_t3 | exact b_w | exact b_h | exact b_x | exact b_y | refine' PyProof.Rows.bits_mul ?_ ?_ | refine' PyProof.Rows.bits_add ?_ ?_ | refine' PyProof.Rows.bits_sub ?_ ?_ | refine' PyProof.Rows.bits_neg ?_ | refine' PyProof.Rows.bits_ite ?_ ?_ | refine' bits_rnd ?_ | refine' PyProof.Rows.bits_fdiv ?_ | refine' PyProof.Rows.bits_fmod ?_ ?_ | exact Nat.le_refl _)); (case o9 => with_unfolding_all exact rfl))
    | exact ItemOf.tup hs | exact ItemOf.tup ht
    | (with_unfolding_all exact rfl))
    case e7 => simp; omega
    refine' R.as1 (p := .int (rnd ((t2 - t0) * 1000000) (s2 - s0))) ?v8 rfl rfl ?k8
    case v8 => exact V.call (k := 1) i_law_part rfl (.cons (V.bin (V.bin (V.itc (V.lo rfl) (.tup ht) rfl) (V.itc (V.lo rfl) (.tup ht) rfl) Bin.sub) (V.lone rfl) (Bin.mul (mulB (n := 20) (PyProof.Rows.bits_sub b_t2 b_t0) (by decide) rfl))) rfl (.cons (V.bin (V.itc (V.lo rfl) (.tup hs) rfl) (V.itc (V.lo rfl) (.tup hs) rfl) Bin.sub) rfl .nil)) (Nat.le_trans (by decide) hC3) (f_part _ _ _ (Nat.le_trans (PyProof.Rows.bits_mul (PyProof.Rows.bits_sub b_t2 b_t0) (Nat.le_refl _)) (by decide)) (Nat.le_trans b_w (by decide)) hw)
    refine' R.as1 (p := .int (rnd ((t3 - t1) * 1000000) (s3 - s1))) ?v9 rfl rfl ?k9
    case v9 => exact V.call (k := 1) i_law_part rfl (.cons (V.bin (V.bin (V.itc (V.lo rfl) (.tup ht) rfl) (V.itc (V.lo rfl) (.tup ht) rfl) Bin.sub) (V.lone rfl) (Bin.mul (mulB (n := 20) (PyProof.Rows.bits_sub b_t3 b_t1) (by decide) rfl))) rfl (.cons (V.bin (V.itc (V.lo rfl) (.tup hs) rfl) (V.itc (V.lo rfl) (.tup hs) rfl) Bin.sub) rfl .nil)) (Nat.le_trans (by decide) hC3) (f_part _ _ _ (Nat.le_trans (PyProof.Rows.bits_mul (PyProof.Rows.bits_sub b_t3 b_t1) (Nat.le_refl _)) (by decide)) (Nat.le_trans b_h (by decide)) hh)
    unfold btw at *
    generalize rnd ((t2 - t0) * 1000000) (s2 - s0) = x at *
    generalize rnd ((t3 - t1) * 1000000) (s3 - s1) = y at *
    refine' R.assign (E.mkL (ps := [.int (t0 - rnd (s0 * x) 1000000), .int (t1 - rnd (s1 * y) 1000000)]) ?vs10 rfl fun lm2 => ⟨_, _, Sto.loc rfl, ?k10⟩) rfl
    case vs10 =>
      refine .cons (V.bin (V.itc (V.lo rfl) (.tup ht) rfl) (V.call (k := 1) i_law_part rfl (.cons (V.bin (V.itc (V.lo rfl) (.tup hs) rfl) (V.lo rfl) (Bin.mul (mulB b_s0 b_x rfl))) rfl (.cons (V.lone rfl) rfl .nil)) (Nat.le_trans (by decide) hC3) (f_part _ _ _ (Nat.le_trans (PyProof.Rows.bits_mul b_s0 b_x) (by decide)) (by decide) (by decide))) Bin.sub) rfl (.cons (V.bin (V.itc (V.lo rfl) (.tup ht) rfl) (V.call (k := 1) i_law_part rfl (.cons (V.bin (V.itc (V.lo rfl) (.tup hs) rfl) (V.lo rfl) (Bin.mul (mulB b_s1 b_y rfl))) rfl (.cons (V.lone rfl) rfl .nil)) (Nat.le_trans (by decide) hC3) (f_part _ _ _ (Nat.le_trans (PyProof.Rows.bits_mul b_s1 b_y) (by decide)) (by decide) (by decide))) Bin.sub) rfl .nil)
    refine' R.ret (E.cmpH (V.up (p := .ref l) (V.lo rfl) (E.addL (E.mkL (ps := [.int x, .int 0, .int 0, .int y]) ?vs11 rfl fun l4 => V.up (p := .ref lm2) (V.lo rfl) ⟨l4, lm2, [x, 0, 0, y], [t0 - rnd (s0 * x) 1000000, t1 - rnd (s1 * y) 1000000], rfl, rfl, .head _, .tail _ (.head _), by show 6 ≤ 1000; decide, fun l5 => ⟨_, CmpH.eqL (.tail _ (.tail _ (.tail _ (.tail _ (.tail _ (.head _)))))) (.head _), _, rfl, _, .cons _ (.cons _ (.cons _ (.cons _ (.cons _ (.cons _ (.refl _)))))), ds3, ?e11, hd3, rfl⟩⟩))) rfl)
    case e11 => exact congrArg PV.bool (decide_eq_true rfl)
    case vs11 => exact .cons (V.lo rfl) rfl (.cons V.int rfl (.cons V.int rfl (.cons (V.lo rfl) rfl .nil)))
end Mine
end
section
open PySem PySem.W PyProof.Rows PySem.Calls
set_option Elab.async false
set_option linter.unusedVariables false
set_option maxRecDepth 100000
set_option maxHeartbeats 4000000
namespace Mine
theorem warm_F20 : PySem.Challenge.rw_pb0513_01.Holds → kK = kK := by
  k_fill
  intro _; rfl
section
variable {osc : Scope} {C : Ctx (.fn osc)} {ρ : Rho} {η : Hp} {iter : Expr} {s : Scope} {elt : Expr} {x : Str} {px pos : Pos} {cl : List (Str × Addr)} {Fin : List PV → Hp → Prop} {xs : List PV} {η₀ : Hp} {Φ : PV → Hp → Prop}
/-- [elt for x in iter], the source dropped -/
theorem E.compN (hcl : closureFor s C.env = pure cl) (hc : compOk s x = true) (hi : CsN C ρ η iter xs η₀) (hx : xs.length ≤ 1000) (hg : CompGo C s cl elt x Fin xs [] η₀)
    (hf : ∀ ys η', Fin ys η' → ys.length = xs.length → ∀ l, Φ (.ref l) ((l, .lst ys) :: η')) (hs : ∀ z, foldedSetIterable iter C.env z = pure z) : E C ρ η (.ListComp elt [⟨.Name x px, iter, [], 0⟩] s pos) Φ := fun ok s' Q Er st q => by
  obtain ⟨h1, h2, h3, h4⟩ := compOk_out hc
  obtain ⟨m, st⟩ := st
  have hm := st.choose_spec.2.2.1
  refine LCg.ListComp_U st.choose_spec.1 hcl h1 h2 h3 h4 (hi elt x s cl Fin h2 ok s' Er m st hg _ fun ex g tk ys vys η' n' iy hl' hn' hF hlen => ?_) hs
  intro D h tk F' N' o1
  have st' : St C ρ ((D, .lst ys) :: ex :: η') h := by
    refine ⟨m, _ :: n', F', fun z hz => N' z hz, hm, LedOf.cons ⟨vys, vys.length, rfl, iy⟩ hl', ?_⟩
    show (D :: ((ex :: η').map (·.1) ++ C.hid.map (·.1))).Nodup
    refine List.nodup_cons.mpr ⟨fun mm => ?_, hn'⟩
    have mm' : D ∈ (n' ++ C.hid).map (·.1) := by rw [List.map_append, hl'.keys]; exact mm
    obtain ⟨z, hz, e2⟩ := List.mem_map.mp mm'
    exact off1_of o1 z hz e2
  exact q (.ref D) (.ref D) _ h tk (hf ys η' hF hlen D) rfl (st'.sub (.cons_cons _ (.cons _ (.refl _))))
end
section
variable {sc : Shape} {C : Ctx sc} {ρ : Rho} {η : Hp} {e1 e2 e3 : Expr} {pos : Pos} {K : Hp → Prop}
theorem T.orf3 (h : T C ρ η e1 fun b η1 => b = false ∧ T C ρ η1 e2 fun b η2 => b = false ∧ T C ρ η2 e3 fun b η3 => b = false ∧ K η3) : T C ρ η (.BoolOp .Or [e1, e2, e3] pos) fun b η' => b = false ∧ K η' :=
  T.or (h.mono fun b η' ⟨q1, w⟩ => ⟨fun h => (by rw [q1] at h; cases h), fun _ => T.or (w.mono fun b η' ⟨q2, w⟩ => ⟨fun h => (by rw [q2] at h; cases h), fun _ => T.or (w.mono fun b η' ⟨q3, w⟩ => ⟨fun h => (by rw [q3] at h; cases h), fun _ => T.or0 ⟨rfl, w⟩⟩)⟩)⟩)
/-- a call that gives True, denied -/
theorem T.nt {e : Expr} (h : E C ρ η e fun p η1 => p = .bool true ∧ K η1) (hp : PySem.isTrue e C.env (eval e C.env) = (do let v ← eval e C.env; standAt e.pos; holding [v] (truthy v)) := by rfl) : T C ρ η (.UnaryOp .Not e pos) fun b η' => b = false ∧ K η' :=
  T.not (T.of (h.mono fun p η1 ⟨q1, w⟩ => ⟨true, by rw [q1]; exact Tru.boo, rfl, w⟩) hp)
end
/-- a def that may catch an exception is called -/
theorem E.fnT {sc : Scope} {C : Ctx (.fn sc)} {ρ : Rho} {η : Hp} {x : Str} {f : Addr} {k : Nat} {xpos pos : Pos} {e0 : Expr} {es : List Expr} {ps : List PV} {Φ : PV → Hp → Prop} (hf : IsFn x f) (hg : isGlob (.fn sc) x = true) (hv : Vs C ρ η (e0 :: es) ps) (hk : k ≤ C.k) (hout : C.outer = []) (XB : (kK C.w.params).In C.base) (TB : TopIs C.mean C.mg C.mb C.base) (h : FnT f k ps η Φ) :
    E C ρ η (.Call (.Name x xpos) (e0 :: es) [] pos) Φ := fun ok s Q Er st q => by
  cases hv with
  | cons h1 h2 h3 =>
    refine Call_ ((V.fn hf hg) ok s _ Er st fun pf vf η1 h1' tk1 ⟨q1, q2⟩ i st1 => ?_)
    subst q1 q2
    obtain rfl : vf = .ref f := i
    refine callWith_K (h₀ := C.h₀) ok.X (hf.k _) (((Vs.cons h1 h2 h3).up (Ξ := fun ps' η2 => ps' = _ ∧ η2 = η1) ⟨rfl, rfl⟩) ok _ _ _ Er st1 fun ps' vs η2 h2' tk2 w is st2 => ?_) (star_plain h2) (any_plain h3)
    obtain ⟨q1, q2⟩ := w
    subst q1 q2
    exact ⟨let ⟨_, _, F, _⟩ := st2; ok.X.keeps F.keep, h sc C hk ok hout XB TB ρ _ vs Q Er is st2 q⟩
theorem FnT.mono {f : Addr} {k : Nat} {ps : List PV} {η : Hp} {Φ Φ' : PV → Hp → Prop} (h : FnT f k ps η Φ) (m : ∀ p η', Φ p η' → Φ' p η') : FnT f k ps η Φ' := fun sc C a1 a2 a3 a4 a5 ρ s vs Q Er iv st q => h sc C a1 a2 a3 a4 a5 ρ s vs Q Er iv st fun p v η' h' tk' w i st' => q p v η' h' tk' (m p η' w) i st'
structure LawCtx {sc : Scope} (C : Ctx (.fn sc)) (sA c : Addr) : Prop where
  out : C.outer = []
  XB : (kK C.w.params).In C.base
  TB : TopIs C.mean C.mg C.mb C.base
  hk : 5 ≤ C.k
  cl : C.cl = [(("deck" : Str), c)]
  lst : ∃ vs ns, C.h₀.IsList sA vs.toArray ∧ IntsAre vs ns ∧ ns.length ≤ 1000
theorem law_go {x : Str} {as : Arguments} {b : List Stmt} {sc : Scope} {p : Pos} (e : kLaw = ⟨x, as, b, sc, p⟩) {sA : Addr} (h : ∀ (C : Ctx (.fn sc)) c, LawCtx C sA c → R C [("script", .ref sA)] [(c, HO.cell none)] b fun _ _ f => f = .ret (.bool true)) :
    ∀ (C : Ctx (.fn kLaw.scope)) c, LawCtx C sA c → R C [("script", .ref sA)] [(c, HO.cell none)] kLaw.body fun _ _ f => f = .ret (.bool true) := by
  have e1 : sc = kLaw.scope := by rw [e]
  have e2 : b = kLaw.body := by rw [e]
  subst e1 e2
  exact h
theorem RQ.sub {o : Option (Int × Bool)} {η η' : Hp} {p : PV} (h : RQ o η p η') : List.Sublist η η' := by
  match o, h with
  | none, ⟨_, h⟩ => rw [h]; exact .refl _
  | some (q, b), ⟨l, _, h⟩ => rw [h]; exact .cons _ (.refl _)
theorem boot_int : bootBuiltins "int" = some (.type "int") := rfl
theorem boot_list : bootBuiltins "list" = some (.type "list") := rfl
theorem map_mod (L : List Int) : ([] : List PV) ++ (intL L).map (fun p => match p with | .int v => .int (v.fmod 1000000000000000) | q => q) = intL (L.map fun v => v.fmod 1000000000000000) := by
  rw [List.nil_append, intL, intL, List.map_map, List.map_map]; rfl
theorem deck_ok (ns : List Int) : DeckOk ((ns.take 24).map fun v => v.fmod 1000000000000000) := ⟨fun x hx => by
  obtain ⟨v, _, rfl⟩ := List.mem_map.mp hx
  show 0 ≤ v.fmod 1000000000000000 ∧ v.fmod 1000000000000000 < 1000000000000000
  rw [Int.fmod_eq_emod_of_nonneg _ (by decide)]
  exact ⟨Int.emod_nonneg _ (by decide), Int.emod_lt_of_pos _ (by decide)⟩, by rw [List.length_map, List.length_take]; omega⟩
theorem f_law {sA : Addr} : ∀ (C : Ctx (.fn kLaw.scope)) c, LawCtx C sA c → R C [("script", .ref sA)] [(c, HO.cell none)] kLaw.body fun _ _ f => f = .ret (.bool true) := by
  refine' law_go ?e (fun C c LC => ?h)
  case e => exact rfl
  obtain ⟨hout, XB, TB, hk, hcl, vs, ns, hL, hI, hz⟩ := LC
  refine' R.assign (E.compN (cl := []) (xs := intL (ns.take 24)) (η₀ := [(c, HO.cell none)]) ?cl1 rfl (CsN.list (EM.sliceBase rfl hL hI rfl hz (fun l => ⟨l, rfl, rfl⟩)) ?n1) ?n1' (CompGo.pure (fun p => match p with | .int v => .int (v.fmod 1000000000000000) | q => q) (intL (ns.take 24)) [] ?el1) ?hf1 (fun _ => rfl)) rfl
  case cl1 => show closureFor _ (envX C.cn _ C.L C.a C.ccd C.cl) = _; rw [hcl]; rfl
  case n1 => rw [List.length_map, List.length_take]; omega
  case n1' => rw [List.length_map, List.length_take]; omega
  case el1 =>
    intro p hp C' c1 c2 c3
    obtain ⟨v, hv, rfl⟩ := List.mem_map.mp hp
    exact V.bin (p1 := .int v) (E.ty (T := "int") (V.bl g_int boot_int rfl rfl (by decide)) (Es.v (V.lo rfl) rfl (Es.nil (BltT.int ⟨rfl, rfl⟩)))) (V.bin V.int V.int (Bin.pow (by decide) (by decide) (by decide))) (Bin.mod (by decide))
  rintro ys η1 ⟨rfl, rfl⟩ _ d
  rw [map_mod]
  refine ⟨_, _, Sto.cel (c := c) (by rw [hcl]; rfl) (.tail .head) rfl, ?_⟩
  have hd := deck_ok ns
  generalize (ns.take 24).map (fun v => v.fmod 1000000000000000) = ds at hd
  clear hL hI hz
  refine (show R C [("script", .ref sA)] (deck d ds :: (c, HO.cell (some (.ref d))) :: []) _ _ from ?_)
  have hdk : ∀ {ρ : Rho} {η : Hp} {ps : Pos}, (c, HO.cell (some (.ref d))) ∈ η → V C ρ η (.Name "deck" ps) (.ref d) := fun h => V.ce (by show look2 _ C.cl _ = _; rw [hcl]; rfl) h
  refine' R.compA (cl := [(("deck" : Str), c)]) (Fin := fun ys η1 => ∃ ss ds', ys = intL ss ∧ (∀ y ∈ ss, Num y) ∧ DeckOk ds' ∧ η1 = deck d ds' :: (c, HO.cell (some (.ref d))) :: []) rfl ?cl2 rfl rfl (Cs.range (ER.range g_range rfl) (by decide)) (by show 6 ≤ 1000; decide) (CompGo.inv _ _ _ _ ⟨[], ds, rfl, (fun _ h => nomatch h), hd, rfl⟩ ?st2) ?hf2 (fun _ => rfl)
  case cl2 => show closureFor _ (envX C.cn _ C.L C.a C.ccd C.cl) = _; rw [hcl]; rfl
  case st2 =>
    rintro p hp ys η1 ⟨ss, ds', rfl, hss, hd', rfl⟩ C1 c1 c2 c3
    refine' E.fn i_law_number rfl (k := 2) (ps := [.ref d]) ?vs3 ?hk3 ((f_number d ds' hd').mono ?k3)
    case vs3 => exact .cons (V.ce (by show look2 _ C1.ccl _ = _; rw [c3]; rfl) (.tail _ (.head _))) rfl .nil
    case hk3 => rw [c2]; exact Nat.le_trans (by decide) hk
    rintro q η2 ⟨y, ds2, rfl, hy, hd2, rfl⟩
    refine ⟨ss ++ [y], ds2, by rw [intL_app]; rfl, fun z hz => ?_, hd2, rfl⟩
    rcases List.mem_append.mp hz with hz | hz
    · exact hss z hz
    · rw [List.mem_singleton.mp hz]; exact hy
  rintro ys η1 ⟨ss, ds1, rfl, hss, hd1, rfl⟩ hlen lm
  replace hlen : ss.length = 6 := by rw [List.length_map] at hlen; exact hlen
  obtain ⟨m0, m1, m2, m3, m4, m5, rfl⟩ := six_of hlen
  have n0 := hss m0 (by simp)
  have n1 := hss m1 (by simp)
  have n2 := hss m2 (by simp)
  have n3 := hss m3 (by simp)
  have n4 := hss m4 (by simp)
  have n5 := hss m5 (by simp)
  clear hss hlen hd
  refine (show R C [("m", .ref lm), ("script", .ref sA)] ((lm, HO.lst (intL [m0, m1, m2, m3, m4, m5])) :: deck d ds1 :: (c, HO.cell (some (.ref d))) :: []) _ _ from ?_)
  refine' R.assign (E.ty (T := "list") (V.bl g_list boot_list rfl rfl (by decide)) (Es.v (V.lo rfl) rfl (Es.nil (BltT.list (.head _) (by show 6 ≤ 1000; decide) fun lk => ⟨_, _, Sto.loc rfl, ?k4⟩)))) rfl
  refine R.perm (η' := deck d ds1 :: (lm, HO.lst (intL [m0, m1, m2, m3, m4, m5])) :: (lk, HO.lst (intL [m0, m1, m2, m3, m4, m5])) :: (c, HO.cell (some (.ref d))) :: []) ((List.perm_middle (l₁ := [(lk, _), (lm, _)])).trans (.cons _ (.swap _ _ _))) ?_
  refine' R.ifn (T.orf3 (T.nt (E.fn i_law_looks_right rfl (k := 4) (ps := [.ref d, .ref lm]) ?vs5 ?hk5 ((f_looks hd1 n0 n1 n2 n3 n4 n5).mono ?k5)) rfl))
  case vs5 => exact .cons (hdk (.tail _ (.tail _ (.tail _ (.head _))))) rfl (.cons (V.lo rfl) rfl .nil)
  case hk5 => exact Nat.le_trans (by decide) hk
  rintro p η' ⟨ds2, rfl, hd2, rfl⟩
  clear hd1
  refine' ⟨rfl, T.nt (E.fn i_law_made_right rfl (k := 4) (ps := [.ref d, .ref lm]) ?vs6 ?hk6 ((f_made hd2 n0 n1 n2 n3 n4 n5).mono ?k6)) rfl⟩
  case vs6 => exact .cons (hdk (.tail _ (.tail _ (.tail _ (.head _))))) rfl (.cons (V.lo rfl) rfl .nil)
  case hk6 => exact Nat.le_trans (by decide) hk
  rintro p η' ⟨ds3, rfl, hd3, rfl⟩
  clear hd2
  refine' ⟨rfl, T.nt (E.fnT i_law_between_right rfl (k := 4) (ps := [.ref d]) ?vs7 ?hk7 hout XB TB ((f_between_right hd3).mono ?k7)) rfl⟩
  case vs7 => exact .cons (hdk (.tail _ (.tail _ (.tail _ (.head _))))) rfl .nil
  case hk7 => exact Nat.le_trans (by decide) hk
  rintro p η' ⟨ds4, rfl, hd4, rfl⟩
  clear hd3
  refine ⟨rfl, R.perm (.swap _ _ _) ?_⟩
  have b_m0 : bits m0 ≤ 40 := Nat.le_trans n0.bits (by decide)
  have b_m1 : bits m1 ≤ 40 := Nat.le_trans n1.bits (by decide)
  have b_m2 : bits m2 ≤ 40 := Nat.le_trans n2.bits (by decide)
  have b_m3 : bits m3 ≤ 40 := Nat.le_trans n3.bits (by decide)
  have ab : ∀ {x : Int}, Num x → x.natAbs < 10 ^ 30 := fun h => by have := h.1; have := h.2; omega
  have hall : ∀ v ∈ [m0, m1, m2, m3, m4, m5], v.natAbs < 10 ^ 30 := by
    intro v hv
    simp only [List.mem_cons, List.not_mem_nil, or_false] at hv
    rcases hv with rfl | rfl | rfl | rfl | rfl | rfl <;> exact ab (by assumption)
  refine' R.ifn (T.orf (W.up (b := (byteArr (wr [m0, m1, m2, m3, m4, m5])).toList != (byteArr (wr [m0, m1, m2, m3, m4, m5])).toList) ?w8 ⟨by simp, T.cmpH (E.fn i_turns_of rfl (k := 3) (ps := [.ref lm]) ?vs9 ?hk9 ((f_turns (.head _) b_m0 b_m1 b_m2 b_m3).mono ?k9)) rfl⟩))
  case w8 => exact W.cmp (V.call (k := 3) i_matrix_octets rfl (.cons (V.lo rfl) rfl .nil) (Nat.le_trans (by decide) hk) (f_matrix_octets (ab n0) (ab n1) (ab n2) (ab n3) (ab n4) (ab n5))) (V.call (k := 1) i_law_written rfl (.cons (V.lo rfl) rfl .nil) (Nat.le_trans (by decide) hk) (f_written hall (by show 6 ≤ 100; decide))) Cmp.neY rfl
  case vs9 => exact .cons (V.lo rfl) rfl .nil
  case hk9 => exact Nat.le_trans (by decide) hk
  intro p1 η1 rq1
  refine' E.fn i_law_quarters rfl (k := 1) (ps := [.ref lm]) ?vs10 ?hk10 ((f_quarters (r := [m4, m5]) (rq1.sub.subset (.head _)) (by show 2 ≤ 900; decide) b_m0 b_m1 b_m2 b_m3).mono fun p2 η2 rq2 => ⟨false, CmpH.neQ rq1 rq2, rfl, R.sub (rq1.sub.trans rq2.sub) ?k10⟩)
  case vs10 => exact .cons (V.lo rfl) rfl .nil
  case hk10 => exact Nat.le_trans (by decide) hk
  clear rq1 rq2
  refine' R.compA (cl := [(("deck" : Str), c)]) (Fin := fun ys η1 => ∃ ss ds', ys = intL ss ∧ (∀ y ∈ ss, -3000000 ≤ y ∧ y ≤ 3000000) ∧ DeckOk ds' ∧ η1 = (lm, HO.lst (intL [m0, m1, m2, m3, m4, m5])) :: deck d ds' :: (lk, HO.lst (intL [m0, m1, m2, m3, m4, m5])) :: (c, HO.cell (some (.ref d))) :: []) rfl ?cl11 rfl rfl (Cs.range (ER.range g_range rfl) (by decide)) (by show 2 ≤ 1000; decide) (CompGo.inv _ _ _ _ ⟨[], ds4, rfl, (fun _ h => nomatch h), hd4, rfl⟩ ?st11) ?hf11 (fun _ => rfl)
  case cl11 => show closureFor _ (envX C.cn _ C.L C.a C.ccd C.cl) = _; rw [hcl]; rfl
  case st11 =>
    rintro p hp ys η1 ⟨ss, ds', rfl, hss, hd', rfl⟩ C1 c1 c2 c3
    refine' E.keep (E.item (E.mkL (ps := intL [1, 1000000, 3 * 1000000, 500000]) ?vs12 rfl fun l2 => E.fn i_law_draw rfl (k := 1) (ps := [.ref d, .int 4]) ?vs13 ?hk13 ((f_drawP [(l2, HO.lst (intL [1, 1000000, 3 * 1000000, 500000])), (lm, HO.lst (intL [m0, m1, m2, m3, m4, m5]))] [(lk, HO.lst (intL [m0, m1, m2, m3, m4, m5])), (c, HO.cell (some (.ref d)))] hd' (by decide) (by decide)).mono ?k13)) rfl)
    case vs12 => exact .cons V.int rfl (.cons (V.lone rfl) rfl (.cons (V.bin V.int (V.lone rfl) (Bin.mul (mulB (m := 2) (n := 20) (by decide) (by decide) rfl))) rfl (.cons V.int rfl .nil)))
    case vs13 => exact .cons (V.ce (by show look2 _ C1.ccl _ = _; rw [c3]; rfl) (.tail _ (.tail _ (.tail _ (.tail _ (.head _)))))) rfl (.cons V.int rfl .nil)
    case hk13 => rw [c2]; exact Nat.le_trans (by decide) hk
    rintro q η2 ⟨r, ds2, rfl, r0, r1, hd2, rfl⟩
    obtain ⟨y, hy, hy2⟩ : ∃ y, (intL [1, 1000000, 3 * 1000000, 500000])[r.toNat]? = some (.int y) ∧ (-3000000 ≤ y ∧ y ≤ 3000000) := by
      have hn : r.toNat < 4 := by omega
      generalize r.toNat = j at hn
      rcases (show j = 0 ∨ j = 1 ∨ j = 2 ∨ j = 3 by omega) with rfl | rfl | rfl | rfl <;> exact ⟨_, rfl, by decide⟩
    refine ⟨l2, intL [1, 1000000, 3 * 1000000, 500000], r, .int y, rfl, rfl, .lst (.head _), r0, by omega, hy, _, .cons _ (.refl _), ss ++ [y], ds2, by rw [intL_app]; rfl, fun z hz => ?_, hd2, rfl⟩
    rcases List.mem_append.mp hz with hz | hz
    · exact hss z hz
    · rw [List.mem_singleton.mp hz]; exact hy2
  rintro ys η1 ⟨ss, ds5, rfl, hss, hd5, rfl⟩ hlen lz
  replace hlen : ss.length = 2 := by rw [List.length_map] at hlen; exact hlen
  obtain ⟨z0, z1, rfl⟩ : ∃ a b, ss = [a, b] := by
    match ss, hlen with
    | [a, b], _ => exact ⟨a, b, rfl⟩
  have hz0 := hss z0 (by simp)
  have hz1 := hss z1 (by simp)
  clear hss hlen hd4
  refine (show R C [("sizes", .ref lz), ("kept", .ref lk), ("m", .ref lm), ("script", .ref sA)] ((lz, HO.lst (intL [z0, z1])) :: (lm, HO.lst (intL [m0, m1, m2, m3, m4, m5])) :: deck d ds5 :: (lk, HO.lst (intL [m0, m1, m2, m3, m4, m5])) :: (c, HO.cell (some (.ref d))) :: []) _ _ from ?_)
  refine' R.tupS ["turn", "side"] (E.tup (Es.x (E.fn i_law_draw rfl (k := 1) (ps := [.ref d, .int 4]) ?vs14 ?hk14 ((f_drawP [(lz, HO.lst (intL [z0, z1])), (lm, HO.lst (intL [m0, m1, m2, m3, m4, m5]))] [(lk, HO.lst (intL [m0, m1, m2, m3, m4, m5])), (c, HO.cell (some (.ref d)))] hd5 (by decide) (by decide)).mono ?k14)) rfl)) rfl rfl
  case vs14 => exact .cons (hdk (.tail _ (.tail _ (.tail _ (.tail _ (.head _)))))) rfl (.cons V.int rfl .nil)
  case hk14 => exact Nat.le_trans (by decide) hk
  rintro p η' ⟨tu, ds6, rfl, tu0, tu1, hd6, rfl⟩
  clear hd5
  refine' Es.x (E.item (E.mkL (ps := intL [1, -1]) ?vs15 rfl fun l2 => E.fn i_law_draw rfl (k := 1) (ps := [.ref d, .int 2]) ?vs16 ?hk16 ((f_drawP [(l2, HO.lst (intL [1, -1])), (lz, HO.lst (intL [z0, z1])), (lm, HO.lst (intL [m0, m1, m2, m3, m4, m5]))] [(lk, HO.lst (intL [m0, m1, m2, m3, m4, m5])), (c, HO.cell (some (.ref d)))] hd6 (by decide) (by decide)).mono ?k16)) rfl) rfl
  case vs15 => exact .cons V.int rfl (.cons (V.una V.int Una.neg) rfl .nil)
  case vs16 => exact .cons (hdk (.tail _ (.tail _ (.tail _ (.tail _ (.tail _ (.head _))))))) rfl (.cons V.int rfl .nil)
  case hk16 => exact Nat.le_trans (by decide) hk
  rintro p η' ⟨r, ds7, rfl, r0, r1, hd7, rfl⟩
  clear hd6
  obtain ⟨sd, hsd, hsd2⟩ : ∃ y, (intL [1, -1])[r.toNat]? = some (.int y) ∧ (y = 1 ∨ y = -1) := by
    have hn : r.toNat < 2 := by omega
    generalize r.toNat = j at hn
    rcases (show j = 0 ∨ j = 1 by omega) with rfl | rfl <;> exact ⟨_, rfl, by decide⟩
  refine ⟨l2, intL [1, -1], r, .int sd, rfl, rfl, .lst (.head _), r0, by omega, hsd, Es.nil ⟨by show 2 ≤ 1000; decide, fun t => ⟨_, _, rfl, .head _, rfl, _, _, .cons (Sto.loc rfl) (.cons (Sto.loc rfl) .nil), R.drop (R.drop ?_)⟩⟩⟩
  clear hsd r0 r1
  refine (show R C [("turn", .int tu), ("side", .int sd), ("sizes", .ref lz), ("kept", .ref lk), ("m", .ref lm), ("script", .ref sA)] ((lz, HO.lst (intL [z0, z1])) :: (lm, HO.lst (intL [m0, m1, m2, m3, m4, m5])) :: deck d ds7 :: (lk, HO.lst (intL [m0, m1, m2, m3, m4, m5])) :: (c, HO.cell (some (.ref d))) :: []) _ _ from ?_)
  obtain ⟨y1, hy1, hy1'⟩ : ∃ y, (intL [1, -1, -1, 1])[tu.toNat]? = some (.int y) ∧ (y = 1 ∨ y = -1) := by
    have hn : tu.toNat < 4 := by omega
    generalize tu.toNat = j at hn
    rcases (show j = 0 ∨ j = 1 ∨ j = 2 ∨ j = 3 by omega) with rfl | rfl | rfl | rfl <;> exact ⟨_, rfl, by decide⟩
  obtain ⟨y2, hy2, hy2'⟩ : ∃ y, (intL [1, 1, -1, -1])[tu.toNat]? = some (.int y) ∧ (y = 1 ∨ y = -1) := by
    have hn : tu.toNat < 4 := by omega
    generalize tu.toNat = j at hn
    rcases (show j = 0 ∨ j = 1 ∨ j = 2 ∨ j = 3 by omega) with rfl | rfl | rfl | rfl <;> exact ⟨_, rfl, by decide⟩
  have b_y1 : bits y1 ≤ 1 := by rcases hy1' with rfl | rfl <;> decide
  have b_y2 : bits y2 ≤ 1 := by rcases hy2' with rfl | rfl <;> decide
  have b_sd : bits sd ≤ 1 := by rcases hsd2 with rfl | rfl <;> decide
  have b_z0 : bits z0 ≤ 40 := bits_of_abs (by omega)
  have b_z1 : bits z1 ≤ 40 := bits_of_abs (by omega)
  have hfi : -3000000 ≤ y1 * sd * z0 ∧ y1 * sd * z0 ≤ 3000000 := by rcases hy1' with rfl | rfl <;> rcases hsd2 with rfl | rfl <;> omega
  have hla : -3000000 ≤ y2 * z1 ∧ y2 * z1 ≤ 3000000 := by rcases hy2' with rfl | rfl <;> omega
  refine' R.tupS ["first", "last"] (E.tup (Es.x (E.bin (E.bin (E.item (E.mkL (ps := intL [1, -1, -1, 1]) ?vs17 rfl fun l3 => V.up (p := .int tu) (V.lo rfl) ⟨l3, intL [1, -1, -1, 1], tu, .int y1, rfl, rfl, .lst (.head _), tu0, by omega, hy1, ?k17⟩) rfl))) rfl)) rfl rfl
  case vs17 => exact .cons V.int rfl (.cons (V.una V.int Una.neg) rfl (.cons (V.una V.int Una.neg) rfl (.cons V.int rfl .nil)))
  refine' V.up (p := .int sd) (V.lo rfl) ⟨_, Bin.mul (mulB b_y1 b_sd rfl), V.up (p := .int z0) (V.itc (V.lo rfl) (.lst (.tail _ (.head _))) rfl) ⟨_, Bin.mul (mulB (m := 2) (PyProof.Rows.bits_mul b_y1 b_sd) b_z0 rfl), Es.x (E.bin (E.item (E.mkL (ps := intL [1, 1, -1, -1]) ?vs18 rfl fun l4 => V.up (p := .int tu) (V.lo rfl) ⟨l4, intL [1, 1, -1, -1], tu, .int y2, rfl, rfl, .lst (.head _), tu0, by omega, hy2, ?k18⟩) rfl)) rfl⟩⟩
  case vs18 => exact .cons V.int rfl (.cons V.int rfl (.cons (V.una V.int Una.neg) rfl (.cons (V.una V.int Una.neg) rfl .nil)))
  refine V.up (p := .int z1) (V.itc (V.lo rfl) (.lst (.tail _ (.tail _ (.head _)))) rfl) ⟨_, Bin.mul (mulB b_y2 b_z1 rfl), Es.nil ⟨by show 2 ≤ 1000; decide, fun t => ⟨_, _, rfl, .head _, rfl, _, _, .cons (Sto.loc rfl) (.cons (Sto.loc rfl) .nil), R.drop (R.drop (R.drop ?_))⟩⟩⟩
  generalize y1 * sd * z0 = fi at *
  generalize y2 * z1 = la at *
  clear hy1 hy2 hy1' hy2' b_y1 b_y2 b_sd b_z0 b_z1
  refine' R.asIfL (b := tu.fmod 2 == 0) (A := [fi, 0, 0, la]) (B := [0, -fi, -la, 0]) ?w19 ?vs19 ?vs20 (Nat.le_of_ble_eq_true rfl) (Nat.le_of_ble_eq_true rfl) rfl rfl (fun lu => ?k19)
  case w19 => exact W.cmp (V.bin (V.lo rfl) V.int (Bin.mod (by decide))) V.int Cmp.eq rfl
  case vs19 => exact .cons (V.lo rfl) rfl (.cons V.int rfl (.cons V.int rfl (.cons (V.lo rfl) rfl .nil)))
  case vs20 => exact .cons V.int rfl (.cons (V.una (V.lo rfl) Una.neg) rfl (.cons (V.una (V.lo rfl) Una.neg) rfl (.cons V.int rfl .nil)))
  obtain ⟨u0, u1, u2, u3, hU⟩ := four_of (P := if (tu.fmod 2 == 0) = true then [fi, 0, 0, la] else [0, -fi, -la, 0]) (by split <;> rfl)
  have hUb : ∀ u ∈ (if (tu.fmod 2 == 0) = true then [fi, 0, 0, la] else [0, -fi, -la, 0]), bits u ≤ 40 := by
    intro u hu
    have hu' : -3000000 ≤ u ∧ u ≤ 3000000 := by
      split at hu <;> simp only [List.mem_cons, List.not_mem_nil, or_false] at hu <;> rcases hu with rfl | rfl | rfl | rfl <;> omega
    exact bits_of_abs (by omega)
  rw [hU] at hUb ⊢
  have b_u0 := hUb u0 (by simp)
  have b_u1 := hUb u1 (by simp)
  have b_u2 := hUb u2 (by simp)
  have b_u3 := hUb u3 (by simp)
  clear hUb hU
  refine' R.ifn (T.cmpH (E.fnE i_turns_of rfl rfl (k := 3) ?hk21 (Es.x (E.addL (V.up (p := .ref lu) (V.lo rfl) (EM.toE (EM.sliceFrom (a := lm) (xs := intL [m0, m1, m2, m3, m4, m5]) (k := 4) rfl (.tail _ (.tail _ (.head _))) rfl (by show 4 ≤ 6; decide) (by show 6 ≤ 1000; decide) fun l5 => ⟨lu, l5, [u0, u1, u2, u3], [m4, m5], rfl, rfl, .tail _ (.head _), .head _, by show 6 ≤ 1000; decide, fun l6 => Es.nil ?c21⟩)))) rfl)) rfl)
  case hk21 => exact Nat.le_trans (by decide) hk
  refine' (f_turns (m4 := m4) (m5 := m5) (.head _) b_u0 b_u1 b_u2 b_u3).mono fun p1 η1 rq1 => E.fn i_law_quarters rfl (k := 1) (ps := [.ref lu]) ?vs22 ?hk22 ((f_quarters (r := []) (rq1.sub.subset (.tail _ (.tail _ (.head _)))) (by show 0 ≤ 900; decide) b_u0 b_u1 b_u2 b_u3).mono fun p2 η2 rq2 => ⟨false, CmpH.neQ rq1 rq2, rfl, R.sub (rq1.sub.trans rq2.sub) ?k22⟩)
  case vs22 => exact .cons (V.lo rfl) rfl .nil
  case hk22 => exact Nat.le_trans (by decide) hk
  clear rq1 rq2
  exact R.ret (E.cmpH (V.up (p := .ref lm) (V.lo rfl) (V.up (p := .ref lk) (V.lo rfl) ⟨_, CmpH.eqL (ns := [m0, m1, m2, m3, m4, m5]) (ms := [m0, m1, m2, m3, m4, m5]) (.tail _ (.tail _ (.tail _ (.tail _ (.head _))))) (.tail _ (.tail _ (.tail _ (.tail _ (.tail _ (.tail _ (.head _))))))), by simp⟩)) rfl)
end Mine
end
section
open PySem PySem.W PyProof.Rows PySem.Calls
set_option Elab.async false
set_option linter.unusedVariables false
set_option maxRecDepth 100000
set_option maxHeartbeats 4000000
namespace Mine
theorem warm_F21 : PySem.Challenge.rw_pb0513_01.Holds → kK = kK := by
  k_fill
  intro _; rfl
theorem law_top {w : World} {s₀ s₁ : Shared} {mg mb : Str → Option Value} {fa : Addr} {ccd : Value} (KX : (kK w.params).In s₁.heap) (T : TopIs (ExcName.means s₀.heap) mg mb s₁.heap) {sA : Addr} {vs : List Value} {ns : List Int} (hL : s₁.heap.IsList sA vs.toArray) (hI : IntsAre vs ns) (hz : ns.length ≤ 1000)
    {h₁ : Heap} {tk : Nat} {m : Str → Option Value} {o : Obj} (F : Fr s₁.heap s₁.heap.objs.size h₁ m) (hm : m "script" = some (.ref sA)) (N0 : News s₁.heap s₁.heap.objs.size h₁ [(s₁.heap.objs.size + 1, o)]) (ho : o.data = .cell none) {Q : Flow → Shared → Prop} {E : Value → Shared → Prop}
    (hQ : ∀ h' tk' m', Fr s₁.heap s₁.heap.objs.size h' m' → Q (.ret (.bool true)) ⟨h', s₁.gens, s₁.drawn, tk', s₁.os⟩) :
    wpAny (model PySem.Challenge.rw_pb0513_01.row.prog w) (callerA.deeper (envOfC kLaw.name kLaw.scope s₁.heap.objs.size fa ccd)) (execs kLaw.body (envOfC kLaw.name kLaw.scope s₁.heap.objs.size fa ccd)) Q E ⟨h₁, s₁.gens, s₁.drawn, tk, s₁.os⟩ := by
  have H := f_law (sA := sA) (⟨w, ExcName.means s₀.heap, mg, mb, callerA.depth + 1, callerA.units + 3, 8, callerA.guards, kLaw.name, fa, ccd, cellsFrom (s₁.heap.objs.size + 1) kLaw.scope.names [], [], callerA, s₁.heap, s₁.heap, s₁.heap.objs.size, [], 0, [], fun _ => none, fun _ => none⟩ : Ctx (.fn kLaw.scope)) (s₁.heap.objs.size + 1)
    ⟨rfl, KX, T, by show 5 ≤ 8; decide, rfl, vs, ns, hL, hI, hz⟩
  refine H ⟨below_caller _, KX, T, rfl, by show callerA.depth + 1 + 8 < recursionLimit; decide, by show callerA.units + 3 + 8 * 8 + 70 < cLine; decide, trivial⟩ ⟨h₁, s₁.gens, s₁.drawn, tk, s₁.os⟩ Q E ⟨m, [(s₁.heap.objs.size + 1, o)], F, N0, ⟨trivial, fun x p e => ?_⟩, .cons ho .nil, ?_⟩ (fun f fl ρ' η' h' tk' hf i st' => ?_)
  · rw [List.lookup_cons] at e
    by_cases hx : x = "script"
    · subst hx
      simp at e
      subst e
      exact ⟨_, hm, rfl⟩
    · rw [show (x == ("script" : Str)) = false from beq_eq_false_iff_ne.mpr hx] at e
      cases e
  · exact List.nodup_cons.mpr ⟨List.not_mem_nil, .nil⟩
  · subst hf
    obtain ⟨v, rfl, i⟩ := i
    obtain rfl : v = .bool true := i
    obtain ⟨m', news', F', _⟩ := st'
    exact hQ h' tk' m' F'
theorem law_holds : PySem.Challenge.rw_pb0513_01.Holds := kTop (by
  intro w s₀ s₁ mg mb G Y fa o pm cd doc dV kV ho hd hcd hD hmg hg args vals as hpre hlay hrd hwl hlo
  have KX := kIn_of Y
  k_behind G ho hd hcd hD hmg hpre hlay hrd hwl hlo cd
  rename_i h₁ tk₁ F oc hoc N0 X0
  refine law_top KX (by assumption) (by assumption) (by assumption) (by omega) F (by rfl) N0 (by rw [hoc]; rfl) fun h' tk' m' F' => ?_
  refine goodW_bool F' hg (fun _ => rfl) ?_
  first | rfl | wrow_post)
end Mine
end
theorem PySem.Challenge.cw_pb0513_01_holds : PySem.Challenge.rw_pb0513_01.Holds :=
  Mine.law_holds
