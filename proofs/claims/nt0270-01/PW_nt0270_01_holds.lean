import PyProof.Rows.All
import Wide.All
import OpenK.AllK
import Wide.FinOn
import PySem.Challenge.RW_nt0270_01
open PySem PySem.W PyProof.Rows
set_option Elab.async false
set_option maxRecDepth 100000
set_option maxHeartbeats 20000000
set_option linter.unusedVariables false
namespace Mine
section
/-! the head by hand: the heap behind the program's top (its functions' texts found in the program by unification), the view, the run by the kernel -/
noncomputable def hd.heap_39 : Params → Frag := (fun {zz0 : Stmt} {zz1 : Stmt} {zz2 : Stmt} {zz3 : Stmt} {cn4 cv4 : Str} {cb4 cd4 : List Expr} {ck4 : List Keyword} {ct4 : List TypeParam} {cs4 : Scope} {cu4 : Option Scope} {cw4 : List Str} {cp4 : Pos} {zi5_0 : Stmt} {cn5 cv5 : Str} {cb5 cd5 : List Expr} {ck5 : List Keyword} {ct5 : List TypeParam} {cs5 : Scope} {cu5 : Option Scope} {cw5 : List Str} {cp5 : Pos} {cn12 cv12 : Str} {cb12 cd12 : List Expr} {ck12 : List Keyword} {ct12 : List TypeParam} {cs12 : Scope} {cu12 : Option Scope} {cw12 : List Str} {cp12 : Pos} {cn14 cv14 : Str} {cb14 cd14 : List Expr} {ck14 : List Keyword} {ct14 : List TypeParam} {cs14 : Scope} {cu14 : Option Scope} {cw14 : List Str} {cp14 : Pos} {cn15 cv15 : Str} {cb15 cd15 : List Expr} {ck15 : List Keyword} {ct15 : List TypeParam} {cs15 : Scope} {cu15 : Option Scope} {cw15 : List Str} {cp15 : Pos} {zz16 : Stmt} {nn0 nn1 nn2 nn3 nn4 nn5 nn6 nn7 nn8 nn9 nn10 nn11 nn12 nn13 nn14 nn15 nn16 nn17 nn18 nn19 nn20 nn21 nn22 nn23 nn24 vv0 vv1 vv2 vv3 vv4 vv5 vv6 vv7 vv8 vv9 vv10 vv11 vv12 vv13 vv14 vv15 vv16 vv17 vv18 vv19 vv20 vv21 vv22 vv23 vv24 : Str} {aa0 aa1 aa2 aa3 aa4 aa5 aa6 aa7 aa8 aa9 aa10 aa11 aa12 aa13 aa14 aa15 aa16 aa17 aa18 aa19 aa20 aa21 aa22 aa23 aa24 : Arguments} {bb0 bb1 bb2 bb3 bb4 bb5 bb6 bb7 bb8 bb9 bb10 bb11 bb12 bb13 bb14 bb15 bb16 bb17 bb18 bb19 bb20 bb21 bb22 bb23 bb24 : List Stmt} {dd0 dd1 dd2 dd3 dd4 dd5 dd6 dd7 dd8 dd9 dd10 dd11 dd12 dd13 dd14 dd15 dd16 dd17 dd18 dd19 dd20 dd21 dd22 dd23 dd24 : List Expr} {rr0 rr1 rr2 rr3 rr4 rr5 rr6 rr7 rr8 rr9 rr10 rr11 rr12 rr13 rr14 rr15 rr16 rr17 rr18 rr19 rr20 rr21 rr22 rr23 rr24 : Option Expr} {tt0 tt1 tt2 tt3 tt4 tt5 tt6 tt7 tt8 tt9 tt10 tt11 tt12 tt13 tt14 tt15 tt16 tt17 tt18 tt19 tt20 tt21 tt22 tt23 tt24 : List TypeParam} {ss0 ss1 ss2 ss3 ss4 ss5 ss6 ss7 ss8 ss9 ss10 ss11 ss12 ss13 ss14 ss15 ss16 ss17 ss18 ss19 ss20 ss21 ss22 ss23 ss24 : Scope} {uu0 uu1 uu2 uu3 uu4 uu5 uu6 uu7 uu8 uu9 uu10 uu11 uu12 uu13 uu14 uu15 uu16 uu17 uu18 uu19 uu20 uu21 uu22 uu23 uu24 : Option Scope} {pp0 pp1 pp2 pp3 pp4 pp5 pp6 pp7 pp8 pp9 pp10 pp11 pp12 pp13 pp14 pp15 pp16 pp17 pp18 pp19 pp20 pp21 pp22 pp23 pp24 : Pos}
    (_h : PySem.Challenge.pw_nt0270_01.main.body = [zz0,
    zz1,
    zz2,
    zz3,
    .ClassDef cn4 cb4 ck4 [.FunctionDef nn0 aa0 bb0 dd0 rr0 tt0 ss0 uu0 vv0 pp0] cd4 ct4 cs4 cu4 cv4 cw4 cp4,
    .ClassDef cn5 cb5 ck5 [zi5_0] cd5 ct5 cs5 cu5 cv5 cw5 cp5,
    .FunctionDef nn1 aa1 bb1 dd1 rr1 tt1 ss1 uu1 vv1 pp1,
    .FunctionDef nn2 aa2 bb2 dd2 rr2 tt2 ss2 uu2 vv2 pp2,
    .FunctionDef nn3 aa3 bb3 dd3 rr3 tt3 ss3 uu3 vv3 pp3,
    .FunctionDef nn4 aa4 bb4 dd4 rr4 tt4 ss4 uu4 vv4 pp4,
    .FunctionDef nn5 aa5 bb5 dd5 rr5 tt5 ss5 uu5 vv5 pp5,
    .FunctionDef nn6 aa6 bb6 dd6 rr6 tt6 ss6 uu6 vv6 pp6,
    .ClassDef cn12 cb12 ck12 [.FunctionDef nn7 aa7 bb7 dd7 rr7 tt7 ss7 uu7 vv7 pp7, .FunctionDef nn8 aa8 bb8 dd8 rr8 tt8 ss8 uu8 vv8 pp8] cd12 ct12 cs12 cu12 cv12 cw12 cp12,
    .FunctionDef nn9 aa9 bb9 dd9 rr9 tt9 ss9 uu9 vv9 pp9,
    .ClassDef cn14 cb14 ck14 [.FunctionDef nn10 aa10 bb10 dd10 rr10 tt10 ss10 uu10 vv10 pp10, .FunctionDef nn11 aa11 bb11 dd11 rr11 tt11 ss11 uu11 vv11 pp11, .FunctionDef nn12 aa12 bb12 dd12 rr12 tt12 ss12 uu12 vv12 pp12, .FunctionDef nn13 aa13 bb13 dd13 rr13 tt13 ss13 uu13 vv13 pp13, .FunctionDef nn14 aa14 bb14 dd14 rr14 tt14 ss14 uu14 vv14 pp14] cd14 ct14 cs14 cu14 cv14 cw14 cp14,
    .ClassDef cn15 cb15 ck15 [.FunctionDef nn15 aa15 bb15 dd15 rr15 tt15 ss15 uu15 vv15 pp15, .FunctionDef nn16 aa16 bb16 dd16 rr16 tt16 ss16 uu16 vv16 pp16] cd15 ct15 cs15 cu15 cv15 cw15 cp15,
    zz16,
    .FunctionDef nn17 aa17 bb17 dd17 rr17 tt17 ss17 uu17 vv17 pp17,
    .FunctionDef nn18 aa18 bb18 dd18 rr18 tt18 ss18 uu18 vv18 pp18,
    .FunctionDef nn19 aa19 bb19 dd19 rr19 tt19 ss19 uu19 vv19 pp19,
    .FunctionDef nn20 aa20 bb20 dd20 rr20 tt20 ss20 uu20 vv20 pp20,
    .FunctionDef nn21 aa21 bb21 dd21 rr21 tt21 ss21 uu21 vv21 pp21,
    .FunctionDef nn22 aa22 bb22 dd22 rr22 tt22 ss22 uu22 vv22 pp22,
    .FunctionDef nn23 aa23 bb23 dd23 rr23 tt23 ss23 uu23 vv23 pp23,
    .FunctionDef nn24 aa24 bb24 dd24 rr24 tt24 ss24 uu24 vv24 pp24]) => (fun P => ((nat_lit 2), ({ cls := PySem.Value.none, data := PySem.Data.dict #[{ hash := PySem.PyData.keyHash P (PySem.Str.ofString "type.__subclasses__.Exception.0"), key := PySem.Value.str (PySem.Str.ofString "type.__subclasses__.Exception.0") 221, val := PySem.Value.int 32 0 }, { hash := PySem.PyData.keyHash P (PySem.Str.ofString "type.__subclasses__.Exception.n"), key := PySem.Value.str (PySem.Str.ofString "type.__subclasses__.Exception.n") 222, val := PySem.Value.int 1 0 }] 2 })) ::
  ((nat_lit 3), ({ cls := PySem.Value.type "dict", data := PySem.Data.dict #[{ hash := PySem.PyData.keyHash P (PySem.Str.ofString "__name__"), key := PySem.Value.str (PySem.Str.ofString "__name__") 165, val := PySem.Value.str (PySem.Str.ofString "law_nt0270_01") 438 }, { hash := PySem.PyData.keyHash P (PySem.Str.ofString "__doc__"), key := PySem.Value.str (PySem.Str.ofString "__doc__") 166, val := PySem.Value.none }, { hash := PySem.PyData.keyHash P (PySem.Str.ofString "__package__"), key := PySem.Value.str (PySem.Str.ofString "__package__") 167, val := PySem.Value.none }, { hash := PySem.PyData.keyHash P (PySem.Str.ofString "__loader__"), key := PySem.Value.str (PySem.Str.ofString "__loader__") 168, val := PySem.Value.builtin "__main__.__loader__#opaque" }, { hash := PySem.PyData.keyHash P (PySem.Str.ofString "__spec__"), key := PySem.Value.str (PySem.Str.ofString "__spec__") 169, val := PySem.Value.none }, { hash := PySem.PyData.keyHash P (PySem.Str.ofString "__annotations__"), key := PySem.Value.str (PySem.Str.ofString "__annotations__") 170, val := PySem.Value.ref 6 }, { hash := PySem.PyData.keyHash P (PySem.Str.ofString "__builtins__"), key := PySem.Value.str (PySem.Str.ofString "__builtins__") 171, val := PySem.Value.ref 4 }, { hash := PySem.PyData.keyHash P (PySem.Str.ofString "__file__"), key := PySem.Value.str (PySem.Str.ofString "__file__") 173, val := PySem.Value.str (PySem.Str.ofString "/claim/cut.py") 172 }, { hash := PySem.PyData.keyHash P (PySem.Str.ofString "__cached__"), key := PySem.Value.str (PySem.Str.ofString "__cached__") 174, val := PySem.Value.none }, { hash := PySem.PyData.keyHash P (PySem.Str.ofString "ADLER_BASE"), key := PySem.Value.str (PySem.Str.ofString "ADLER_BASE") 190, val := PySem.Value.int 65521 189 }, { hash := PySem.PyData.keyHash P (PySem.Str.ofString "CRC_POLYNOMIAL"), key := PySem.Value.str (PySem.Str.ofString "CRC_POLYNOMIAL") 192, val := PySem.Value.int 3988292384 191 }, { hash := PySem.PyData.keyHash P (PySem.Str.ofString "WORD"), key := PySem.Value.str (PySem.Str.ofString "WORD") 194, val := PySem.Value.int 4294967295 193 }, { hash := PySem.PyData.keyHash P (PySem.Str.ofString "GitError"), key := PySem.Value.str (PySem.Str.ofString "GitError") 224, val := PySem.Value.ref 32 }, { hash := PySem.PyData.keyHash P (PySem.Str.ofString "BadObject"), key := PySem.Value.str (PySem.Str.ofString "BadObject") 240, val := PySem.Value.ref 45 }, { hash := PySem.PyData.keyHash P (PySem.Str.ofString "big_endian"), key := PySem.Value.str (PySem.Str.ofString "big_endian") 246, val := PySem.Value.ref 52 }, { hash := PySem.PyData.keyHash P (PySem.Str.ofString "be32"), key := PySem.Value.str (PySem.Str.ofString "be32") 253, val := PySem.Value.ref 59 }, { hash := PySem.PyData.keyHash P (PySem.Str.ofString "be64"), key := PySem.Value.str (PySem.Str.ofString "be64") 260, val := PySem.Value.ref 66 }, { hash := PySem.PyData.keyHash P (PySem.Str.ofString "at_big_endian"), key := PySem.Value.str (PySem.Str.ofString "at_big_endian") 271, val := PySem.Value.ref 73 }, { hash := PySem.PyData.keyHash P (PySem.Str.ofString "at_be32"), key := PySem.Value.str (PySem.Str.ofString "at_be32") 279, val := PySem.Value.ref 80 }, { hash := PySem.PyData.keyHash P (PySem.Str.ofString "adler32"), key := PySem.Value.str (PySem.Str.ofString "adler32") 291, val := PySem.Value.ref 88 }, { hash := PySem.PyData.keyHash P (PySem.Str.ofString "Crc32"), key := PySem.Value.str (PySem.Str.ofString "Crc32") 334, val := PySem.Value.ref 113 }, { hash := PySem.PyData.keyHash P (PySem.Str.ofString "turned_left"), key := PySem.Value.str (PySem.Str.ofString "turned_left") 342, val := PySem.Value.ref 124 }, { hash := PySem.PyData.keyHash P (PySem.Str.ofString "Sha1"), key := PySem.Value.str (PySem.Str.ofString "Sha1") 397, val := PySem.Value.ref 163 }, { hash := PySem.PyData.keyHash P (PySem.Str.ofString "CountingHasher"), key := PySem.Value.str (PySem.Str.ofString "CountingHasher") 437, val := PySem.Value.ref 192 }, { hash := PySem.PyData.keyHash P (PySem.Str.ofString "_law_deck"), key := PySem.Value.str (PySem.Str.ofString "_law_deck") 445, val := PySem.Value.ref 201 }, { hash := PySem.PyData.keyHash P (PySem.Str.ofString "_law_draw"), key := PySem.Value.str (PySem.Str.ofString "_law_draw") 453, val := PySem.Value.ref 208 }, { hash := PySem.PyData.keyHash P (PySem.Str.ofString "_law_octets"), key := PySem.Value.str (PySem.Str.ofString "_law_octets") 459, val := PySem.Value.ref 213 }, { hash := PySem.PyData.keyHash P (PySem.Str.ofString "_law_turned"), key := PySem.Value.str (PySem.Str.ofString "_law_turned") 467, val := PySem.Value.ref 220 }, { hash := PySem.PyData.keyHash P (PySem.Str.ofString "_law_sha"), key := PySem.Value.str (PySem.Str.ofString "_law_sha") 473, val := PySem.Value.ref 225 }, { hash := PySem.PyData.keyHash P (PySem.Str.ofString "_law_crc"), key := PySem.Value.str (PySem.Str.ofString "_law_crc") 479, val := PySem.Value.ref 230 }, { hash := PySem.PyData.keyHash P (PySem.Str.ofString "_law_sums"), key := PySem.Value.str (PySem.Str.ofString "_law_sums") 485, val := PySem.Value.ref 235 }, { hash := PySem.PyData.keyHash P (PySem.Str.ofString "law"), key := PySem.Value.str (PySem.Str.ofString "law") 502, val := PySem.Value.ref 242 }] 32 })) ::
  ((nat_lit 15), ({ cls := PySem.Value.type "tuple", data := PySem.Data.seq #[PySem.Value.type "Exception"] })) ::
  ((nat_lit 22), ({ cls := PySem.Value.type "tuple", data := PySem.Data.seq #[PySem.Value.str (PySem.Str.ofString "") 207] })) ::
  ((nat_lit 23), ({ cls := PySem.Value.type "tuple", data := PySem.Data.seq #[] })) ::
  ((nat_lit 25), ({ cls := PySem.Value.type "tuple", data := PySem.Data.seq #[PySem.Value.str (PySem.Str.ofString "self") 211, PySem.Value.str (PySem.Str.ofString "told") 212] })) ::
  ((nat_lit 26), ({ cls := PySem.Value.type "tuple", data := PySem.Data.seq #[] })) ::
  ((nat_lit 28), ({ cls := PySem.Value.type "code", data := PySem.Data.fields #[PySem.Value.str (PySem.Str.ofString "__init__") 208, PySem.Value.str (PySem.Str.ofString "GitError.__init__") 209, PySem.Value.str (PySem.Str.ofString "/claim/cut.py") 210, PySem.Value.int 7 0, PySem.Value.int 2 0, PySem.Value.int 0 0, PySem.Value.int 0 0, PySem.Value.int 3 0, PySem.Value.ref 23, PySem.Value.bool Bool.true, PySem.Value.int 181 0, PySem.Value.ref 24, PySem.Value.none, PySem.Value.ref 25, PySem.Value.ref 26, PySem.Value.ref 27, PySem.Value.int 213 0, PySem.Value.int 7 0, PySem.Value.str (PySem.Str.ofString "/claim/cut.py") 214] })) ::
  ((nat_lit 29), { cls := (PySem.Value.type "function"), dict := (Option.none), data := .func { name := (PySem.Str.ofString "__init__"), qualname := (PySem.Str.ofString "GitError.__init__"), params := aa0, body := .stmts bb0, scope := ss0, globals := (3), closure := ([]), defaults := (PySem.Value.ref 22), kwdefaults := (PySem.Value.none), doc := (PySem.Value.none), pyModule := (PySem.Value.str (PySem.Str.ofString "gitcore.base") 187), annotations := (Option.none), code := (PySem.Value.ref 28), closureTuple := (PySem.Value.none), builtins := (0) }, slots := (#[]) }) ::
  ((nat_lit 30), ({ cls := PySem.Value.type "tuple", data := PySem.Data.seq #[PySem.Value.str (PySem.Str.ofString "told") 216] })) ::
  ((nat_lit 31), ({ cls := PySem.Value.type "dict", data := PySem.Data.dict #[{ hash := PySem.PyData.keyHash P (PySem.Str.ofString "__module__"), key := PySem.Value.str (PySem.Str.ofString "__module__") 202, val := PySem.Value.str (PySem.Str.ofString "gitcore.base") 187 }, { hash := PySem.PyData.keyHash P (PySem.Str.ofString "__firstlineno__"), key := PySem.Value.str (PySem.Str.ofString "__firstlineno__") 206, val := PySem.Value.int 5 205 }, { hash := PySem.PyData.keyHash P (PySem.Str.ofString "__init__"), key := PySem.Value.str (PySem.Str.ofString "__init__") 215, val := PySem.Value.ref 29 }, { hash := PySem.PyData.keyHash P (PySem.Str.ofString "__static_attributes__"), key := PySem.Value.str (PySem.Str.ofString "__static_attributes__") 217, val := PySem.Value.ref 30 }, { hash := PySem.PyData.keyHash P (PySem.Str.ofString "__weakref__"), key := PySem.Value.str (PySem.Str.ofString "__weakref__") 219, val := PySem.Value.ref 33 }, { hash := PySem.PyData.keyHash P (PySem.Str.ofString "__doc__"), key := PySem.Value.str (PySem.Str.ofString "__doc__") 220, val := PySem.Value.none }] 3 })) ::
  ((nat_lit 32), ({ cls := PySem.Value.type "type", data := PySem.Data.cls { name := PySem.Str.ofString "GitError", bases := [PySem.Value.type "Exception"], mro := [PySem.Value.ref 32, PySem.Value.type "Exception", PySem.Value.type "BaseException", PySem.Value.type "object"], ns := 31, qualname := PySem.Str.ofString "GitError", subclasses := [PySem.Value.ref 45] }, slots := #[Option.some (PySem.Value.ref 15), Option.none, Option.some (PySem.Value.str (PySem.Str.ofString "GitError") 195), Option.some (PySem.Value.str (PySem.Str.ofString "GitError") 203), Option.some (PySem.Value.builtin "Exception.__new__"), Option.some (PySem.Value.bool Bool.true)] })) ::
  ((nat_lit 33), ({ cls := PySem.Value.type "getset_descriptor", data := PySem.Data.fields #[PySem.Value.str (PySem.Str.ofString "__weakref__") 218, PySem.Value.ref 32, PySem.Value.builtin "ExceptionGroup.__weakref__", PySem.Value.none] })) ::
  ((nat_lit 36), ({ cls := PySem.Value.type "tuple", data := PySem.Data.seq #[PySem.Value.ref 32] })) ::
  ((nat_lit 43), ({ cls := PySem.Value.type "tuple", data := PySem.Data.seq #[] })) ::
  ((nat_lit 44), ({ cls := PySem.Value.type "dict", data := PySem.Data.dict #[{ hash := PySem.PyData.keyHash P (PySem.Str.ofString "__module__"), key := PySem.Value.str (PySem.Str.ofString "__module__") 232, val := PySem.Value.str (PySem.Str.ofString "gitcore.base") 187 }, { hash := PySem.PyData.keyHash P (PySem.Str.ofString "__firstlineno__"), key := PySem.Value.str (PySem.Str.ofString "__firstlineno__") 236, val := PySem.Value.int 9 235 }, { hash := PySem.PyData.keyHash P (PySem.Str.ofString "__static_attributes__"), key := PySem.Value.str (PySem.Str.ofString "__static_attributes__") 237, val := PySem.Value.ref 43 }, { hash := PySem.PyData.keyHash P (PySem.Str.ofString "__doc__"), key := PySem.Value.str (PySem.Str.ofString "__doc__") 238, val := PySem.Value.none }] 2 })) ::
  ((nat_lit 45), ({ cls := PySem.Value.type "type", data := PySem.Data.cls { name := PySem.Str.ofString "BadObject", bases := [PySem.Value.ref 32], mro := [PySem.Value.ref 45, PySem.Value.ref 32, PySem.Value.type "Exception", PySem.Value.type "BaseException", PySem.Value.type "object"], ns := 44, qualname := PySem.Str.ofString "BadObject" }, slots := #[Option.some (PySem.Value.ref 36), Option.none, Option.some (PySem.Value.str (PySem.Str.ofString "BadObject") 225), Option.some (PySem.Value.str (PySem.Str.ofString "BadObject") 233), Option.some (PySem.Value.builtin "Exception.__new__"), Option.some (PySem.Value.bool Bool.true)] })) ::
  ((nat_lit 48), ({ cls := PySem.Value.type "tuple", data := PySem.Data.seq #[] })) ::
  ((nat_lit 51), ({ cls := PySem.Value.type "code", data := PySem.Data.fields #[PySem.Value.str (PySem.Str.ofString "big_endian") 241, PySem.Value.str (PySem.Str.ofString "big_endian") 242, PySem.Value.str (PySem.Str.ofString "/claim/cut.py") 243, PySem.Value.int 11 0, PySem.Value.int 2 0, PySem.Value.int 0 0, PySem.Value.int 0 0, PySem.Value.int 3 0, PySem.Value.ref 48, PySem.Value.bool Bool.true, PySem.Value.int 181 0, PySem.Value.ref 49, PySem.Value.none, PySem.Value.none, PySem.Value.none, PySem.Value.ref 50, PySem.Value.int 244 0, PySem.Value.int 11 0, PySem.Value.str (PySem.Str.ofString "/claim/cut.py") 245] })) ::
  ((nat_lit 52), { cls := (PySem.Value.type "function"), dict := (Option.none), data := .func { name := (PySem.Str.ofString "big_endian"), qualname := (PySem.Str.ofString "big_endian"), params := aa1, body := .stmts bb1, scope := ss1, globals := (3), closure := ([]), defaults := (PySem.Value.none), kwdefaults := (PySem.Value.none), doc := (PySem.Value.none), pyModule := (PySem.Value.str (PySem.Str.ofString "gitcore.base") 187), annotations := (Option.none), code := (PySem.Value.ref 51), closureTuple := (PySem.Value.none), builtins := (0) }, slots := (#[]) }) ::
  ((nat_lit 53), ({ cls := PySem.Value.type "tuple", data := PySem.Data.seq #[] })) ::
  ((nat_lit 55), ({ cls := PySem.Value.type "tuple", data := PySem.Data.seq #[PySem.Value.str (PySem.Str.ofString "number") 250] })) ::
  ((nat_lit 56), ({ cls := PySem.Value.type "tuple", data := PySem.Data.seq #[] })) ::
  ((nat_lit 58), ({ cls := PySem.Value.type "code", data := PySem.Data.fields #[PySem.Value.str (PySem.Str.ofString "be32") 247, PySem.Value.str (PySem.Str.ofString "be32") 248, PySem.Value.str (PySem.Str.ofString "/claim/cut.py") 249, PySem.Value.int 13 0, PySem.Value.int 1 0, PySem.Value.int 0 0, PySem.Value.int 0 0, PySem.Value.int 3 0, PySem.Value.ref 53, PySem.Value.bool Bool.true, PySem.Value.int 181 0, PySem.Value.ref 54, PySem.Value.none, PySem.Value.ref 55, PySem.Value.ref 56, PySem.Value.ref 57, PySem.Value.int 251 0, PySem.Value.int 13 0, PySem.Value.str (PySem.Str.ofString "/claim/cut.py") 252] })) ::
  ((nat_lit 59), { cls := (PySem.Value.type "function"), dict := (Option.none), data := .func { name := (PySem.Str.ofString "be32"), qualname := (PySem.Str.ofString "be32"), params := aa2, body := .stmts bb2, scope := ss2, globals := (3), closure := ([]), defaults := (PySem.Value.none), kwdefaults := (PySem.Value.none), doc := (PySem.Value.none), pyModule := (PySem.Value.str (PySem.Str.ofString "gitcore.base") 187), annotations := (Option.none), code := (PySem.Value.ref 58), closureTuple := (PySem.Value.none), builtins := (0) }, slots := (#[]) }) ::
  ((nat_lit 60), ({ cls := PySem.Value.type "tuple", data := PySem.Data.seq #[] })) ::
  ((nat_lit 62), ({ cls := PySem.Value.type "tuple", data := PySem.Data.seq #[PySem.Value.str (PySem.Str.ofString "number") 257] })) ::
  ((nat_lit 63), ({ cls := PySem.Value.type "tuple", data := PySem.Data.seq #[] })) ::
  ((nat_lit 65), ({ cls := PySem.Value.type "code", data := PySem.Data.fields #[PySem.Value.str (PySem.Str.ofString "be64") 254, PySem.Value.str (PySem.Str.ofString "be64") 255, PySem.Value.str (PySem.Str.ofString "/claim/cut.py") 256, PySem.Value.int 15 0, PySem.Value.int 1 0, PySem.Value.int 0 0, PySem.Value.int 0 0, PySem.Value.int 3 0, PySem.Value.ref 60, PySem.Value.bool Bool.true, PySem.Value.int 181 0, PySem.Value.ref 61, PySem.Value.none, PySem.Value.ref 62, PySem.Value.ref 63, PySem.Value.ref 64, PySem.Value.int 258 0, PySem.Value.int 15 0, PySem.Value.str (PySem.Str.ofString "/claim/cut.py") 259] })) ::
  ((nat_lit 66), { cls := (PySem.Value.type "function"), dict := (Option.none), data := .func { name := (PySem.Str.ofString "be64"), qualname := (PySem.Str.ofString "be64"), params := aa3, body := .stmts bb3, scope := ss3, globals := (3), closure := ([]), defaults := (PySem.Value.none), kwdefaults := (PySem.Value.none), doc := (PySem.Value.none), pyModule := (PySem.Value.str (PySem.Str.ofString "gitcore.base") 187), annotations := (Option.none), code := (PySem.Value.ref 65), closureTuple := (PySem.Value.none), builtins := (0) }, slots := (#[]) }) ::
  ((nat_lit 67), ({ cls := PySem.Value.type "tuple", data := PySem.Data.seq #[] })) ::
  ((nat_lit 69), ({ cls := PySem.Value.type "tuple", data := PySem.Data.seq #[PySem.Value.str (PySem.Str.ofString "octets") 264, PySem.Value.str (PySem.Str.ofString "at") 265, PySem.Value.str (PySem.Str.ofString "many") 266, PySem.Value.str (PySem.Str.ofString "number") 267, PySem.Value.str (PySem.Str.ofString "octet") 268] })) ::
  ((nat_lit 70), ({ cls := PySem.Value.type "tuple", data := PySem.Data.seq #[] })) ::
  ((nat_lit 72), ({ cls := PySem.Value.type "code", data := PySem.Data.fields #[PySem.Value.str (PySem.Str.ofString "at_big_endian") 261, PySem.Value.str (PySem.Str.ofString "at_big_endian") 262, PySem.Value.str (PySem.Str.ofString "/claim/cut.py") 263, PySem.Value.int 17 0, PySem.Value.int 3 0, PySem.Value.int 0 0, PySem.Value.int 0 0, PySem.Value.int 3 0, PySem.Value.ref 67, PySem.Value.bool Bool.true, PySem.Value.int 181 0, PySem.Value.ref 68, PySem.Value.none, PySem.Value.ref 69, PySem.Value.ref 70, PySem.Value.ref 71, PySem.Value.int 269 0, PySem.Value.int 17 0, PySem.Value.str (PySem.Str.ofString "/claim/cut.py") 270] })) ::
  ((nat_lit 73), { cls := (PySem.Value.type "function"), dict := (Option.none), data := .func { name := (PySem.Str.ofString "at_big_endian"), qualname := (PySem.Str.ofString "at_big_endian"), params := aa4, body := .stmts bb4, scope := ss4, globals := (3), closure := ([]), defaults := (PySem.Value.none), kwdefaults := (PySem.Value.none), doc := (PySem.Value.none), pyModule := (PySem.Value.str (PySem.Str.ofString "gitcore.base") 187), annotations := (Option.none), code := (PySem.Value.ref 72), closureTuple := (PySem.Value.none), builtins := (0) }, slots := (#[]) }) ::
  ((nat_lit 74), ({ cls := PySem.Value.type "tuple", data := PySem.Data.seq #[] })) ::
  ((nat_lit 76), ({ cls := PySem.Value.type "tuple", data := PySem.Data.seq #[PySem.Value.str (PySem.Str.ofString "octets") 275, PySem.Value.str (PySem.Str.ofString "at") 276] })) ::
  ((nat_lit 77), ({ cls := PySem.Value.type "tuple", data := PySem.Data.seq #[] })) ::
  ((nat_lit 79), ({ cls := PySem.Value.type "code", data := PySem.Data.fields #[PySem.Value.str (PySem.Str.ofString "at_be32") 272, PySem.Value.str (PySem.Str.ofString "at_be32") 273, PySem.Value.str (PySem.Str.ofString "/claim/cut.py") 274, PySem.Value.int 24 0, PySem.Value.int 2 0, PySem.Value.int 0 0, PySem.Value.int 0 0, PySem.Value.int 3 0, PySem.Value.ref 74, PySem.Value.bool Bool.true, PySem.Value.int 181 0, PySem.Value.ref 75, PySem.Value.none, PySem.Value.ref 76, PySem.Value.ref 77, PySem.Value.ref 78, PySem.Value.int 277 0, PySem.Value.int 24 0, PySem.Value.str (PySem.Str.ofString "/claim/cut.py") 278] })) ::
  ((nat_lit 80), { cls := (PySem.Value.type "function"), dict := (Option.none), data := .func { name := (PySem.Str.ofString "at_be32"), qualname := (PySem.Str.ofString "at_be32"), params := aa5, body := .stmts bb5, scope := ss5, globals := (3), closure := ([]), defaults := (PySem.Value.none), kwdefaults := (PySem.Value.none), doc := (PySem.Value.none), pyModule := (PySem.Value.str (PySem.Str.ofString "gitcore.base") 187), annotations := (Option.none), code := (PySem.Value.ref 79), closureTuple := (PySem.Value.none), builtins := (0) }, slots := (#[]) }) ::
  ((nat_lit 81), ({ cls := PySem.Value.type "tuple", data := PySem.Data.seq #[PySem.Value.int 1 280] })) ::
  ((nat_lit 82), ({ cls := PySem.Value.type "tuple", data := PySem.Data.seq #[] })) ::
  ((nat_lit 84), ({ cls := PySem.Value.type "tuple", data := PySem.Data.seq #[PySem.Value.str (PySem.Str.ofString "octets") 284, PySem.Value.str (PySem.Str.ofString "start") 285, PySem.Value.str (PySem.Str.ofString "low") 286, PySem.Value.str (PySem.Str.ofString "high") 287, PySem.Value.str (PySem.Str.ofString "octet") 288] })) ::
  ((nat_lit 85), ({ cls := PySem.Value.type "tuple", data := PySem.Data.seq #[] })) ::
  ((nat_lit 87), ({ cls := PySem.Value.type "code", data := PySem.Data.fields #[PySem.Value.str (PySem.Str.ofString "adler32") 281, PySem.Value.str (PySem.Str.ofString "adler32") 282, PySem.Value.str (PySem.Str.ofString "/claim/cut.py") 283, PySem.Value.int 26 0, PySem.Value.int 2 0, PySem.Value.int 0 0, PySem.Value.int 0 0, PySem.Value.int 3 0, PySem.Value.ref 82, PySem.Value.bool Bool.true, PySem.Value.int 181 0, PySem.Value.ref 83, PySem.Value.none, PySem.Value.ref 84, PySem.Value.ref 85, PySem.Value.ref 86, PySem.Value.int 289 0, PySem.Value.int 26 0, PySem.Value.str (PySem.Str.ofString "/claim/cut.py") 290] })) ::
  ((nat_lit 88), { cls := (PySem.Value.type "function"), dict := (Option.none), data := .func { name := (PySem.Str.ofString "adler32"), qualname := (PySem.Str.ofString "adler32"), params := aa6, body := .stmts bb6, scope := ss6, globals := (3), closure := ([]), defaults := (PySem.Value.ref 81), kwdefaults := (PySem.Value.none), doc := (PySem.Value.none), pyModule := (PySem.Value.str (PySem.Str.ofString "gitcore.base") 187), annotations := (Option.none), code := (PySem.Value.ref 87), closureTuple := (PySem.Value.none), builtins := (0) }, slots := (#[]) }) ::
  ((nat_lit 96), ({ cls := PySem.Value.type "tuple", data := PySem.Data.seq #[] })) ::
  ((nat_lit 98), ({ cls := PySem.Value.type "tuple", data := PySem.Data.seq #[PySem.Value.str (PySem.Str.ofString "self") 307, PySem.Value.str (PySem.Str.ofString "number") 308, PySem.Value.str (PySem.Str.ofString "rest") 309, PySem.Value.str (PySem.Str.ofString "turn") 310] })) ::
  ((nat_lit 99), ({ cls := PySem.Value.type "tuple", data := PySem.Data.seq #[] })) ::
  ((nat_lit 101), ({ cls := PySem.Value.type "code", data := PySem.Data.fields #[PySem.Value.str (PySem.Str.ofString "__init__") 304, PySem.Value.str (PySem.Str.ofString "Crc32.__init__") 305, PySem.Value.str (PySem.Str.ofString "/claim/cut.py") 306, PySem.Value.int 35 0, PySem.Value.int 1 0, PySem.Value.int 0 0, PySem.Value.int 0 0, PySem.Value.int 3 0, PySem.Value.ref 96, PySem.Value.bool Bool.true, PySem.Value.int 181 0, PySem.Value.ref 97, PySem.Value.none, PySem.Value.ref 98, PySem.Value.ref 99, PySem.Value.ref 100, PySem.Value.int 311 0, PySem.Value.int 35 0, PySem.Value.str (PySem.Str.ofString "/claim/cut.py") 312] })) ::
  ((nat_lit 102), { cls := (PySem.Value.type "function"), dict := (Option.none), data := .func { name := (PySem.Str.ofString "__init__"), qualname := (PySem.Str.ofString "Crc32.__init__"), params := aa7, body := .stmts bb7, scope := ss7, globals := (3), closure := ([]), defaults := (PySem.Value.none), kwdefaults := (PySem.Value.none), doc := (PySem.Value.none), pyModule := (PySem.Value.str (PySem.Str.ofString "gitcore.base") 187), annotations := (Option.none), code := (PySem.Value.ref 101), closureTuple := (PySem.Value.none), builtins := (0) }, slots := (#[]) }) ::
  ((nat_lit 103), ({ cls := PySem.Value.type "tuple", data := PySem.Data.seq #[PySem.Value.int 0 314] })) ::
  ((nat_lit 104), ({ cls := PySem.Value.type "tuple", data := PySem.Data.seq #[] })) ::
  ((nat_lit 106), ({ cls := PySem.Value.type "tuple", data := PySem.Data.seq #[PySem.Value.str (PySem.Str.ofString "self") 318, PySem.Value.str (PySem.Str.ofString "octets") 319, PySem.Value.str (PySem.Str.ofString "start") 320, PySem.Value.str (PySem.Str.ofString "rest") 321, PySem.Value.str (PySem.Str.ofString "octet") 322] })) ::
  ((nat_lit 107), ({ cls := PySem.Value.type "tuple", data := PySem.Data.seq #[] })) ::
  ((nat_lit 109), ({ cls := PySem.Value.type "code", data := PySem.Data.fields #[PySem.Value.str (PySem.Str.ofString "of") 315, PySem.Value.str (PySem.Str.ofString "Crc32.of") 316, PySem.Value.str (PySem.Str.ofString "/claim/cut.py") 317, PySem.Value.int 43 0, PySem.Value.int 3 0, PySem.Value.int 0 0, PySem.Value.int 0 0, PySem.Value.int 3 0, PySem.Value.ref 104, PySem.Value.bool Bool.true, PySem.Value.int 181 0, PySem.Value.ref 105, PySem.Value.none, PySem.Value.ref 106, PySem.Value.ref 107, PySem.Value.ref 108, PySem.Value.int 323 0, PySem.Value.int 43 0, PySem.Value.str (PySem.Str.ofString "/claim/cut.py") 324] })) ::
  ((nat_lit 110), { cls := (PySem.Value.type "function"), dict := (Option.none), data := .func { name := (PySem.Str.ofString "of"), qualname := (PySem.Str.ofString "Crc32.of"), params := aa8, body := .stmts bb8, scope := ss8, globals := (3), closure := ([]), defaults := (PySem.Value.ref 103), kwdefaults := (PySem.Value.none), doc := (PySem.Value.none), pyModule := (PySem.Value.str (PySem.Str.ofString "gitcore.base") 187), annotations := (Option.none), code := (PySem.Value.ref 109), closureTuple := (PySem.Value.none), builtins := (0) }, slots := (#[]) }) ::
  ((nat_lit 111), ({ cls := PySem.Value.type "tuple", data := PySem.Data.seq #[PySem.Value.str (PySem.Str.ofString "table") 326] })) ::
  ((nat_lit 112), ({ cls := PySem.Value.type "dict", data := PySem.Data.dict #[{ hash := PySem.PyData.keyHash P (PySem.Str.ofString "__module__"), key := PySem.Value.str (PySem.Str.ofString "__module__") 299, val := PySem.Value.str (PySem.Str.ofString "gitcore.base") 187 }, { hash := PySem.PyData.keyHash P (PySem.Str.ofString "__firstlineno__"), key := PySem.Value.str (PySem.Str.ofString "__firstlineno__") 303, val := PySem.Value.int 33 302 }, { hash := PySem.PyData.keyHash P (PySem.Str.ofString "__init__"), key := PySem.Value.str (PySem.Str.ofString "__init__") 313, val := PySem.Value.ref 102 }, { hash := PySem.PyData.keyHash P (PySem.Str.ofString "of"), key := PySem.Value.str (PySem.Str.ofString "of") 325, val := PySem.Value.ref 110 }, { hash := PySem.PyData.keyHash P (PySem.Str.ofString "__static_attributes__"), key := PySem.Value.str (PySem.Str.ofString "__static_attributes__") 327, val := PySem.Value.ref 111 }, { hash := PySem.PyData.keyHash P (PySem.Str.ofString "__dict__"), key := PySem.Value.str (PySem.Str.ofString "__dict__") 329, val := PySem.Value.ref 114 }, { hash := PySem.PyData.keyHash P (PySem.Str.ofString "__weakref__"), key := PySem.Value.str (PySem.Str.ofString "__weakref__") 331, val := PySem.Value.ref 115 }, { hash := PySem.PyData.keyHash P (PySem.Str.ofString "__doc__"), key := PySem.Value.str (PySem.Str.ofString "__doc__") 332, val := PySem.Value.none }] 4 })) ::
  ((nat_lit 113), ({ cls := PySem.Value.type "type", data := PySem.Data.cls { name := PySem.Str.ofString "Crc32", bases := [PySem.Value.type "object"], mro := [PySem.Value.ref 113, PySem.Value.type "object"], ns := 112, qualname := PySem.Str.ofString "Crc32" }, slots := #[Option.none, Option.none, Option.some (PySem.Value.str (PySem.Str.ofString "Crc32") 292), Option.some (PySem.Value.str (PySem.Str.ofString "Crc32") 300), Option.some (PySem.Value.builtin "object.__new__"), Option.some (PySem.Value.bool Bool.true)] })) ::
  ((nat_lit 114), ({ cls := PySem.Value.type "getset_descriptor", data := PySem.Data.fields #[PySem.Value.str (PySem.Str.ofString "__dict__") 328, PySem.Value.ref 113, PySem.Value.builtin "function.__dict__", PySem.Value.builtin "function.__dict__#set"] })) ::
  ((nat_lit 115), ({ cls := PySem.Value.type "getset_descriptor", data := PySem.Data.fields #[PySem.Value.str (PySem.Str.ofString "__weakref__") 330, PySem.Value.ref 113, PySem.Value.builtin "ExceptionGroup.__weakref__", PySem.Value.none] })) ::
  ((nat_lit 118), ({ cls := PySem.Value.type "tuple", data := PySem.Data.seq #[] })) ::
  ((nat_lit 120), ({ cls := PySem.Value.type "tuple", data := PySem.Data.seq #[PySem.Value.str (PySem.Str.ofString "number") 338, PySem.Value.str (PySem.Str.ofString "many") 339] })) ::
  ((nat_lit 121), ({ cls := PySem.Value.type "tuple", data := PySem.Data.seq #[] })) ::
  ((nat_lit 123), ({ cls := PySem.Value.type "code", data := PySem.Data.fields #[PySem.Value.str (PySem.Str.ofString "turned_left") 335, PySem.Value.str (PySem.Str.ofString "turned_left") 336, PySem.Value.str (PySem.Str.ofString "/claim/cut.py") 337, PySem.Value.int 50 0, PySem.Value.int 2 0, PySem.Value.int 0 0, PySem.Value.int 0 0, PySem.Value.int 3 0, PySem.Value.ref 118, PySem.Value.bool Bool.true, PySem.Value.int 181 0, PySem.Value.ref 119, PySem.Value.none, PySem.Value.ref 120, PySem.Value.ref 121, PySem.Value.ref 122, PySem.Value.int 340 0, PySem.Value.int 50 0, PySem.Value.str (PySem.Str.ofString "/claim/cut.py") 341] })) ::
  ((nat_lit 124), { cls := (PySem.Value.type "function"), dict := (Option.none), data := .func { name := (PySem.Str.ofString "turned_left"), qualname := (PySem.Str.ofString "turned_left"), params := aa9, body := .stmts bb9, scope := ss9, globals := (3), closure := ([]), defaults := (PySem.Value.none), kwdefaults := (PySem.Value.none), doc := (PySem.Value.none), pyModule := (PySem.Value.str (PySem.Str.ofString "gitcore.base") 187), annotations := (Option.none), code := (PySem.Value.ref 123), closureTuple := (PySem.Value.none), builtins := (0) }, slots := (#[]) }) ::
  ((nat_lit 132), ({ cls := PySem.Value.type "tuple", data := PySem.Data.seq #[] })) ::
  ((nat_lit 134), ({ cls := PySem.Value.type "tuple", data := PySem.Data.seq #[PySem.Value.str (PySem.Str.ofString "self") 358] })) ::
  ((nat_lit 135), ({ cls := PySem.Value.type "tuple", data := PySem.Data.seq #[] })) ::
  ((nat_lit 137), ({ cls := PySem.Value.type "code", data := PySem.Data.fields #[PySem.Value.str (PySem.Str.ofString "__init__") 355, PySem.Value.str (PySem.Str.ofString "Sha1.__init__") 356, PySem.Value.str (PySem.Str.ofString "/claim/cut.py") 357, PySem.Value.int 54 0, PySem.Value.int 1 0, PySem.Value.int 0 0, PySem.Value.int 0 0, PySem.Value.int 3 0, PySem.Value.ref 132, PySem.Value.bool Bool.true, PySem.Value.int 181 0, PySem.Value.ref 133, PySem.Value.none, PySem.Value.ref 134, PySem.Value.ref 135, PySem.Value.ref 136, PySem.Value.int 359 0, PySem.Value.int 54 0, PySem.Value.str (PySem.Str.ofString "/claim/cut.py") 360] })) ::
  ((nat_lit 138), { cls := (PySem.Value.type "function"), dict := (Option.none), data := .func { name := (PySem.Str.ofString "__init__"), qualname := (PySem.Str.ofString "Sha1.__init__"), params := aa10, body := .stmts bb10, scope := ss10, globals := (3), closure := ([]), defaults := (PySem.Value.none), kwdefaults := (PySem.Value.none), doc := (PySem.Value.none), pyModule := (PySem.Value.str (PySem.Str.ofString "gitcore.base") 187), annotations := (Option.none), code := (PySem.Value.ref 137), closureTuple := (PySem.Value.none), builtins := (0) }, slots := (#[]) }) ::
  ((nat_lit 139), ({ cls := PySem.Value.type "tuple", data := PySem.Data.seq #[] })) ::
  ((nat_lit 141), ({ cls := PySem.Value.type "tuple", data := PySem.Data.seq #[PySem.Value.str (PySem.Str.ofString "self") 365, PySem.Value.str (PySem.Str.ofString "octets") 366, PySem.Value.str (PySem.Str.ofString "noughts") 367] })) ::
  ((nat_lit 142), ({ cls := PySem.Value.type "tuple", data := PySem.Data.seq #[] })) ::
  ((nat_lit 144), ({ cls := PySem.Value.type "code", data := PySem.Data.fields #[PySem.Value.str (PySem.Str.ofString "padded") 362, PySem.Value.str (PySem.Str.ofString "Sha1.padded") 363, PySem.Value.str (PySem.Str.ofString "/claim/cut.py") 364, PySem.Value.int 57 0, PySem.Value.int 2 0, PySem.Value.int 0 0, PySem.Value.int 0 0, PySem.Value.int 3 0, PySem.Value.ref 139, PySem.Value.bool Bool.true, PySem.Value.int 181 0, PySem.Value.ref 140, PySem.Value.none, PySem.Value.ref 141, PySem.Value.ref 142, PySem.Value.ref 143, PySem.Value.int 368 0, PySem.Value.int 57 0, PySem.Value.str (PySem.Str.ofString "/claim/cut.py") 369] })) ::
  ((nat_lit 145), { cls := (PySem.Value.type "function"), dict := (Option.none), data := .func { name := (PySem.Str.ofString "padded"), qualname := (PySem.Str.ofString "Sha1.padded"), params := aa11, body := .stmts bb11, scope := ss11, globals := (3), closure := ([]), defaults := (PySem.Value.none), kwdefaults := (PySem.Value.none), doc := (PySem.Value.none), pyModule := (PySem.Value.str (PySem.Str.ofString "gitcore.base") 187), annotations := (Option.none), code := (PySem.Value.ref 144), closureTuple := (PySem.Value.none), builtins := (0) }, slots := (#[]) }) ::
  ((nat_lit 146), ({ cls := PySem.Value.type "tuple", data := PySem.Data.seq #[] })) ::
  ((nat_lit 149), ({ cls := PySem.Value.type "code", data := PySem.Data.fields #[PySem.Value.str (PySem.Str.ofString "words_of") 371, PySem.Value.str (PySem.Str.ofString "Sha1.words_of") 372, PySem.Value.str (PySem.Str.ofString "/claim/cut.py") 373, PySem.Value.int 61 0, PySem.Value.int 2 0, PySem.Value.int 0 0, PySem.Value.int 0 0, PySem.Value.int 3 0, PySem.Value.ref 146, PySem.Value.bool Bool.true, PySem.Value.int 181 0, PySem.Value.ref 147, PySem.Value.none, PySem.Value.none, PySem.Value.none, PySem.Value.ref 148, PySem.Value.int 374 0, PySem.Value.int 61 0, PySem.Value.str (PySem.Str.ofString "/claim/cut.py") 375] })) ::
  ((nat_lit 150), { cls := (PySem.Value.type "function"), dict := (Option.none), data := .func { name := (PySem.Str.ofString "words_of"), qualname := (PySem.Str.ofString "Sha1.words_of"), params := aa12, body := .stmts bb12, scope := ss12, globals := (3), closure := ([]), defaults := (PySem.Value.none), kwdefaults := (PySem.Value.none), doc := (PySem.Value.none), pyModule := (PySem.Value.str (PySem.Str.ofString "gitcore.base") 187), annotations := (Option.none), code := (PySem.Value.ref 149), closureTuple := (PySem.Value.none), builtins := (0) }, slots := (#[]) }) ::
  ((nat_lit 151), ({ cls := PySem.Value.type "tuple", data := PySem.Data.seq #[] })) ::
  ((nat_lit 154), ({ cls := PySem.Value.type "code", data := PySem.Data.fields #[PySem.Value.str (PySem.Str.ofString "stirred") 377, PySem.Value.str (PySem.Str.ofString "Sha1.stirred") 378, PySem.Value.str (PySem.Str.ofString "/claim/cut.py") 379, PySem.Value.int 67 0, PySem.Value.int 3 0, PySem.Value.int 0 0, PySem.Value.int 0 0, PySem.Value.int 3 0, PySem.Value.ref 151, PySem.Value.bool Bool.true, PySem.Value.int 181 0, PySem.Value.ref 152, PySem.Value.none, PySem.Value.none, PySem.Value.none, PySem.Value.ref 153, PySem.Value.int 380 0, PySem.Value.int 67 0, PySem.Value.str (PySem.Str.ofString "/claim/cut.py") 381] })) ::
  ((nat_lit 155), { cls := (PySem.Value.type "function"), dict := (Option.none), data := .func { name := (PySem.Str.ofString "stirred"), qualname := (PySem.Str.ofString "Sha1.stirred"), params := aa13, body := .stmts bb13, scope := ss13, globals := (3), closure := ([]), defaults := (PySem.Value.none), kwdefaults := (PySem.Value.none), doc := (PySem.Value.none), pyModule := (PySem.Value.str (PySem.Str.ofString "gitcore.base") 187), annotations := (Option.none), code := (PySem.Value.ref 154), closureTuple := (PySem.Value.none), builtins := (0) }, slots := (#[]) }) ::
  ((nat_lit 156), ({ cls := PySem.Value.type "tuple", data := PySem.Data.seq #[] })) ::
  ((nat_lit 159), ({ cls := PySem.Value.type "code", data := PySem.Data.fields #[PySem.Value.str (PySem.Str.ofString "digest") 383, PySem.Value.str (PySem.Str.ofString "Sha1.digest") 384, PySem.Value.str (PySem.Str.ofString "/claim/cut.py") 385, PySem.Value.int 92 0, PySem.Value.int 2 0, PySem.Value.int 0 0, PySem.Value.int 0 0, PySem.Value.int 3 0, PySem.Value.ref 156, PySem.Value.bool Bool.true, PySem.Value.int 181 0, PySem.Value.ref 157, PySem.Value.none, PySem.Value.none, PySem.Value.none, PySem.Value.ref 158, PySem.Value.int 386 0, PySem.Value.int 92 0, PySem.Value.str (PySem.Str.ofString "/claim/cut.py") 387] })) ::
  ((nat_lit 160), { cls := (PySem.Value.type "function"), dict := (Option.none), data := .func { name := (PySem.Str.ofString "digest"), qualname := (PySem.Str.ofString "Sha1.digest"), params := aa14, body := .stmts bb14, scope := ss14, globals := (3), closure := ([]), defaults := (PySem.Value.none), kwdefaults := (PySem.Value.none), doc := (PySem.Value.none), pyModule := (PySem.Value.str (PySem.Str.ofString "gitcore.base") 187), annotations := (Option.none), code := (PySem.Value.ref 159), closureTuple := (PySem.Value.none), builtins := (0) }, slots := (#[]) }) ::
  ((nat_lit 161), ({ cls := PySem.Value.type "tuple", data := PySem.Data.seq #[PySem.Value.str (PySem.Str.ofString "size") 389] })) ::
  ((nat_lit 162), ({ cls := PySem.Value.type "dict", data := PySem.Data.dict #[{ hash := PySem.PyData.keyHash P (PySem.Str.ofString "__module__"), key := PySem.Value.str (PySem.Str.ofString "__module__") 350, val := PySem.Value.str (PySem.Str.ofString "gitcore.base") 187 }, { hash := PySem.PyData.keyHash P (PySem.Str.ofString "__firstlineno__"), key := PySem.Value.str (PySem.Str.ofString "__firstlineno__") 354, val := PySem.Value.int 52 353 }, { hash := PySem.PyData.keyHash P (PySem.Str.ofString "__init__"), key := PySem.Value.str (PySem.Str.ofString "__init__") 361, val := PySem.Value.ref 138 }, { hash := PySem.PyData.keyHash P (PySem.Str.ofString "padded"), key := PySem.Value.str (PySem.Str.ofString "padded") 370, val := PySem.Value.ref 145 }, { hash := PySem.PyData.keyHash P (PySem.Str.ofString "words_of"), key := PySem.Value.str (PySem.Str.ofString "words_of") 376, val := PySem.Value.ref 150 }, { hash := PySem.PyData.keyHash P (PySem.Str.ofString "stirred"), key := PySem.Value.str (PySem.Str.ofString "stirred") 382, val := PySem.Value.ref 155 }, { hash := PySem.PyData.keyHash P (PySem.Str.ofString "digest"), key := PySem.Value.str (PySem.Str.ofString "digest") 388, val := PySem.Value.ref 160 }, { hash := PySem.PyData.keyHash P (PySem.Str.ofString "__static_attributes__"), key := PySem.Value.str (PySem.Str.ofString "__static_attributes__") 390, val := PySem.Value.ref 161 }, { hash := PySem.PyData.keyHash P (PySem.Str.ofString "__dict__"), key := PySem.Value.str (PySem.Str.ofString "__dict__") 392, val := PySem.Value.ref 164 }, { hash := PySem.PyData.keyHash P (PySem.Str.ofString "__weakref__"), key := PySem.Value.str (PySem.Str.ofString "__weakref__") 394, val := PySem.Value.ref 165 }, { hash := PySem.PyData.keyHash P (PySem.Str.ofString "__doc__"), key := PySem.Value.str (PySem.Str.ofString "__doc__") 395, val := PySem.Value.none }] 4 })) ::
  ((nat_lit 163), ({ cls := PySem.Value.type "type", data := PySem.Data.cls { name := PySem.Str.ofString "Sha1", bases := [PySem.Value.type "object"], mro := [PySem.Value.ref 163, PySem.Value.type "object"], ns := 162, qualname := PySem.Str.ofString "Sha1" }, slots := #[Option.none, Option.none, Option.some (PySem.Value.str (PySem.Str.ofString "Sha1") 343), Option.some (PySem.Value.str (PySem.Str.ofString "Sha1") 351), Option.some (PySem.Value.builtin "object.__new__"), Option.some (PySem.Value.bool Bool.true)] })) ::
  ((nat_lit 164), ({ cls := PySem.Value.type "getset_descriptor", data := PySem.Data.fields #[PySem.Value.str (PySem.Str.ofString "__dict__") 391, PySem.Value.ref 163, PySem.Value.builtin "function.__dict__", PySem.Value.builtin "function.__dict__#set"] })) ::
  ((nat_lit 165), ({ cls := PySem.Value.type "getset_descriptor", data := PySem.Data.fields #[PySem.Value.str (PySem.Str.ofString "__weakref__") 393, PySem.Value.ref 163, PySem.Value.builtin "ExceptionGroup.__weakref__", PySem.Value.none] })) ::
  ((nat_lit 175), ({ cls := PySem.Value.type "tuple", data := PySem.Data.seq #[PySem.Value.int 4 410] })) ::
  ((nat_lit 176), ({ cls := PySem.Value.type "tuple", data := PySem.Data.seq #[] })) ::
  ((nat_lit 178), ({ cls := PySem.Value.type "tuple", data := PySem.Data.seq #[PySem.Value.str (PySem.Str.ofString "self") 414, PySem.Value.str (PySem.Str.ofString "size") 415] })) ::
  ((nat_lit 179), ({ cls := PySem.Value.type "tuple", data := PySem.Data.seq #[] })) ::
  ((nat_lit 181), ({ cls := PySem.Value.type "code", data := PySem.Data.fields #[PySem.Value.str (PySem.Str.ofString "__init__") 411, PySem.Value.str (PySem.Str.ofString "CountingHasher.__init__") 412, PySem.Value.str (PySem.Str.ofString "/claim/cut.py") 413, PySem.Value.int 100 0, PySem.Value.int 2 0, PySem.Value.int 0 0, PySem.Value.int 0 0, PySem.Value.int 3 0, PySem.Value.ref 176, PySem.Value.bool Bool.true, PySem.Value.int 181 0, PySem.Value.ref 177, PySem.Value.none, PySem.Value.ref 178, PySem.Value.ref 179, PySem.Value.ref 180, PySem.Value.int 416 0, PySem.Value.int 100 0, PySem.Value.str (PySem.Str.ofString "/claim/cut.py") 417] })) ::
  ((nat_lit 182), { cls := (PySem.Value.type "function"), dict := (Option.none), data := .func { name := (PySem.Str.ofString "__init__"), qualname := (PySem.Str.ofString "CountingHasher.__init__"), params := aa15, body := .stmts bb15, scope := ss15, globals := (3), closure := ([]), defaults := (PySem.Value.ref 175), kwdefaults := (PySem.Value.none), doc := (PySem.Value.none), pyModule := (PySem.Value.str (PySem.Str.ofString "gitcore.base") 187), annotations := (Option.none), code := (PySem.Value.ref 181), closureTuple := (PySem.Value.none), builtins := (0) }, slots := (#[]) }) ::
  ((nat_lit 183), ({ cls := PySem.Value.type "tuple", data := PySem.Data.seq #[] })) ::
  ((nat_lit 185), ({ cls := PySem.Value.type "tuple", data := PySem.Data.seq #[PySem.Value.str (PySem.Str.ofString "self") 422, PySem.Value.str (PySem.Str.ofString "octets") 423, PySem.Value.str (PySem.Str.ofString "content") 424] })) ::
  ((nat_lit 186), ({ cls := PySem.Value.type "tuple", data := PySem.Data.seq #[] })) ::
  ((nat_lit 188), ({ cls := PySem.Value.type "code", data := PySem.Data.fields #[PySem.Value.str (PySem.Str.ofString "digest") 419, PySem.Value.str (PySem.Str.ofString "CountingHasher.digest") 420, PySem.Value.str (PySem.Str.ofString "/claim/cut.py") 421, PySem.Value.int 104 0, PySem.Value.int 2 0, PySem.Value.int 0 0, PySem.Value.int 0 0, PySem.Value.int 3 0, PySem.Value.ref 183, PySem.Value.bool Bool.true, PySem.Value.int 181 0, PySem.Value.ref 184, PySem.Value.none, PySem.Value.ref 185, PySem.Value.ref 186, PySem.Value.ref 187, PySem.Value.int 425 0, PySem.Value.int 104 0, PySem.Value.str (PySem.Str.ofString "/claim/cut.py") 426] })) ::
  ((nat_lit 189), { cls := (PySem.Value.type "function"), dict := (Option.none), data := .func { name := (PySem.Str.ofString "digest"), qualname := (PySem.Str.ofString "CountingHasher.digest"), params := aa16, body := .stmts bb16, scope := ss16, globals := (3), closure := ([]), defaults := (PySem.Value.none), kwdefaults := (PySem.Value.none), doc := (PySem.Value.none), pyModule := (PySem.Value.str (PySem.Str.ofString "gitcore.base") 187), annotations := (Option.none), code := (PySem.Value.ref 188), closureTuple := (PySem.Value.none), builtins := (0) }, slots := (#[]) }) ::
  ((nat_lit 190), ({ cls := PySem.Value.type "tuple", data := PySem.Data.seq #[PySem.Value.str (PySem.Str.ofString "known") 428, PySem.Value.str (PySem.Str.ofString "size") 429] })) ::
  ((nat_lit 191), ({ cls := PySem.Value.type "dict", data := PySem.Data.dict #[{ hash := PySem.PyData.keyHash P (PySem.Str.ofString "__module__"), key := PySem.Value.str (PySem.Str.ofString "__module__") 405, val := PySem.Value.str (PySem.Str.ofString "gitcore.base") 187 }, { hash := PySem.PyData.keyHash P (PySem.Str.ofString "__firstlineno__"), key := PySem.Value.str (PySem.Str.ofString "__firstlineno__") 409, val := PySem.Value.int 98 408 }, { hash := PySem.PyData.keyHash P (PySem.Str.ofString "__init__"), key := PySem.Value.str (PySem.Str.ofString "__init__") 418, val := PySem.Value.ref 182 }, { hash := PySem.PyData.keyHash P (PySem.Str.ofString "digest"), key := PySem.Value.str (PySem.Str.ofString "digest") 427, val := PySem.Value.ref 189 }, { hash := PySem.PyData.keyHash P (PySem.Str.ofString "__static_attributes__"), key := PySem.Value.str (PySem.Str.ofString "__static_attributes__") 430, val := PySem.Value.ref 190 }, { hash := PySem.PyData.keyHash P (PySem.Str.ofString "__dict__"), key := PySem.Value.str (PySem.Str.ofString "__dict__") 432, val := PySem.Value.ref 193 }, { hash := PySem.PyData.keyHash P (PySem.Str.ofString "__weakref__"), key := PySem.Value.str (PySem.Str.ofString "__weakref__") 434, val := PySem.Value.ref 194 }, { hash := PySem.PyData.keyHash P (PySem.Str.ofString "__doc__"), key := PySem.Value.str (PySem.Str.ofString "__doc__") 435, val := PySem.Value.none }] 4 })) ::
  ((nat_lit 192), ({ cls := PySem.Value.type "type", data := PySem.Data.cls { name := PySem.Str.ofString "CountingHasher", bases := [PySem.Value.type "object"], mro := [PySem.Value.ref 192, PySem.Value.type "object"], ns := 191, qualname := PySem.Str.ofString "CountingHasher" }, slots := #[Option.none, Option.none, Option.some (PySem.Value.str (PySem.Str.ofString "CountingHasher") 398), Option.some (PySem.Value.str (PySem.Str.ofString "CountingHasher") 406), Option.some (PySem.Value.builtin "object.__new__"), Option.some (PySem.Value.bool Bool.true)] })) ::
  ((nat_lit 193), ({ cls := PySem.Value.type "getset_descriptor", data := PySem.Data.fields #[PySem.Value.str (PySem.Str.ofString "__dict__") 431, PySem.Value.ref 192, PySem.Value.builtin "function.__dict__", PySem.Value.builtin "function.__dict__#set"] })) ::
  ((nat_lit 194), ({ cls := PySem.Value.type "getset_descriptor", data := PySem.Data.fields #[PySem.Value.str (PySem.Str.ofString "__weakref__") 433, PySem.Value.ref 192, PySem.Value.builtin "ExceptionGroup.__weakref__", PySem.Value.none] })) ::
  ((nat_lit 197), ({ cls := PySem.Value.type "tuple", data := PySem.Data.seq #[] })) ::
  ((nat_lit 200), ({ cls := PySem.Value.type "code", data := PySem.Data.fields #[PySem.Value.str (PySem.Str.ofString "_law_deck") 440, PySem.Value.str (PySem.Str.ofString "_law_deck") 441, PySem.Value.str (PySem.Str.ofString "/claim/cut.py") 442, PySem.Value.int 110 0, PySem.Value.int 1 0, PySem.Value.int 0 0, PySem.Value.int 0 0, PySem.Value.int 3 0, PySem.Value.ref 197, PySem.Value.bool Bool.true, PySem.Value.int 181 0, PySem.Value.ref 198, PySem.Value.none, PySem.Value.none, PySem.Value.none, PySem.Value.ref 199, PySem.Value.int 443 0, PySem.Value.int 110 0, PySem.Value.str (PySem.Str.ofString "/claim/cut.py") 444] })) ::
  ((nat_lit 201), { cls := (PySem.Value.type "function"), dict := (Option.none), data := .func { name := (PySem.Str.ofString "_law_deck"), qualname := (PySem.Str.ofString "_law_deck"), params := aa17, body := .stmts bb17, scope := ss17, globals := (3), closure := ([]), defaults := (PySem.Value.none), kwdefaults := (PySem.Value.none), doc := (PySem.Value.none), pyModule := (PySem.Value.str (PySem.Str.ofString "law_nt0270_01") 438), annotations := (Option.none), code := (PySem.Value.ref 200), closureTuple := (PySem.Value.none), builtins := (0) }, slots := (#[]) }) ::
  ((nat_lit 202), ({ cls := PySem.Value.type "tuple", data := PySem.Data.seq #[] })) ::
  ((nat_lit 204), ({ cls := PySem.Value.type "tuple", data := PySem.Data.seq #[PySem.Value.str (PySem.Str.ofString "deck") 449, PySem.Value.str (PySem.Str.ofString "many") 450] })) ::
  ((nat_lit 205), ({ cls := PySem.Value.type "tuple", data := PySem.Data.seq #[] })) ::
  ((nat_lit 207), ({ cls := PySem.Value.type "code", data := PySem.Data.fields #[PySem.Value.str (PySem.Str.ofString "_law_draw") 446, PySem.Value.str (PySem.Str.ofString "_law_draw") 447, PySem.Value.str (PySem.Str.ofString "/claim/cut.py") 448, PySem.Value.int 115 0, PySem.Value.int 2 0, PySem.Value.int 0 0, PySem.Value.int 0 0, PySem.Value.int 3 0, PySem.Value.ref 202, PySem.Value.bool Bool.true, PySem.Value.int 181 0, PySem.Value.ref 203, PySem.Value.none, PySem.Value.ref 204, PySem.Value.ref 205, PySem.Value.ref 206, PySem.Value.int 451 0, PySem.Value.int 115 0, PySem.Value.str (PySem.Str.ofString "/claim/cut.py") 452] })) ::
  ((nat_lit 208), { cls := (PySem.Value.type "function"), dict := (Option.none), data := .func { name := (PySem.Str.ofString "_law_draw"), qualname := (PySem.Str.ofString "_law_draw"), params := aa18, body := .stmts bb18, scope := ss18, globals := (3), closure := ([]), defaults := (PySem.Value.none), kwdefaults := (PySem.Value.none), doc := (PySem.Value.none), pyModule := (PySem.Value.str (PySem.Str.ofString "law_nt0270_01") 438), annotations := (Option.none), code := (PySem.Value.ref 207), closureTuple := (PySem.Value.none), builtins := (0) }, slots := (#[]) }) ::
  ((nat_lit 209), ({ cls := PySem.Value.type "tuple", data := PySem.Data.seq #[] })) ::
  ((nat_lit 212), ({ cls := PySem.Value.type "code", data := PySem.Data.fields #[PySem.Value.str (PySem.Str.ofString "_law_octets") 454, PySem.Value.str (PySem.Str.ofString "_law_octets") 455, PySem.Value.str (PySem.Str.ofString "/claim/cut.py") 456, PySem.Value.int 120 0, PySem.Value.int 1 0, PySem.Value.int 0 0, PySem.Value.int 0 0, PySem.Value.int 3 0, PySem.Value.ref 209, PySem.Value.bool Bool.true, PySem.Value.int 181 0, PySem.Value.ref 210, PySem.Value.none, PySem.Value.none, PySem.Value.none, PySem.Value.ref 211, PySem.Value.int 457 0, PySem.Value.int 120 0, PySem.Value.str (PySem.Str.ofString "/claim/cut.py") 458] })) ::
  ((nat_lit 213), { cls := (PySem.Value.type "function"), dict := (Option.none), data := .func { name := (PySem.Str.ofString "_law_octets"), qualname := (PySem.Str.ofString "_law_octets"), params := aa19, body := .stmts bb19, scope := ss19, globals := (3), closure := ([]), defaults := (PySem.Value.none), kwdefaults := (PySem.Value.none), doc := (PySem.Value.none), pyModule := (PySem.Value.str (PySem.Str.ofString "law_nt0270_01") 438), annotations := (Option.none), code := (PySem.Value.ref 212), closureTuple := (PySem.Value.none), builtins := (0) }, slots := (#[]) }) ::
  ((nat_lit 214), ({ cls := PySem.Value.type "tuple", data := PySem.Data.seq #[] })) ::
  ((nat_lit 216), ({ cls := PySem.Value.type "tuple", data := PySem.Data.seq #[PySem.Value.str (PySem.Str.ofString "number") 463, PySem.Value.str (PySem.Str.ofString "many") 464] })) ::
  ((nat_lit 217), ({ cls := PySem.Value.type "tuple", data := PySem.Data.seq #[] })) ::
  ((nat_lit 219), ({ cls := PySem.Value.type "code", data := PySem.Data.fields #[PySem.Value.str (PySem.Str.ofString "_law_turned") 460, PySem.Value.str (PySem.Str.ofString "_law_turned") 461, PySem.Value.str (PySem.Str.ofString "/claim/cut.py") 462, PySem.Value.int 124 0, PySem.Value.int 2 0, PySem.Value.int 0 0, PySem.Value.int 0 0, PySem.Value.int 3 0, PySem.Value.ref 214, PySem.Value.bool Bool.true, PySem.Value.int 181 0, PySem.Value.ref 215, PySem.Value.none, PySem.Value.ref 216, PySem.Value.ref 217, PySem.Value.ref 218, PySem.Value.int 465 0, PySem.Value.int 124 0, PySem.Value.str (PySem.Str.ofString "/claim/cut.py") 466] })) ::
  ((nat_lit 220), { cls := (PySem.Value.type "function"), dict := (Option.none), data := .func { name := (PySem.Str.ofString "_law_turned"), qualname := (PySem.Str.ofString "_law_turned"), params := aa20, body := .stmts bb20, scope := ss20, globals := (3), closure := ([]), defaults := (PySem.Value.none), kwdefaults := (PySem.Value.none), doc := (PySem.Value.none), pyModule := (PySem.Value.str (PySem.Str.ofString "law_nt0270_01") 438), annotations := (Option.none), code := (PySem.Value.ref 219), closureTuple := (PySem.Value.none), builtins := (0) }, slots := (#[]) }) ::
  ((nat_lit 221), ({ cls := PySem.Value.type "tuple", data := PySem.Data.seq #[] })) ::
  ((nat_lit 224), ({ cls := PySem.Value.type "code", data := PySem.Data.fields #[PySem.Value.str (PySem.Str.ofString "_law_sha") 468, PySem.Value.str (PySem.Str.ofString "_law_sha") 469, PySem.Value.str (PySem.Str.ofString "/claim/cut.py") 470, PySem.Value.int 126 0, PySem.Value.int 1 0, PySem.Value.int 0 0, PySem.Value.int 0 0, PySem.Value.int 3 0, PySem.Value.ref 221, PySem.Value.bool Bool.true, PySem.Value.int 181 0, PySem.Value.ref 222, PySem.Value.none, PySem.Value.none, PySem.Value.none, PySem.Value.ref 223, PySem.Value.int 471 0, PySem.Value.int 126 0, PySem.Value.str (PySem.Str.ofString "/claim/cut.py") 472] })) ::
  ((nat_lit 225), { cls := (PySem.Value.type "function"), dict := (Option.none), data := .func { name := (PySem.Str.ofString "_law_sha"), qualname := (PySem.Str.ofString "_law_sha"), params := aa21, body := .stmts bb21, scope := ss21, globals := (3), closure := ([]), defaults := (PySem.Value.none), kwdefaults := (PySem.Value.none), doc := (PySem.Value.none), pyModule := (PySem.Value.str (PySem.Str.ofString "law_nt0270_01") 438), annotations := (Option.none), code := (PySem.Value.ref 224), closureTuple := (PySem.Value.none), builtins := (0) }, slots := (#[]) }) ::
  ((nat_lit 226), ({ cls := PySem.Value.type "tuple", data := PySem.Data.seq #[] })) ::
  ((nat_lit 229), ({ cls := PySem.Value.type "code", data := PySem.Data.fields #[PySem.Value.str (PySem.Str.ofString "_law_crc") 474, PySem.Value.str (PySem.Str.ofString "_law_crc") 475, PySem.Value.str (PySem.Str.ofString "/claim/cut.py") 476, PySem.Value.int 155 0, PySem.Value.int 1 0, PySem.Value.int 0 0, PySem.Value.int 0 0, PySem.Value.int 3 0, PySem.Value.ref 226, PySem.Value.bool Bool.true, PySem.Value.int 181 0, PySem.Value.ref 227, PySem.Value.none, PySem.Value.none, PySem.Value.none, PySem.Value.ref 228, PySem.Value.int 477 0, PySem.Value.int 155 0, PySem.Value.str (PySem.Str.ofString "/claim/cut.py") 478] })) ::
  ((nat_lit 230), { cls := (PySem.Value.type "function"), dict := (Option.none), data := .func { name := (PySem.Str.ofString "_law_crc"), qualname := (PySem.Str.ofString "_law_crc"), params := aa22, body := .stmts bb22, scope := ss22, globals := (3), closure := ([]), defaults := (PySem.Value.none), kwdefaults := (PySem.Value.none), doc := (PySem.Value.none), pyModule := (PySem.Value.str (PySem.Str.ofString "law_nt0270_01") 438), annotations := (Option.none), code := (PySem.Value.ref 229), closureTuple := (PySem.Value.none), builtins := (0) }, slots := (#[]) }) ::
  ((nat_lit 231), ({ cls := PySem.Value.type "tuple", data := PySem.Data.seq #[] })) ::
  ((nat_lit 234), ({ cls := PySem.Value.type "code", data := PySem.Data.fields #[PySem.Value.str (PySem.Str.ofString "_law_sums") 480, PySem.Value.str (PySem.Str.ofString "_law_sums") 481, PySem.Value.str (PySem.Str.ofString "/claim/cut.py") 482, PySem.Value.int 171 0, PySem.Value.int 1 0, PySem.Value.int 0 0, PySem.Value.int 0 0, PySem.Value.int 3 0, PySem.Value.ref 231, PySem.Value.bool Bool.true, PySem.Value.int 181 0, PySem.Value.ref 232, PySem.Value.none, PySem.Value.none, PySem.Value.none, PySem.Value.ref 233, PySem.Value.int 483 0, PySem.Value.int 171 0, PySem.Value.str (PySem.Str.ofString "/claim/cut.py") 484] })) ::
  ((nat_lit 235), { cls := (PySem.Value.type "function"), dict := (Option.none), data := .func { name := (PySem.Str.ofString "_law_sums"), qualname := (PySem.Str.ofString "_law_sums"), params := aa23, body := .stmts bb23, scope := ss23, globals := (3), closure := ([]), defaults := (PySem.Value.none), kwdefaults := (PySem.Value.none), doc := (PySem.Value.none), pyModule := (PySem.Value.str (PySem.Str.ofString "law_nt0270_01") 438), annotations := (Option.none), code := (PySem.Value.ref 234), closureTuple := (PySem.Value.none), builtins := (0) }, slots := (#[]) }) ::
  ((nat_lit 236), ({ cls := PySem.Value.type "tuple", data := PySem.Data.seq #[] })) ::
  ((nat_lit 238), ({ cls := PySem.Value.type "tuple", data := PySem.Data.seq #[PySem.Value.str (PySem.Str.ofString "script") 489, PySem.Value.str (PySem.Str.ofString "deck") 490, PySem.Value.str (PySem.Str.ofString "octets") 491, PySem.Value.str (PySem.Str.ofString "other") 492, PySem.Value.str (PySem.Str.ofString "cut") 493, PySem.Value.str (PySem.Str.ofString "first") 494, PySem.Value.str (PySem.Str.ofString "second") 495, PySem.Value.str (PySem.Str.ofString "wide") 496, PySem.Value.str (PySem.Str.ofString "counter") 497, PySem.Value.str (PySem.Str.ofString "known") 498, PySem.Value.str (PySem.Str.ofString "row") 499] })) ::
  ((nat_lit 239), ({ cls := PySem.Value.type "tuple", data := PySem.Data.seq #[] })) ::
  ((nat_lit 241), ({ cls := PySem.Value.type "code", data := PySem.Data.fields #[PySem.Value.str (PySem.Str.ofString "law") 486, PySem.Value.str (PySem.Str.ofString "law") 487, PySem.Value.str (PySem.Str.ofString "/claim/cut.py") 488, PySem.Value.int 176 0, PySem.Value.int 1 0, PySem.Value.int 0 0, PySem.Value.int 0 0, PySem.Value.int 3 0, PySem.Value.ref 236, PySem.Value.bool Bool.true, PySem.Value.int 181 0, PySem.Value.ref 237, PySem.Value.none, PySem.Value.ref 238, PySem.Value.ref 239, PySem.Value.ref 240, PySem.Value.int 500 0, PySem.Value.int 176 0, PySem.Value.str (PySem.Str.ofString "/claim/cut.py") 501] })) ::
  ((nat_lit 242), { cls := (PySem.Value.type "function"), dict := (Option.none), data := .func { name := (PySem.Str.ofString "law"), qualname := (PySem.Str.ofString "law"), params := aa24, body := .stmts bb24, scope := ss24, globals := (3), closure := ([]), defaults := (PySem.Value.none), kwdefaults := (PySem.Value.none), doc := (PySem.Value.none), pyModule := (PySem.Value.str (PySem.Str.ofString "law_nt0270_01") 438), annotations := (Option.none), code := (PySem.Value.ref 241), closureTuple := (PySem.Value.none), builtins := (0) }, slots := (#[]) }) :: [] : Params → Frag)) rfl
noncomputable def hd.view_39 : Program := (fun {s0 s1 s2 s3 s4 s5 s6 s7 s8 s9 s10 s11 s12 s13 s14 s15 s16 s17 s18 s19 s20 s21 s22 s23 s24 : Stmt} (_h : PySem.Challenge.pw_nt0270_01.main.body = [s0, s1, s2, s3, s4, s5, s6, s7, s8, s9, s10, s11, s12, s13, s14, s15, s16, s17, s18, s19, s20, s21, s22, s23, s24]) => ({ PySem.Challenge.pw_nt0270_01 with main := { PySem.Challenge.pw_nt0270_01.main with body := [s1, s2, s3, s4, s5, s6, s7, s8, s9, s10, s12, s13, s14, s15, s17, s18, s19, s20, s21, s22, s23, s24] } } : Program)) rfl
noncomputable abbrev hd.hook : Hook := kHook hd.heap_39 [2, 3, 15, 22, 23, 25, 26, 28, 29, 30, 31, 32, 33, 36, 43, 44, 45, 48, 51, 52, 53, 55, 56, 58, 59, 60, 62, 63, 65, 66, 67, 69, 70, 72, 73, 74, 76, 77, 79, 80, 81, 82, 84, 85, 87, 88, 96, 98, 99, 101, 102, 103, 104, 106, 107, 109, 110, 111, 112, 113, 114, 115, 118, 120, 121, 123, 124, 132, 134, 135, 137, 138, 139, 141, 142, 144, 145, 146, 149, 150, 151, 154, 155, 156, 159, 160, 161, 162, 163, 164, 165, 175, 176, 178, 179, 181, 182, 183, 185, 186, 188, 189, 190, 191, 192, 193, 194, 197, 200, 201, 202, 204, 205, 207, 208, 209, 212, 213, 214, 216, 217, 219, 220, 221, 224, 225, 226, 229, 230, 231, 234, 235, 236, 238, 239, 241, 242] (fun _ => by kernel_rfl)
abbrev hd.loose : List Str := [Str.ofString "GitError", Str.ofString "adler32"]
noncomputable def hd.pick (P : Params) (n : Nat) (l : Frag) : Obj := List.rec (motive := fun _ => Obj) (boot_o_0 P) (fun x _ ih => cond (Nat.beq x.1 n) x.2 ih) l
noncomputable def hd.k (n : Nat) (P : Params) : Obj := hd.pick P n (hd.heap_39 P)
noncomputable def hd.b (n : Nat) (P : Params) : Obj := (match (hd.k n P).data with | .func f => { cls := .none, data := .func { name := f.name, qualname := f.qualname, params := f.params, body := f.body, scope := f.scope, globals := 0, closure := [], defaults := .none, kwdefaults := .none } } | _ => hd.k n P)
noncomputable def hd.trim (n : Nat) (t : BT) : Nat → Nat → BT := BT.rec (motive := fun _ => Nat → Nat → BT) (fun _ _ => .nil) (fun o _ _ l r a b => cond (Nat.blt b n) (.node o (l (2 * a) (a + b)) (r (2 * a) (2 * a + b))) .nil) t
noncomputable def hd.x11 : Params → Obj := fun P => { cls := PySem.Value.type "tuple", data := PySem.Data.seq #[] }
noncomputable def hd.x12 : Params → Obj := fun P => { cls := PySem.Value.none, data := PySem.Data.fields #[PySem.Value.int 5 0, PySem.Value.int 0 0, PySem.Value.ref 20, PySem.Value.int 9 0, PySem.Value.int 0 0, PySem.Value.ref 41, PySem.Value.int 11 0, PySem.Value.int 0 0, PySem.Value.ref 51, PySem.Value.int 13 0, PySem.Value.int 0 0, PySem.Value.ref 58, PySem.Value.int 15 0, PySem.Value.int 0 0, PySem.Value.ref 65, PySem.Value.int 17 0, PySem.Value.int 0 0, PySem.Value.ref 72, PySem.Value.int 24 0, PySem.Value.int 0 0, PySem.Value.ref 79, PySem.Value.int 26 0, PySem.Value.int 0 0, PySem.Value.ref 87, PySem.Value.int 33 0, PySem.Value.int 0 0, PySem.Value.ref 94, PySem.Value.int 50 0, PySem.Value.int 0 0, PySem.Value.ref 123, PySem.Value.int 52 0, PySem.Value.int 0 0, PySem.Value.ref 130, PySem.Value.int 98 0, PySem.Value.int 0 0, PySem.Value.ref 173, PySem.Value.int 110 0, PySem.Value.int 0 0, PySem.Value.ref 200, PySem.Value.int 115 0, PySem.Value.int 0 0, PySem.Value.ref 207, PySem.Value.int 120 0, PySem.Value.int 0 0, PySem.Value.ref 212, PySem.Value.int 124 0, PySem.Value.int 0 0, PySem.Value.ref 219, PySem.Value.int 126 0, PySem.Value.int 0 0, PySem.Value.ref 224, PySem.Value.int 155 0, PySem.Value.int 0 0, PySem.Value.ref 229, PySem.Value.int 171 0, PySem.Value.int 0 0, PySem.Value.ref 234, PySem.Value.int 176 0, PySem.Value.int 0 0, PySem.Value.ref 241] }
noncomputable def hd.x13 : Params → Obj := fun P => { cls := PySem.Value.type "code", data := PySem.Data.fields #[PySem.Value.str (PySem.Str.ofString "<module>") 182, PySem.Value.str (PySem.Str.ofString "<module>") 183, PySem.Value.str (PySem.Str.ofString "/claim/cut.py") 184, PySem.Value.int 1 0, PySem.Value.int 0 0, PySem.Value.int 0 0, PySem.Value.int 0 0, PySem.Value.int 0 0, PySem.Value.ref 11, PySem.Value.bool Bool.false, PySem.Value.int 181 0, PySem.Value.ref 12, PySem.Value.none, PySem.Value.none, PySem.Value.none, PySem.Value.none, PySem.Value.int 185 0, PySem.Value.int 1 0, PySem.Value.str (PySem.Str.ofString "/claim/cut.py") 186] }
noncomputable def hd.x14 : Params → Obj := fun P => { cls := PySem.Value.type "frame", slots := #[Option.some (PySem.Value.ref 13), Option.some (PySem.Value.ref 3), Option.some (PySem.Value.ref 3), Option.none, Option.some (PySem.Value.str (PySem.Str.ofString "__main__") 164), Option.none, Option.some (PySem.Value.ref 0)] }
noncomputable def hd.x16 : Params → Obj := fun P => { cls := PySem.Value.type "builtin_function_or_method", data := PySem.Data.fields #[PySem.Value.builtin "type.__prepare__", PySem.Value.type "type"] }
noncomputable def hd.x17 : Params → Obj := fun P => { cls := PySem.Value.type "dict", data := PySem.Data.dict #[{ hash := PySem.PyData.keyHash P (PySem.Str.ofString "__module__"), key := PySem.Value.str (PySem.Str.ofString "__module__") 202, val := PySem.Value.str (PySem.Str.ofString "gitcore.base") 187 }, { hash := PySem.PyData.keyHash P (PySem.Str.ofString "__qualname__"), key := PySem.Value.str (PySem.Str.ofString "__qualname__") 204, val := PySem.Value.str (PySem.Str.ofString "GitError") 203 }, { hash := PySem.PyData.keyHash P (PySem.Str.ofString "__firstlineno__"), key := PySem.Value.str (PySem.Str.ofString "__firstlineno__") 206, val := PySem.Value.int 5 205 }, { hash := PySem.PyData.keyHash P (PySem.Str.ofString "__init__"), key := PySem.Value.str (PySem.Str.ofString "__init__") 215, val := PySem.Value.ref 29 }, { hash := PySem.PyData.keyHash P (PySem.Str.ofString "__static_attributes__"), key := PySem.Value.str (PySem.Str.ofString "__static_attributes__") 217, val := PySem.Value.ref 30 }] 5 }
noncomputable def hd.x19 : Params → Obj := fun P => { cls := PySem.Value.none, data := PySem.Data.fields #[PySem.Value.int 7 0, PySem.Value.int 4 0, PySem.Value.ref 28] }
noncomputable def hd.x20 : Params → Obj := fun P => { cls := PySem.Value.type "code", data := PySem.Data.fields #[PySem.Value.str (PySem.Str.ofString "GitError") 197, PySem.Value.str (PySem.Str.ofString "GitError") 198, PySem.Value.str (PySem.Str.ofString "/claim/cut.py") 199, PySem.Value.int 5 0, PySem.Value.int 0 0, PySem.Value.int 0 0, PySem.Value.int 0 0, PySem.Value.int 0 0, PySem.Value.ref 18, PySem.Value.bool Bool.false, PySem.Value.int 181 0, PySem.Value.ref 19, PySem.Value.none, PySem.Value.none, PySem.Value.none, PySem.Value.none, PySem.Value.int 200 0, PySem.Value.int 5 0, PySem.Value.str (PySem.Str.ofString "/claim/cut.py") 201] }
noncomputable def hd.x21 : Params → Obj := fun P => { cls := PySem.Value.type "frame", slots := #[Option.some (PySem.Value.ref 20), Option.some (PySem.Value.ref 3), Option.some (PySem.Value.ref 17), Option.none, Option.some (PySem.Value.str (PySem.Str.ofString "gitcore.base") 187), Option.none, Option.some (PySem.Value.ref 0)] }
noncomputable def hd.x24 : Params → Obj := fun P => { cls := PySem.Value.none, data := PySem.Data.fields #[] }
noncomputable def hd.x34 : Params → Obj := fun P => { cls := PySem.Value.type "super", data := PySem.Data.fields #[PySem.Value.ref 32, PySem.Value.ref 32, PySem.Value.ref 32] }
noncomputable def hd.x35 : Params → Obj := fun P => { cls := PySem.Value.type "builtin_function_or_method", data := PySem.Data.fields #[PySem.Value.builtin "object.__init_subclass__", PySem.Value.ref 32] }
noncomputable def hd.x38 : Params → Obj := fun P => { cls := PySem.Value.type "dict", data := PySem.Data.dict #[{ hash := PySem.PyData.keyHash P (PySem.Str.ofString "__module__"), key := PySem.Value.str (PySem.Str.ofString "__module__") 232, val := PySem.Value.str (PySem.Str.ofString "gitcore.base") 187 }, { hash := PySem.PyData.keyHash P (PySem.Str.ofString "__qualname__"), key := PySem.Value.str (PySem.Str.ofString "__qualname__") 234, val := PySem.Value.str (PySem.Str.ofString "BadObject") 233 }, { hash := PySem.PyData.keyHash P (PySem.Str.ofString "__firstlineno__"), key := PySem.Value.str (PySem.Str.ofString "__firstlineno__") 236, val := PySem.Value.int 9 235 }, { hash := PySem.PyData.keyHash P (PySem.Str.ofString "__static_attributes__"), key := PySem.Value.str (PySem.Str.ofString "__static_attributes__") 237, val := PySem.Value.ref 43 }] 4 }
noncomputable def hd.x41 : Params → Obj := fun P => { cls := PySem.Value.type "code", data := PySem.Data.fields #[PySem.Value.str (PySem.Str.ofString "BadObject") 227, PySem.Value.str (PySem.Str.ofString "BadObject") 228, PySem.Value.str (PySem.Str.ofString "/claim/cut.py") 229, PySem.Value.int 9 0, PySem.Value.int 0 0, PySem.Value.int 0 0, PySem.Value.int 0 0, PySem.Value.int 0 0, PySem.Value.ref 39, PySem.Value.bool Bool.false, PySem.Value.int 181 0, PySem.Value.ref 40, PySem.Value.none, PySem.Value.none, PySem.Value.none, PySem.Value.none, PySem.Value.int 230 0, PySem.Value.int 9 0, PySem.Value.str (PySem.Str.ofString "/claim/cut.py") 231] }
noncomputable def hd.x42 : Params → Obj := fun P => { cls := PySem.Value.type "frame", slots := #[Option.some (PySem.Value.ref 41), Option.some (PySem.Value.ref 3), Option.some (PySem.Value.ref 38), Option.none, Option.some (PySem.Value.str (PySem.Str.ofString "gitcore.base") 187), Option.none, Option.some (PySem.Value.ref 0)] }
noncomputable def hd.x46 : Params → Obj := fun P => { cls := PySem.Value.type "super", data := PySem.Data.fields #[PySem.Value.ref 45, PySem.Value.ref 45, PySem.Value.ref 45] }
noncomputable def hd.x47 : Params → Obj := fun P => { cls := PySem.Value.type "builtin_function_or_method", data := PySem.Data.fields #[PySem.Value.builtin "object.__init_subclass__", PySem.Value.ref 45] }
noncomputable def hd.x91 : Params → Obj := fun P => { cls := PySem.Value.type "dict", data := PySem.Data.dict #[{ hash := PySem.PyData.keyHash P (PySem.Str.ofString "__module__"), key := PySem.Value.str (PySem.Str.ofString "__module__") 299, val := PySem.Value.str (PySem.Str.ofString "gitcore.base") 187 }, { hash := PySem.PyData.keyHash P (PySem.Str.ofString "__qualname__"), key := PySem.Value.str (PySem.Str.ofString "__qualname__") 301, val := PySem.Value.str (PySem.Str.ofString "Crc32") 300 }, { hash := PySem.PyData.keyHash P (PySem.Str.ofString "__firstlineno__"), key := PySem.Value.str (PySem.Str.ofString "__firstlineno__") 303, val := PySem.Value.int 33 302 }, { hash := PySem.PyData.keyHash P (PySem.Str.ofString "__init__"), key := PySem.Value.str (PySem.Str.ofString "__init__") 313, val := PySem.Value.ref 102 }, { hash := PySem.PyData.keyHash P (PySem.Str.ofString "of"), key := PySem.Value.str (PySem.Str.ofString "of") 325, val := PySem.Value.ref 110 }, { hash := PySem.PyData.keyHash P (PySem.Str.ofString "__static_attributes__"), key := PySem.Value.str (PySem.Str.ofString "__static_attributes__") 327, val := PySem.Value.ref 111 }] 6 }
noncomputable def hd.x93 : Params → Obj := fun P => { cls := PySem.Value.none, data := PySem.Data.fields #[PySem.Value.int 35 0, PySem.Value.int 4 0, PySem.Value.ref 101, PySem.Value.int 43 0, PySem.Value.int 4 0, PySem.Value.ref 109] }
noncomputable def hd.x94 : Params → Obj := fun P => { cls := PySem.Value.type "code", data := PySem.Data.fields #[PySem.Value.str (PySem.Str.ofString "Crc32") 294, PySem.Value.str (PySem.Str.ofString "Crc32") 295, PySem.Value.str (PySem.Str.ofString "/claim/cut.py") 296, PySem.Value.int 33 0, PySem.Value.int 0 0, PySem.Value.int 0 0, PySem.Value.int 0 0, PySem.Value.int 0 0, PySem.Value.ref 92, PySem.Value.bool Bool.false, PySem.Value.int 181 0, PySem.Value.ref 93, PySem.Value.none, PySem.Value.none, PySem.Value.none, PySem.Value.none, PySem.Value.int 297 0, PySem.Value.int 33 0, PySem.Value.str (PySem.Str.ofString "/claim/cut.py") 298] }
noncomputable def hd.x95 : Params → Obj := fun P => { cls := PySem.Value.type "frame", slots := #[Option.some (PySem.Value.ref 94), Option.some (PySem.Value.ref 3), Option.some (PySem.Value.ref 91), Option.none, Option.some (PySem.Value.str (PySem.Str.ofString "gitcore.base") 187), Option.none, Option.some (PySem.Value.ref 0)] }
noncomputable def hd.x116 : Params → Obj := fun P => { cls := PySem.Value.type "super", data := PySem.Data.fields #[PySem.Value.ref 113, PySem.Value.ref 113, PySem.Value.ref 113] }
noncomputable def hd.x117 : Params → Obj := fun P => { cls := PySem.Value.type "builtin_function_or_method", data := PySem.Data.fields #[PySem.Value.builtin "object.__init_subclass__", PySem.Value.ref 113] }
noncomputable def hd.x127 : Params → Obj := fun P => { cls := PySem.Value.type "dict", data := PySem.Data.dict #[{ hash := PySem.PyData.keyHash P (PySem.Str.ofString "__module__"), key := PySem.Value.str (PySem.Str.ofString "__module__") 350, val := PySem.Value.str (PySem.Str.ofString "gitcore.base") 187 }, { hash := PySem.PyData.keyHash P (PySem.Str.ofString "__qualname__"), key := PySem.Value.str (PySem.Str.ofString "__qualname__") 352, val := PySem.Value.str (PySem.Str.ofString "Sha1") 351 }, { hash := PySem.PyData.keyHash P (PySem.Str.ofString "__firstlineno__"), key := PySem.Value.str (PySem.Str.ofString "__firstlineno__") 354, val := PySem.Value.int 52 353 }, { hash := PySem.PyData.keyHash P (PySem.Str.ofString "__init__"), key := PySem.Value.str (PySem.Str.ofString "__init__") 361, val := PySem.Value.ref 138 }, { hash := PySem.PyData.keyHash P (PySem.Str.ofString "padded"), key := PySem.Value.str (PySem.Str.ofString "padded") 370, val := PySem.Value.ref 145 }, { hash := PySem.PyData.keyHash P (PySem.Str.ofString "words_of"), key := PySem.Value.str (PySem.Str.ofString "words_of") 376, val := PySem.Value.ref 150 }, { hash := PySem.PyData.keyHash P (PySem.Str.ofString "stirred"), key := PySem.Value.str (PySem.Str.ofString "stirred") 382, val := PySem.Value.ref 155 }, { hash := PySem.PyData.keyHash P (PySem.Str.ofString "digest"), key := PySem.Value.str (PySem.Str.ofString "digest") 388, val := PySem.Value.ref 160 }, { hash := PySem.PyData.keyHash P (PySem.Str.ofString "__static_attributes__"), key := PySem.Value.str (PySem.Str.ofString "__static_attributes__") 390, val := PySem.Value.ref 161 }] 9 }
noncomputable def hd.x129 : Params → Obj := fun P => { cls := PySem.Value.none, data := PySem.Data.fields #[PySem.Value.int 54 0, PySem.Value.int 4 0, PySem.Value.ref 137, PySem.Value.int 57 0, PySem.Value.int 4 0, PySem.Value.ref 144, PySem.Value.int 61 0, PySem.Value.int 4 0, PySem.Value.ref 149, PySem.Value.int 67 0, PySem.Value.int 4 0, PySem.Value.ref 154, PySem.Value.int 92 0, PySem.Value.int 4 0, PySem.Value.ref 159] }
noncomputable def hd.x130 : Params → Obj := fun P => { cls := PySem.Value.type "code", data := PySem.Data.fields #[PySem.Value.str (PySem.Str.ofString "Sha1") 345, PySem.Value.str (PySem.Str.ofString "Sha1") 346, PySem.Value.str (PySem.Str.ofString "/claim/cut.py") 347, PySem.Value.int 52 0, PySem.Value.int 0 0, PySem.Value.int 0 0, PySem.Value.int 0 0, PySem.Value.int 0 0, PySem.Value.ref 128, PySem.Value.bool Bool.false, PySem.Value.int 181 0, PySem.Value.ref 129, PySem.Value.none, PySem.Value.none, PySem.Value.none, PySem.Value.none, PySem.Value.int 348 0, PySem.Value.int 52 0, PySem.Value.str (PySem.Str.ofString "/claim/cut.py") 349] }
noncomputable def hd.x131 : Params → Obj := fun P => { cls := PySem.Value.type "frame", slots := #[Option.some (PySem.Value.ref 130), Option.some (PySem.Value.ref 3), Option.some (PySem.Value.ref 127), Option.none, Option.some (PySem.Value.str (PySem.Str.ofString "gitcore.base") 187), Option.none, Option.some (PySem.Value.ref 0)] }
noncomputable def hd.x166 : Params → Obj := fun P => { cls := PySem.Value.type "super", data := PySem.Data.fields #[PySem.Value.ref 163, PySem.Value.ref 163, PySem.Value.ref 163] }
noncomputable def hd.x167 : Params → Obj := fun P => { cls := PySem.Value.type "builtin_function_or_method", data := PySem.Data.fields #[PySem.Value.builtin "object.__init_subclass__", PySem.Value.ref 163] }
noncomputable def hd.x170 : Params → Obj := fun P => { cls := PySem.Value.type "dict", data := PySem.Data.dict #[{ hash := PySem.PyData.keyHash P (PySem.Str.ofString "__module__"), key := PySem.Value.str (PySem.Str.ofString "__module__") 405, val := PySem.Value.str (PySem.Str.ofString "gitcore.base") 187 }, { hash := PySem.PyData.keyHash P (PySem.Str.ofString "__qualname__"), key := PySem.Value.str (PySem.Str.ofString "__qualname__") 407, val := PySem.Value.str (PySem.Str.ofString "CountingHasher") 406 }, { hash := PySem.PyData.keyHash P (PySem.Str.ofString "__firstlineno__"), key := PySem.Value.str (PySem.Str.ofString "__firstlineno__") 409, val := PySem.Value.int 98 408 }, { hash := PySem.PyData.keyHash P (PySem.Str.ofString "__init__"), key := PySem.Value.str (PySem.Str.ofString "__init__") 418, val := PySem.Value.ref 182 }, { hash := PySem.PyData.keyHash P (PySem.Str.ofString "digest"), key := PySem.Value.str (PySem.Str.ofString "digest") 427, val := PySem.Value.ref 189 }, { hash := PySem.PyData.keyHash P (PySem.Str.ofString "__static_attributes__"), key := PySem.Value.str (PySem.Str.ofString "__static_attributes__") 430, val := PySem.Value.ref 190 }] 6 }
noncomputable def hd.x172 : Params → Obj := fun P => { cls := PySem.Value.none, data := PySem.Data.fields #[PySem.Value.int 100 0, PySem.Value.int 4 0, PySem.Value.ref 181, PySem.Value.int 104 0, PySem.Value.int 4 0, PySem.Value.ref 188] }
noncomputable def hd.x173 : Params → Obj := fun P => { cls := PySem.Value.type "code", data := PySem.Data.fields #[PySem.Value.str (PySem.Str.ofString "CountingHasher") 400, PySem.Value.str (PySem.Str.ofString "CountingHasher") 401, PySem.Value.str (PySem.Str.ofString "/claim/cut.py") 402, PySem.Value.int 98 0, PySem.Value.int 0 0, PySem.Value.int 0 0, PySem.Value.int 0 0, PySem.Value.int 0 0, PySem.Value.ref 171, PySem.Value.bool Bool.false, PySem.Value.int 181 0, PySem.Value.ref 172, PySem.Value.none, PySem.Value.none, PySem.Value.none, PySem.Value.none, PySem.Value.int 403 0, PySem.Value.int 98 0, PySem.Value.str (PySem.Str.ofString "/claim/cut.py") 404] }
noncomputable def hd.x174 : Params → Obj := fun P => { cls := PySem.Value.type "frame", slots := #[Option.some (PySem.Value.ref 173), Option.some (PySem.Value.ref 3), Option.some (PySem.Value.ref 170), Option.none, Option.some (PySem.Value.str (PySem.Str.ofString "gitcore.base") 187), Option.none, Option.some (PySem.Value.ref 0)] }
noncomputable def hd.x195 : Params → Obj := fun P => { cls := PySem.Value.type "super", data := PySem.Data.fields #[PySem.Value.ref 192, PySem.Value.ref 192, PySem.Value.ref 192] }
noncomputable def hd.x196 : Params → Obj := fun P => { cls := PySem.Value.type "builtin_function_or_method", data := PySem.Data.fields #[PySem.Value.builtin "object.__init_subclass__", PySem.Value.ref 192] }
noncomputable def hd.t3 : Params → BT := fun P => (.node (PySem.W.boot_o_0 P) (.node (PySem.W.boot_o_1 P) (.node (hd.k 3 P) (.node (PySem.W.boot_o_7 P) (.node (hd.k 15 P) (.node (hd.k 31 P) (.node (hd.k 63 P) (.node (hd.x127 P) .nil .nil) (.node (hd.k 191 P) .nil .nil)) (.node (hd.x95 P) (.node (hd.k 159 P) .nil .nil) (.node (hd.b 225 P) .nil .nil))) (.node (hd.x47 P) (.node (hd.k 79 P) (.node (hd.b 145 P) .nil .nil) (.node (hd.k 207 P) .nil .nil)) (.node (hd.k 111 P) (.node (hd.k 175 P) .nil .nil) (.node (hd.k 239 P) .nil .nil)))) (.node (hd.k 23 P) (.node (hd.x11 P) (.node (hd.b 73 P) (.node (hd.k 135 P) .nil .nil) (.node (hd.b 201 P) .nil .nil)) (.node (hd.k 103 P) (.node (hd.x167 P) .nil .nil) (.node (hd.k 231 P) .nil .nil))) (.node (hd.k 55 P) (.node (hd.k 87 P) (.node (hd.k 151 P) .nil .nil) (.node (hd.x24 P) .nil .nil)) (.node (hd.x24 P) (.node (hd.k 183 P) .nil .nil) .nil)))) (.node (hd.x11 P) (.node (hd.x19 P) (.node (hd.x35 P) (.node (hd.k 67 P) (.node (hd.x131 P) .nil .nil) (.node (hd.x195 P) .nil .nil)) (.node (hd.k 99 P) (.node (hd.k 163 P) .nil .nil) (.node (hd.x24 P) .nil .nil))) (.node (hd.k 51 P) (.node (hd.x24 P) (.node (hd.x24 P) .nil .nil) (.node (hd.b 213 P) .nil .nil)) (.node (hd.k 115 P) (.node (hd.k 179 P) .nil .nil) .nil))) (.node (hd.b 29 P) (.node (hd.k 43 P) (.node (hd.x24 P) (.node (hd.k 139 P) .nil .nil) (.node (hd.x24 P) .nil .nil)) (.node (hd.k 107 P) (.node (hd.x11 P) .nil .nil) (.node (hd.k 235 P) .nil .nil))) (.node (hd.k 59 P) (.node (hd.x91 P) (.node (hd.k 155 P) .nil .nil) (.node (hd.k 219 P) .nil .nil)) (.node (hd.k 123 P) (.node (hd.b 189 P) .nil .nil) .nil))))) (.node (PySem.W.boot_o_5 P) (.node (PySem.W.boot_o_9 P) (.node (hd.x17 P) (.node (hd.k 33 P) (.node (hd.k 65 P) (.node (hd.x129 P) .nil .nil) (.node (hd.k 193 P) .nil .nil)) (.node (hd.x24 P) (.node (hd.k 161 P) .nil .nil) (.node (hd.k 225 P) .nil .nil))) (.node (hd.x24 P) (.node (hd.k 81 P) (.node (hd.k 145 P) .nil .nil) (.node (hd.k 209 P) .nil .nil)) (.node (hd.k 113 P) (.node (hd.x24 P) .nil .nil) (.node (hd.k 241 P) .nil .nil)))) (.node (hd.k 25 P) (.node (hd.x41 P) (.node (hd.k 73 P) (.node (hd.k 137 P) .nil .nil) (.node (hd.k 201 P) .nil .nil)) (.node (hd.x24 P) (.node (hd.x16 P) .nil .nil) (.node (hd.b 235 P) .nil .nil))) (.node (hd.b 59 P) (.node (hd.x11 P) (.node (hd.b 155 P) .nil .nil) (.node (hd.k 217 P) .nil .nil)) (.node (hd.k 121 P) (.node (hd.k 185 P) .nil .nil) .nil)))) (.node (hd.x13 P) (.node (hd.x21 P) (.node (hd.x16 P) (.node (hd.k 69 P) (.node (hd.x24 P) .nil .nil) (.node (hd.k 197 P) .nil .nil)) (.node (hd.k 101 P) (.node (hd.k 165 P) .nil .nil) (.node (hd.k 229 P) .nil .nil))) (.node (hd.k 53 P) (.node (hd.k 85 P) (.node (hd.k 149 P) .nil .nil) (.node (hd.k 213 P) .nil .nil)) (.node (hd.x117 P) (.node (hd.k 181 P) .nil .nil) .nil))) (.node (hd.k 29 P) (.node (hd.k 45 P) (.node (hd.k 77 P) (.node (hd.k 141 P) .nil .nil) (.node (hd.k 205 P) .nil .nil)) (.node (hd.k 109 P) (.node (hd.x173 P) .nil .nil) (.node (hd.x24 P) .nil .nil))) (.node (hd.x24 P) (.node (hd.x93 P) (.node (hd.x24 P) .nil .nil) (.node (hd.k 221 P) .nil .nil)) (.node (hd.x11 P) (.node (hd.k 189 P) .nil .nil) .nil)))))) (.node (hd.k 2 P) (.node (PySem.W.boot_o_4 P) (.node (PySem.W.boot_o_8 P) (.node (hd.x16 P) (.node (hd.k 32 P) (.node (hd.b 66 P) (.node (hd.x11 P) .nil .nil) (.node (hd.k 192 P) .nil .nil)) (.node (hd.k 96 P) (.node (hd.k 160 P) .nil .nil) (.node (hd.k 224 P) .nil .nil))) (.node (hd.k 48 P) (.node (hd.k 80 P) (.node (hd.k 144 P) .nil .nil) (.node (hd.k 208 P) .nil .nil)) (.node (hd.k 112 P) (.node (hd.k 176 P) .nil .nil) (.node (hd.b 242 P) .nil .nil)))) (.node (hd.x24 P) (.node (hd.x24 P) (.node (hd.k 72 P) (.node (hd.b 138 P) .nil .nil) (.node (hd.k 200 P) .nil .nil)) (.node (hd.k 104 P) (.node (hd.x11 P) .nil .nil) (.node (hd.x24 P) .nil .nil))) (.node (hd.k 56 P) (.node (hd.k 88 P) (.node (hd.x24 P) .nil .nil) (.node (hd.k 216 P) .nil .nil)) (.node (hd.k 120 P) (.node (hd.x24 P) .nil .nil) .nil)))) (.node (hd.x12 P) (.node (hd.x20 P) (.node (hd.k 36 P) (.node (hd.x24 P) (.node (hd.k 132 P) .nil .nil) (.node (hd.x196 P) .nil .nil)) (.node (hd.b 102 P) (.node (hd.k 164 P) .nil .nil) (.node (hd.b 230 P) .nil .nil))) (.node (hd.k 52 P) (.node (hd.k 84 P) (.node (hd.b 150 P) .nil .nil) (.node (hd.k 212 P) .nil .nil)) (.node (hd.x116 P) (.node (hd.b 182 P) .nil .nil) .nil))) (.node (hd.k 28 P) (.node (hd.k 44 P) (.node (hd.k 76 P) (.node (hd.x24 P) .nil .nil) (.node (hd.k 204 P) .nil .nil)) (.node (hd.b 110 P) (.node (hd.x172 P) .nil .nil) (.node (hd.k 236 P) .nil .nil))) (.node (hd.k 60 P) (.node (hd.x11 P) (.node (hd.k 156 P) .nil .nil) (.node (hd.k 220 P) .nil .nil)) (.node (hd.k 124 P) (.node (hd.k 188 P) .nil .nil) .nil))))) (.node (PySem.W.boot_o_6 P) (.node (PySem.W.boot_o_10 P) (.node (hd.x11 P) (.node (hd.x34 P) (.node (hd.k 66 P) (.node (hd.x130 P) .nil .nil) (.node (hd.k 194 P) .nil .nil)) (.node (hd.k 98 P) (.node (hd.k 162 P) .nil .nil) (.node (hd.k 226 P) .nil .nil))) (.node (hd.b 52 P) (.node (hd.k 82 P) (.node (hd.k 146 P) .nil .nil) (.node (hd.x24 P) .nil .nil)) (.node (hd.k 114 P) (.node (hd.k 178 P) .nil .nil) (.node (hd.k 242 P) .nil .nil)))) (.node (hd.k 26 P) (.node (hd.x42 P) (.node (hd.k 74 P) (.node (hd.k 138 P) .nil .nil) (.node (hd.k 202 P) .nil .nil)) (.node (hd.k 106 P) (.node (hd.x170 P) .nil .nil) (.node (hd.k 234 P) .nil .nil))) (.node (hd.k 58 P) (.node (hd.x16 P) (.node (hd.k 154 P) .nil .nil) (.node (hd.b 220 P) .nil .nil)) (.node (hd.b 124 P) (.node (hd.k 186 P) .nil .nil) .nil)))) (.node (hd.x14 P) (.node (hd.k 22 P) (.node (hd.x38 P) (.node (hd.k 70 P) (.node (hd.k 134 P) .nil .nil) (.node (hd.x24 P) .nil .nil)) (.node (hd.k 102 P) (.node (hd.x166 P) .nil .nil) (.node (hd.k 230 P) .nil .nil))) (.node (hd.x24 P) (.node (hd.b 88 P) (.node (hd.k 150 P) .nil .nil) (.node (hd.k 214 P) .nil .nil)) (.node (hd.k 118 P) (.node (hd.k 182 P) .nil .nil) .nil))) (.node (hd.k 30 P) (.node (hd.x46 P) (.node (hd.b 80 P) (.node (hd.k 142 P) .nil .nil) (.node (hd.b 208 P) .nil .nil)) (.node (hd.k 110 P) (.node (hd.x174 P) .nil .nil) (.node (hd.k 238 P) .nil .nil))) (.node (hd.k 62 P) (.node (hd.x94 P) (.node (hd.b 160 P) .nil .nil) (.node (hd.x24 P) .nil .nil)) (.node (hd.x16 P) (.node (hd.k 190 P) .nil .nil) .nil)))))))
noncomputable def hd.x12v0 : Params → Obj := fun P => { cls := PySem.Value.none, data := PySem.Data.fields #[] }
noncomputable def hd.t0 : Params → BT := fun P => BT.set (BT.set (BT.set (hd.trim 15 (hd.t3 P) 1 0) 2 (fun _ => PySem.W.boot_o_2 P)) 3 (fun _ => PySem.W.boot_o_3 P)) 12 (fun _ => hd.x12v0 P)
noncomputable def hd.x3v1 : Params → Obj := fun P => { cls := PySem.Value.type "dict", data := PySem.Data.dict #[{ hash := PySem.PyData.keyHash P (PySem.Str.ofString "__name__"), key := PySem.Value.str (PySem.Str.ofString "__name__") 165, val := PySem.Value.str (PySem.Str.ofString "gitcore.base") 187 }, { hash := PySem.PyData.keyHash P (PySem.Str.ofString "__doc__"), key := PySem.Value.str (PySem.Str.ofString "__doc__") 166, val := PySem.Value.none }, { hash := PySem.PyData.keyHash P (PySem.Str.ofString "__package__"), key := PySem.Value.str (PySem.Str.ofString "__package__") 167, val := PySem.Value.none }, { hash := PySem.PyData.keyHash P (PySem.Str.ofString "__loader__"), key := PySem.Value.str (PySem.Str.ofString "__loader__") 168, val := PySem.Value.builtin "__main__.__loader__#opaque" }, { hash := PySem.PyData.keyHash P (PySem.Str.ofString "__spec__"), key := PySem.Value.str (PySem.Str.ofString "__spec__") 169, val := PySem.Value.none }, { hash := PySem.PyData.keyHash P (PySem.Str.ofString "__annotations__"), key := PySem.Value.str (PySem.Str.ofString "__annotations__") 170, val := PySem.Value.ref 6 }, { hash := PySem.PyData.keyHash P (PySem.Str.ofString "__builtins__"), key := PySem.Value.str (PySem.Str.ofString "__builtins__") 171, val := PySem.Value.ref 4 }, { hash := PySem.PyData.keyHash P (PySem.Str.ofString "__file__"), key := PySem.Value.str (PySem.Str.ofString "__file__") 173, val := PySem.Value.str (PySem.Str.ofString "/claim/cut.py") 172 }, { hash := PySem.PyData.keyHash P (PySem.Str.ofString "__cached__"), key := PySem.Value.str (PySem.Str.ofString "__cached__") 174, val := PySem.Value.none }, { hash := PySem.PyData.keyHash P (PySem.Str.ofString "ADLER_BASE"), key := PySem.Value.str (PySem.Str.ofString "ADLER_BASE") 190, val := PySem.Value.int 65521 189 }, { hash := PySem.PyData.keyHash P (PySem.Str.ofString "CRC_POLYNOMIAL"), key := PySem.Value.str (PySem.Str.ofString "CRC_POLYNOMIAL") 192, val := PySem.Value.int 3988292384 191 }, { hash := PySem.PyData.keyHash P (PySem.Str.ofString "WORD"), key := PySem.Value.str (PySem.Str.ofString "WORD") 194, val := PySem.Value.int 4294967295 193 }, { hash := PySem.PyData.keyHash P (PySem.Str.ofString "GitError"), key := PySem.Value.str (PySem.Str.ofString "GitError") 224, val := PySem.Value.ref 32 }, { hash := PySem.PyData.keyHash P (PySem.Str.ofString "BadObject"), key := PySem.Value.str (PySem.Str.ofString "BadObject") 240, val := PySem.Value.ref 45 }, { hash := PySem.PyData.keyHash P (PySem.Str.ofString "big_endian"), key := PySem.Value.str (PySem.Str.ofString "big_endian") 246, val := PySem.Value.ref 52 }, { hash := PySem.PyData.keyHash P (PySem.Str.ofString "be32"), key := PySem.Value.str (PySem.Str.ofString "be32") 253, val := PySem.Value.ref 59 }, { hash := PySem.PyData.keyHash P (PySem.Str.ofString "be64"), key := PySem.Value.str (PySem.Str.ofString "be64") 260, val := PySem.Value.ref 66 }, { hash := PySem.PyData.keyHash P (PySem.Str.ofString "at_big_endian"), key := PySem.Value.str (PySem.Str.ofString "at_big_endian") 271, val := PySem.Value.ref 73 }, { hash := PySem.PyData.keyHash P (PySem.Str.ofString "at_be32"), key := PySem.Value.str (PySem.Str.ofString "at_be32") 279, val := PySem.Value.ref 80 }, { hash := PySem.PyData.keyHash P (PySem.Str.ofString "adler32"), key := PySem.Value.str (PySem.Str.ofString "adler32") 291, val := PySem.Value.ref 88 }] 20 }
noncomputable def hd.x12v1 : Params → Obj := fun P => { cls := PySem.Value.none, data := PySem.Data.fields #[PySem.Value.int 5 0, PySem.Value.int 0 0, PySem.Value.ref 20, PySem.Value.int 9 0, PySem.Value.int 0 0, PySem.Value.ref 41, PySem.Value.int 11 0, PySem.Value.int 0 0, PySem.Value.ref 51, PySem.Value.int 13 0, PySem.Value.int 0 0, PySem.Value.ref 58, PySem.Value.int 15 0, PySem.Value.int 0 0, PySem.Value.ref 65, PySem.Value.int 17 0, PySem.Value.int 0 0, PySem.Value.ref 72, PySem.Value.int 24 0, PySem.Value.int 0 0, PySem.Value.ref 79, PySem.Value.int 26 0, PySem.Value.int 0 0, PySem.Value.ref 87] }
noncomputable def hd.t1 : Params → BT := fun P => BT.set (BT.set (hd.trim 89 (hd.t3 P) 1 0) 3 (fun _ => hd.x3v1 P)) 12 (fun _ => hd.x12v1 P)
noncomputable def hd.x3v2 : Params → Obj := fun P => { cls := PySem.Value.type "dict", data := PySem.Data.dict #[{ hash := PySem.PyData.keyHash P (PySem.Str.ofString "__name__"), key := PySem.Value.str (PySem.Str.ofString "__name__") 165, val := PySem.Value.str (PySem.Str.ofString "gitcore.base") 187 }, { hash := PySem.PyData.keyHash P (PySem.Str.ofString "__doc__"), key := PySem.Value.str (PySem.Str.ofString "__doc__") 166, val := PySem.Value.none }, { hash := PySem.PyData.keyHash P (PySem.Str.ofString "__package__"), key := PySem.Value.str (PySem.Str.ofString "__package__") 167, val := PySem.Value.none }, { hash := PySem.PyData.keyHash P (PySem.Str.ofString "__loader__"), key := PySem.Value.str (PySem.Str.ofString "__loader__") 168, val := PySem.Value.builtin "__main__.__loader__#opaque" }, { hash := PySem.PyData.keyHash P (PySem.Str.ofString "__spec__"), key := PySem.Value.str (PySem.Str.ofString "__spec__") 169, val := PySem.Value.none }, { hash := PySem.PyData.keyHash P (PySem.Str.ofString "__annotations__"), key := PySem.Value.str (PySem.Str.ofString "__annotations__") 170, val := PySem.Value.ref 6 }, { hash := PySem.PyData.keyHash P (PySem.Str.ofString "__builtins__"), key := PySem.Value.str (PySem.Str.ofString "__builtins__") 171, val := PySem.Value.ref 4 }, { hash := PySem.PyData.keyHash P (PySem.Str.ofString "__file__"), key := PySem.Value.str (PySem.Str.ofString "__file__") 173, val := PySem.Value.str (PySem.Str.ofString "/claim/cut.py") 172 }, { hash := PySem.PyData.keyHash P (PySem.Str.ofString "__cached__"), key := PySem.Value.str (PySem.Str.ofString "__cached__") 174, val := PySem.Value.none }, { hash := PySem.PyData.keyHash P (PySem.Str.ofString "ADLER_BASE"), key := PySem.Value.str (PySem.Str.ofString "ADLER_BASE") 190, val := PySem.Value.int 65521 189 }, { hash := PySem.PyData.keyHash P (PySem.Str.ofString "CRC_POLYNOMIAL"), key := PySem.Value.str (PySem.Str.ofString "CRC_POLYNOMIAL") 192, val := PySem.Value.int 3988292384 191 }, { hash := PySem.PyData.keyHash P (PySem.Str.ofString "WORD"), key := PySem.Value.str (PySem.Str.ofString "WORD") 194, val := PySem.Value.int 4294967295 193 }, { hash := PySem.PyData.keyHash P (PySem.Str.ofString "GitError"), key := PySem.Value.str (PySem.Str.ofString "GitError") 224, val := PySem.Value.ref 32 }, { hash := PySem.PyData.keyHash P (PySem.Str.ofString "BadObject"), key := PySem.Value.str (PySem.Str.ofString "BadObject") 240, val := PySem.Value.ref 45 }, { hash := PySem.PyData.keyHash P (PySem.Str.ofString "big_endian"), key := PySem.Value.str (PySem.Str.ofString "big_endian") 246, val := PySem.Value.ref 52 }, { hash := PySem.PyData.keyHash P (PySem.Str.ofString "be32"), key := PySem.Value.str (PySem.Str.ofString "be32") 253, val := PySem.Value.ref 59 }, { hash := PySem.PyData.keyHash P (PySem.Str.ofString "be64"), key := PySem.Value.str (PySem.Str.ofString "be64") 260, val := PySem.Value.ref 66 }, { hash := PySem.PyData.keyHash P (PySem.Str.ofString "at_big_endian"), key := PySem.Value.str (PySem.Str.ofString "at_big_endian") 271, val := PySem.Value.ref 73 }, { hash := PySem.PyData.keyHash P (PySem.Str.ofString "at_be32"), key := PySem.Value.str (PySem.Str.ofString "at_be32") 279, val := PySem.Value.ref 80 }, { hash := PySem.PyData.keyHash P (PySem.Str.ofString "adler32"), key := PySem.Value.str (PySem.Str.ofString "adler32") 291, val := PySem.Value.ref 88 }, { hash := PySem.PyData.keyHash P (PySem.Str.ofString "Crc32"), key := PySem.Value.str (PySem.Str.ofString "Crc32") 334, val := PySem.Value.ref 113 }, { hash := PySem.PyData.keyHash P (PySem.Str.ofString "turned_left"), key := PySem.Value.str (PySem.Str.ofString "turned_left") 342, val := PySem.Value.ref 124 }, { hash := PySem.PyData.keyHash P (PySem.Str.ofString "Sha1"), key := PySem.Value.str (PySem.Str.ofString "Sha1") 397, val := PySem.Value.ref 163 }] 23 }
noncomputable def hd.x12v2 : Params → Obj := fun P => { cls := PySem.Value.none, data := PySem.Data.fields #[PySem.Value.int 5 0, PySem.Value.int 0 0, PySem.Value.ref 20, PySem.Value.int 9 0, PySem.Value.int 0 0, PySem.Value.ref 41, PySem.Value.int 11 0, PySem.Value.int 0 0, PySem.Value.ref 51, PySem.Value.int 13 0, PySem.Value.int 0 0, PySem.Value.ref 58, PySem.Value.int 15 0, PySem.Value.int 0 0, PySem.Value.ref 65, PySem.Value.int 17 0, PySem.Value.int 0 0, PySem.Value.ref 72, PySem.Value.int 24 0, PySem.Value.int 0 0, PySem.Value.ref 79, PySem.Value.int 26 0, PySem.Value.int 0 0, PySem.Value.ref 87, PySem.Value.int 33 0, PySem.Value.int 0 0, PySem.Value.ref 94, PySem.Value.int 50 0, PySem.Value.int 0 0, PySem.Value.ref 123, PySem.Value.int 52 0, PySem.Value.int 0 0, PySem.Value.ref 130] }
noncomputable def hd.t2 : Params → BT := fun P => BT.set (BT.set (hd.trim 168 (hd.t3 P) 1 0) 3 (fun _ => hd.x3v2 P)) 12 (fun _ => hd.x12v2 P)
noncomputable def hd.h0 : Params → Heap := fun P => absHeap (hd.t0 P) (nat_lit 15) {}
noncomputable def hd.h1 : Params → Heap := fun P => absHeap (hd.t3 P) (nat_lit 243) {}
noncomputable def hd.env : Env := { scope := PySem.Challenge.rw_nt0270_01.row.prog.main.scope, locals := mainNs, globals := mainNs, cells := [], code := Value.ref 13, frame := Option.some 14 }
noncomputable abbrev hd.code : Code := Code.body (behindTheImports PySem.Challenge.rw_nt0270_01.row.prog) hd.env
noncomputable def hd.l1 : List Stmt := List.take 12 (behindTheImports PySem.Challenge.rw_nt0270_01.row.prog)
noncomputable def hd.l2 : List Stmt := List.take 3 (List.drop 12 (behindTheImports PySem.Challenge.rw_nt0270_01.row.prog))
noncomputable def hd.l3 : List Stmt := List.drop 15 (behindTheImports PySem.Challenge.rw_nt0270_01.row.prog)
theorem hd_pre : ∀ w : World, (fun os : OsState => topGo treeTable PySem.Challenge.rw_nt0270_01.row.prog w (nat_lit 11) (Option.some (Value.ref 6)) (nat_lit 12) ({ heap := boot_heap w.params, gens := { toList := [] }, drawn := boot_drawn, toks := boot_toks, os := os } : Shared) (topStub PySem.Challenge.rw_nt0270_01.row.prog)) = fun os : OsState => Option.some (({ heap := hd.h0 w.params, gens := { toList := [] }, drawn := { }, toks := nat_lit 187, os := os } : Shared), ({ cur := denote treeTable hd.code, code := hd.code, pos := ({ line := 0, col := 0, endLine := 0, endCol := 0 } : Pos), stack := [topFrame ({ line := 0, col := 0, endLine := 0, endCol := 0 } : Pos)] } : Thread)) := by
  intro w
  kernel_rfl
theorem hd_block : ∀ w : World, (fun os : OsState => segRun treeTable PySem.Challenge.rw_nt0270_01.row.prog w (nat_lit 11) (Option.some (Value.ref 6)) (nat_lit 1) (nat_lit 1) ({ heap := hd.h0 w.params, gens := { toList := [] }, drawn := { }, toks := nat_lit 187, os := os } : Shared) (blockOf (behindTheImports PySem.Challenge.rw_nt0270_01.row.prog) hd.env hd.code ({ line := 0, col := 0, endLine := 0, endCol := 0 } : Pos) [topFrame ({ line := 0, col := 0, endLine := 0, endCol := 0 } : Pos)])) = fun os : OsState => Option.some (Flow.next, SharedT.abs ({ tree := hd.t0 w.params, n := (nat_lit 15), life := { }, gens := { toList := [] }, drawn := { }, toks := (nat_lit 187), os := os } : SharedT), hd.code, ({ line := 0, col := 0, endLine := 0, endCol := 0 } : Pos)) := by
  intro w
  kernel_rfl
theorem hd_run1 : ∀ w : World, (fun os : OsState => segRunT treeTable PySem.Challenge.rw_nt0270_01.row.prog w (nat_lit 11) (Option.some (Value.ref 6)) (nat_lit 1) (nat_lit 662) ({ tree := hd.t0 w.params, n := (nat_lit 15), life := { }, gens := { toList := [] }, drawn := { }, toks := (nat_lit 187), os := os } : SharedT) (piecesOf hd.l1 hd.env hd.code ({ line := 0, col := 0, endLine := 0, endCol := 0 } : Pos) [topFrame ({ line := 0, col := 0, endLine := 0, endCol := 0 } : Pos)])) = fun os : OsState => Option.some (Flow.next, ({ tree := hd.t1 w.params, n := (nat_lit 89), life := { }, gens := { toList := [] }, drawn := { }, toks := (nat_lit 292), os := os } : SharedT), hd.code, ({ line := 26, col := 0, endLine := 32, endCol := 27 } : Pos)) := by
  intro w
  kernel_rfl
theorem hd_run2 : ∀ w : World, (fun os : OsState => segRunT treeTable PySem.Challenge.rw_nt0270_01.row.prog w (nat_lit 11) (Option.some (Value.ref 6)) (nat_lit 1) (nat_lit 630) ({ tree := hd.t1 w.params, n := (nat_lit 89), life := { }, gens := { toList := [] }, drawn := { }, toks := (nat_lit 292), os := os } : SharedT) (piecesOf hd.l2 hd.env hd.code ({ line := 26, col := 0, endLine := 32, endCol := 27 } : Pos) [topFrame ({ line := 0, col := 0, endLine := 0, endCol := 0 } : Pos)])) = fun os : OsState => Option.some (Flow.next, ({ tree := hd.t2 w.params, n := (nat_lit 168), life := { }, gens := { toList := [] }, drawn := { }, toks := (nat_lit 398), os := os } : SharedT), hd.code, ({ line := 52, col := 0, endLine := 97, endCol := 55 } : Pos)) := by
  intro w
  kernel_rfl
theorem hd_run3 : ∀ w : World, (fun os : OsState => segRunT treeTable PySem.Challenge.rw_nt0270_01.row.prog w (nat_lit 11) (Option.some (Value.ref 6)) (nat_lit 1) (nat_lit 497) ({ tree := hd.t2 w.params, n := (nat_lit 168), life := { }, gens := { toList := [] }, drawn := { }, toks := (nat_lit 398), os := os } : SharedT) (piecesOf hd.l3 hd.env hd.code ({ line := 52, col := 0, endLine := 97, endCol := 55 } : Pos) [topFrame ({ line := 0, col := 0, endLine := 0, endCol := 0 } : Pos)])) = fun os : OsState => Option.some (Flow.next, ({ tree := hd.t3 w.params, n := (nat_lit 243), life := { }, gens := { toList := [] }, drawn := { }, toks := (nat_lit 503), os := os } : SharedT), hd.code, ({ line := 176, col := 0, endLine := 197, endCol := 28 } : Pos)) := by
  intro w
  kernel_rfl
theorem hd_fin : ∀ w : World, (fun os : OsState => topRun treeTable PySem.Challenge.rw_nt0270_01.row.prog w (nat_lit 11) (Option.some (Value.ref 6)) (nat_lit 2) (SharedT.abs ({ tree := hd.t3 w.params, n := (nat_lit 243), life := { }, gens := { toList := [] }, drawn := { }, toks := (nat_lit 503), os := os } : SharedT)) ({ cur := doneF Flow.next, code := hd.code, pos := ({ line := 176, col := 0, endLine := 197, endCol := 28 } : Pos), stack := [topFrame ({ line := 0, col := 0, endLine := 0, endCol := 0 } : Pos)] } : Thread)) = fun os : OsState => Option.some ({ heap := hd.h1 w.params, gens := { toList := [] }, drawn := { }, toks := nat_lit 503, os := os } : Shared) := by
  intro w
  kernel_rfl
theorem hd_body : (behindTheImports PySem.Challenge.rw_nt0270_01.row.prog) = hd.l1 ++ (hd.l2 ++ (hd.l3 ++ [])) := by
  kernel_rfl
theorem hd_run (w : World) (os : OsState) : topRun treeTable PySem.Challenge.rw_nt0270_01.row.prog w (nat_lit 11) (Option.some (Value.ref 6)) (Nat.add 12 (Nat.add 1 (Nat.add 662 (Nat.add 630 (Nat.add 497 2))))) ({ heap := boot_heap w.params, gens := { toList := [] }, drawn := boot_drawn, toks := boot_toks, os := os } : Shared) (topStub PySem.Challenge.rw_nt0270_01.row.prog) = Option.some ({ heap := hd.h1 w.params, gens := { toList := [] }, drawn := { }, toks := nat_lit 503, os := os } : Shared) := by
  refine go_top (congrFun (hd_pre w) os) (piece_block (congrFun (hd_block w) os) ?_)
  rw [show restOf (behindTheImports PySem.Challenge.rw_nt0270_01.row.prog) hd.env hd.code ({ line := 0, col := 0, endLine := 0, endCol := 0 } : Pos) [topFrame ({ line := 0, col := 0, endLine := 0, endCol := 0 } : Pos)] = restOf (hd.l1 ++ (hd.l2 ++ (hd.l3 ++ []))) hd.env hd.code ({ line := 0, col := 0, endLine := 0, endCol := 0 } : Pos) [topFrame ({ line := 0, col := 0, endLine := 0, endCol := 0 } : Pos)] from congrArg (fun b => restOf b hd.env hd.code ({ line := 0, col := 0, endLine := 0, endCol := 0 } : Pos) [topFrame ({ line := 0, col := 0, endLine := 0, endCol := 0 } : Pos)]) hd_body]
  exact piece_app (segRun_of (congrFun (hd_run1 w) os)) (piece_app (segRun_of (congrFun (hd_run2 w) os)) (piece_app (segRun_of (congrFun (hd_run3 w) os)) (piece_nil (congrFun (hd_fin w) os))))
theorem hd_size : ∀ w : World, ((boot_heap w.params).isNs mainGlobals && ({ toList := [] } : Array GenState).size == 0, (boot_heap w.params).objs.size, (boot_heap w.params).nsMap mainGlobals (Str.ofString "__annotations__")) = (Bool.true, (nat_lit 11), Option.some (Value.ref 6)) := by
  intro w
  kernel_rfl
theorem hd_opening : opening PySem.Challenge.rw_nt0270_01.row.prog = plainProg PySem.Challenge.rw_nt0270_01.row.prog.main.scope.names := by
  kernel_rfl
theorem hd_fence : ∀ s, fenceModules? PySem.Challenge.rw_nt0270_01.row.prog s = some s := by
  intro s
  kernel_rfl
theorem hd_open : ∀ w : World, (fencedOpening treeTable PySem.Challenge.rw_nt0270_01.row.prog w 3698).map (fun s => (s.heap, s.gens, s.drawn, s.toks)) = some (boot_heap w.params, Array.mk [], boot_drawn, boot_toks) := boot_open hd_opening (by decide) hd_fence

theorem hd_look1 : ∀ w : World, (fun os : OsState => staticsOk (importedModules PySem.Challenge.rw_nt0270_01.row.prog.main.body) (boot_heap w.params) (hd.h1 w.params) && namesBound PySem.Challenge.rw_nt0270_01.row.prog (hd.h1 w.params) && gensDone ({ heap := hd.h1 w.params, gens := { toList := [] }, drawn := { }, toks := nat_lit 503, os := os } : Shared) && laidKept (boot_heap w.params) (hd.h1 w.params)) = fun os : OsState => Bool.true := by
  intro w
  kernel_rfl
theorem hd_look2 : ∀ w : World, (fun os : OsState => openSeen hd.view_39 hd.loose (importedModules PySem.Challenge.rw_nt0270_01.row.prog.main.body) (fun s => xlAt hd.view_39 [] s && recOk (RowW.records (OpenRow.toRowW PySem.Challenge.rw_nt0270_01.row)) s) Bool.true ({ heap := hd.h1 w.params, gens := { toList := [] }, drawn := { }, toks := nat_lit 503, os := os } : Shared)) = fun os : OsState => openGood hd.view_39 hd.loose := by
  intro w
  kernel_rfl
theorem hd_look3 : ∀ w : World, (fun os : OsState => Hook.obs hd.hook ({ heap := hd.h1 w.params, gens := { toList := [] }, drawn := { }, toks := nat_lit 503, os := os } : Shared)) = fun os : OsState => Hook.val hd.hook w := by
  intro w
  kernel_rfl
theorem hd_left : LeftO PySem.Challenge.rw_nt0270_01.row.prog hd.view_39 hd.loose (fun s => xlAt hd.view_39 [] s && recOk (RowW.records (OpenRow.toRowW PySem.Challenge.rw_nt0270_01.row)) s) (Hook.obs hd.hook) (Hook.val hd.hook) 3698 :=
  LeftO.of_pieces (M := (Nat.add 12 (Nat.add 1 (Nat.add 662 (Nat.add 630 (Nat.add 497 2)))))) hd_open hd_size hd_run (by decide) fun w => funext fun os => Prod.ext (congrFun (hd_look1 w) os) (Prod.ext (congrFun (hd_look2 w) os) (congrFun (hd_look3 w) os))
theorem hd_looks : looksOpen PySem.Challenge.rw_nt0270_01.row.prog = true := by
  unfold looksOpen
  repeat' (with_reducible refine look_both ?_ ?_)
  all_goals decide +kernel
theorem hd_said : PySem.Challenge.rw_nt0270_01.wellSaid = true := by
  unfold OpenLaw.wellSaid OpenRow.wellSaid OpenRow.partSaid
  repeat' (with_reducible refine look_both ?_ ?_)
  all_goals (first | with_reducible exact hd_looks | decide +kernel)
theorem hd_witness : (OpenRow.toRowW PySem.Challenge.rw_nt0270_01.row).promised := by w_witness2
theorem hd {d : DefRec} {kwd : List (Str × Expr)} (hdef : defOf hd.view_39 PySem.Challenge.rw_nt0270_01.row.name = some (d, kwd)) (hp : PySem.Challenge.rw_nt0270_01.row.prog.theDef PySem.Challenge.rw_nt0270_01.row.name = some (d.params, d.body, d.scope)) (hk : kwWritten? d.params.kwonlyargs d.params.kw_defaults = some kwd)
    (walk : WalkO hd.view_39 [Str.ofString "GitError", Str.ofString "adler32"] (XL hd.view_39 []) (Hook.says hd.hook) (OpenRow.toRowW PySem.Challenge.rw_nt0270_01.row) d kwd fun f vs => PySem.call f vs) : PySem.Challenge.rw_nt0270_01.Holds := by
  refine holds_law hd_said fun said => ?_
  exact holds_open (q := hd.view_39) (loose := hd.loose) (Xt := fun s => xlAt hd.view_39 [] s && recOk (RowW.records (OpenRow.toRowW PySem.Challenge.rw_nt0270_01.row)) s) (XP := XL hd.view_39 []) (Yf := Hook.obs hd.hook) (Ya := Hook.val hd.hook) (YP := Hook.says hd.hook) (N := 3698) hd_left (Hook.of hd.hook) (Hook.keeps hd.hook)
    (fun s e => xl_of s (Bool.and_eq_true_iff.mp e).1) XL.keeps hdef hp hk (fun s e => recFacts_of (Bool.and_eq_true_iff.mp e).2) (by rfl) said (by decide +kernel) ⟨rfl, rfl, rfl, rfl, rfl, by decide +kernel⟩ hd_witness walk
theorem hd_fill : PySem.Challenge.rw_nt0270_01 = PySem.Challenge.rw_nt0270_01 ∧ hd.heap_39 = hd.heap_39 := by
  k_fill
  exact ⟨rfl, rfl⟩
end
section
noncomputable abbrev LL : List Str := looseW hd.view_39 ["GitError", "adler32"]
/-- a call of f on vs, in any def's frame whose ledger is led, comes back with r and the ledger led' -/
def Meets (w : World) (mean : ExcName → Option Value) (mg mb : Str → Option Value) (d u : Nat) (led : List (Addr × Obj)) (f : Value) (vs : List Value) (R : Value → List (Addr × Obj) → Prop) : Prop :=
  ∀ (dp un : Nat) (gd : Option (List Code)) (cn : Str) (cs : Scope) (a : Addr) (ccd : Value) (cl : List (Str × Addr)) (outer : List Env) (A₀ : Around) (base h₀ : Heap) (L : Addr) (m : Str → Option Value) (s : Shared) (Q E : Value → Shared → Prop),
    Below A₀ base outer h₀ → Fr h₀ L s.heap m → (hd.heap_39 w.params).In h₀ → News h₀ L s.heap led → Top hd.view_39 LL mean mg mb h₀ → cs.kind = .function →
    dp + d < recursionLimit → un + u < cLine →
    (∀ r led' h' tk', Fr h₀ L h' m → News h₀ L h' led' → R r led' → Q r { s with heap := h', toks := tk' }) →
    wpAny (model PySem.Challenge.pw_nt0270_01 w) (ktrTop dp un gd cn cs L a ccd cl outer) (call f vs) Q E s
theorem Meets.use {w : World} {mean : ExcName → Option Value} {mg mb : Str → Option Value} {d u : Nat} {led : List (Addr × Obj)} {f : Value} {vs : List Value} {R : Value → List (Addr × Obj) → Prop} (M : Meets w mean mg mb d u led f vs R)
    {dp un : Nat} {gd : Option (List Code)} {cn : Str} {cs : Scope} {a : Addr} {ccd : Value} {cl : List (Str × Addr)} {outer : List Env} {A₀ : Around} {base h₀ : Heap} {L : Addr} {m : Str → Option Value} {s : Shared} {Q E : Value → Shared → Prop}
    (B : Below A₀ base outer h₀) (F : Fr h₀ L s.heap m) (X : (hd.heap_39 w.params).In h₀) (N : News h₀ L s.heap led) (T : Top hd.view_39 LL mean mg mb h₀) (hk : cs.kind = .function) (hd : dp + d < recursionLimit) (hu : un + u < cLine)
    (ret : ∀ r led' h' tk', Fr h₀ L h' m → News h₀ L h' led' → R r led' → Q r { s with heap := h', toks := tk' }) :
    wpAny (model PySem.Challenge.pw_nt0270_01 w) (ktrTop dp un gd cn cs L a ccd cl outer) (call f vs) Q E s := M _ _ _ _ _ _ _ _ _ _ _ _ _ _ _ _ _ B F X N T hk hd hu ret
theorem Meets.use_int {w : World} {mean : ExcName → Option Value} {mg mb : Str → Option Value} {d u : Nat} {led : List (Addr × Obj)} {f : Value} {vs : List Value} {V : Int} (M : Meets w mean mg mb d u led f vs (fun r led' => led = led' ∧ ∃ t, r = Value.int V t))
    {dp un : Nat} {gd : Option (List Code)} {cn : Str} {cs : Scope} {a : Addr} {ccd : Value} {cl : List (Str × Addr)} {outer : List Env} {A₀ : Around} {base h₀ : Heap} {L : Addr} {m : Str → Option Value} {s : Shared} {Q E : Value → Shared → Prop}
    (B : Below A₀ base outer h₀) (F : Fr h₀ L s.heap m) (X : (hd.heap_39 w.params).In h₀) (N : News h₀ L s.heap led) (T : Top hd.view_39 LL mean mg mb h₀) (hk : cs.kind = .function) (hd : dp + d < recursionLimit) (hu : un + u < cLine)
    (ret : ∀ t h' tk', Fr h₀ L h' m → News h₀ L h' led → Q (Value.int V t) { s with heap := h', toks := tk' }) :
    wpAny (model PySem.Challenge.pw_nt0270_01 w) (ktrTop dp un gd cn cs L a ccd cl outer) (call f vs) Q E s := M.use B F X N T hk hd hu fun r led' h' tk' F' N' e => by
  obtain ⟨rfl, t, rfl⟩ := e
  exact ret t h' tk' F' N'
theorem Meets.use_bytes {w : World} {mean : ExcName → Option Value} {mg mb : Str → Option Value} {d u : Nat} {led : List (Addr × Obj)} {f : Value} {vs : List Value} {V : Array UInt8} (M : Meets w mean mg mb d u led f vs (fun r led' => led = led' ∧ ∃ t, r = Value.bytes V t))
    {dp un : Nat} {gd : Option (List Code)} {cn : Str} {cs : Scope} {a : Addr} {ccd : Value} {cl : List (Str × Addr)} {outer : List Env} {A₀ : Around} {base h₀ : Heap} {L : Addr} {m : Str → Option Value} {s : Shared} {Q E : Value → Shared → Prop}
    (B : Below A₀ base outer h₀) (F : Fr h₀ L s.heap m) (X : (hd.heap_39 w.params).In h₀) (N : News h₀ L s.heap led) (T : Top hd.view_39 LL mean mg mb h₀) (hk : cs.kind = .function) (hd : dp + d < recursionLimit) (hu : un + u < cLine)
    (ret : ∀ t h' tk', Fr h₀ L h' m → News h₀ L h' led → Q (Value.bytes V t) { s with heap := h', toks := tk' }) :
    wpAny (model PySem.Challenge.pw_nt0270_01 w) (ktrTop dp un gd cn cs L a ccd cl outer) (call f vs) Q E s := M.use B F X N T hk hd hu fun r led' h' tk' F' N' e => by
  obtain ⟨rfl, t, rfl⟩ := e
  exact ret t h' tk' F' N'
theorem Meets.mono {w : World} {mean : ExcName → Option Value} {mg mb : Str → Option Value} {d u : Nat} {led : List (Addr × Obj)} {f : Value} {vs : List Value} {R R' : Value → List (Addr × Obj) → Prop} (M : Meets w mean mg mb d u led f vs R)
    (h : ∀ r l, R r l → R' r l) : Meets w mean mg mb d u led f vs R' :=
  fun dp un gd cn cs a ccd cl outer A₀ base h₀ L m s Q E B F X N T hk hd hu ret => M dp un gd cn cs a ccd cl outer A₀ base h₀ L m s Q E B F X N T hk hd hu fun r l h' tk' F' N' hR => ret r l h' tk' F' N' (h r l hR)
/-- the post of a stretch, kept out of sight -/
def PostV (Q : Flow → Shared → Prop) (f : Flow) (s : Shared) : Prop := Q f s
def PostIn (Qx Q : Flow → Shared → Prop) : Prop := ∀ f s, Q f s → Qx f s
theorem entry_gen {M : Model} {A : Around} {t : Sem Flow} {Q : Flow → Shared → Prop} {E : Value → Shared → Prop} {s : Shared} (h : ∀ Qx : Flow → Shared → Prop, PostIn Qx Q → wpAny M A t (PostV Qx) (fun _ _ => False) s) : wpAny M A t Q E s :=
  wpAny_mono (h Q fun _ _ x => x) (fun _ _ x => x) fun _ _ x => x.elim
theorem postv_out {Qx Q : Flow → Shared → Prop} {f : Flow} {s : Shared} (h : PostIn Qx Q) (k : Q f s) : PostV Qx f s := h f s k
theorem ret_of {h₀ h' : Heap} {L : Addr} {m : Str → Option Value} {s : Shared} {Q : Value → Shared → Prop} {R : Value → List (Addr × Obj) → Prop} {r : Value} {led' : List (Addr × Obj)} {tk' : Nat}
    (hret : ∀ r led' h' tk', Fr h₀ L h' m → News h₀ L h' led' → R r led' → Q r { s with heap := h', toks := tk' }) (F : Fr h₀ L h' m) (N : News h₀ L h' led') (hR : R r led') : Q r { s with heap := h', toks := tk' } := hret _ _ _ _ F N hR
/-- the ledger as it was, what was made being forgotten -/
theorem ret_sub {h₀ h' : Heap} {L : Addr} {m : Str → Option Value} {s : Shared} {Q : Value → Shared → Prop} {R : Value → List (Addr × Obj) → Prop} {r : Value} {led' : List (Addr × Obj)} {tk' : Nat} (led : List (Addr × Obj))
    (hret : ∀ r led' h' tk', Fr h₀ L h' m → News h₀ L h' led' → R r led' → Q r { s with heap := h', toks := tk' }) (F : Fr h₀ L h' m) (N : News h₀ L h' led') (hs : ∀ p ∈ led, p ∈ led') (hR : R r led) : Q r { s with heap := h', toks := tk' } :=
  hret _ _ _ _ F (fun p hp => N p (hs p hp)) hR
/-- what comes back: a value, the ledger untouched -/
abbrev Back (led : List (Addr × Obj)) (P : Value → Prop) (r : Value) (led' : List (Addr × Obj)) : Prop := led = led' ∧ P r
theorem int_back {x y : Int} {t : Tok} (h : x = y) : ∃ t', Value.int x t = .int y t' := ⟨t, by rw [h]⟩
theorem bytes_back {x y : List Int} {t : Tok} (h : x = y) : ∃ t', Value.bytes (byteArr x) t = .bytes (byteArr y) t' := ⟨t, by rw [h]⟩
end
section
@[irreducible] def itI (ns : List Int) (k : Int) : Int := ns.getD k.toNat 0
theorem itI_def (ns : List Int) (k : Int) : itI ns k = ns.getD k.toNat 0 := by unfold itI; rfl
section
variable {prog : Program} {w : World} {A : Around} {E : Value → Shared → Prop} {s : Shared} {h₀ : Heap} {L : Addr} {news : List (Addr × Obj)} {value slice : PySem.Expr} {a : Addr} {vs : List Value} {ns : List Int} {n : Nat} {k : Int} {u : Tok} {Q : Value → Shared → Prop}
theorem item_ints (N : News h₀ L s.heap news) (hm : (a, PySem.W.listOf vs.toArray n) ∈ news) (hi : IntsAre vs ns) (h0 : 0 ≤ k) (h1 : k < ns.length) (hfit : k < 2 ^ 63) (h : ∀ t, Q (.int (ns.getD k.toNat 0) t) s)
    (hs : subscripted slice false (.ref a) (.int k u) = operate [.ref a, .int k u] (getItem (.ref a) (.int k u)) := by with_unfolding_all rfl) (hg : ∀ r, letTemporaryGo value (.ref a) r = pure () := by intro _; with_unfolding_all rfl) :
    wpAny (model prog w) A (subscriptTail value slice (.ref a) (.int k u)) Q E s := by
  have hk : k.toNat < ns.length := by omega
  obtain ⟨t, ht⟩ := hi.get k.toNat ns[k.toNat] (by simp [hk])
  have e : ns.getD k.toNat 0 = ns[k.toNat] := by simp [List.getD_eq_getElem?_getD, hk]
  exact kim_list N hm rfl rfl h0 hfit ht (e ▸ h t) hs hg
theorem item_itI (N : News h₀ L s.heap news) (hm : (a, PySem.W.listOf vs.toArray n) ∈ news) (hi : IntsAre vs ns) (h0 : 0 ≤ k) (h1 : k < ns.length) (hfit : k < 2 ^ 63) (h : ∀ t, Q (.int (itI ns k) t) s)
    (hs : subscripted slice false (.ref a) (.int k u) = operate [.ref a, .int k u] (getItem (.ref a) (.int k u)) := by with_unfolding_all rfl) (hg : ∀ r, letTemporaryGo value (.ref a) r = pure () := by intro _; with_unfolding_all rfl) :
    wpAny (model prog w) A (subscriptTail value slice (.ref a) (.int k u)) Q E s := item_ints N hm hi h0 h1 hfit (fun t => by rw [← itI_def]; exact h t) hs hg
end
theorem off1_ne {D : Addr} : ∀ {l : List (Addr × Obj)}, LCg.Off1 D l → ∀ p ∈ l, p.1 ≠ D
  | [], _, _, hp => nomatch hp
  | q :: r, h, p, hp => by
    rcases List.mem_cons.mp hp with rfl | hp
    · exact h.1
    · exact off1_ne h.2 p hp
theorem lt_off1 {D : Addr} : ∀ {l : List (Addr × Obj)}, (∀ p ∈ l, p.1 < D) → LCg.Off1 D l
  | [], _ => trivial
  | q :: r, h => ⟨Nat.ne_of_lt (h q (.head _)), lt_off1 fun p hp => h p (.tail _ hp)⟩
theorem off1_sub {D : Addr} {l l' : List (Addr × Obj)} (h : LCg.Off1 D l) (hs : ∀ p ∈ l', p ∈ l) : LCg.Off1 D l' := by
  have k : ∀ p ∈ l', p.1 ≠ D := fun p hp => off1_ne h p (hs p hp)
  clear h hs
  induction l' with
  | nil => trivial
  | cons q r ih => exact ⟨k q (.head _), ih fun p hp => k p (.tail _ hp)⟩
theorem all_app {P : Addr × Obj → Prop} {a b : List (Addr × Obj)} (ha : ∀ p ∈ a, P p) (hb : ∀ p ∈ b, P p) : ∀ p ∈ a ++ b, P p := fun p hp => (List.mem_append.mp hp).elim (ha p) (hb p)
/-- a new list of ints ahead of the ledger -/
abbrev NewInts (led : List (Addr × Obj)) (P : List Int → Prop) (r : Value) (led' : List (Addr × Obj)) : Prop :=
  ∃ (l : Addr) (vs : List Value) (ns : List Int) (n : Nat), led' = (l, PySem.W.listOf vs.toArray n) :: led ∧ r = .ref l ∧ IntsAre vs ns ∧ P ns ∧ LCg.Off1 l led
theorem ret_ints {h₀ h' : Heap} {L l : Addr} {m : Str → Option Value} {s : Shared} {Q : Value → Shared → Prop} {led rest : List (Addr × Obj)} {P : List Int → Prop} {vs : List Value} {ns : List Int} {n tk' : Nat}
    (hret : ∀ r led' h' tk', Fr h₀ L h' m → News h₀ L h' led' → NewInts led P r led' → Q r { s with heap := h', toks := tk' }) (F : Fr h₀ L h' m) (N : News h₀ L h' ((l, PySem.W.listOf vs.toArray n) :: rest)) (hs : ∀ p ∈ led, p ∈ rest)
    (hi : IntsAre vs ns) (hP : P ns) (ho : LCg.Off1 l led) : Q (.ref l) { s with heap := h', toks := tk' } :=
  hret _ _ _ _ F (kst_newsOf N fun p hp => (List.mem_cons.mp hp).elim (fun e => e ▸ .head _) fun h => .tail _ (hs p h)) ⟨l, vs, ns, n, rfl, rfl, hi, hP, ho⟩
theorem lt_ne {a b : Nat} {l : List (Addr × Obj)} (h : ∀ p ∈ l, p.1 < a) (hb : @LE.le Nat _ a b) : ∀ p ∈ l, p.1 ≠ b := fun p hp => Nat.ne_of_lt (Nat.lt_of_lt_of_le (h p hp) hb)
theorem news_dup {h₀ h : Heap} {L : Addr} {q : Addr × Obj} {led rest : List (Addr × Obj)} (N : News h₀ L h led) (hq : q ∈ led) (N' : News h₀ L h rest) : News h₀ L h (q :: rest) := fun p hp => by
  rcases List.mem_cons.mp hp with rfl | hp
  · exact N _ hq
  · exact N' p hp
theorem lt_five {k a b c d e : Int} (h : k < 0 + (((5 - 0 : Int).toNat : Nat) : Int)) : k < (([a, b, c, d, e] : List Int).length : Nat) := by simp only [List.length_cons, List.length_nil]; omega
theorem lt_five63 {k : Int} (h : k < 0 + (((5 - 0 : Int).toNat : Nat) : Int)) : k < 2 ^ 63 := by omega
/-! places in lists, proved once -/
theorem ix_word {k c : Int} {p len : Nat} (hk : k = 16 + (p : Int)) (hp : p < (80 - 16 : Int).toNat) (hl : len = 16 + p) (h1 : 1 ≤ c) (h2 : c ≤ 16) : 0 ≤ k - c ∧ k - c < (len : Int) ∧ k - c < 2 ^ 63 := by omega
theorem ix_round {k : Int} {p len : Nat} (hk : k = 0 + (p : Int)) (hp : p < (80 - 0 : Int).toNat) (hl : len = 80) : 0 ≤ k ∧ k < (len : Int) ∧ k < 2 ^ 63 := by omega
theorem ix_flip {k : Int} {p len n : Nat} (hk : k = 0 + (p : Int)) (hp : p < (32 - 0 : Int).toNat) (hl : len = 8 * n + 32) : 0 ≤ k ∧ k < (len : Int) ∧ k < 2 ^ 63 := by omega
theorem ix_page {len i j : Nat} {c : Int} (hi : i < len / 64) (hj : j < 16) (hl : len = 64 ∨ len = 128) (h0 : 0 ≤ c) (h3 : c ≤ 3) : 0 ≤ 0 + (i : Int) * 64 + (j : Int) * 4 + c ∧ 0 + (i : Int) * 64 + (j : Int) * 4 + c < (len : Int) ∧ 0 + (i : Int) * 64 + (j : Int) * 4 + c < 2 ^ 63 := by omega
theorem ix_page0 {len i j : Nat} (hi : i < len / 64) (hj : j < 16) (hl : len = 64 ∨ len = 128) : 0 ≤ 0 + (i : Int) * 64 + (j : Int) * 4 ∧ 0 + (i : Int) * 64 + (j : Int) * 4 < (len : Int) ∧ 0 + (i : Int) * 64 + (j : Int) * 4 < 2 ^ 63 := by omega
end
section
open PySem.Builtin
section
variable {prog : Program} {w : World} {A : Around} {E : Value → Shared → Prop} {s : Shared}
theorem int_no_bytes : typeLookup (.type "int") "__bytes__" = pure none := by rw [typeLookup_type, builtinLookup_eq_fast]; kernel_rfl
theorem bytes_has_bytes : typeLookup (.type "bytes") "__bytes__" = pure (some (.builtin "bytes.__bytes__")) := by rw [typeLookup_type, builtinLookup_eq_fast]; kernel_rfl
theorem bm_new_int {n : Int} {t : Tok} {Q : Value → Shared → Prop} (h0 : 0 ≤ n) (h1 : n ≤ 16777216)
    (hQ : ∀ t k, Q (.bytes (Array.replicate n.toNat 0) t) { s with toks := k }) :
    codeAny (model prog w) A (.call (.builtin "bytes.__new__") ⟨[.type "bytes", .int n t], []⟩) (wants Q E) s := by
  refine codeAny_of_tree ?_
  show wpAny _ A.in1 (do checkBuiltinCall "bytes.__new__" ⟨[.type "bytes", .int n t], []⟩; again (.builtin "bytes.__new__" ⟨[.type "bytes", .int n t], []⟩)) _ _ s
  refine wpAny_bind (wpAny_of_eq (F.bm_newCall _) (wpAny_pure ⟨plainId_quiet F.bm_plain _, codeAny_builtin F.bm_entry ?_⟩))
  rw [Around.under_plainId F.bm_plain _]
  have hT : s.TypeIs (.int n t) "int" := rfl
  unfold Builtin.«bytes.__new__»
  refine wpAny_bind (wpAny_of_eq (a := true) rfl ?_)
  refine bm_if_false rfl ?_
  refine wpAny_bind (wpAny_of_eq F.bm_sub ?_)
  refine bm_if_false rfl ?_
  refine wpAny_bind (wpAny_of_eq (F.bm_bind _) ?_)
  refine wpAny_bind (wpAny_of_eq (a := ()) rfl ?_)
  refine wpAny_bind (wpAny_of_eq (a := ()) rfl ?_)
  refine bm_if_false rfl ?_
  refine wpAny_bind (wpAny_specialOf hT int_no_bytes ?_)
  refine wpAny_bind (wpAny_of_eq (a := false) rfl ?_)
  refine bm_if_false rfl ?_
  refine wpAny_bind (wpAny_specialOf hT F.slot_int_index.lookup ?_)
  refine bm_if_false rfl ?_
  refine wpAny_bind (wpAny_of_eq (a := Except.ok n) rfl ?_)
  have hf : Bytes.fitsIndex n = true := by simp only [Bytes.fitsIndex, Bool.and_eq_true, decide_eq_true_eq]; omega
  refine bm_if_false (by rw [hf]; rfl) ?_
  rw [if_neg (show ¬ n < 0 by omega)]
  rw [if_neg (show ¬ n > 2 ^ 63 - 34 by omega)]
  refine bm_if_false (KBy.tooLong_not (by omega)) ?_
  refine wpAny_bind (wpAny_rule ?_)
  refine wpAny_bind (wpAny_mkBytes ?_ (by rw [Array.size_replicate, sizeLine_eq]; omega))
  show wpAny _ _ (if (Value.type "bytes" == Value.type "bytes") = true then _ else _) _ _ _
  refine bm_if_true (by decide) ?_
  first
    | exact wpAny_pure (hQ _ _)
    | exact wpAny_bind (wpAny_pure (wpAny_pure (hQ _ _)))
theorem call_bytes_int {n : Int} {t : Tok} {Q : Value → Shared → Prop} (h0 : 0 ≤ n) (h1 : n ≤ 16777216) (hQ : ∀ t k, Q (.bytes (Array.replicate n.toNat 0) t) { s with toks := k }) : wpAny (model prog w) A (call (.type "bytes") [.int n t]) Q E s := by
  refine callType_codes (Q₁ := fun obj s₁ => s₁.TypeIs obj "bytes" ∧ Q obj s₁) F.bm_called (F.bm_typeCall _) F.entry_object_init
    (bm_new_int h0 h1 fun t k => ⟨PySem.W.typeIs_bytes _ _ _, hQ t k⟩) fun obj s₁ h₁ => ?_
  exact ⟨h₁.1, F.args_object_init_2 obj _, object_init_meets F.bm_called.init.lookup F.bm_called.made (by decide) prog w A.in1 _ s₁ ⟨h₁.1, rfl, h₁.2⟩⟩
end
end
section
open PySem.Builtin PySem.Calls
theorem slot_bytes_join : Slot "bytes" "join" "bytes.join" :=
  .of (owner := "bytes") (n := "join") (by rw [typeLookup_type, builtinLookup_eq_fast]; kernel_rfl) (by decide +kernel) (by decide +kernel) (by decide +kernel)
    (by first | exact .inl (by decide +kernel) | exact .inr (by decide +kernel)) (by rw [isSubtype_type]; kernel_rfl)
theorem type_bytes_join : typeOf (.builtin "bytes.join") = pure (.type "method_descriptor") := by show builtinType _ = _; rw [builtinType_eq_fast]; kernel_rfl
theorem entry_bytes_join : entryFor table "bytes.join" = some Builtin.«bytes.join» := entryFor_of_tree (by kernel_rfl)
theorem args_bytes_join (a b : Value) : argsOk "bytes.join" ⟨[a, b], []⟩ := by
  unfold argsOk; rw [signature?_of (id := "bytes.join") (n := ['n', 'i', 'o', 'j']) (o := ['s', 'e', 't', 'y', 'b']) (by kernel_rfl) FB.owner_bytes]; kernel_rfl
theorem take_eq {b : Array UInt8} {t : Tok} {id : String} : Bytes.takeBuffer? id (.bytes b t) 0 = pure (some (b, none)) := by
  unfold Bytes.takeBuffer? Bytes.buffer?
  rw [KBy.special_eq KBy.look_buffer, KBy.own_buffer, KBy.own_release]
  kernel_rfl
theorem taken_eq {b : Array UInt8} {t : Tok} {id : String} : Bytes.takeBufferQuiet? id (.bytes b t) 0 = pure (some (b, none)) := by
  unfold Bytes.takeBufferQuiet?
  rw [take_eq]
  rfl
theorem seq_eq {M : Model} {A : Around} {E : Value → Shared → Prop} {s : Shared} {D : Addr} {items : Array Value} {Q : Option (Array Value) → Shared → Prop} (hl : s.heap.IsList D items) (h : Q (some items) s) : wpAny M A (seqItems? (.ref D)) Q E s := by
  obtain ⟨o, ho, _, n, hd⟩ := hl
  show wpAny _ _ (load D >>= _) _ _ _
  refine wpAny_bind (wpAny_load ho ?_)
  rw [hd]
  exact wpAny_pure h
theorem letgo_nones {M : Model} {A : Around} {E : Value → Shared → Prop} {s : Shared} {keep : List Value} {Q : Unit → Shared → Prop} (h : Q () s) : ∀ taken : List (Value × Option Value), (∀ p ∈ taken, p.2 = none) → wpAny M A (Bytes.joinLetGo taken keep) Q E s
  | [], _ => wpAny_pure h
  | (x, u) :: rest, hn => by
    have hu : u = none := hn _ (.head _)
    subst hu
    unfold Bytes.joinLetGo
    dsimp only
    exact wpAny_bind (wpAny_letGo (letgo_nones h rest fun p hp => hn p (.tail _ hp)))
theorem meets_join5 {b₁ b₂ b₃ b₄ b₅ : Array UInt8} {t u₁ u₂ u₃ u₄ u₅ : Tok} {D : Addr} :
    PySem.Meets («bytes.join» ⟨[.bytes #[] t, .ref D], []⟩) (fun _ R s => s.heap.IsList D [Value.bytes b₁ u₁, .bytes b₂ u₂, .bytes b₃ u₃, .bytes b₄ u₄, .bytes b₅ u₅].toArray ∧ b₁.size + b₂.size + b₃.size + b₄.size + b₅.size ≤ 1000 ∧ ∀ t' k, R (.ok (.ret (.bytes (b₁ ++ b₂ ++ b₃ ++ b₄ ++ b₅) t'))) { s with toks := k }) := by
  refine .of_wp fun prog w A R s hS => ?_
  obtain ⟨hl, hsz, h⟩ := hS
  unfold «bytes.join» Bytes.joinM
  refine wpAny_bind (wpAny_of_eq (a := (.bytes #[] t, .ref D)) rfl ?_)
  dsimp only
  refine wpAny_bind ?_
  have hT : s.TypeIs (.ref D) "list" := hl.typeIs
  unfold Bytes.joinItems
  refine wpAny_bind (wpAny_typeOf hT ?_)
  refine bm_if_true (by decide) ?_
  refine wpAny_pure ?_
  refine wpAny_bind (seq_eq hl ?_)
  dsimp only
  refine bm_if_true (by decide) ?_
  delta PySem.Builtin.Bytes.joinM.match_1
  rw [dif_neg (by simp)]
  dsimp only
  refine wpAny_bind ?_
  simp only [Std.Legacy.Range.forIn_eq_forIn_range', Std.Legacy.Range.size]
  rw [show List.range' 0 ((#[Value.bytes b₁ u₁, Value.bytes b₂ u₂, Value.bytes b₃ u₃, Value.bytes b₄ u₄, Value.bytes b₅ u₅].size - 0 + 1 - 1) / 1) = [0, 1, 2, 3, 4] from by simp only [List.size_toArray, List.length_cons, List.length_nil]; rfl]
  iterate 5
    rw [List.forIn_cons]
    refine wpAny_bind ?_
    refine wpAny_bind (seq_eq hl ?_)
    dsimp only
    refine bm_if_false rfl ?_
    refine wpAny_bind (wpAny_holding (wpAny_of_eq taken_eq ?_))
    dsimp only
    refine wpAny_bind (seq_eq hl ?_)
    dsimp only
    refine bm_if_false (by simp) ?_
    refine wpAny_pure ?_
    dsimp only
  rw [List.forIn_nil]
  refine wpAny_pure ?_
  refine wpAny_bind (wpAny_of_eq (a := (#[] : Array UInt8)) rfl ?_)
  refine bm_if_false (KBy.tooLong_not (by simp; omega)) ?_
  refine wpAny_bind (wpAny_mkBytes ?_ ?_)
  · refine wpAny_bind (wpAny_holding (wpAny_point ?_))
    refine wpAny_bind (letgo_nones ?_ _ (by simp))
    have e : Bytes.joined #[] (((((#[].push b₁).push b₂).push b₃).push b₄).push b₅).toList = b₁ ++ b₂ ++ b₃ ++ b₄ ++ b₅ := by
      simp [Bytes.joined, List.zipIdx]
    rw [e]
    exact wpAny_pure ⟨_, rfl, h _ _⟩
  · have e : Bytes.joined #[] (((((#[].push b₁).push b₂).push b₃).push b₄).push b₅).toList = b₁ ++ b₂ ++ b₃ ++ b₄ ++ b₅ := by
      simp [Bytes.joined, List.zipIdx]
    rw [e, sizeLine_eq]
    simp only [Array.size_append]
    omega
section
variable {prog : Program} {w : World} {A : Around} {E : Value → Shared → Prop} {s : Shared}
theorem join5 {b₁ b₂ b₃ b₄ b₅ : Array UInt8} {t u₁ u₂ u₃ u₄ u₅ : Tok} {D : Addr} {Q : Value → Shared → Prop} (hl : s.heap.IsList D [Value.bytes b₁ u₁, .bytes b₂ u₂, .bytes b₃ u₃, .bytes b₄ u₄, .bytes b₅ u₅].toArray)
    (hsz : b₁.size + b₂.size + b₃.size + b₄.size + b₅.size ≤ 1000) (h : ∀ t' k, Q (.bytes (b₁ ++ b₂ ++ b₃ ++ b₄ ++ b₅) t') { s with toks := k }) : wpAny (model prog w) A (call (.builtin "bytes.join") [.bytes #[] t, .ref D]) Q E s :=
  call_meets slot_bytes_join (PySem.W.typeIs_bytes _ _ _) entry_bytes_join (args_bytes_join _ _) meets_join5 ⟨hl, hsz, h⟩
theorem join_method {M : Model} {b : Array UInt8} {t : Tok} {pl : Sem Bool} {Q : Value × List Value → Shared → Prop} (h : Q (.builtin "bytes.join", [.bytes b t]) s) : wpAny M A (getMethod (.bytes b t) (Str.ofString "join") pl) Q E s := by
  with_reducible exact KBd.method_of (.bytes b t) (PySem.W.typeIs_bytes _ _ _) slot_bytes_join type_bytes_join KBd.noRef h
end
end
section
open PySem.Builtin
section
variable {prog : Program} {w : World} {A : Around} {E : Value → Shared → Prop} {s : Shared}
theorem bm_new_bytes {b : Array UInt8} {t : Tok} {Q : Value → Shared → Prop} (hQ : Q (.bytes b t) s) :
    codeAny (model prog w) A (.call (.builtin "bytes.__new__") ⟨[.type "bytes", .bytes b t], []⟩) (wants Q E) s := by
  refine codeAny_of_tree ?_
  show wpAny _ A.in1 (do checkBuiltinCall "bytes.__new__" ⟨[.type "bytes", .bytes b t], []⟩; again (.builtin "bytes.__new__" ⟨[.type "bytes", .bytes b t], []⟩)) _ _ s
  refine wpAny_bind (wpAny_of_eq (F.bm_newCall _) (wpAny_pure ⟨plainId_quiet F.bm_plain _, codeAny_builtin F.bm_entry ?_⟩))
  rw [Around.under_plainId F.bm_plain _]
  have hT : s.TypeIs (.bytes b t) "bytes" := rfl
  unfold Builtin.«bytes.__new__»
  refine wpAny_bind (wpAny_of_eq (a := true) rfl ?_)
  refine bm_if_false rfl ?_
  refine wpAny_bind (wpAny_of_eq F.bm_sub ?_)
  refine bm_if_false rfl ?_
  refine wpAny_bind (wpAny_of_eq (F.bm_bind _) ?_)
  refine wpAny_bind (wpAny_of_eq (a := ()) rfl ?_)
  refine wpAny_bind (wpAny_of_eq (a := ()) rfl ?_)
  refine bm_if_false rfl ?_
  refine wpAny_bind (wpAny_specialOf hT bytes_has_bytes ?_)
  refine wpAny_bind (wpAny_rule ?_)
  refine wpAny_bind (wpAny_typeOf hT ?_)
  refine bm_if_true (by decide) ?_
  show wpAny _ _ (if (Value.type "bytes" == Value.type "bytes") = true then _ else _) _ _ _
  refine bm_if_true (by decide) ?_
  first
    | exact wpAny_pure hQ
    | exact wpAny_bind (wpAny_pure (wpAny_pure hQ))
theorem call_bytes_bytes {b : Array UInt8} {t : Tok} {Q : Value → Shared → Prop} (hQ : Q (.bytes b t) s) : wpAny (model prog w) A (call (.type "bytes") [.bytes b t]) Q E s := by
  refine callType_codes (Q₁ := fun obj s₁ => s₁.TypeIs obj "bytes" ∧ Q obj s₁) F.bm_called (F.bm_typeCall _) F.entry_object_init
    (bm_new_bytes ⟨PySem.W.typeIs_bytes _ _ _, hQ⟩) fun obj s₁ h₁ => ?_
  exact ⟨h₁.1, F.args_object_init_2 obj _, object_init_meets F.bm_called.init.lookup F.bm_called.made (by decide) prog w A.in1 _ s₁ ⟨h₁.1, rfl, h₁.2⟩⟩
end
end
section
/-! bits of non-negative ints -/
theorem and_nat (a b : Nat) : Builtin.bitAnd (a : Int) (b : Int) = ((a &&& b : Nat) : Int) := by
  rw [bitAnd_pp (Int.natCast_nonneg a) (Int.natCast_nonneg b)]; rfl
theorem or_nat (a b : Nat) : Builtin.bitOr (a : Int) (b : Int) = ((a ||| b : Nat) : Int) := by
  rw [bitOr_and, and_nat]
  have h := nat_or_add_and a b
  omega
theorem nx_bits {o a x m n : Nat} (ho : o = 1 ↔ m = 1 ∨ n = 1) (ha : a = 1 ↔ m = 1 ∧ n = 1) (hx : x = 1 ↔ ¬(m = 1 ↔ n = 1)) (o2 : o = 0 ∨ o = 1) (a2 : a = 0 ∨ a = 1) (x2 : x = 0 ∨ x = 1) : x + a = o := by
  rcases o2 with rfl | rfl <;> rcases a2 with rfl | rfl <;> rcases x2 with rfl | rfl <;> simp at * <;> simp_all
theorem nx_join {x a o p q r s t u : Nat} (h1 : 2 * p + q = x) (h2 : 2 * r + s = a) (h3 : 2 * t + u = o) (e1 : p + r = t) (e2 : q + s = u) : x + a = o := by
  rw [← h1, ← h2, ← h3, ← e1, ← e2, Nat.mul_add, Nat.add_add_add_comm]
theorem nat_xor_add_and (m : Nat) : ∀ n : Nat, (m ^^^ n) + (m &&& n) = m ||| n := by
  induction m using Nat.strongRecOn with
  | ind m ih =>
    intro n
    by_cases h0 : m = 0
    · subst h0; simp
    · have ih' := ih (m / 2) (Nat.div_lt_self (Nat.pos_of_ne_zero h0) (by decide)) (n / 2)
      rw [← Nat.or_div_two, ← Nat.and_div_two, ← Nat.xor_div_two] at ih'
      exact nx_join (Nat.div_add_mod _ 2) (Nat.div_add_mod _ 2) (Nat.div_add_mod _ 2) ih' (nx_bits Nat.or_mod_two_eq_one Nat.and_mod_two_eq_one Nat.xor_mod_two_eq_one (Nat.mod_two_eq_zero_or_one _) (Nat.mod_two_eq_zero_or_one _) (Nat.mod_two_eq_zero_or_one _))
theorem xor_nat (a b : Nat) : Builtin.bitXor (a : Int) (b : Int) = ((a ^^^ b : Nat) : Int) := by
  unfold Builtin.bitXor
  rw [or_nat, and_nat]
  have h := nat_xor_add_and a b
  omega
/-- turned left within 32 bits -/
@[irreducible] def rotI (x k : Int) : Int := Builtin.bitAnd (Builtin.bitOr (x * 2 ^ k.toNat) (x.fdiv (2 ^ (32 - k).toNat))) 4294967295
theorem rotI_lo (x k : Int) : 0 ≤ rotI x k := by unfold rotI; rw [bitAnd_m32]; omega
theorem rotI_hi (x k : Int) : rotI x k < 4294967296 := by unfold rotI; rw [bitAnd_m32]; omega
theorem rotI_eq {x k : Int} (hx : 0 ≤ x) (hx2 : x < 4294967296) (hk : 1 ≤ k) (hk2 : k ≤ 31) : (x * 2 ^ k.toNat).fmod 4294967296 + x.fdiv (2 ^ (32 - k).toNat) = rotI x k := by
  obtain ⟨n, rfl⟩ := Int.eq_ofNat_of_zero_le hx
  obtain ⟨j, rfl⟩ := Int.eq_ofNat_of_zero_le (show 0 ≤ k by omega)
  unfold rotI
  have e1 : (j : Int).toNat = j := rfl
  have e2 : (32 - (j : Int)).toNat = 32 - j := by omega
  rw [e1, e2]
  have p1 : ((n : Int) * 2 ^ j) = ((n * 2 ^ j : Nat) : Int) := by rw [Int.natCast_mul, kbt_cast]
  have p2 : (n : Int).fdiv (2 ^ (32 - j)) = ((n / 2 ^ (32 - j) : Nat) : Int) := by
    rw [← kbt_cast, Int.fdiv_eq_ediv_of_nonneg _ (Int.natCast_nonneg _)]; rfl
  rw [p1, p2, or_nat, bitAnd_m32, Int.fmod_eq_emod_of_nonneg _ (by decide)]
  have hn : n < 2 ^ 32 := by omega
  have hlt : n / 2 ^ (32 - j) < 2 ^ j := by
    rw [Nat.div_lt_iff_lt_mul (Nat.two_pow_pos _), ← Nat.pow_add]
    have : j + (32 - j) = 32 := by omega
    rw [this]; exact hn
  have h3 : n * 2 ^ j ||| n / 2 ^ (32 - j) = n * 2 ^ j + n / 2 ^ (32 - j) := by
    rw [Nat.mul_comm n, Nat.two_pow_add_eq_or_of_lt hlt]
  rw [h3]
  have hd : (2 : Nat) ^ 32 = 2 ^ j * 2 ^ (32 - j) := by rw [← Nat.pow_add]; congr 1; omega
  have h4 : n * 2 ^ j % 2 ^ 32 + n / 2 ^ (32 - j) < 2 ^ 32 := by
    have h5 : n * 2 ^ j % 2 ^ 32 = 2 ^ j * (n % 2 ^ (32 - j)) := by rw [hd, Nat.mul_comm n, Nat.mul_mod_mul_left]
    have h6 : n % 2 ^ (32 - j) + 1 ≤ 2 ^ (32 - j) := Nat.mod_lt _ (Nat.two_pow_pos _)
    have h7 := Nat.mul_le_mul_left (2 ^ j) h6
    rw [h5, hd]
    rw [Nat.mul_add] at h7
    omega
  have h8 : (n * 2 ^ j + n / 2 ^ (32 - j)) % 2 ^ 32 = n * 2 ^ j % 2 ^ 32 + n / 2 ^ (32 - j) := by
    rw [Nat.add_mod, Nat.mod_eq_of_lt (a := n / 2 ^ (32 - j)) (by omega), Nat.mod_eq_of_lt h4]
  have h9 := congrArg (fun z : Nat => (z : Int)) h8
  simp only [Int.natCast_add, Int.natCast_emod] at h9 ⊢
  exact h9.symm
end
section
/-! the eighty words -/
def xor4 (a b c d : Int) : Int := Builtin.bitXor (Builtin.bitXor (Builtin.bitXor a b) c) d
def nextW (ws : List Int) : Int := rotI (xor4 (ws.getD (ws.length - 3) 0) (ws.getD (ws.length - 8) 0) (ws.getD (ws.length - 14) 0) (ws.getD (ws.length - 16) 0)) 1
def growW (ws : List Int) : Nat → List Int
  | 0 => ws
  | n + 1 => growW ws n ++ [nextW (growW ws n)]
theorem growW_length (ws : List Int) : ∀ n, (growW ws n).length = ws.length + n
  | 0 => rfl
  | n + 1 => by rw [growW, List.length_append, growW_length ws n]; simp; omega
/-- every item a word of 32 bits -/
def Words (ws : List Int) : Prop := ∀ x ∈ ws, 0 ≤ x ∧ x < 4294967296
theorem growW_words {ws : List Int} (h : Words ws) : ∀ n, Words (growW ws n)
  | 0 => h
  | n + 1 => by
    intro x hx
    rcases List.mem_append.mp hx with hx | hx
    · exact growW_words h n x hx
    · rw [List.mem_singleton.mp hx]
      exact ⟨rotI_lo _ _, rotI_hi _ _⟩
theorem Words.getD {ws : List Int} (h : Words ws) (i : Nat) : 0 ≤ ws.getD i 0 ∧ ws.getD i 0 < 4294967296 := by
  rw [List.getD_eq_getElem?_getD]
  cases e : ws[i]? with
  | none => decide
  | some x => exact h x (List.mem_of_getElem? e)
theorem xor_lt {a b : Int} (ha : 0 ≤ a ∧ a < 4294967296) (hb : 0 ≤ b ∧ b < 4294967296) : 0 ≤ Builtin.bitXor a b ∧ Builtin.bitXor a b < 4294967296 := by
  obtain ⟨n, rfl⟩ := Int.eq_ofNat_of_zero_le ha.1
  obtain ⟨k, rfl⟩ := Int.eq_ofNat_of_zero_le hb.1
  rw [xor_nat]
  have h := @Nat.xor_lt_two_pow n k 32 (by omega) (by omega)
  omega
theorem xor4_lt {a b c d : Int} (ha : 0 ≤ a ∧ a < 4294967296) (hb : 0 ≤ b ∧ b < 4294967296) (hc : 0 ≤ c ∧ c < 4294967296) (hd : 0 ≤ d ∧ d < 4294967296) : 0 ≤ xor4 a b c d ∧ xor4 a b c d < 4294967296 :=
  xor_lt (xor_lt (xor_lt ha hb) hc) hd
/-- the number that octets tell, the highest first -/
@[irreducible] def hor (l : List Int) : Int := l.foldl (fun a x => 256 * a + x) 0
theorem hor_nil : hor [] = 0 := by unfold hor; rfl
theorem hor_snoc (l : List Int) (x : Int) : hor (l ++ [x]) = 256 * hor l + x := by unfold hor; rw [List.foldl_append]; rfl
theorem hor4 {ks : List Int} (hr : ∀ x ∈ ks, 0 ≤ x ∧ x < 256) (h : ks.length ≤ 4) : 0 ≤ hor ks ∧ hor ks < 4294967296 := by
  match ks, h with
  | [], _ => rw [hor_nil]; decide
  | [a], _ =>
    have ha := hr a (by simp)
    have e : hor [a] = a := by unfold hor; simp
    omega
  | [a, b], _ =>
    have ha := hr a (by simp)
    have hb := hr b (by simp)
    have e : hor [a, b] = 256 * a + b := by unfold hor; simp
    omega
  | [a, b, c], _ =>
    have ha := hr a (by simp)
    have hb := hr b (by simp)
    have hc := hr c (by simp)
    have e : hor [a, b, c] = 256 * (256 * a + b) + c := by unfold hor; simp
    omega
  | [a, b, c, d], _ =>
    have ha := hr a (by simp)
    have hb := hr b (by simp)
    have hc := hr c (by simp)
    have hd := hr d (by simp)
    have e : hor [a, b, c, d] = 256 * (256 * (256 * a + b) + c) + d := by unfold hor; simp
    omega
/-- every item an octet -/
def Octs (ks : List Int) : Prop := ∀ x ∈ ks, 0 ≤ x ∧ x < 256
theorem octs_ints (b : Array UInt8) : Octs (KBw.bInts b) := fun _ h => KBw.ints_in h
def words16 (ks : List Int) : List Int := (rangeKs 0 16).map fun j => hor ((ks.drop (4 * j).toNat).take 4)
theorem words16_words {ks : List Int} (h : Octs ks) : Words (words16 ks) := by
  intro x hx
  obtain ⟨j, _, rfl⟩ := List.mem_map.mp hx
  exact hor4 (fun y hy => h y (List.mem_of_mem_drop (List.mem_of_mem_take hy))) (by rw [List.length_take]; omega)
def WInv (ks : List Int) (n : Nat) (ws : List Int) : Prop := ws = growW (words16 ks) n
theorem WInv.words {ks : List Int} {n : Nat} {ws : List Int} (h : Octs ks) (i : WInv ks n ws) : Words ws := by
  unfold WInv at i
  rw [i]
  exact growW_words (words16_words h) n
theorem winv_start (ks : List Int) : WInv ks ([] : List Int).length (List.map (fun k' => hor (List.take 4 (List.drop (4 * k').toNat ks))) (rangeKs 0 (16 - 0 : Int).toNat)) ∧
    (List.map (fun k' => hor (List.take 4 (List.drop (4 * k').toNat ks))) (rangeKs 0 (16 - 0 : Int).toNat)).length = 16 + ([] : List Int).length := ⟨rfl, by rw [List.length_map, rangeKs_length]; rfl⟩
theorem winv_step {ks pre ws : List Int} {k : Int} (hw : WInv ks pre.length ws) (hl : ws.length = 16 + pre.length) (hk : k = 16 + (pre.length : Int)) :
    WInv ks (pre ++ [k]).length (ws ++ [rotI (Builtin.bitXor (Builtin.bitXor (Builtin.bitXor (ws.getD (k - 3).toNat 0) (ws.getD (k - 8).toNat 0)) (ws.getD (k - 14).toNat 0)) (ws.getD (k - 16).toNat 0)) 1]) ∧
      (ws ++ [rotI (Builtin.bitXor (Builtin.bitXor (Builtin.bitXor (ws.getD (k - 3).toNat 0) (ws.getD (k - 8).toNat 0)) (ws.getD (k - 14).toNat 0)) (ws.getD (k - 16).toNat 0)) 1]).length = 16 + (pre ++ [k]).length := by
  have e1 : (k - 3).toNat = ws.length - 3 := by omega
  have e2 : (k - 8).toNat = ws.length - 8 := by omega
  have e3 : (k - 14).toNat = ws.length - 14 := by omega
  have e4 : (k - 16).toNat = ws.length - 16 := by omega
  rw [e1, e2, e3, e4]
  unfold WInv at *
  constructor
  · rw [List.length_append]
    show ws ++ [nextW ws] = growW (words16 ks) (pre.length + 1)
    rw [growW, ← hw]
  · simp only [List.length_append, List.length_cons, List.length_nil]
    omega
/-- the eighty words of a block -/
def words80 (ks : List Int) : List Int := growW (words16 ks) 64
theorem winv_xor {ks : List Int} (ho : Octs ks) {n : Nat} {ws : List Int} (h : WInv ks n ws) (i j k l : Nat) : 0 ≤ Builtin.bitXor (Builtin.bitXor (Builtin.bitXor (ws.getD i 0) (ws.getD j 0)) (ws.getD k 0)) (ws.getD l 0) ∧
    Builtin.bitXor (Builtin.bitXor (Builtin.bitXor (ws.getD i 0) (ws.getD j 0)) (ws.getD k 0)) (ws.getD l 0) < 4294967296 :=
  xor4_lt ((h.words ho).getD _) ((h.words ho).getD _) ((h.words ho).getD _) ((h.words ho).getD _)
theorem words80_length (ks : List Int) : (words80 ks).length = 80 := by
  unfold words80
  rw [growW_length]
  unfold words16
  rw [List.length_map, rangeKs_length]
theorem words80_words {ks : List Int} (h : Octs ks) : Words (words80 ks) := growW_words (words16_words h) 64
end
section
/-! the eighty rounds -/
abbrev St := Int × Int × Int × Int × Int
def W32 (x : Int) : Prop := 0 ≤ x ∧ x < 4294967296
def chI (b c d : Int) : Int := Builtin.bitOr (Builtin.bitAnd b c) (Builtin.bitAnd (Builtin.bitXor 4294967295 b) d)
def parI (b c d : Int) : Int := Builtin.bitXor (Builtin.bitXor b c) d
def majI (b c d : Int) : Int := Builtin.bitOr (Builtin.bitOr (Builtin.bitAnd b c) (Builtin.bitAnd b d)) (Builtin.bitAnd c d)
def mixI (k : Int) (b c d : Int) : Int := if k < 20 then chI b c d else if k < 40 then parI b c d else if k < 60 then majI b c d else parI b c d
def addI (k : Int) : Int := if k < 20 then 1518500249 else if k < 40 then 1859775393 else if k < 60 then 2400959708 else 3395469782
def stepI (ws : List Int) (k : Int) : St → St
  | (a, b, c, d, e) => (Builtin.bitAnd (rotI a 5 + mixI k b c d + e + addI k + ws.getD k.toNat 0) 4294967295, a, rotI b 30, c, d)
def rounds (ws : List Int) (s : St) : Nat → St
  | 0 => s
  | n + 1 => stepI ws (n : Int) (rounds ws s n)
def W5 : St → Prop
  | (a, b, c, d, e) => W32 a ∧ W32 b ∧ W32 c ∧ W32 d ∧ W32 e
theorem rot32 (x k : Int) : W32 (rotI x k) := ⟨rotI_lo _ _, rotI_hi _ _⟩
theorem mask32 (x : Int) : W32 (Builtin.bitAnd x 4294967295) := by
  rw [bitAnd_m32]; unfold W32; omega
theorem stepI_w5 {ws : List Int} {k : Int} {s : St} (h : W5 s) : W5 (stepI ws k s) := by
  obtain ⟨a, b, c, d, e⟩ := s
  obtain ⟨h1, h2, h3, h4, h5⟩ := h
  exact ⟨mask32 _, h1, rot32 _ _, h3, h4⟩
theorem rounds_w5 {ws : List Int} {s : St} (h : W5 s) : ∀ n, W5 (rounds ws s n)
  | 0 => h
  | n + 1 => stepI_w5 (rounds_w5 h n)
/-- the five letters behind n rounds -/
def RInv (ws : List Int) (s : St) (n : Nat) (a b c d e : Int) : Prop := (a, b, c, d, e) = rounds ws s n
theorem RInv.w5 {ws : List Int} {s : St} {n : Nat} {a b c d e : Int} (hs : W5 s) (h : RInv ws s n a b c d e) : W32 a ∧ W32 b ∧ W32 c ∧ W32 d ∧ W32 e := by
  have := rounds_w5 (ws := ws) hs n
  rw [← h] at this
  exact this
theorem rinv_start {ws : List Int} {a b c d e : Int} : RInv ws (a, b, c, d, e) ([] : List Int).length a b c d e := rfl
theorem rinv_step {ws pre : List Int} {s : St} {a b c d e k : Int} (h : RInv ws s pre.length a b c d e) (hk : k = 0 + (pre.length : Int)) {x y : Int} (hx : x = mixI k b c d) (hy : y = addI k) :
    RInv ws s (pre ++ [k]).length (Builtin.bitAnd (rotI a 5 + x + e + y + ws.getD k.toNat 0) 4294967295) a (rotI b 30) c d := by
  unfold RInv at *
  rw [List.length_append]
  show _ = stepI ws (pre.length : Int) (rounds ws s pre.length)
  rw [← h, hx, hy]
  have : k = (pre.length : Int) := by omega
  subst this
  rfl
theorem mix1 {k b c d : Int} (h : k < 20) : Builtin.bitOr (Builtin.bitAnd b c) (Builtin.bitAnd (Builtin.bitXor 4294967295 b) d) = mixI k b c d := by unfold mixI chI; rw [if_pos h]
theorem mix2 {k b c d : Int} (h : ¬ k < 20) (h2 : k < 40) : Builtin.bitXor (Builtin.bitXor b c) d = mixI k b c d := by unfold mixI parI; rw [if_neg h, if_pos h2]
theorem mix3 {k b c d : Int} (h : ¬ k < 20) (h2 : ¬ k < 40) (h3 : k < 60) : Builtin.bitOr (Builtin.bitOr (Builtin.bitAnd b c) (Builtin.bitAnd b d)) (Builtin.bitAnd c d) = mixI k b c d := by unfold mixI majI; rw [if_neg h, if_neg h2, if_pos h3]
theorem mix4 {k b c d : Int} (h : ¬ k < 20) (h2 : ¬ k < 40) (h3 : ¬ k < 60) : Builtin.bitXor (Builtin.bitXor b c) d = mixI k b c d := by unfold mixI parI; rw [if_neg h, if_neg h2, if_neg h3]
theorem add1 {k : Int} (h : k < 20) : 1518500249 = addI k := by unfold addI; rw [if_pos h]
theorem add2 {k : Int} (h : ¬ k < 20) (h2 : k < 40) : 1859775393 = addI k := by unfold addI; rw [if_neg h, if_pos h2]
theorem add3 {k : Int} (h : ¬ k < 20) (h2 : ¬ k < 40) (h3 : k < 60) : 2400959708 = addI k := by unfold addI; rw [if_neg h, if_neg h2, if_pos h3]
theorem add4 {k : Int} (h : ¬ k < 20) (h2 : ¬ k < 40) (h3 : ¬ k < 60) : 3395469782 = addI k := by unfold addI; rw [if_neg h, if_neg h2, if_neg h3]
/-! the law's own mixing -/
theorem w32_nat {x : Int} (h : W32 x) : ∃ n : Nat, x = (n : Int) ∧ n < 2 ^ 32 := by
  obtain ⟨n, rfl⟩ := Int.eq_ofNat_of_zero_le h.1
  exact ⟨n, rfl, by have := h.2; omega⟩
theorem nat_eq_of_bits {x y : Nat} (h : ∀ i, x.testBit i = y.testBit i) : x = y := Nat.eq_of_testBit_eq h
theorem ch_law {b c d : Int} (hb : W32 b) (hc : W32 c) (hd : W32 d) : Builtin.bitXor d (Builtin.bitAnd b (Builtin.bitXor c d)) = chI b c d := by
  obtain ⟨b, rfl, kb⟩ := w32_nat hb
  obtain ⟨c, rfl, kc⟩ := w32_nat hc
  obtain ⟨d, rfl, kd⟩ := w32_nat hd
  unfold chI
  have e : (4294967295 : Int) = ((4294967295 : Nat) : Int) := rfl
  rw [e]
  simp only [xor_nat, and_nat, or_nat]
  congr 1
  apply Nat.eq_of_testBit_eq
  intro i
  have hm : (4294967295 : Nat).testBit i = decide (i < 32) := Nat.testBit_two_pow_sub_one 32 i
  simp only [Nat.testBit_xor, Nat.testBit_and, Nat.testBit_or, hm]
  by_cases hi : i < 32
  · simp only [hi, decide_true]
    cases b.testBit i <;> cases c.testBit i <;> cases d.testBit i <;> rfl
  · have hb' : b.testBit i = false := Nat.testBit_lt_two_pow (Nat.lt_of_lt_of_le kb (Nat.pow_le_pow_right (by decide) (Nat.le_of_not_lt hi)))
    have hc' : c.testBit i = false := Nat.testBit_lt_two_pow (Nat.lt_of_lt_of_le kc (Nat.pow_le_pow_right (by decide) (Nat.le_of_not_lt hi)))
    have hd' : d.testBit i = false := Nat.testBit_lt_two_pow (Nat.lt_of_lt_of_le kd (Nat.pow_le_pow_right (by decide) (Nat.le_of_not_lt hi)))
    simp [hb', hc', hd', hi]
theorem and_xor_disj (b c d : Nat) : (b &&& c) + (d &&& (b ^^^ c)) = (b &&& c) ||| (d &&& (b ^^^ c)) := by
  have h := nat_or_add_and (b &&& c) (d &&& (b ^^^ c))
  have h0 : (b &&& c) &&& (d &&& (b ^^^ c)) = 0 := by
    apply Nat.eq_of_testBit_eq
    intro i
    simp only [Nat.testBit_and, Nat.testBit_xor, Nat.zero_testBit]
    cases b.testBit i <;> cases c.testBit i <;> cases d.testBit i <;> rfl
  omega
theorem maj_law {b c d : Int} (hb : W32 b) (hc : W32 c) (hd : W32 d) : Builtin.bitAnd b c + Builtin.bitAnd d (Builtin.bitXor b c) = majI b c d := by
  obtain ⟨b, rfl, kb⟩ := w32_nat hb
  obtain ⟨c, rfl, kc⟩ := w32_nat hc
  obtain ⟨d, rfl, kd⟩ := w32_nat hd
  unfold majI
  simp only [xor_nat, and_nat, or_nat]
  rw [← Int.natCast_add, and_xor_disj]
  congr 1
  apply Nat.eq_of_testBit_eq
  intro i
  simp only [Nat.testBit_xor, Nat.testBit_and, Nat.testBit_or]
  cases b.testBit i <;> cases c.testBit i <;> cases d.testBit i <;> rfl
/-- the state behind one block -/
def stirI (ws : List Int) (s : St) : List Int := match s, rounds ws s 80 with
  | (a, b, c, d, e), (a', b', c', d', e') => [Builtin.bitAnd (a + a') 4294967295, Builtin.bitAnd (b + b') 4294967295, Builtin.bitAnd (c + c') 4294967295, Builtin.bitAnd (d + d') 4294967295, Builtin.bitAnd (e + e') 4294967295]
theorem stirI_eq {ws : List Int} {a b c d e a' b' c' d' e' : Int} (h : RInv ws (a, b, c, d, e) 80 a' b' c' d' e') : stirI ws (a, b, c, d, e) = [Builtin.bitAnd (a + a') 4294967295, Builtin.bitAnd (b + b') 4294967295, Builtin.bitAnd (c + c') 4294967295, Builtin.bitAnd (d + d') 4294967295, Builtin.bitAnd (e + e') 4294967295] := by
  unfold RInv at h
  unfold stirI
  rw [← h]
theorem stir_map {ws : List Int} {a b c d e a' b' c' d' e' : Int} (h : RInv ws (a, b, c, d, e) (rangeKs 0 (80 - 0 : Int).toNat).length a' b' c' d' e') :
    (rangeKs 0 (5 - 0 : Int).toNat).map (fun k' => Builtin.bitAnd (itI [a, b, c, d, e] k' + itI [a', b', c', d', e'] k') 4294967295) = stirI ws (a, b, c, d, e) := by
  rw [rangeKs_length] at h
  rw [stirI_eq h]
  have e5 : rangeKs 0 (5 - 0 : Int).toNat = [0, 1, 2, 3, 4] := by decide
  rw [e5]
  simp only [List.map_cons, List.map_nil, itI_def]
  rfl
end
section
/-! the four ways of a round, joined behind the choice -/
def WayMark : Prop := True
def WayR (h₀ : Heap) (L : Addr) (m : Str → Option Value) (led : List (Addr × Obj)) (x y : Str) (mv av : Int) (s : Shared) (f : Flow) (s' : Shared) : Prop :=
  f = .next ∧ ∃ h tk t u, s' = { s with heap := h, toks := tk } ∧ Fr h₀ L h (fun z => if z = y then some (.int av u) else if z = x then some (.int mv t) else m z) ∧ News h₀ L h led
section
variable {h₀ h : Heap} {L : Addr} {m : Str → Option Value} {led all : List (Addr × Obj)} {x y : Str} {mv av mv' av' : Int} {s : Shared} {t u : Tok} {tk : Nat}
theorem way_end (hm : mv' = mv) (ha : av' = av) (F : Fr h₀ L h (fun z => if z = y then some (.int av' u) else if z = x then some (.int mv' t) else m z)) (N : News h₀ L h all) (hs : ∀ p ∈ led, p ∈ all) : WayR h₀ L m led x y mv av s .next { s with heap := h, toks := tk } := by
  subst hm
  subst ha
  exact ⟨rfl, h, tk, t, u, rfl, F, fun p hp => N p (hs p hp)⟩
theorem way_cut {M : Model} {A : Around} {E : Value → Shared → Prop} {g : Sem Flow} {Q : Flow → Shared → Prop} {ws pre : List Int} {S : St} {a b c d e k : Int} (x y : Str) (_F : Fr h₀ L s.heap m) (_N : News h₀ L s.heap led) (_hR : RInv ws S pre.length a b c d e) (_hk : k = 0 + (pre.length : Int))
    (w : WayMark → wpAny M A g (WayR h₀ L m led x y (mixI k b c d) (addI k) s) E s)
    (n : ∀ h tk t u, Fr h₀ L h (fun z => if z = y then some (.int (addI k) u) else if z = x then some (.int (mixI k b c d) t) else m z) → News h₀ L h led → Q .next { s with heap := h, toks := tk }) : wpAny M A g Q E s :=
  wpAny_mono (w trivial) (fun f s' q => by
    obtain ⟨rfl, h', tk', t', u', rfl, F', N'⟩ := q
    exact n h' tk' t' u' F' N') fun _ _ q => q
theorem way_cut2 {M : Model} {A : Around} {E : Value → Shared → Prop} {g : Sem Flow} {Q : Flow → Shared → Prop} {ws pre : List Int} {S : St} {a b c d e k : Int} (x y : Str) (_F : Fr h₀ L s.heap m) (_N : News h₀ L s.heap led) (_hR : RInv ws S pre.length a b c d e) (_hk : k = 0 + (pre.length : Int))
    (w : WayMark → wpAny M A g (WayR h₀ L m led x y (addI k) (mixI k b c d) s) E s)
    (n : ∀ h tk t u, Fr h₀ L h (fun z => if z = y then some (.int (mixI k b c d) u) else if z = x then some (.int (addI k) t) else m z) → News h₀ L h led → Q .next { s with heap := h, toks := tk }) : wpAny M A g Q E s :=
  wpAny_mono (w trivial) (fun f s' q => by
    obtain ⟨rfl, h', tk', t', u', rfl, F', N'⟩ := q
    exact n h' tk' t' u' F' N') fun _ _ q => q
end
theorem entry_gen2 {M : Model} {A : Around} {t : Sem Unit} {c : Sem Flow} {R : Flow → Shared → Prop} {E : Value → Shared → Prop} {s : Shared} (h : ∀ Rx : Flow → Shared → Prop, PostIn Rx R → wpAny M A t (fun _ s₃ => wpAny M A c (PostV Rx) E s₃) E s) : wpAny M A t (fun _ s₃ => wpAny M A c R E s₃) E s := h R fun _ _ x => x
theorem keep_cons {α : Type} {x : α} {a b : List α} (h : ∀ p ∈ a, p ∈ b) : ∀ p ∈ x :: a, p ∈ x :: b := fun p hp => (List.mem_cons.mp hp).elim (fun e => e ▸ .head _) fun q => .tail _ (h p q)
theorem drop_cons {α : Type} {y : α} {a b : List α} (h : ∀ p ∈ a, p ∈ b) : ∀ p ∈ a, p ∈ y :: b := fun p hp => .tail _ (h p hp)
end
local macro_rules | `(tactic| walk_at "PostV") => `(tactic| ((refine postv_out (by with_reducible assumption) ?_); (try dsimp only)))
section
local macro_rules | `(tactic| k_room) => `(tactic| ktr_room)
theorem turned_left_meets {w mean mg mb led x t k t'} (hx : 0 ≤ x) (hx2 : x < 4294967296) (hk0 : 0 ≤ k) (hk1 : k ≤ 32) : Meets w mean mg mb 1 8 led (.ref 124) [.int x t, .int k t'] (Back led fun r => ∃ t, r = .int (rotI x k) t) := by
  w_top off
  ((intro dp un gd cn cs a ccd cl outer A₀ base h₀ L m s Q E B F X N T hcs hdp hun hret; refine wpAny_call ?_; k_dflt cell_enter); (refine entry_gen (fun Qx hQx => ?_)))
  k_steps
  (refine ret_of hret (by k_asm) (by k_asm) ?_)
  exact ⟨rfl, _, by unfold rotI; rfl⟩
theorem law_turned_meets {w mean mg mb led x t k t'} (hx : 0 ≤ x) (hx2 : x < 4294967296) (hk0 : 1 ≤ k) (hk1 : k ≤ 31) : Meets w mean mg mb 1 8 led (.ref 220) [.int x t, .int k t'] (Back led fun r => ∃ t, r = .int (rotI x k) t) := by
  w_top off
  ((intro dp un gd cn cs a ccd cl outer A₀ base h₀ L m s Q E B F X N T hcs hdp hun hret; refine wpAny_call ?_; k_dflt cell_enter); (refine entry_gen (fun Qx hQx => ?_)))
  k_steps
  (refine ret_of hret (by k_asm) (by k_asm) ?_)
  exact ⟨rfl, _, by rw [← rotI_eq hx hx2 hk0 hk1]⟩
/-- so many octets of a number, the highest first -/
@[irreducible] def beL (x k : Int) : List Int := (rangeKs 0 k.toNat).map fun j => x.fdiv (2 ^ (8 * (k - 1 - j)).toNat) % 256
theorem beL_in (x k : Int) : KBa.In (beL x k) := by
  intro n hn
  unfold beL at hn
  obtain ⟨j, _, rfl⟩ := List.mem_map.mp hn
  omega
theorem beL_length (x k : Int) : (beL x k).length = k.toNat := by unfold beL; rw [List.length_map, rangeKs_length]
local macro_rules | `(tactic| kba_bound) => `(tactic| (simp only [bitAnd_m8]; omega))
local macro_rules | `(tactic| l_bnd) => `(tactic| first | assumption | ((repeat (with_reducible rename _ ∧ _ => hx9; clear hx9)); (repeat (with_reducible rename _ ≠ _ => hx9; clear hx9)); k_dflt omega))
theorem big_endian_meets {w mean mg mb led x t k t'} (hx : 0 ≤ x) (hx2 : x < 18446744073709551616) (hk0 : 0 ≤ k) (hk1 : k ≤ 8) : Meets w mean mg mb 1 8 led (.ref 52) [.int x t, .int k t'] (Back led fun r => ∃ t, r = .bytes (byteArr (beL x k)) t) := by
  w_top off
  ((intro dp un gd cn cs a ccd cl outer A₀ base h₀ L m s Q E B F X N T hcs hdp hun hret; refine wpAny_call ?_; k_dflt (refine' code_defC ?k1 ?k2 ?k3 ?k4 ?k5 ?kA ?kF ?kK ?k6 ?k7 ?k8 ?k9 ?kB ?kD ?_ ?c2 ?c3 ?c4; (case kA => exact rfl); (case kF => exact rfl); (case kK => first | exact rfl | assumption); (case k1 => k_asm); (case k2 => k_asm); (case k3 => k_asm); (case k4 => k_asm); (case k5 => k_asm); (case k6 => k_is); (case k7 => k_is); (case k8 => ktr_room); (case k9 => exact BindsTo.of_eq rfl); (case kB => exact rfl); (case kD => decide +kernel); (case c2 => exact rfl); (case c3 => exact rfl); (case c4 => exact rfl); k_whole; intro g' L' h' tk' cells' FG' F' N' Y' B' X' T' l1; (try k_lt l1); k_cells Y'; (try simp only [List.cons_append, List.nil_append] at N'); (try dsimp only); (try k_lift B'); (try k_fold))); (refine entry_gen (fun Qx hQx => ?_)))
  k_steps
  (refine' ret_sub led hret ?rF ?rN ?rS ?_; (case rF => k_asm); (case rN => k_asm); (case rS => intro p hp; repeat (first | exact hp | refine List.Mem.tail _ ?_)))
  exact ⟨rfl, bytes_back (by unfold beL; simp only [bitAnd_m8, Int.sub_zero])⟩
theorem be32_meets {w mean mg mb led x t} (hx : 0 ≤ x) (hx2 : x < 18446744073709551616) : Meets w mean mg mb 2 16 led (.ref 59) [.int x t] (Back led fun r => ∃ t, r = .bytes (byteArr (beL x 4)) t) := by
  w_top off
  k_with_none
  k_with "call ref" => ((with_reducible show wpAny _ _ (call (Value.ref 52) _) _ _ _); k_dflt (first | refine' Meets.use_int (big_endian_meets (by omega) (by omega) (by omega) (by omega)) (by k_asm) (by k_asm) (by k_asm) (by k_asm) (by k_asm) (by first | exact rfl | assumption) (by ktr_room) (by ktr_units) ?_ | refine' Meets.use_bytes (big_endian_meets (by omega) (by omega) (by omega) (by omega)) (by k_asm) (by k_asm) (by k_asm) (by k_asm) (by k_asm) (by first | exact rfl | assumption) (by ktr_room) (by ktr_units) ?_); intro t9 h9 tk9 F9 N9; (try k_sweep); (try dsimp only); (try k_fold))
  ((intro dp un gd cn cs a ccd cl outer A₀ base h₀ L m s Q E B F X N T hcs hdp hun hret; refine wpAny_call ?_; k_dflt cell_enter); (refine entry_gen (fun Qx hQx => ?_)))
  k_steps
  (refine' ret_sub led hret ?rF ?rN ?rS ?_; (case rF => k_asm); (case rN => k_asm); (case rS => intro p hp; repeat (first | exact hp | refine List.Mem.tail _ ?_)))
  exact ⟨rfl, _, rfl⟩
theorem be64_meets {w mean mg mb led x t} (hx : 0 ≤ x) (hx2 : x < 18446744073709551616) : Meets w mean mg mb 2 16 led (.ref 66) [.int x t] (Back led fun r => ∃ t, r = .bytes (byteArr (beL x 8)) t) := by
  w_top off
  k_with_none
  k_with "call ref" => ((with_reducible show wpAny _ _ (call (Value.ref 52) _) _ _ _); k_dflt (first | refine' Meets.use_int (big_endian_meets (by omega) (by omega) (by omega) (by omega)) (by k_asm) (by k_asm) (by k_asm) (by k_asm) (by k_asm) (by first | exact rfl | assumption) (by ktr_room) (by ktr_units) ?_ | refine' Meets.use_bytes (big_endian_meets (by omega) (by omega) (by omega) (by omega)) (by k_asm) (by k_asm) (by k_asm) (by k_asm) (by k_asm) (by first | exact rfl | assumption) (by ktr_room) (by ktr_units) ?_); intro t9 h9 tk9 F9 N9; (try k_sweep); (try dsimp only); (try k_fold))
  ((intro dp un gd cn cs a ccd cl outer A₀ base h₀ L m s Q E B F X N T hcs hdp hun hret; refine wpAny_call ?_; k_dflt cell_enter); (refine entry_gen (fun Qx hQx => ?_)))
  k_steps
  (refine' ret_sub led hret ?rF ?rN ?rS ?_; (case rF => k_asm); (case rN => k_asm); (case rS => intro p hp; repeat (first | exact hp | refine List.Mem.tail _ ?_)))
  exact ⟨rfl, _, rfl⟩
end
section
local macro_rules | `(tactic| k_room) => `(tactic| ktr_room)
theorem clip_in {n : Nat} {k : Int} (h0 : 0 ≤ k) (h1 : k ≤ n) : clipAt n k = k.toNat := by
  obtain ⟨j, rfl⟩ := Int.eq_ofNat_of_zero_le h0
  rw [clipAt_nat]
  omega
theorem at_big_meets {w mean mg mb led b t t' ks u} {k : Int} (hb : KBw.bInts b = ks) (hn : ks.length ≤ 1000000) (hk : 0 ≤ k) (hk2 : k + 4 ≤ ks.length) :
    Meets w mean mg mb 1 8 led (.ref 73) [.bytes b t, .int k t', .int 4 u] (Back led fun r => ∃ t, r = .int (hor ((ks.drop k.toNat).take 4)) t) := by
  w_top off
  k_with_none
  k_with "exec For Name Subscript cons nil" => (k_here; (rename Fr _ _ _ _ => lF'); (with_unfolding_all refine' For_invVF lF' ?k1 ?k2 ?_; (case k1 => exact rfl); (case k2 => exact rfl); k_whole))
  k_with "state" => first | exact hor_nil.symm | (simp only [hor_snoc]; omega)
  k_with "pyIter bytes" => (k_state (fun pre n => n = hor pre) "number"; (try (refine entry_gen (fun Qx hQx => ?_))))
  ((intro dp un gd cn cs a ccd cl outer A₀ base h₀ L m s Q E B F X N T hcs hdp hun hret; refine wpAny_call ?_; k_dflt cell_enter); (refine entry_gen (fun Qx hQx => ?_)))
  k_steps
  (rename _ = hor _ => kInv)
  subst kInv
  (refine' ret_sub led hret ?rF ?rN ?rS ?_; (case rF => k_asm); (case rN => k_asm); (case rS => intro p hp; repeat (first | exact hp | refine List.Mem.tail _ ?_)))
  refine ⟨rfl, int_back ?_⟩
  rw [clip_in hk (by omega), clip_in (by omega) hk2]
  congr 2
  omega
theorem at_be32_meets {w mean mg mb led b t t' ks} {k : Int} (hb : KBw.bInts b = ks) (hn : ks.length ≤ 1000000) (hk : 0 ≤ k) (hk2 : k + 4 ≤ ks.length) :
    Meets w mean mg mb 2 16 led (.ref 80) [.bytes b t, .int k t'] (Back led fun r => ∃ t, r = .int (hor ((ks.drop k.toNat).take 4)) t) := by
  w_top off
  k_with_none
  k_with "call ref" => ((with_reducible show wpAny _ _ (call (Value.ref 73) _) _ _ _); k_dflt (first | refine' Meets.use_int (at_big_meets hb hn hk hk2) (by k_asm) (by k_asm) (by k_asm) (by k_asm) (by k_asm) (by first | exact rfl | assumption) (by ktr_room) (by ktr_units) ?_ | refine' Meets.use_bytes (at_big_meets hb hn hk hk2) (by k_asm) (by k_asm) (by k_asm) (by k_asm) (by k_asm) (by first | exact rfl | assumption) (by ktr_room) (by ktr_units) ?_); intro t9 h9 tk9 F9 N9; (try k_sweep); (try dsimp only); (try k_fold))
  ((intro dp un gd cn cs a ccd cl outer A₀ base h₀ L m s Q E B F X N T hcs hdp hun hret; refine wpAny_call ?_; k_dflt cell_enter); (refine entry_gen (fun Qx hQx => ?_)))
  k_steps
  (refine' ret_sub led hret ?rF ?rN ?rS ?_; (case rF => k_asm); (case rN => k_asm); (case rS => intro p hp; repeat (first | exact hp | refine List.Mem.tail _ ?_)))
  exact ⟨rfl, _, rfl⟩
end
section
local macro_rules | `(tactic| k_room) => `(tactic| ktr_room)
local macro_rules | `(tactic| k_all) => `(tactic| (refine all_app ?_ ?_ <;> k_all))
local macro_rules | `(tactic| k_all) => `(tactic| first | exact off1_ne (by assumption) | exact off1_ne (And.right (by assumption)) | exact off1_ne (And.right (And.right (by assumption))))
theorem words_of_meets {w mean mg mb led b t ks x} (hb : KBw.bInts b = ks) (hn : ks.length = 64) :
    Meets w mean mg mb 4 32 led (.ref 150) [.ref x, .bytes b t] (NewInts led fun ns => ns = words80 ks) := by
  have ho : Octs ks := hb ▸ octs_ints b
  w_top off
  k_with_none
  k_with "call ref" => ((with_reducible show wpAny _ _ (call (Value.ref 80) _) _ _ _); k_dflt (first | refine' Meets.use_int (at_be32_meets hb (by omega) (by omega) (by omega)) (by k_asm) (by k_asm) (by k_asm) (by k_asm) (by k_asm) (by first | exact rfl | assumption) (by ktr_room) (by ktr_units) ?_ | refine' Meets.use_bytes (at_be32_meets hb (by omega) (by omega) (by omega)) (by k_asm) (by k_asm) (by k_asm) (by k_asm) (by k_asm) (by first | exact rfl | assumption) (by ktr_room) (by ktr_units) ?_); intro t9 h9 tk9 F9 N9; (try k_sweep); (try dsimp only); (try k_fold))
  k_with "call ref" => ((with_reducible show wpAny _ _ (call (Value.ref 124) _) _ _ _); k_dflt (first | refine' Meets.use_int (turned_left_meets (by exact (winv_xor ho (by assumption) _ _ _ _).1) (by exact (winv_xor ho (by assumption) _ _ _ _).2) (by omega) (by omega)) (by k_asm) (by k_asm) (by k_asm) (by k_asm) (by k_asm) (by first | exact rfl | assumption) (by ktr_room) (by ktr_units) ?_ | refine' Meets.use_bytes (turned_left_meets (by exact (winv_xor ho (by assumption) _ _ _ _).1) (by exact (winv_xor ho (by assumption) _ _ _ _).2) (by omega) (by omega)) (by k_asm) (by k_asm) (by k_asm) (by k_asm) (by k_asm) (by first | exact rfl | assumption) (by ktr_room) (by ktr_units) ?_); intro t9 h9 tk9 F9 N9; (try k_sweep); (try dsimp only); (try k_fold))
  k_with "pyIter ref" => (k_state (fun pre ws => WInv ks pre.length ws ∧ ws.length = 16 + pre.length) "words"; (try (refine entry_gen (fun Qx hQx => ?_))))
  k_with "state" => first | exact winv_start ks | exact winv_step (by assumption) (by assumption) (by assumption)
  k_with "subscriptTail" => (k_here; (with_reducible show wpAny _ _ (subscriptTail _ _ (Value.ref _) (Value.int _ _)) _ _ _); k_dflt (refine' item_ints ?N ?m ?i ?a ?b ?f ?_; (case N => k_asm); (case m => k_mem); (case i => assumption); (case a => (first | (with_reducible refine (ix_word ?_ ?_ ?_ ?_ ?_).1 <;> first | with_reducible assumption | decide) | (with_reducible refine (ix_round ?_ ?_ ?_).1 <;> first | with_reducible assumption | decide) | (with_reducible refine (ix_flip ?_ ?_ ?_).1 <;> first | with_reducible assumption | decide) | (with_reducible refine (ix_page0 ?_ ?_ ?_).1 <;> first | with_reducible assumption | decide) | (with_reducible refine (ix_page ?_ ?_ ?_ ?_ ?_).1 <;> first | with_reducible assumption | decide) | (first | ((repeat (with_reducible rename _ ∧ _ => hx9; clear hx9)); (repeat (with_reducible rename _ ≠ _ => hx9; clear hx9)); omega) | omega))); (case b => (first | (with_reducible refine (ix_word ?_ ?_ ?_ ?_ ?_).2.1 <;> first | with_reducible assumption | decide) | (with_reducible refine (ix_round ?_ ?_ ?_).2.1 <;> first | with_reducible assumption | decide) | (with_reducible refine (ix_flip ?_ ?_ ?_).2.1 <;> first | with_reducible assumption | decide) | (with_reducible refine (ix_page0 ?_ ?_ ?_).2.1 <;> first | with_reducible assumption | decide) | (with_reducible refine (ix_page ?_ ?_ ?_ ?_ ?_).2.1 <;> first | with_reducible assumption | decide) | (first | ((repeat (with_reducible rename _ ∧ _ => hx9; clear hx9)); (repeat (with_reducible rename _ ≠ _ => hx9; clear hx9)); omega) | omega))); (case f => (first | (with_reducible refine (ix_word ?_ ?_ ?_ ?_ ?_).2.2 <;> first | with_reducible assumption | decide) | (with_reducible refine (ix_round ?_ ?_ ?_).2.2 <;> first | with_reducible assumption | decide) | (with_reducible refine (ix_flip ?_ ?_ ?_).2.2 <;> first | with_reducible assumption | decide) | (with_reducible refine (ix_page0 ?_ ?_ ?_).2.2 <;> first | with_reducible assumption | decide) | (with_reducible refine (ix_page ?_ ?_ ?_ ?_ ?_).2.2 <;> first | with_reducible assumption | decide) | (first | ((repeat (with_reducible rename _ ∧ _ => hx9; clear hx9)); (repeat (with_reducible rename _ ≠ _ => hx9; clear hx9)); omega) | omega))); k_whole); intro t9)
  k_with "subscriptTail Name BinOp ref int" => k_extra "subscriptTail"
  ((intro dp un gd cn cs a ccd cl outer A₀ base h₀ L m s Q E B F X N T hcs hdp hun hret; refine wpAny_call ?_; k_dflt (refine' code_defC ?k1 ?k2 ?k3 ?k4 ?k5 ?kA ?kF ?kK ?k6 ?k7 ?k8 ?k9 ?kB ?kD ?_ ?c2 ?c3 ?c4; (case kA => exact rfl); (case kF => exact rfl); (case kK => first | exact rfl | assumption); (case k1 => k_asm); (case k2 => k_asm); (case k3 => k_asm); (case k4 => k_asm); (case k5 => k_asm); (case k6 => k_is); (case k7 => k_is); (case k8 => ktr_room); (case k9 => exact BindsTo.of_eq rfl); (case kB => exact rfl); (case kD => decide +kernel); (case c2 => exact rfl); (case c3 => exact rfl); (case c4 => exact rfl); k_whole; intro g' L' h' tk' cells' FG' F' N' Y' B' X' T' l1; (try k_lt l1); k_cells Y'; (try simp only [List.cons_append, List.nil_append] at N'); (try dsimp only); (try k_lift B'); (try k_fold))); (refine entry_gen (fun Qx hQx => ?_)))
  k_steps
  refine ret_ints hret (by k_asm) (by k_asm) ?_ (by assumption) ?_ (And.right (by assumption))
  · intro p hp; repeat (first | exact hp | refine List.Mem.tail _ ?_)
  · (rename WInv _ _ _ => hW)
    rw [rangeKs_length] at hW
    exact hW
end
local macro_rules | `(tactic| k_room) => `(tactic| ktr_room)
local macro_rules | `(tactic| k_all) => `(tactic| (refine all_app ?_ ?_ <;> k_all))
local macro_rules | `(tactic| k_all) => `(tactic| ((fail_if_success (refine List.forall_mem_cons.mpr ?_)); (fail_if_success (refine all_app ?_ ?_)); first | exact off1_ne (by assumption) | exact off1_ne (And.right (by assumption)) | exact off1_ne (And.right (And.right (by assumption))) | exact off1_ne (And.right (And.right (And.right (by assumption)))) | exact off1_ne (And.right (And.right (And.right (And.right (by assumption))))) | exact off1_ne (And.right (And.right (And.right (And.right (And.right (by assumption)))))) | exact off1_ne (And.right (And.right (And.right (And.right (And.right (And.right (by assumption))))))) | exact lt_ne (by assumption) (by (try dsimp only); omega) | exact lt_ne (ktn_ltOf (by assumption)) (by (try dsimp only); omega) | exact lt_ne (ktn_ltOf (And.right (by assumption))) (by (try dsimp only); omega) | exact lt_ne (ktn_ltOf (And.right (And.right (by assumption)))) (by (try dsimp only); omega) | exact lt_ne (ktn_ltOf (And.right (And.right (And.right (by assumption))))) (by (try dsimp only); omega) | exact lt_ne (ktn_ltOf (And.right (And.right (And.right (And.right (by assumption)))))) (by (try dsimp only); omega) | exact lt_ne (ktn_ltOf (And.right (And.right (And.right (And.right (And.right (by assumption))))))) (by (try dsimp only); omega) | exact lt_ne (ktn_ltOf (And.right (And.right (And.right (And.right (And.right (And.right (by assumption)))))))) (by (try dsimp only); omega)))
local macro_rules | `(tactic| walk_at "eval Name") => `(tactic| (k_here; (with_reducible show wpAny _ _ (eval (Expr.Name _ _) (compEnvC _ _ _ _)) _ _ _); k_dflt (refine' LCgL.ld_global ?xa ?xb ?xc ?xd ?_ ?xe ?xf ?xg ?xh; (case xg => rfl); (case xe => rfl); (case xf => rfl); (case xh => decide); (case xa => k_asm); (case xb => k_asm); (case xc => k_asm); (case xd => k_is); k_whole)))
local macro_rules | `(tactic| k_ne) => `(tactic| first | (with_reducible assumption) | (exact Ne.symm (by with_reducible assumption)) | (exact (And.left (by with_reducible assumption))) | (exact Ne.symm (And.left (by with_reducible assumption))) | (exact Nat.ne_of_lt (And.left (by with_reducible assumption))) | (exact Nat.ne_of_gt (And.left (by with_reducible assumption))) | (exact (And.left (And.right (by with_reducible assumption)))) | (exact Ne.symm (And.left (And.right (by with_reducible assumption)))) | (exact Nat.ne_of_lt (And.left (And.right (by with_reducible assumption)))) | (exact Nat.ne_of_gt (And.left (And.right (by with_reducible assumption)))) | (exact (And.left (And.right (And.right (by with_reducible assumption))))) | (exact Ne.symm (And.left (And.right (And.right (by with_reducible assumption))))) | (exact Nat.ne_of_lt (And.left (And.right (And.right (by with_reducible assumption))))) | (exact Nat.ne_of_gt (And.left (And.right (And.right (by with_reducible assumption))))) | (exact (And.left (And.right (And.right (And.right (by with_reducible assumption)))))) | (exact Ne.symm (And.left (And.right (And.right (And.right (by with_reducible assumption)))))) | (exact Nat.ne_of_lt (And.left (And.right (And.right (And.right (by with_reducible assumption)))))) | (exact Nat.ne_of_gt (And.left (And.right (And.right (And.right (by with_reducible assumption)))))) | (exact (And.left (And.right (And.right (And.right (And.right (by with_reducible assumption))))))) | (exact Ne.symm (And.left (And.right (And.right (And.right (And.right (by with_reducible assumption))))))) | (exact Nat.ne_of_lt (And.left (And.right (And.right (And.right (And.right (by with_reducible assumption))))))) | (exact Nat.ne_of_gt (And.left (And.right (And.right (And.right (And.right (by with_reducible assumption))))))) | (exact (And.left (And.right (And.right (And.right (And.right (And.right (by with_reducible assumption)))))))) | (exact Ne.symm (And.left (And.right (And.right (And.right (And.right (And.right (by with_reducible assumption)))))))) | (exact Nat.ne_of_lt (And.left (And.right (And.right (And.right (And.right (And.right (by with_reducible assumption)))))))) | (exact Nat.ne_of_gt (And.left (And.right (And.right (And.right (And.right (And.right (by with_reducible assumption)))))))) | (exact (And.left (And.right (And.right (And.right (And.right (And.right (And.right (by with_reducible assumption))))))))) | (exact Ne.symm (And.left (And.right (And.right (And.right (And.right (And.right (And.right (by with_reducible assumption))))))))) | (exact Nat.ne_of_lt (And.left (And.right (And.right (And.right (And.right (And.right (And.right (by with_reducible assumption))))))))) | (exact Nat.ne_of_gt (And.left (And.right (And.right (And.right (And.right (And.right (And.right (by with_reducible assumption))))))))) | (exact (And.left (And.right (And.right (And.right (And.right (And.right (And.right (And.right (by with_reducible assumption)))))))))) | (exact Ne.symm (And.left (And.right (And.right (And.right (And.right (And.right (And.right (And.right (by with_reducible assumption)))))))))) | (exact Nat.ne_of_lt (And.left (And.right (And.right (And.right (And.right (And.right (And.right (And.right (by with_reducible assumption)))))))))) | (exact Nat.ne_of_gt (And.left (And.right (And.right (And.right (And.right (And.right (And.right (And.right (by with_reducible assumption)))))))))) | (exact (And.left (And.right (And.right (And.right (And.right (And.right (And.right (And.right (And.right (by with_reducible assumption))))))))))) | (exact Ne.symm (And.left (And.right (And.right (And.right (And.right (And.right (And.right (And.right (And.right (by with_reducible assumption))))))))))) | (exact Nat.ne_of_lt (And.left (And.right (And.right (And.right (And.right (And.right (And.right (And.right (And.right (by with_reducible assumption))))))))))) | (exact Nat.ne_of_gt (And.left (And.right (And.right (And.right (And.right (And.right (And.right (And.right (And.right (by with_reducible assumption))))))))))) | (exact (And.left (And.right (And.right (And.right (And.right (And.right (And.right (And.right (And.right (And.right (by with_reducible assumption)))))))))))) | (exact Ne.symm (And.left (And.right (And.right (And.right (And.right (And.right (And.right (And.right (And.right (And.right (by with_reducible assumption)))))))))))) | (exact Nat.ne_of_lt (And.left (And.right (And.right (And.right (And.right (And.right (And.right (And.right (And.right (And.right (by with_reducible assumption)))))))))))) | (exact Nat.ne_of_gt (And.left (And.right (And.right (And.right (And.right (And.right (And.right (And.right (And.right (And.right (by with_reducible assumption)))))))))))) | (exact (And.left (And.right (And.right (And.right (And.right (And.right (And.right (And.right (And.right (And.right (And.right (by with_reducible assumption))))))))))))) | (exact Ne.symm (And.left (And.right (And.right (And.right (And.right (And.right (And.right (And.right (And.right (And.right (And.right (by with_reducible assumption))))))))))))) | (exact Nat.ne_of_lt (And.left (And.right (And.right (And.right (And.right (And.right (And.right (And.right (And.right (And.right (And.right (by with_reducible assumption))))))))))))) | (exact Nat.ne_of_gt (And.left (And.right (And.right (And.right (And.right (And.right (And.right (And.right (And.right (And.right (And.right (by with_reducible assumption))))))))))))) | (exact (And.left (And.right (And.right (And.right (And.right (And.right (And.right (And.right (And.right (And.right (And.right (And.right (by with_reducible assumption)))))))))))))) | (exact Ne.symm (And.left (And.right (And.right (And.right (And.right (And.right (And.right (And.right (And.right (And.right (And.right (And.right (by with_reducible assumption)))))))))))))) | (exact Nat.ne_of_lt (And.left (And.right (And.right (And.right (And.right (And.right (And.right (And.right (And.right (And.right (And.right (And.right (by with_reducible assumption)))))))))))))) | (exact Nat.ne_of_gt (And.left (And.right (And.right (And.right (And.right (And.right (And.right (And.right (And.right (And.right (And.right (And.right (by with_reducible assumption)))))))))))))) | (exact (And.left (And.left (by with_reducible assumption)))) | (exact Ne.symm (And.left (And.left (by with_reducible assumption)))) | (exact (And.left (And.right (And.left (by with_reducible assumption))))) | (exact Ne.symm (And.left (And.right (And.left (by with_reducible assumption))))) | (exact (And.right (And.right (And.left (by with_reducible assumption))))) | (exact Ne.symm (And.right (And.right (And.left (by with_reducible assumption))))) | (exact (And.left (And.left (And.right (by with_reducible assumption))))) | (exact Ne.symm (And.left (And.left (And.right (by with_reducible assumption))))) | (exact (And.left (And.right (And.left (And.right (by with_reducible assumption)))))) | (exact Ne.symm (And.left (And.right (And.left (And.right (by with_reducible assumption)))))) | (exact (And.right (And.right (And.left (And.right (by with_reducible assumption)))))) | (exact Ne.symm (And.right (And.right (And.left (And.right (by with_reducible assumption)))))) | (exact (And.left (And.left (And.right (And.right (by with_reducible assumption)))))) | (exact Ne.symm (And.left (And.left (And.right (And.right (by with_reducible assumption)))))) | (exact (And.left (And.right (And.left (And.right (And.right (by with_reducible assumption))))))) | (exact Ne.symm (And.left (And.right (And.left (And.right (And.right (by with_reducible assumption))))))) | (exact (And.right (And.right (And.left (And.right (And.right (by with_reducible assumption))))))) | (exact Ne.symm (And.right (And.right (And.left (And.right (And.right (by with_reducible assumption))))))) | (exact (And.left (And.left (And.right (And.right (And.right (by with_reducible assumption))))))) | (exact Ne.symm (And.left (And.left (And.right (And.right (And.right (by with_reducible assumption))))))) | (exact (And.left (And.right (And.left (And.right (And.right (And.right (by with_reducible assumption)))))))) | (exact Ne.symm (And.left (And.right (And.left (And.right (And.right (And.right (by with_reducible assumption)))))))) | (exact (And.right (And.right (And.left (And.right (And.right (And.right (by with_reducible assumption)))))))) | (exact Ne.symm (And.right (And.right (And.left (And.right (And.right (And.right (by with_reducible assumption)))))))) | (exact (And.left (And.left (And.right (And.right (And.right (And.right (by with_reducible assumption)))))))) | (exact Ne.symm (And.left (And.left (And.right (And.right (And.right (And.right (by with_reducible assumption)))))))) | (exact (And.left (And.right (And.left (And.right (And.right (And.right (And.right (by with_reducible assumption))))))))) | (exact Ne.symm (And.left (And.right (And.left (And.right (And.right (And.right (And.right (by with_reducible assumption))))))))) | (exact (And.right (And.right (And.left (And.right (And.right (And.right (And.right (by with_reducible assumption))))))))) | (exact Ne.symm (And.right (And.right (And.left (And.right (And.right (And.right (And.right (by with_reducible assumption))))))))) | (exact (And.left (And.left (And.right (And.right (And.right (And.right (And.right (by with_reducible assumption))))))))) | (exact Ne.symm (And.left (And.left (And.right (And.right (And.right (And.right (And.right (by with_reducible assumption))))))))) | (exact (And.left (And.right (And.left (And.right (And.right (And.right (And.right (And.right (by with_reducible assumption)))))))))) | (exact Ne.symm (And.left (And.right (And.left (And.right (And.right (And.right (And.right (And.right (by with_reducible assumption)))))))))) | (exact (And.right (And.right (And.left (And.right (And.right (And.right (And.right (And.right (by with_reducible assumption)))))))))) | (exact Ne.symm (And.right (And.right (And.left (And.right (And.right (And.right (And.right (And.right (by with_reducible assumption)))))))))) | (exact (And.left (And.left (And.right (And.right (And.right (And.right (And.right (And.right (by with_reducible assumption)))))))))) | (exact Ne.symm (And.left (And.left (And.right (And.right (And.right (And.right (And.right (And.right (by with_reducible assumption)))))))))) | (exact (And.left (And.right (And.left (And.right (And.right (And.right (And.right (And.right (And.right (by with_reducible assumption))))))))))) | (exact Ne.symm (And.left (And.right (And.left (And.right (And.right (And.right (And.right (And.right (And.right (by with_reducible assumption))))))))))) | (exact (And.right (And.right (And.left (And.right (And.right (And.right (And.right (And.right (And.right (by with_reducible assumption))))))))))) | (exact Ne.symm (And.right (And.right (And.left (And.right (And.right (And.right (And.right (And.right (And.right (by with_reducible assumption))))))))))) | (exact (And.left (And.left (And.right (And.right (And.right (And.right (And.right (And.right (And.right (by with_reducible assumption))))))))))) | (exact Ne.symm (And.left (And.left (And.right (And.right (And.right (And.right (And.right (And.right (And.right (by with_reducible assumption))))))))))) | (exact (And.left (And.right (And.left (And.right (And.right (And.right (And.right (And.right (And.right (And.right (by with_reducible assumption)))))))))))) | (exact Ne.symm (And.left (And.right (And.left (And.right (And.right (And.right (And.right (And.right (And.right (And.right (by with_reducible assumption)))))))))))) | (exact (And.right (And.right (And.left (And.right (And.right (And.right (And.right (And.right (And.right (And.right (by with_reducible assumption)))))))))))) | (exact Ne.symm (And.right (And.right (And.left (And.right (And.right (And.right (And.right (And.right (And.right (And.right (by with_reducible assumption)))))))))))) | (exact And.right (And.right (by with_reducible assumption))) | (exact And.right (by with_reducible assumption)) | (exact Ne.symm (And.right (And.right (by with_reducible assumption)))) | (exact Ne.symm (And.right (by with_reducible assumption))) | (exact Nat.ne_of_lt (by with_reducible assumption)) | (exact Nat.ne_of_gt (by with_reducible assumption)))
section
def adlS (p : Int × Int) (k : Int) : Int × Int := ((p.1 + k).fmod 65521, (p.2 + (p.1 + k).fmod 65521).fmod 65521)
def AInv (st : Int) (pre : List Int) (lo hi : Int) : Prop := (lo, hi) = pre.foldl adlS (Builtin.bitAnd st 65535, st.fdiv (2 ^ Int.toNat 16))
theorem ainv_start (st : Int) : AInv st [] (Builtin.bitAnd st 65535) (st.fdiv (2 ^ Int.toNat 16)) := rfl
theorem ainv_step {st : Int} {pre : List Int} {lo hi k : Int} (h : AInv st pre lo hi) : AInv st (pre ++ [k]) ((lo + k).fmod 65521) ((hi + (lo + k).fmod 65521).fmod 65521) := by
  unfold AInv at *
  rw [List.foldl_append, ← h]
  rfl
theorem adl_fold {ks : List Int} : ∀ {p : Int × Int}, 0 ≤ p.1 → p.1 < 65536 → 0 ≤ p.2 → p.2 < 65536 → 0 ≤ (ks.foldl adlS p).1 ∧ (ks.foldl adlS p).1 < 65536 ∧ 0 ≤ (ks.foldl adlS p).2 ∧ (ks.foldl adlS p).2 < 65536 := by
  induction ks with
  | nil => intro p a b c d; exact ⟨a, b, c, d⟩
  | cons k r ih =>
    intro p a b c d
    rw [List.foldl_cons]
    have e1 := Int.fmod_nonneg_of_pos (p.1 + k) (show (0 : Int) < 65521 by decide)
    have e2 := Int.fmod_lt_of_pos (p.1 + k) (show (0 : Int) < 65521 by decide)
    have e3 := Int.fmod_nonneg_of_pos (p.2 + (p.1 + k).fmod 65521) (show (0 : Int) < 65521 by decide)
    have e4 := Int.fmod_lt_of_pos (p.2 + (p.1 + k).fmod 65521) (show (0 : Int) < 65521 by decide)
    exact ih e1 (show _ < _ by unfold adlS; dsimp only; omega) e3 (show _ < _ by unfold adlS; dsimp only; omega)
theorem ainv_hi {st lo hi : Int} {pre : List Int} (h0 : 0 ≤ st) (h1 : st < 4294967296) (h : AInv st pre lo hi) : hi.natAbs < 2 ^ 64 := by
  unfold AInv at h
  have e : st.fdiv (2 ^ Int.toNat 16) = st / 65536 := by rw [Int.fdiv_eq_ediv_of_nonneg _ (by decide)]; rfl
  have f := adl_fold (ks := pre) (p := (Builtin.bitAnd st 65535, st.fdiv (2 ^ Int.toNat 16))) (by show 0 ≤ Builtin.bitAnd st 65535; rw [bitAnd_m16]; omega) (by show Builtin.bitAnd st 65535 < 65536; rw [bitAnd_m16]; omega) (by rw [e]; show 0 ≤ st / 65536; omega) (by rw [e]; show st / 65536 < 65536; omega)
  rw [← h] at f
  have f2 := f.2.2
  dsimp only at f2
  omega
def adlV (st : Int) (ks : List Int) : Int := Builtin.bitOr ((ks.foldl adlS (Builtin.bitAnd st 65535, st.fdiv (2 ^ Int.toNat 16))).2 * 2 ^ Int.toNat 16) (ks.foldl adlS (Builtin.bitAnd st 65535, st.fdiv (2 ^ Int.toNat 16))).1
theorem adlV_of {st : Int} {ks : List Int} {lo hi : Int} (h : AInv st ks lo hi) : Builtin.bitOr (hi * 2 ^ Int.toNat 16) lo = adlV st ks := by
  unfold adlV
  rw [← h]
theorem adler_meets {w mean mg mb led b t ks st ts} (hb : KBw.bInts b = ks) (hn : ks.length ≤ 300) (h0 : 0 ≤ st) (h1 : st < 4294967296) : Meets w mean mg mb 1 8 led (.ref 88) [.bytes b t, .int st ts] (Back led fun r => ∃ t, r = .int (adlV st ks) t) := by
  w_top off
  k_with_none
  k_with "binaryOp LShift int int" => ((rename AInv _ _ _ _ => hA); refine lshift_int_small (by decide) (by decide) (by exact ainv_hi h0 h1 hA) ?_)
  k_with "pyIter bytes" => (k_state (fun pre lo hi => AInv st pre lo hi) "low" "high"; (try (refine entry_gen (fun Qx hQx => ?_))))
  k_with "state" => first | exact ainv_start st | exact ainv_step (by assumption)
  ((intro dp un gd cn cs a ccd cl outer A₀ base h₀ L m s Q E B F X N T hcs hdp hun hret; refine wpAny_call ?_; k_dflt (refine' code_def ?k1 ?k2 ?k3 ?k4 ?k5 ?kA ?kF ?kK ?k6 ?k7 ?k8 ?k9 ?kB ?_ ?c2 ?c3 ?c4 ?c5; (case kA => exact rfl); (case kF => exact rfl); (case kK => first | exact rfl | assumption); (case k1 => k_asm); (case k2 => k_asm); (case k3 => k_asm); (case k4 => k_asm); (case k5 => k_asm); (case k6 => k_is); (case k7 => k_is); (case k8 => ktr_room); (case k9 => exact binds_K (by k_in) rfl (by k_is) rfl rfl rfl); (case c5 => decide); (case kB => exact locs rfl); (case c2 => exact rfl); (case c3 => exact rfl); (case c4 => exact rfl); k_whole; intro g' L' h' FG' F' N' B' X' T'; (try dsimp only); (try k_lift B'); (try k_fold))); (refine entry_gen (fun Qx hQx => ?_)))
  (repeat' (first | (k_unfold; (try dsimp only)) | walk1 | (dsimp only; walk1) | (leave1; walk_say "STEP leave1"; try dsimp only)))
  (refine' ret_sub led hret ?rF ?rN ?rS ?_; (case rF => k_asm); (case rN => k_asm); (case rS => intro p hp; repeat (first | exact hp | refine List.Mem.tail _ ?_)))
  exact ⟨rfl, int_back (adlV_of (by assumption))⟩
theorem adler1_meets {w mean mg mb led b t ks} (hb : KBw.bInts b = ks) (hn : ks.length ≤ 300) : Meets w mean mg mb 1 8 led (.ref 88) [.bytes b t] (Back led fun r => ∃ t, r = .int (adlV 1 ks) t) := by
  w_top off
  k_with_none
  k_with "binaryOp LShift int int" => ((rename AInv _ _ _ _ => hA); refine lshift_int_small (by decide) (by decide) (by exact ainv_hi (by decide) (by decide) hA) ?_)
  k_with "pyIter bytes" => (k_state (fun pre lo hi => AInv 1 pre lo hi) "low" "high"; (try (refine entry_gen (fun Qx hQx => ?_))))
  k_with "state" => first | exact ainv_start 1 | exact ainv_step (by assumption)
  ((intro dp un gd cn cs a ccd cl outer A₀ base h₀ L m s Q E B F X N T hcs hdp hun hret; refine wpAny_call ?_; k_dflt (refine' code_def ?k1 ?k2 ?k3 ?k4 ?k5 ?kA ?kF ?kK ?k6 ?k7 ?k8 ?k9 ?kB ?_ ?c2 ?c3 ?c4 ?c5; (case kA => exact rfl); (case kF => exact rfl); (case kK => first | exact rfl | assumption); (case k1 => k_asm); (case k2 => k_asm); (case k3 => k_asm); (case k4 => k_asm); (case k5 => k_asm); (case k6 => k_is); (case k7 => k_is); (case k8 => ktr_room); (case k9 => exact binds_K (by k_in) rfl (by k_is) rfl rfl rfl); (case c5 => decide); (case kB => exact locs rfl); (case c2 => exact rfl); (case c3 => exact rfl); (case c4 => exact rfl); k_whole; intro g' L' h' FG' F' N' B' X' T'; (try dsimp only); (try k_lift B'); (try k_fold))); (refine entry_gen (fun Qx hQx => ?_)))
  (repeat' (first | (k_unfold; (try dsimp only)) | walk1 | (dsimp only; walk1) | (leave1; walk_say "STEP leave1"; try dsimp only)))
  (refine' ret_sub led hret ?rF ?rN ?rS ?_; (case rF => k_asm); (case rN => k_asm); (case rS => intro p hp; repeat (first | exact hp | refine List.Mem.tail _ ?_)))
  exact ⟨rfl, int_back (adlV_of (by assumption))⟩
end
section
/-! the law's own two sums -/
theorem rangeKs_cons (a : Int) (n : Nat) : rangeKs a (n + 1) = a :: rangeKs (a + 1) n := by
  unfold rangeKs
  rw [List.range_succ_eq_map, List.map_cons, List.map_map]
  congr 1
  · simp
  · refine List.map_congr_left fun i _ => ?_
    show a + ((i + 1 : Nat) : Int) = a + 1 + (i : Int)
    omega
/-- the farther sum: each octet times the number of octets from it on -/
def farW : List Int → Int
  | [] => 0
  | k :: r => ((r.length : Int) + 1) * k + farW r
theorem farW_cons (k : Int) (r : List Int) : farW (k :: r) = ((r.length : Int) + 1) * k + farW r := rfl
theorem farW_eq (ks : List Int) : ∀ (a N : Int), N - a = (ks.length : Int) → (List.zipWith (fun k j => (N - k) * j) (rangeKs a ks.length) ks).sum = farW ks := by
  induction ks with
  | nil => intro a N _; rfl
  | cons k r ih =>
    intro a N h
    rw [List.length_cons, rangeKs_cons, List.zipWith_cons_cons, List.sum_cons, ih (a + 1) N (by rw [List.length_cons] at h; omega)]
    rw [List.length_cons] at h
    rw [farW_cons, show N - a = (r.length : Int) + 1 by omega]
theorem adl_sum {ks : List Int} : ∀ {a b : Int}, 0 ≤ a → a < 65521 → 0 ≤ b → b < 65521 → ks.foldl adlS (a, b) = ((a + ks.sum) % 65521, (b + (ks.length : Int) * a + farW ks) % 65521) := by
  induction ks with
  | nil =>
    intro a b h1 h2 h3 h4
    simp only [List.foldl_nil, List.sum_nil, List.length_nil, farW]
    rw [Int.add_zero, Int.add_zero, Int.emod_eq_of_lt h1 h2]
    simp [Int.emod_eq_of_lt h3 h4]
  | cons k r ih =>
    intro a b h1 h2 h3 h4
    rw [List.foldl_cons]
    unfold adlS
    rw [Int.fmod_eq_emod_of_nonneg _ (by decide), Int.fmod_eq_emod_of_nonneg _ (by decide)]
    have e : List.foldl adlS ((a + k) % 65521, (b + (a + k) % 65521) % 65521) r = _ := ih (Int.emod_nonneg _ (by decide)) (Int.emod_lt_of_pos _ (by decide)) (Int.emod_nonneg _ (by decide)) (Int.emod_lt_of_pos _ (by decide))
    unfold adlS at e
    rw [e, List.sum_cons, List.length_cons]
    congr 1
    · rw [Int.emod_add_emod, Int.add_assoc]
    · rw [farW_cons]
      have h5 : (((r.length + 1 : Nat) : Int) * a + (((r.length : Int) + 1) * k + farW r)) = (a + k) + ((r.length : Int) * (a + k) + farW r) := by
        rw [Int.natCast_add, Int.add_mul, Int.add_mul, Int.mul_add]
        simp only [Int.natCast_one, Int.one_mul]
        omega
      have hx : (a + k) % 65521 = (a + k) - 65521 * ((a + k) / 65521) := by omega
      have h6 : (r.length : Int) * ((a + k) % 65521) = (r.length : Int) * (a + k) - 65521 * ((r.length : Int) * ((a + k) / 65521)) := by
        rw [hx, Int.mul_sub, Int.mul_left_comm]
      rw [Int.add_assoc b (((r.length + 1 : Nat) : Int) * a), h5, h6]
      clear h5 h6 e ih
      generalize (r.length : Int) * (a + k) = u
      generalize (r.length : Int) * ((a + k) / 65521) = v
      generalize farW r = F
      omega
theorem or_low {hi lo : Int} (h0 : 0 ≤ hi) (h1 : 0 ≤ lo) (h2 : lo < 65536) : Builtin.bitOr (hi * 2 ^ Int.toNat 16) lo = hi * 65536 + lo := by
  obtain ⟨n, rfl⟩ := Int.eq_ofNat_of_zero_le h0
  obtain ⟨j, rfl⟩ := Int.eq_ofNat_of_zero_le h1
  have e : ((n : Int) * 2 ^ Int.toNat 16) = ((2 ^ 16 * n : Nat) : Int) := by rw [Int.natCast_mul]; show (n : Int) * 65536 = 65536 * n; omega
  rw [e, or_nat, ← Nat.two_pow_add_eq_or_of_lt (show j < 2 ^ 16 by omega)]
  rw [Int.natCast_add, Int.natCast_mul]
  show 65536 * (n : Int) + j = _
  omega
theorem adlV_def (st : Int) (h0 : 0 ≤ st) (h1 : st < 4294967296) (ks : List Int) : adlV st ks = (ks.foldl adlS (st % 65536, st / 65536)).2 * 65536 + (ks.foldl adlS (st % 65536, st / 65536)).1 := by
  unfold adlV
  rw [bitAnd_m16, show st.fdiv (2 ^ Int.toNat 16) = st / 65536 from by rw [Int.fdiv_eq_ediv_of_nonneg _ (by decide)]; rfl]
  have f := adl_fold (ks := ks) (p := (st % 65536, st / 65536)) (by show 0 ≤ st % 65536; omega) (by show st % 65536 < 65536; omega) (by show 0 ≤ st / 65536; omega) (by show st / 65536 < 65536; omega)
  exact or_low f.2.2.1 f.1 f.2.1
theorem adlV_one (ks : List Int) : adlV 1 ks = (((ks.length : Int) + farW ks) % 65521) * 65536 + (1 + ks.sum) % 65521 := by
  rw [adlV_def 1 (by decide) (by decide)]
  have e : ((1 : Int) % 65536, (1 : Int) / 65536) = (1, 0) := by decide
  rw [e, adl_sum (by decide) (by decide) (by decide) (by decide)]
  dsimp only
  rw [Int.mul_one, Int.zero_add]
theorem adlV_range (ks : List Int) {st : Int} (h0 : 0 ≤ st) (h1 : st < 4294967296) : 0 ≤ adlV st ks ∧ adlV st ks < 4294967296 := by
  rw [adlV_def st h0 h1]
  have f := adl_fold (ks := ks) (p := (st % 65536, st / 65536)) (by show 0 ≤ st % 65536; omega) (by show st % 65536 < 65536; omega) (by show 0 ≤ st / 65536; omega) (by show st / 65536 < 65536; omega)
  omega
/-- led on over a cut -/
theorem adlV_cut (a b : List Int) : adlV (adlV 1 a) b = adlV 1 (a ++ b) := by
  have f := adl_fold (ks := a) (p := ((1 : Int) % 65536, (1 : Int) / 65536)) (by decide) (by decide) (by decide) (by decide)
  have r := adlV_range a (st := 1) (by decide) (by decide)
  rw [adlV_def _ r.1 r.2, adlV_def 1 (by decide) (by decide) (a ++ b), List.foldl_append]
  rw [adlV_def 1 (by decide) (by decide)]
  have e1 : ((a.foldl adlS ((1 : Int) % 65536, (1 : Int) / 65536)).2 * 65536 + (a.foldl adlS ((1 : Int) % 65536, (1 : Int) / 65536)).1) % 65536 = (a.foldl adlS ((1 : Int) % 65536, (1 : Int) / 65536)).1 := by omega
  have e2 : ((a.foldl adlS ((1 : Int) % 65536, (1 : Int) / 65536)).2 * 65536 + (a.foldl adlS ((1 : Int) % 65536, (1 : Int) / 65536)).1) / 65536 = (a.foldl adlS ((1 : Int) % 65536, (1 : Int) / 65536)).2 := by omega
  rw [e1, e2]
theorem sums_law (ks : List Int) : ((ks.length : Int) + (List.zipWith (fun k j => ((ks.length : Int) - k) * j) (rangeKs 0 ks.length) ks).sum).fmod 65521 * 65536 + (1 + ks.sum).fmod 65521 = adlV 1 ks := by
  rw [farW_eq ks 0 (ks.length : Int) (by omega), Int.fmod_eq_emod_of_nonneg _ (by decide), Int.fmod_eq_emod_of_nonneg _ (by decide), adlV_one]
theorem mulOk64 {a b : Int} (ha : a.natAbs < 2 ^ 64) (hb : b.natAbs < 2 ^ 64) : IntMulOk a b := PyProof.Rows.mulOk_of_bits (m := 64) (n := 64) (intBits_le_iff.mpr ha) (intBits_le_iff.mpr hb) (by decide)
end
section
/-! the polynomial's division: plain numbers -/
def cT (r : Nat) : Nat := 2 * r ^^^ (if r.testBit 31 then 4374732215 else 0)
def cU (r : Nat) : Nat := r / 2 ^^^ (if r.testBit 0 then 3988292384 else 0)
def cL (r b : Nat) : Nat := cT r ^^^ b
def cQ (b : Nat) : Nat := if b.testBit 0 then 79764919 else 0
def cD (c b : Nat) : Nat := cT c ^^^ cQ b
def cR (c b : Nat) : Nat := cU (c ^^^ b)
def iter (f : Nat → Nat) : Nat → Nat → Nat
  | 0, x => x
  | n + 1, x => iter f n (f x)
theorem xor_swap (a b c d : Nat) : (a ^^^ b) ^^^ (c ^^^ d) = (a ^^^ c) ^^^ (b ^^^ d) := by
  rw [Nat.xor_assoc, Nat.xor_assoc, ← Nat.xor_assoc b, Nat.xor_comm b c, Nat.xor_assoc c]
theorem ite_xor (p q : Bool) (z : Nat) : (if (p ^^ q) = true then z else 0) = (if p = true then z else 0) ^^^ (if q = true then z else 0) := by
  cases p <;> cases q <;> simp
theorem two_xor (a b : Nat) : 2 * (a ^^^ b) = 2 * a ^^^ 2 * b := by
  have := @Nat.shiftLeft_xor_distrib 1 a b
  rw [Nat.shiftLeft_eq, Nat.shiftLeft_eq, Nat.shiftLeft_eq] at this
  rw [Nat.mul_comm 2, Nat.mul_comm 2, Nat.mul_comm 2]
  exact this
theorem cT_xor (a b : Nat) : cT (a ^^^ b) = cT a ^^^ cT b := by
  unfold cT
  rw [Nat.testBit_xor, ite_xor, two_xor, xor_swap]
theorem cU_xor (a b : Nat) : cU (a ^^^ b) = cU a ^^^ cU b := by
  unfold cU
  rw [Nat.testBit_xor, ite_xor, Nat.xor_div_two, xor_swap]
theorem iter_xor {f : Nat → Nat} (h : ∀ a b, f (a ^^^ b) = f a ^^^ f b) : ∀ n a b, iter f n (a ^^^ b) = iter f n a ^^^ iter f n b
  | 0, _, _ => rfl
  | n + 1, a, b => by rw [iter, h, iter_xor h n]; rfl
theorem iter_comm (f : Nat → Nat) : ∀ n x, iter f n (f x) = f (iter f n x)
  | 0, _ => rfl
  | n + 1, x => by rw [iter, iter_comm f n]; rfl
theorem iter_add (f : Nat → Nat) (m : Nat) : ∀ n x, iter f (n + m) x = iter f m (iter f n x)
  | 0, x => by rw [Nat.zero_add]; rfl
  | n + 1, x => by rw [Nat.succ_add, iter, iter_add f m n]; rfl
def NBin (l : List Nat) : Prop := ∀ b ∈ l, b = 0 ∨ b = 1
theorem cT32 {b : Nat} (h : b = 0 ∨ b = 1) : iter cT 32 b = cQ b := by
  rcases h with rfl | rfl <;> decide +kernel
theorem foldL_zeros : ∀ n r, (List.replicate n 0).foldl cL r = iter cT n r
  | 0, _ => rfl
  | n + 1, r => by
    rw [List.replicate_succ, List.foldl_cons, foldL_zeros n, iter]
    unfold cL
    rw [Nat.xor_zero]
theorem foldL_D : ∀ (B : List Nat) (r : Nat), NBin B → iter cT 32 (B.foldl cL r) = B.foldl cD (iter cT 32 r)
  | [], _, _ => rfl
  | b :: B, r, h => by
    rw [List.foldl_cons, List.foldl_cons, foldL_D B _ fun x hx => h x (.tail _ hx)]
    congr 1
    unfold cL cD
    rw [iter_xor cT_xor, iter_comm, cT32 (h b (.head _))]
theorem foldL_xor : ∀ (X Y : List Nat) (a b : Nat), X.length = Y.length → (List.zipWith (· ^^^ ·) X Y).foldl cL (a ^^^ b) = X.foldl cL a ^^^ Y.foldl cL b
  | [], [], _, _, _ => rfl
  | x :: X, y :: Y, a, b, h => by
    rw [List.zipWith_cons_cons, List.foldl_cons, List.foldl_cons, List.foldl_cons, ← foldL_xor X Y _ _ (by simpa using h)]
    congr 1
    unfold cL
    rw [cT_xor, xor_swap]
theorem foldD_xor : ∀ (B : List Nat) (a x : Nat), B.foldl cD (a ^^^ x) = B.foldl cD a ^^^ iter cT B.length x
  | [], _, _ => rfl
  | b :: B, a, x => by
    rw [List.foldl_cons, List.foldl_cons, List.length_cons, iter, ← foldD_xor B]
    congr 1
    unfold cD
    rw [cT_xor, Nat.xor_assoc, Nat.xor_comm (cT x), ← Nat.xor_assoc]
/-- the first 32 turned over -/
def flip32 (W : List Nat) : List Nat := List.zipWith (· ^^^ ·) W (List.replicate 32 1 ++ List.replicate (W.length - 32) 0)
theorem law_rest {B : List Nat} (h : NBin B) : (flip32 (B ++ List.replicate 32 0)).foldl cL 0 = B.foldl cD 4294967295 := by
  have e : (B ++ List.replicate 32 0).length = B.length + 32 := by simp
  unfold flip32
  rw [e, Nat.add_sub_cancel]
  have k := foldL_xor (B ++ List.replicate 32 0) (List.replicate 32 1 ++ List.replicate B.length 0) 0 0 (by simp)
  rw [Nat.xor_zero] at k
  rw [k, List.foldl_append, List.foldl_append, foldL_zeros, foldL_zeros, foldL_D B 0 h]
  have z : iter cT 32 0 = 0 := by decide +kernel
  have o : (List.replicate 32 1).foldl cL 0 = 4294967295 := by decide +kernel
  rw [z, o, ← foldD_xor, Nat.zero_xor]
/-! turned over, the lowest bit first -/
def rev (c : Nat) : Nat → Nat
  | 0 => 0
  | n + 1 => 2 * rev c n + (c >>> n) % 2
theorem rev_bit (c : Nat) : ∀ n i, (rev c n).testBit i = (decide (i < n) && c.testBit (n - 1 - i))
  | 0, i => by simp [rev]
  | n + 1, 0 => by
    rw [rev, Nat.testBit_zero]
    have : (2 * rev c n + (c >>> n) % 2) % 2 = (c >>> n) % 2 := by omega
    rw [this, Nat.testBit_eq_decide_div_mod_eq, Nat.shiftRight_eq_div_pow]
    simp
  | n + 1, i + 1 => by
    rw [rev, Nat.testBit_succ]
    have : (2 * rev c n + (c >>> n) % 2) / 2 = rev c n := by omega
    rw [this, rev_bit c n i]
    have e : n + 1 - 1 - (i + 1) = n - 1 - i := by omega
    rw [e]
    simp
theorem two_bit (a i : Nat) : (2 * a).testBit i = (decide (1 ≤ i) && a.testBit (i - 1)) := by
  cases i with
  | zero => simp
  | succ i =>
    rw [Nat.testBit_succ]
    simp
theorem half_bit (a i : Nat) : (a / 2).testBit i = a.testBit (i + 1) := (Nat.testBit_succ a i).symm
theorem ite_bit (p : Prop) [Decidable p] (z i : Nat) : (if p then z else 0).testBit i = (decide p && z.testBit i) := by
  by_cases h : p <;> simp [h]
theorem poly_bits : ∀ i < 32, (4374732215 : Nat).testBit (31 - i) = (3988292384 : Nat).testBit i ∧ (79764919 : Nat).testBit (31 - i) = (3988292384 : Nat).testBit i := by decide +kernel
theorem poly_high : ∀ i, 32 ≤ i → (3988292384 : Nat).testBit i = false := fun i h => Nat.testBit_lt_two_pow (Nat.lt_of_lt_of_le (show 3988292384 < 2 ^ 32 by decide) (Nat.pow_le_pow_right (by decide) h))
theorem bin_bit {b : Nat} (h : b = 0 ∨ b = 1) (i : Nat) : b.testBit (i + 1) = false := by
  rcases h with rfl | rfl
  · exact Nat.zero_testBit _
  · rw [Nat.testBit_succ]; exact Nat.zero_testBit _
theorem rev_step (c : Nat) {b : Nat} (hb : b = 0 ∨ b = 1) : rev (cD c b) 32 = cR (rev c 32) b := by
  apply Nat.eq_of_testBit_eq
  intro i
  rw [rev_bit]
  unfold cD cR cU cT cQ
  have hb1 := bin_bit hb i
  simp only [Nat.testBit_xor, half_bit, ite_bit, two_bit, rev_bit, hb1]
  by_cases hi : i < 32
  · obtain ⟨p1, p2⟩ := poly_bits i hi
    have e : 32 - 1 - i = 31 - i := by omega
    rw [e, p1, p2]
    by_cases h31 : i = 31
    · subst h31
      have e0 : 31 - 31 = 0 := rfl
      simp only [e0, show ¬ (1 ≤ 0) by decide, show ¬ (31 + 1 < 32) by decide, hi, decide_true, decide_false, Bool.true_and, Bool.false_and, Bool.xor_false, Bool.false_xor, show (0 : Nat) < 32 by decide, show 32 - 1 - 0 = 31 by rfl]
      generalize b.testBit 0 = p
      generalize c.testBit 31 = q
      generalize Nat.testBit 3988292384 31 = r
      cases p <;> cases q <;> cases r <;> rfl
    · have h1 : i + 1 < 32 := by omega
      have h2 : 1 ≤ 31 - i := by omega
      have e2 : 31 - i - 1 = 30 - i := by omega
      have e3 : 32 - 1 - (i + 1) = 30 - i := by omega
      simp only [hi, h1, h2, e2, e3, decide_true, Bool.true_and, Bool.xor_false, show (0 : Nat) < 32 by decide, show 32 - 1 - 0 = 31 by rfl]
      generalize b.testBit 0 = p
      generalize c.testBit 31 = q
      generalize c.testBit (30 - i) = x
      generalize Nat.testBit 3988292384 i = r
      cases p <;> cases q <;> cases x <;> cases r <;> rfl
  · have h1 : ¬ i + 1 < 32 := by omega
    simp [hi, h1, poly_high i (by omega)]
theorem rev_fold : ∀ (B : List Nat) (c : Nat), NBin B → rev (B.foldl cD c) 32 = B.foldl cR (rev c 32)
  | [], _, _ => rfl
  | b :: B, c, h => by rw [List.foldl_cons, List.foldl_cons, rev_fold B _ fun x hx => h x (.tail _ hx), rev_step c (h b (.head _))]
theorem rev_ones : rev 4294967295 32 = 4294967295 := by decide +kernel
/-! octets -/
def nbits : Nat → Nat → List Nat
  | 0, _ => []
  | n + 1, k => k % 2 :: nbits n (k / 2)
theorem nbits_bin : ∀ n k, NBin (nbits n k)
  | 0, _ => fun _ h => nomatch h
  | n + 1, k => fun b hb => by
    rcases List.mem_cons.mp hb with rfl | hb
    · omega
    · exact nbits_bin n _ b hb
theorem cU_two (z : Nat) : cU (2 * z) = z := by
  unfold cU
  rw [Nat.testBit_zero]
  have h1 : 2 * z % 2 = 0 := by omega
  have h2 : 2 * z / 2 = z := by omega
  simp [h1, h2]
theorem low_xor (k : Nat) : k % 2 ^^^ 2 * (k / 2) = k := by
  apply Nat.eq_of_testBit_eq
  intro i
  rw [Nat.testBit_xor, two_bit]
  cases i with
  | zero => simp [Nat.testBit_zero]
  | succ i => rw [bin_bit (by omega)]; simp [half_bit]
theorem nbits_fold : ∀ n k c, k < 2 ^ n → (nbits n k).foldl cR c = iter cU n (c ^^^ k)
  | 0, k, c, h => by
    have : k = 0 := by simpa using h
    subst this
    rw [Nat.xor_zero]
    rfl
  | n + 1, k, c, h => by
    rw [nbits, List.foldl_cons, nbits_fold n (k / 2) _ (by rw [Nat.pow_succ] at h; omega), iter]
    congr 1
    unfold cR
    rw [← cU_two (k / 2), ← cU_xor, Nat.xor_assoc]
    have : 2 * (k / 2) / 2 = k / 2 := by omega
    rw [low_xor]
theorem iter4 (z : Nat) : iter cU 4 (16 * z) = z := by
  have e : 16 * z = 2 * (2 * (2 * (2 * z))) := by omega
  rw [e]
  simp only [iter, cU_two]
theorem low4_xor (k : Nat) : 16 * (k / 16) ^^^ k % 16 = k := by
  have h := Nat.two_pow_add_eq_or_of_lt (show k % 16 < 2 ^ 4 by omega) (k / 16)
  have hx := nat_xor_add_and (2 ^ 4 * (k / 16)) (k % 16)
  have ha : (2 ^ 4 * (k / 16)) &&& (k % 16) = 0 := by
    have := nat_or_add_and (2 ^ 4 * (k / 16)) (k % 16)
    omega
  have e : (2 : Nat) ^ 4 = 16 := rfl
  rw [e] at h hx ha
  omega
/-- a nibble at once -/
def nib (x : Nat) : Nat := x / 16 ^^^ iter cU 4 (x % 16)
theorem nib_eq (x : Nat) : iter cU 4 x = nib x := by
  unfold nib
  have := iter_xor cU_xor 4 (16 * (x / 16)) (x % 16)
  rw [low4_xor, iter4] at this
  exact this
theorem octet_fold {k : Nat} (h : k < 256) (c : Nat) : (nbits 8 k).foldl cR c = nib (nib (c ^^^ k)) := by
  rw [nbits_fold 8 k c h, show (8 : Nat) = 4 + 4 from rfl, iter_add, nib_eq, nib_eq]
theorem octets_fold : ∀ (ks : List Nat) (c : Nat), (∀ k ∈ ks, k < 256) → (ks.flatMap (nbits 8)).foldl cR c = ks.foldl (fun c k => nib (nib (c ^^^ k))) c
  | [], _, _ => rfl
  | k :: ks, c, h => by
    rw [List.flatMap_cons, List.foldl_append, List.foldl_cons, octet_fold (h k (.head _)), octets_fold ks _ fun x hx => h x (.tail _ hx)]
theorem nbits_all : ∀ ks : List Nat, NBin (ks.flatMap (nbits 8)) := fun ks b hb => by
  obtain ⟨k, _, hk⟩ := List.mem_flatMap.mp hb
  exact nbits_bin 8 k b hk
/-- the law's road and the table's road meet -/
theorem crc_meet (ks : List Nat) (h : ∀ k ∈ ks, k < 256) : rev ((flip32 (ks.flatMap (nbits 8) ++ List.replicate 32 0)).foldl cL 0) 32 = ks.foldl (fun c k => nib (nib (c ^^^ k))) 4294967295 := by
  rw [law_rest (nbits_all ks), rev_fold _ _ (nbits_all ks), rev_ones, octets_fold ks _ h]
end
section
/-! the table's road over ints -/
def cUI (r : Int) : Int := if Builtin.bitAnd r 1 = 1 then Builtin.bitXor (r.fdiv (2 ^ Int.toNat 1)) 3988292384 else r.fdiv (2 ^ Int.toNat 1)
def iterI : Nat → Int → Int
  | 0, r => r
  | n + 1, r => cUI (iterI n r)
theorem and1_nat (n : Nat) : Builtin.bitAnd (n : Int) 1 = ((n % 2 : Nat) : Int) := by
  have := and_nat n 1
  rw [Nat.and_one_is_mod] at this
  exact this
theorem shr_nat (n k : Nat) : (n : Int).fdiv (2 ^ k) = ((n / 2 ^ k : Nat) : Int) := by
  rw [← kbt_cast, Int.fdiv_eq_ediv_of_nonneg _ (Int.natCast_nonneg _)]; rfl
theorem cUI_nat (n : Nat) : cUI (n : Int) = ((cU n : Nat) : Int) := by
  unfold cUI cU
  rw [and1_nat, show Int.toNat 1 = 1 from rfl, shr_nat, Nat.testBit_zero]
  by_cases h : n % 2 = 1
  · rw [if_pos (by omega), if_pos (by simpa using h)]
    exact xor_nat _ 3988292384
  · rw [if_neg (by omega), if_neg (by simpa using h), Nat.xor_zero, Nat.pow_one]
theorem cU_lt {n : Nat} (h : n < 4294967296) : cU n < 4294967296 := by
  unfold cU
  refine Nat.xor_lt_two_pow (n := 32) (by omega) ?_
  split <;> decide
theorem iterI_nat (n : Nat) : ∀ k, iterI k (n : Int) = ((iter cU k n : Nat) : Int)
  | 0 => rfl
  | k + 1 => by rw [iterI, iterI_nat n k, cUI_nat, iter, iter_comm]
theorem cUI_range {r : Int} (h0 : 0 ≤ r) (h1 : r < 4294967296) : 0 ≤ cUI r ∧ cUI r < 4294967296 := by
  obtain ⟨n, rfl⟩ := Int.eq_ofNat_of_zero_le h0
  rw [cUI_nat]
  have := cU_lt (n := n) (by omega)
  omega
def TInv (k : Int) (n : Nat) (r : Int) : Prop := r = iterI n k ∧ 0 ≤ r ∧ r < 4294967296
theorem tinv_start {k : Int} (h0 : 0 ≤ k) (h1 : k < 4294967296) : TInv k ([] : List Int).length k := ⟨rfl, h0, h1⟩
theorem tinv_step1 {k r j : Int} {pre : List Int} (h : TInv k pre.length r) (hb : Builtin.bitAnd r 1 = 1) : TInv k (pre ++ [j]).length (Builtin.bitXor (r.fdiv (2 ^ Int.toNat 1)) 3988292384) := by
  obtain ⟨e, h0, h1⟩ := h
  have z : cUI r = Builtin.bitXor (r.fdiv (2 ^ Int.toNat 1)) 3988292384 := by unfold cUI; rw [if_pos hb]
  rw [← z]
  exact ⟨by rw [List.length_append]; show _ = cUI (iterI pre.length k); rw [← e], cUI_range h0 h1⟩
theorem tinv_step2 {k r j : Int} {pre : List Int} (h : TInv k pre.length r) (hb : ¬ Builtin.bitAnd r 1 = 1) : TInv k (pre ++ [j]).length (r.fdiv (2 ^ Int.toNat 1)) := by
  obtain ⟨e, h0, h1⟩ := h
  have z : cUI r = r.fdiv (2 ^ Int.toNat 1) := by unfold cUI; rw [if_neg hb]
  rw [← z]
  exact ⟨by rw [List.length_append]; show _ = cUI (iterI pre.length k); rw [← e], cUI_range h0 h1⟩
def tab16 : List Int := (rangeKs 0 16).map (iterI 4)
theorem tab16_length : tab16.length = 16 := by unfold tab16; rw [List.length_map, rangeKs_length]
theorem tab16_at {n : Nat} (h : n < 16) : itI tab16 (n : Int) = ((iter cU 4 n : Nat) : Int) := by
  rw [itI_def, Int.toNat_natCast]
  unfold tab16 rangeKs
  rw [List.getD_eq_getElem?_getD, List.getElem?_map, List.getElem?_map, List.getElem?_range h]
  show iterI 4 (0 + (n : Int)) = _
  rw [Int.zero_add, iterI_nat]
theorem and15_nat (n : Nat) : Builtin.bitAnd (n : Int) 15 = ((n % 16 : Nat) : Int) := by
  have := and_nat n 15
  rw [show (15 : Nat) = 2 ^ 4 - 1 from rfl, Nat.and_two_pow_sub_one_eq_mod] at this
  exact this
/-- a nibble by the table -/
def nibI (x : Int) : Int := Builtin.bitXor (x.fdiv (2 ^ Int.toNat 4)) (itI tab16 (Builtin.bitAnd x 15))
theorem nibI_nat (n : Nat) : nibI (n : Int) = ((nib n : Nat) : Int) := by
  unfold nibI nib
  rw [and15_nat, tab16_at (by omega), show Int.toNat 4 = 4 from rfl, shr_nat]
  exact xor_nat _ _
theorem iterU_lt : ∀ {k n : Nat}, n < 4294967296 → iter cU k n < 4294967296
  | 0, _, h => h
  | k + 1, n, h => by rw [iter]; exact iterU_lt (cU_lt h)
theorem nib_lt {n : Nat} (h : n < 4294967296) : nib n < 4294967296 := by
  rw [← nib_eq]
  exact iterU_lt h
def crcS (r k : Int) : Int := nibI (nibI (Builtin.bitXor r k))
theorem crcS_nat (r k : Nat) : crcS (r : Int) (k : Int) = ((nib (nib (r ^^^ k)) : Nat) : Int) := by
  unfold crcS
  rw [xor_nat, nibI_nat, nibI_nat]
theorem xorb_lt {r k : Nat} (hr : r < 4294967296) (hk : k < 256) : r ^^^ k < 4294967296 := Nat.xor_lt_two_pow (n := 32) hr (Nat.lt_of_lt_of_le hk (by decide))
theorem xorb_range {r k : Int} (h0 : 0 ≤ r) (h1 : r < 4294967296) (k0 : 0 ≤ k) (k1 : k < 256) : 0 ≤ Builtin.bitXor r k ∧ Builtin.bitXor r k < 4294967296 := by
  obtain ⟨n, rfl⟩ := Int.eq_ofNat_of_zero_le h0
  obtain ⟨j, rfl⟩ := Int.eq_ofNat_of_zero_le k0
  rw [xor_nat]
  have := xorb_lt (r := n) (k := j) (by omega) (by omega)
  omega
theorem nibI_range {x : Int} (h0 : 0 ≤ x) (h1 : x < 4294967296) : 0 ≤ nibI x ∧ nibI x < 4294967296 := by
  obtain ⟨n, rfl⟩ := Int.eq_ofNat_of_zero_le h0
  rw [nibI_nat]
  have := nib_lt (n := n) (by omega)
  omega
theorem and15_lo {x : Int} (h0 : 0 ≤ x) : 0 ≤ Builtin.bitAnd x 15 := by
  obtain ⟨n, rfl⟩ := Int.eq_ofNat_of_zero_le h0
  rw [and15_nat]; omega
theorem and15_hi {x : Int} (h0 : 0 ≤ x) : Builtin.bitAnd x 15 < 16 := by
  obtain ⟨n, rfl⟩ := Int.eq_ofNat_of_zero_le h0
  rw [and15_nat]; omega
theorem word_xor {st : Int} (h0 : 0 ≤ st) (h1 : st < 4294967296) : 0 ≤ Builtin.bitXor st 4294967295 ∧ Builtin.bitXor st 4294967295 < 4294967296 := by
  obtain ⟨n, rfl⟩ := Int.eq_ofNat_of_zero_le h0
  have e : Builtin.bitXor (n : Int) 4294967295 = ((n ^^^ 4294967295 : Nat) : Int) := xor_nat n 4294967295
  rw [e]
  have := @Nat.xor_lt_two_pow n 4294967295 32 (by omega) (by decide)
  omega
theorem word_xor2 {st : Int} (h0 : 0 ≤ st) : Builtin.bitXor (Builtin.bitXor st 4294967295) 4294967295 = st := by
  obtain ⟨n, rfl⟩ := Int.eq_ofNat_of_zero_le h0
  have e : Builtin.bitXor (n : Int) 4294967295 = ((n ^^^ 4294967295 : Nat) : Int) := xor_nat n 4294967295
  rw [e]
  have e2 : Builtin.bitXor ((n ^^^ 4294967295 : Nat) : Int) 4294967295 = ((n ^^^ 4294967295 ^^^ 4294967295 : Nat) : Int) := xor_nat _ 4294967295
  rw [e2, Nat.xor_assoc, Nat.xor_self, Nat.xor_zero]
/-- the remainder behind some octets -/
def crcW (st : Int) (ks : List Int) : Int := ks.foldl crcS (Builtin.bitXor st 4294967295)
/-- what Crc32.of tells -/
def crcO (st : Int) (ks : List Int) : Int := Builtin.bitXor (crcW st ks) 4294967295
def OInv (st : Int) (pre : List Int) (r : Int) : Prop := r = crcW st pre ∧ 0 ≤ r ∧ r < 4294967296
theorem oinv_start {st : Int} (h0 : 0 ≤ st) (h1 : st < 4294967296) : OInv st [] (Builtin.bitXor st 4294967295) := ⟨rfl, word_xor h0 h1⟩
theorem crcS_range {r k : Int} (h0 : 0 ≤ r) (h1 : r < 4294967296) (k0 : 0 ≤ k) (k1 : k < 256) : 0 ≤ crcS r k ∧ crcS r k < 4294967296 := by
  have a := xorb_range h0 h1 k0 k1
  have b := nibI_range a.1 a.2
  exact nibI_range b.1 b.2
theorem oinv_step {st r k : Int} {pre : List Int} (h : OInv st pre r) (k0 : 0 ≤ k) (k1 : k < 256) : OInv st (pre ++ [k]) (crcS r k) := by
  obtain ⟨e, h0, h1⟩ := h
  refine ⟨?_, crcS_range h0 h1 k0 k1⟩
  unfold crcW at *
  rw [List.foldl_append, ← e]
  rfl
theorem crcW_range {st : Int} (h0 : 0 ≤ st) (h1 : st < 4294967296) : ∀ (ks : List Int), (∀ k ∈ ks, 0 ≤ k ∧ k < 256) → 0 ≤ crcW st ks ∧ crcW st ks < 4294967296 := by
  intro ks
  unfold crcW
  have w := word_xor h0 h1
  generalize Builtin.bitXor st 4294967295 = r at *
  induction ks generalizing r with
  | nil => intro _; exact w
  | cons k ks ih => intro h; exact ih _ (crcS_range w.1 w.2 (h k (.head _)).1 (h k (.head _)).2) fun x hx => h x (.tail _ hx)
theorem crcO_range {st : Int} (h0 : 0 ≤ st) (h1 : st < 4294967296) {ks : List Int} (h : ∀ k ∈ ks, 0 ≤ k ∧ k < 256) : 0 ≤ crcO st ks ∧ crcO st ks < 4294967296 := by
  have := crcW_range h0 h1 ks h
  exact word_xor this.1 this.2
/-- led on -/
theorem crcO_cut {a b : List Int} (ha : ∀ k ∈ a, 0 ≤ k ∧ k < 256) : crcO (crcO 0 a) b = crcO 0 (a ++ b) := by
  have w := crcW_range (st := 0) (by decide) (by decide) a ha
  unfold crcO
  congr 1
  unfold crcW at *
  rw [word_xor2 w.1, List.foldl_append]
end
section
/-! the law's own division, over ints -/
def bits8 (x : Int) : List Int := (rangeKs 0 8).map fun k => (x.fdiv (2 ^ k.toNat)).fmod 2
theorem bits8_length (ks : List Int) : (ks.flatMap bits8).length = 8 * ks.length := by
  rw [List.length_flatMap]
  have : List.map (fun a => (bits8 a).length) ks = List.replicate ks.length 8 := by
    rw [← List.map_const']
    exact List.map_congr_left fun a _ => by unfold bits8; rw [List.length_map, rangeKs_length]
  rw [this, List.sum_replicate_nat, Nat.mul_comm]
theorem ext_size {vs ys : List Value} {ks : List Int} {i : Nat} {g : Int → Int} (hi : IntsAre vs (List.flatMap bits8 (List.take i ks))) (hj : IntsAre ys (List.map g (rangeKs 0 (8 - 0 : Int).toNat))) (hn : ks.length ≤ 300) : vs.length + ys.toArray.size ≤ 16777216 := by
  have h1 := hi.length
  have h2 := hj.length
  have h3 := bits8_length (List.take i ks)
  rw [List.length_take] at h3
  rw [List.length_map, rangeKs_length] at h2
  rw [List.size_toArray]
  have h4 : (8 - 0 : Int).toNat = 8 := rfl
  omega
def flipN (B : List Int) (n : Nat) : List Int := (B.take n).map (1 - ·) ++ B.drop n
abbrev bitsP (ks : List Int) : List Int := ks.flatMap bits8 ++ (List.replicate 32 [(0 : Int)]).flatten
theorem bitsP_length (ks : List Int) : (bitsP ks).length = 8 * ks.length + 32 := by
  rw [List.length_append, bits8_length]
  rfl
theorem flipN_length (B : List Int) (n : Nat) : (flipN B n).length = B.length := by
  unfold flipN
  rw [List.length_append, List.length_map, List.length_take, List.length_drop]
  omega
theorem flip_start (ks : List Int) : bitsP ks = flipN (bitsP ks) ([] : List Int).length ∧ (bitsP ks).length = 8 * ks.length + 32 := ⟨by unfold flipN; simp, bitsP_length ks⟩
theorem flipN_set {B : List Int} {n : Nat} (h : n < B.length) : (flipN B n).set n (1 - (flipN B n).getD n 0) = flipN B (n + 1) := by
  have hl : ((B.take n).map (1 - ·)).length = n := by rw [List.length_map, List.length_take]; omega
  unfold flipN
  have e : ((B.take n).map (1 - ·) ++ B.drop n).getD n 0 = B[n] := by
    rw [List.getD_eq_getElem?_getD, List.getElem?_append_right (by omega), hl, Nat.sub_self, List.getElem?_drop, Nat.add_zero, List.getElem?_eq_getElem h]
    rfl
  rw [e, List.set_append_right _ _ (by omega), hl, Nat.sub_self, List.drop_eq_getElem_cons h, List.set_cons_zero, List.take_succ_eq_append_getElem h, List.map_append, List.append_assoc]
  rfl
theorem flip_start' (ks : List Int) : List.flatMap bits8 ks ++ (List.replicate (Int.toNat 32) [(0 : Int)]).flatten = flipN (bitsP ks) ([] : List Int).length ∧ (List.flatMap bits8 ks ++ (List.replicate (Int.toNat 32) [(0 : Int)]).flatten).length = 8 * ks.length + 32 := flip_start ks
theorem flip_step {ks bits pre : List Int} {k : Int} (h : bits = flipN (bitsP ks) pre.length) (hl : bits.length = 8 * ks.length + 32) (hk : k = 0 + (pre.length : Int)) (hn : k < 0 + (((32 - 0 : Int).toNat : Nat) : Int)) :
    bits.set k.toNat (1 - bits.getD k.toNat 0) = flipN (bitsP ks) (pre ++ [k]).length ∧ (bits.set k.toNat (1 - bits.getD k.toNat 0)).length = 8 * ks.length + 32 := by
  have e : k.toNat = pre.length := by omega
  refine ⟨?_, by rw [List.length_set]; exact hl⟩
  have hb := bitsP_length ks
  rw [e, h, flipN_set (by omega), List.length_append]
  rfl
def crcStep (r b : Int) : Int := if r * 2 + b ≥ 4294967296 then Builtin.bitXor (r * 2 + b) 4374732215 else r * 2 + b
def crcF (rest f k : Int) : Int := f * 2 + (1 - (rest.fdiv (2 ^ k.toNat)).fmod 2)
/-- every bit is 0 or 1 -/
def Bin (l : List Int) : Prop := ∀ x ∈ l, x = 0 ∨ x = 1
theorem bits8_bin (x : Int) : Bin (bits8 x) := by
  intro y hy
  obtain ⟨k, _, rfl⟩ := List.mem_map.mp hy
  have h1 := Int.fmod_nonneg_of_pos (x.fdiv (2 ^ k.toNat)) (show (0 : Int) < 2 by decide)
  have h2 := Int.fmod_lt_of_pos (x.fdiv (2 ^ k.toNat)) (show (0 : Int) < 2 by decide)
  omega
theorem bitsP_bin (ks : List Int) : Bin (bitsP ks) := by
  intro y hy
  rcases List.mem_append.mp hy with h | h
  · obtain ⟨x, _, hx⟩ := List.mem_flatMap.mp h
    exact bits8_bin x y hx
  · obtain ⟨l, hl, hy⟩ := List.mem_flatten.mp h
    rw [List.eq_of_mem_replicate hl] at hy
    exact .inl (List.mem_singleton.mp hy)
theorem flipN_bin {B : List Int} (h : Bin B) (n : Nat) : Bin (flipN B n) := by
  intro y hy
  unfold flipN at hy
  rcases List.mem_append.mp hy with hy | hy
  · obtain ⟨x, hx, rfl⟩ := List.mem_map.mp hy
    have := h x (List.mem_of_mem_take hx)
    omega
  · exact h y (List.mem_of_mem_drop hy)
theorem bin_at {ks l pre post : List Int} {k : Int} {n : Nat} (h : l = flipN (bitsP ks) n) (e : l = pre ++ k :: post) : k = 0 ∨ k = 1 := by
  refine flipN_bin (bitsP_bin ks) n k ?_
  rw [← h, e]
  simp
/-- 33 bits less the polynomial -/
theorem crcStep_nat {r b : Nat} (hr : r < 4294967296) (hb : b = 0 ∨ b = 1) : crcStep (r : Int) (b : Int) = ((cL r b : Nat) : Int) ∧ cL r b < 4294967296 := by
  have hlt : b < 2 ^ 1 := by omega
  have e1 : 2 * r ^^^ b = 2 * r + b := by
    have h1 := Nat.two_pow_add_eq_or_of_lt hlt r
    have h2 := nat_xor_add_and (2 ^ 1 * r) b
    have h3 := nat_or_add_and (2 ^ 1 * r) b
    rw [Nat.pow_one] at h1 h2 h3
    omega
  have e2 : cL r b = (2 * r + b) ^^^ (if r.testBit 31 then 4374732215 else 0) := by
    unfold cL cT
    rw [Nat.xor_assoc, Nat.xor_comm _ b, ← Nat.xor_assoc, e1]
  have e3 : r.testBit 31 = decide (2147483648 ≤ r) := by
    rw [Nat.testBit_eq_decide_div_mod_eq]
    rw [Nat.div_eq_of_lt_le (k := if 2147483648 ≤ r then 1 else 0) (by split <;> omega) (by split <;> omega)]
    split <;> simp [*]
  have e4 : ((r : Int) * 2 + (b : Int)) = ((2 * r + b : Nat) : Int) := by omega
  unfold crcStep
  rw [e2, e3, e4]
  by_cases h : 2147483648 ≤ r
  · rw [if_pos (by omega), if_pos (by simpa using h)]
    refine ⟨xor_nat _ 4374732215, ?_⟩
    refine Nat.lt_pow_two_of_testBit (n := 32) _ fun i hi => ?_
    rw [Nat.testBit_xor]
    by_cases h32 : i = 32
    · subst h32
      have : (2 * r + b).testBit 32 = true := by
        rw [Nat.testBit_eq_decide_div_mod_eq, Nat.div_eq_of_lt_le (k := 1) (by omega) (by omega)]
        rfl
      rw [this]
      decide
    · have h1 : (2 * r + b).testBit i = false := Nat.testBit_lt_two_pow (Nat.lt_of_lt_of_le (show 2 * r + b < 2 ^ 33 by omega) (Nat.pow_le_pow_right (by decide) (by omega)))
      have h2 : (4374732215 : Nat).testBit i = false := Nat.testBit_lt_two_pow (Nat.lt_of_lt_of_le (show 4374732215 < 2 ^ 33 by decide) (Nat.pow_le_pow_right (by decide) (by omega)))
      rw [h1, h2]
      rfl
  · rw [if_neg (by omega), if_neg (by simpa using h), Nat.xor_zero]
    exact ⟨rfl, by omega⟩
theorem crcStep_range {r b : Int} (h0 : 0 ≤ r) (h1 : r < 4294967296) (hb : b = 0 ∨ b = 1) : 0 ≤ crcStep r b ∧ crcStep r b < 4294967296 := by
  obtain ⟨n, rfl⟩ := Int.eq_ofNat_of_zero_le h0
  obtain ⟨j, rfl⟩ := Int.eq_ofNat_of_zero_le (show 0 ≤ b by omega)
  have := crcStep_nat (r := n) (b := j) (by omega) (by omega)
  rw [this.1]
  omega
def CInv (pre : List Int) (rest : Int) : Prop := rest = pre.foldl crcStep 0 ∧ 0 ≤ rest ∧ rest < 4294967296
theorem cinv_start : CInv [] 0 := ⟨rfl, by decide, by decide⟩
theorem cinv_step {pre : List Int} {r b : Int} (h : CInv pre r) (hb : b = 0 ∨ b = 1) : CInv (pre ++ [b]) (crcStep r b) := by
  obtain ⟨e, h0, h1⟩ := h
  refine ⟨?_, crcStep_range h0 h1 hb⟩
  rw [List.foldl_append, ← e]
  rfl
theorem cinv_step1 {pre : List Int} {r b : Int} (h : CInv pre r) (hb : b = 0 ∨ b = 1) (hg : 4294967296 ≤ r * 2 + b) : CInv (pre ++ [b]) (Builtin.bitXor (r * 2 + b) 4374732215) := by
  have := cinv_step h hb
  unfold crcStep at this
  rwa [if_pos hg] at this
theorem cinv_step2 {pre : List Int} {r b : Int} (h : CInv pre r) (hb : b = 0 ∨ b = 1) (hg : ¬ 4294967296 ≤ r * 2 + b) : CInv (pre ++ [b]) (r * 2 + b) := by
  have := cinv_step h hb
  unfold crcStep at this
  rwa [if_neg hg] at this
def FInv (rest : Int) (pre : List Int) (found : Int) : Prop := found = pre.foldl (crcF rest) 0 ∧ 0 ≤ found ∧ found < 2 ^ pre.length
theorem finv_start (rest : Int) : FInv rest [] 0 := ⟨rfl, by decide, by decide⟩
theorem finv_step {rest f k : Int} {pre : List Int} (h : FInv rest pre f) : FInv rest (pre ++ [k]) (f * 2 + (1 - (rest.fdiv (2 ^ k.toNat)).fmod 2)) := by
  obtain ⟨e, h0, h1⟩ := h
  have m0 := Int.fmod_nonneg_of_pos (rest.fdiv (2 ^ k.toNat)) (show (0 : Int) < 2 by decide)
  have m1 := Int.fmod_lt_of_pos (rest.fdiv (2 ^ k.toNat)) (show (0 : Int) < 2 by decide)
  refine ⟨?_, by omega, ?_⟩
  · rw [List.foldl_append, ← e]
    rfl
  · rw [List.length_append]
    show _ < 2 ^ (pre.length + 1)
    rw [Int.pow_succ]
    omega
/-! from ints to plain numbers -/
abbrev up (l : List Nat) : List Int := l.map fun n : Nat => (n : Int)
theorem octs_nat : ∀ {ks : List Int}, (∀ k ∈ ks, 0 ≤ k ∧ k < 256) → ∃ ns : List Nat, ks = up ns ∧ ∀ n ∈ ns, n < 256
  | [], _ => ⟨[], rfl, fun _ h => nomatch h⟩
  | k :: ks, h => by
    obtain ⟨ns, e, hn⟩ := octs_nat (ks := ks) fun x hx => h x (.tail _ hx)
    have hk := h k (.head _)
    refine ⟨k.toNat :: ns, ?_, ?_⟩
    · rw [e]
      show k :: up ns = ((k.toNat : Nat) : Int) :: up ns
      rw [Int.toNat_of_nonneg hk.1]
    · intro n hm
      rcases List.mem_cons.mp hm with rfl | hm
      · omega
      · exact hn n hm
theorem nbits_range (m : Nat) : ∀ n, nbits m n = (List.range m).map fun i => n / 2 ^ i % 2 := by
  induction m with
  | zero => intro n; rfl
  | succ m ih =>
    intro n
    rw [nbits, ih, List.range_succ_eq_map, List.map_cons, List.map_map]
    congr 1
    · simp
    · refine List.map_congr_left fun i _ => ?_
      show n / 2 / 2 ^ i % 2 = n / 2 ^ (i + 1) % 2
      rw [Nat.div_div_eq_div_mul, Nat.pow_succ, Nat.mul_comm 2]
theorem bits8_nat (n : Nat) : bits8 (n : Int) = up (nbits 8 n) := by
  unfold bits8 rangeKs up
  rw [nbits_range, List.map_map, List.map_map]
  refine List.map_congr_left fun i _ => ?_
  show ((n : Int).fdiv (2 ^ (0 + (i : Int)).toNat)).fmod 2 = ((n / 2 ^ i % 2 : Nat) : Int)
  rw [Int.zero_add, Int.toNat_natCast, shr_nat, Int.fmod_eq_emod_of_nonneg _ (by decide)]
  rfl
theorem bitsP_nat (ns : List Nat) : bitsP (up ns) = up (ns.flatMap (nbits 8) ++ List.replicate 32 0) := by
  have e : (up ns).flatMap bits8 = up (ns.flatMap (nbits 8)) := by
    unfold up
    induction ns with
    | nil => rfl
    | cons n ns ih =>
      rw [List.map_cons, List.flatMap_cons, List.flatMap_cons, List.map_append, ← ih, bits8_nat]
  unfold bitsP
  have e2 : up (ns.flatMap (nbits 8) ++ List.replicate 32 0) = up (ns.flatMap (nbits 8)) ++ up (List.replicate 32 0) := List.map_append
  rw [e, e2]
  rfl
theorem flip_nat {W : List Nat} (hb : NBin W) (hl : 32 ≤ W.length) : flipN (up W) 32 = up (flip32 W) := by
  unfold flipN flip32
  have e : W = W.take 32 ++ W.drop 32 := (List.take_append_drop 32 W).symm
  have h1 : (W.take 32).length = 32 := by rw [List.length_take]; omega
  have h2 : (W.drop 32).length = W.length - 32 := by rw [List.length_drop]
  have z1 : ∀ (X : List Nat) (n : Nat), X.length = n → NBin X → List.zipWith (· ^^^ ·) X (List.replicate n 1) = X.map fun b => 1 - b := by
    intro X
    induction X with
    | nil => intro n _ _; cases n <;> rfl
    | cons x X ih =>
      intro n hn hb
      cases n with
      | zero => cases hn
      | succ n =>
        rw [List.replicate_succ, List.zipWith_cons_cons, List.map_cons, ih n (by simpa using hn) fun y hy => hb y (.tail _ hy)]
        congr 1
        rcases hb x (.head _) with rfl | rfl <;> rfl
  have z0 : ∀ (X : List Nat) (n : Nat), X.length = n → List.zipWith (· ^^^ ·) X (List.replicate n 0) = X := by
    intro X
    induction X with
    | nil => intro n _; cases n <;> rfl
    | cons x X ih =>
      intro n hn
      cases n with
      | zero => cases hn
      | succ n => rw [List.replicate_succ, List.zipWith_cons_cons, ih n (by simpa using hn), Nat.xor_zero]
  have hz : List.zipWith (· ^^^ ·) W (List.replicate 32 1 ++ List.replicate (W.length - 32) 0) = (W.take 32).map (fun b => 1 - b) ++ W.drop 32 := by
    conv => lhs; arg 2; rw [e]
    rw [List.zipWith_append (by rw [h1, List.length_replicate]), z1 _ _ h1 fun y hy => hb y (List.mem_of_mem_take hy), z0 _ _ h2]
  rw [hz]
  unfold up
  rw [List.map_append, ← List.map_take, ← List.map_drop, List.map_map, List.map_map]
  congr 1
  refine List.map_congr_left fun x hx => ?_
  show 1 - (x : Int) = ((1 - x : Nat) : Int)
  rcases hb x (List.mem_of_mem_take hx) with rfl | rfl <;> rfl
theorem flip32_bin {W : List Nat} (hb : NBin W) (hl : 32 ≤ W.length) : NBin (flip32 W) := by
  intro b hm
  have h1 : (b : Int) ∈ flipN (up W) 32 := by rw [flip_nat hb hl]; exact List.mem_map.mpr ⟨b, hm, rfl⟩
  have h2 := flipN_bin (B := up W) (fun y hy => by
    obtain ⟨n, hn, rfl⟩ := List.mem_map.mp hy
    have := hb n hn
    omega) 32 _ h1
  omega
theorem foldStep_nat : ∀ {W : List Nat} {r : Nat}, NBin W → r < 4294967296 → (up W).foldl crcStep (r : Int) = ((W.foldl cL r : Nat) : Int) ∧ W.foldl cL r < 4294967296
  | [], _, _, hr => ⟨rfl, hr⟩
  | b :: W, r, hb, hr => by
    have h := crcStep_nat hr (hb b (.head _))
    rw [up, List.map_cons, List.foldl_cons, List.foldl_cons, h.1]
    exact foldStep_nat (fun y hy => hb y (.tail _ hy)) h.2
theorem rev_snd (c : Nat) : ∀ n, rev (c ^^^ 4294967295) n = if n ≤ 32 then (rangeKs 0 n).foldl (fun (a : Nat) (k : Int) => 2 * a + (1 - c / 2 ^ k.toNat % 2)) 0 else rev (c ^^^ 4294967295) n
  | 0 => rfl
  | n + 1 => by
    by_cases h : n + 1 ≤ 32
    · rw [if_pos h, rev, rev_snd c n, if_pos (by omega)]
      have e : rangeKs 0 (n + 1) = rangeKs 0 n ++ [(n : Int)] := by
        unfold rangeKs
        rw [List.range_succ, List.map_append]
        simp
      rw [e, List.foldl_append, List.foldl_cons, List.foldl_nil, Int.toNat_natCast]
      have z : ((c ^^^ 4294967295) >>> n) % 2 = 1 - c / 2 ^ n % 2 := by
        have t := Nat.testBit_xor (x := c) (y := 4294967295) (i := n)
        have hm : (4294967295 : Nat).testBit n = decide (n < 32) := Nat.testBit_two_pow_sub_one 32 n
        rw [hm, Nat.testBit_eq_decide_div_mod_eq, Nat.testBit_eq_decide_div_mod_eq, ← Nat.shiftRight_eq_div_pow] at t
        simp only [show n < 32 by omega, decide_true, Bool.xor_true] at t
        by_cases hc : c / 2 ^ n % 2 = 1
        · simp only [hc, decide_true, Bool.not_true, decide_eq_false_iff_not] at t
          omega
        · simp only [hc, decide_false, Bool.not_false, decide_eq_true_eq] at t
          omega
      rw [z]
    · rw [if_neg h]
theorem foldF_nat (c : Nat) : ∀ (l : List Int) (a : Nat), (∀ k ∈ l, 0 ≤ k) → l.foldl (crcF (c : Int)) (a : Int) = ((l.foldl (fun (a : Nat) (k : Int) => 2 * a + (1 - c / 2 ^ k.toNat % 2)) a : Nat) : Int)
  | [], _, _ => rfl
  | k :: l, a, h => by
    rw [List.foldl_cons, List.foldl_cons]
    have e : crcF (c : Int) (a : Int) k = ((2 * a + (1 - c / 2 ^ k.toNat % 2) : Nat) : Int) := by
      unfold crcF
      rw [shr_nat, Int.fmod_eq_emod_of_nonneg _ (by decide)]
      omega
    rw [e]
    exact foldF_nat c l _ fun x hx => h x (.tail _ hx)
theorem rev_xor (c : Nat) : rev (c ^^^ 4294967295) 32 = rev c 32 ^^^ 4294967295 := by
  apply Nat.eq_of_testBit_eq
  intro i
  rw [rev_bit, Nat.testBit_xor, Nat.testBit_xor, rev_bit]
  have hm : ∀ j, (4294967295 : Nat).testBit j = decide (j < 32) := fun j => Nat.testBit_two_pow_sub_one 32 j
  rw [hm, hm]
  by_cases h : i < 32
  · have h2 : 32 - 1 - i < 32 := by omega
    simp only [h, h2, decide_true, Bool.true_and]
  · simp [h]
/-- the law's remainder is what the table tells -/
theorem crc_law {ks l : List Int} {rest found : Int} (ho : ∀ k ∈ ks, 0 ≤ k ∧ k < 256) (hl : l = flipN (bitsP ks) 32) (hc : CInv l rest) (hf : FInv rest (rangeKs 0 32) found) : found = crcO 0 ks := by
  obtain ⟨ns, rfl, hn⟩ := octs_nat ho
  have hbin : NBin (ns.flatMap (nbits 8) ++ List.replicate 32 0) := by
    intro b hb
    rcases List.mem_append.mp hb with h | h
    · exact nbits_all ns b h
    · exact .inl (List.eq_of_mem_replicate h)
  have hlen : 32 ≤ (ns.flatMap (nbits 8) ++ List.replicate 32 0).length := by simp
  rw [bitsP_nat, flip_nat hbin hlen] at hl
  have hr := hc.1
  rw [hl] at hr
  have hs := foldStep_nat (r := 0) (flip32_bin hbin hlen) (by decide)
  have hr2 : rest = ((_ : Nat) : Int) := hr.trans hs.1
  have hff := hf.1
  rw [hr2] at hff
  have hg := foldF_nat ((flip32 (ns.flatMap (nbits 8) ++ List.replicate 32 0)).foldl cL 0) (rangeKs 0 32) 0 (fun k hk => by
    obtain ⟨j, _, rfl⟩ := List.mem_map.mp hk
    omega)
  rw [hff]
  refine hg.trans ?_
  have hv := rev_snd ((flip32 (ns.flatMap (nbits 8) ++ List.replicate 32 0)).foldl cL 0) 32
  rw [if_pos (by decide)] at hv
  rw [← hv, rev_xor, crc_meet ns hn]
  unfold crcO crcW
  have e0 : Builtin.bitXor 0 4294967295 = ((4294967295 : Nat) : Int) := by decide +kernel
  rw [e0]
  have fold : ∀ (ms : List Nat) (c : Nat), (up ms).foldl crcS (c : Int) = ((ms.foldl (fun c k => nib (nib (c ^^^ k))) c : Nat) : Int) := by
    intro ms
    induction ms with
    | nil => intro c; rfl
    | cons m ms ih => intro c; rw [up, List.map_cons, List.foldl_cons, List.foldl_cons, crcS_nat]; exact ih _
  rw [fold]
  exact (xor_nat _ 4294967295).symm
end
section
/-! contents numbered as they first come -/
theorem valueAt_stored {K : Type} [DecidableEq K] (kvs : List (K × Value)) (k x : K) (v : Value) : valueAt (stored kvs k v) x = if x = k then some v else valueAt kvs x := by
  unfold stored
  by_cases ha : kvs.any (fun kv => kv.1 = k) = true
  · rw [if_pos ha]
    induction kvs with
    | nil => simp at ha
    | cons p r ih =>
      unfold valueAt at *
      rw [List.map_cons, List.find?_cons, List.find?_cons]
      by_cases hp : p.1 = k
      · by_cases hx : x = k
        · subst hx
          simp [hp]
        · have h1 : ¬ p.1 = x := fun e => hx (e ▸ hp)
          have h2 : ¬ k = x := fun e => hx e.symm
          simp only [hp, if_true, h2, decide_false, if_neg hx]
          by_cases hr : r.any (fun kv => kv.1 = k) = true
          · have := ih hr
            rw [if_neg hx] at this
            exact this
          · have e : r.map (fun kv => if kv.1 = k then (kv.1, v) else kv) = r := by
              rw [List.map_congr_left (g := id) fun q hq => ?_, List.map_id]
              have : ¬ q.1 = k := fun e => hr (List.any_eq_true.mpr ⟨q, hq, by simpa using e⟩)
              simp [this]
            rw [e]
      · have hr : r.any (fun kv => kv.1 = k) = true := by simpa [hp] using ha
        have := ih hr
        simp only [hp, if_false]
        by_cases hx : p.1 = x
        · have h1 : ¬ x = k := fun e => hp (hx.trans e)
          simp [hx, h1]
        · simp only [hx, decide_false]
          exact this
  · rw [if_neg ha]
    have hno : ∀ q ∈ kvs, ¬ q.1 = k := fun q hq e => ha (List.any_eq_true.mpr ⟨q, hq, by simpa using e⟩)
    unfold valueAt
    rw [List.find?_append]
    by_cases hx : x = k
    · subst hx
      have : kvs.find? (fun kv => kv.1 = x) = none := List.find?_eq_none.mpr fun q hq => by simpa using hno q hq
      simp [this]
    · have h2 : ¬ k = x := fun e => hx e.symm
      simp [h2, hx]
theorem stored_length {K : Type} [DecidableEq K] (kvs : List (K × Value)) (k : K) (v : Value) (h : valueAt kvs k = none) : (stored kvs k v).length = kvs.length + 1 := by
  unfold stored
  have : ¬ kvs.any (fun kv => kv.1 = k) = true := by
    intro ha
    obtain ⟨q, hq, hk⟩ := List.any_eq_true.mp ha
    unfold valueAt at h
    have h2 : kvs.find? (fun kv => kv.1 = k) = none := by
      cases e : kvs.find? (fun kv => kv.1 = k) with
      | none => rfl
      | some z => rw [e] at h; simp at h
    have := List.find?_eq_none.mp h2 q hq
    exact this hk
  rw [if_neg this]
  simp
/-- a dict that numbers the contents T, from 1 -/
def NumTab (kvs : List (List UInt8 × Value)) (T : List (List UInt8)) : Prop :=
  kvs.length = T.length ∧ ∀ k, (k ∈ T → ∃ t, valueAt kvs k = some (.int ((T.idxOf k : Nat) + 1) t)) ∧ (k ∉ T → valueAt kvs k = none)
def addT (T : List (List UInt8)) (k : List UInt8) : List (List UInt8) := if k ∈ T then T else T ++ [k]
def numT (T : List (List UInt8)) (k : List UInt8) : Int := ((addT T k).idxOf k : Nat) + 1
theorem num_nil : NumTab [] [] := ⟨rfl, fun k => ⟨(fun h => nomatch h), (fun _ => rfl)⟩⟩
theorem num_in {kvs T k} (h : NumTab kvs T) (hk : (valueAt kvs k).isSome = true) : k ∈ T := by
  by_cases hm : k ∈ T
  · exact hm
  · rw [(h.2 k).2 hm] at hk
    cases hk
theorem num_out {kvs T k} (h : NumTab kvs T) (hk : (valueAt kvs k).isSome = false) : k ∉ T := by
  intro hm
  obtain ⟨t, e⟩ := (h.2 k).1 hm
  rw [e] at hk
  cases hk
theorem num_old {kvs T k} (h : NumTab kvs T) (hk : (valueAt kvs k).isSome = true) : addT T k = T ∧ ∃ t, valueAt kvs k = some (.int (numT T k) t) := by
  have hm := num_in h hk
  have e : addT T k = T := by unfold addT; rw [if_pos hm]
  refine ⟨e, ?_⟩
  unfold numT
  rw [e]
  exact (h.2 k).1 hm
theorem num_new {kvs T k} {n : Int} {t : Tok} (h : NumTab kvs T) (hk : (valueAt kvs k).isSome = false) (hn : n = (kvs.length : Int) + 1) : NumTab (stored kvs k (.int n t)) (addT T k) ∧ n = numT T k ∧ valueAt (stored kvs k (.int n t)) k = some (.int (numT T k) t) := by
  have hm := num_out h hk
  have e : addT T k = T ++ [k] := by unfold addT; rw [if_neg hm]
  have ei : (T ++ [k]).idxOf k = T.length := by
    rw [List.idxOf_append, if_neg hm]
    simp
  have hv : valueAt kvs k = none := (h.2 k).2 hm
  have en : n = numT T k := by
    unfold numT
    rw [e, ei, hn, h.1]
  refine ⟨⟨?_, fun x => ?_⟩, en, ?_⟩
  · rw [stored_length _ _ _ hv, e, List.length_append, h.1]
    rfl
  · rw [valueAt_stored, e]
    by_cases hx : x = k
    · subst hx
      rw [if_pos rfl, ei]
      refine ⟨fun _ => ⟨t, ?_⟩, fun hh => absurd (List.mem_append.mpr (.inr (.head _))) hh⟩
      rw [hn, h.1]
    · rw [if_neg hx]
      refine ⟨fun hh => ?_, fun hh => (h.2 x).2 fun g => hh (List.mem_append.mpr (.inl g))⟩
      have hxT : x ∈ T := (List.mem_append.mp hh).elim id fun g => absurd (List.mem_singleton.mp g) hx
      obtain ⟨t', e'⟩ := (h.2 x).1 hxT
      refine ⟨t', ?_⟩
      rw [List.idxOf_append, if_pos hxT]
      exact e'
  · rw [valueAt_stored, if_pos rfl, en]
theorem addT_length (T : List (List UInt8)) (k : List UInt8) : (addT T k).length ≤ T.length + 1 := by
  unfold addT
  split
  · omega
  · simp
theorem numT_range (T : List (List UInt8)) (k : List UInt8) : 1 ≤ numT T k ∧ numT T k ≤ T.length + 1 := by
  unfold numT
  have h1 := addT_length T k
  have hm : k ∈ addT T k := by
    unfold addT
    split
    · assumption
    · simp
  have h2 := List.idxOf_lt_length_of_mem hm
  omega
end
section
theorem stirred_meets {w mean mg mb led b t ks x l n dx ts ti nd} {a₁ a₂ a₃ a₄ a₅ : Int} {t₁ t₂ t₃ t₄ t₅ : Tok} (hb : KBw.bInts b = ks) (hn : ks.length = 64) (hw : W5 (a₁, a₂, a₃, a₄, a₅)) :
    Meets w mean mg mb 5 40 ((l, PySem.W.listOf [Value.int a₁ t₁, .int a₂ t₂, .int a₃ t₃, .int a₄ t₄, .int a₅ t₅].toArray n) :: (x, instObj 163 dx) :: (dx, dictOf [⟨PyData.keyHash w.params (Str.ofString "size"), .str (Str.ofString "size") ts, .int 20 ti⟩] nd) :: led) (.ref 155) [.ref x, .ref l, .bytes b t] (NewInts led fun ns => ns = stirI (words80 ks) (a₁, a₂, a₃, a₄, a₅)) := by
  have hw80 := words80_length ks
  w_top off
  k_with_none
  k_with "call ref" => ((with_reducible show wpAny _ _ (call (Value.ref 150) _) _ _ _); k_dflt (refine' Meets.use (words_of_meets hb hn) (by k_asm) (by k_asm) (by k_asm) (by k_asm) (by k_asm) (by first | exact rfl | assumption) (by ktr_room) (by ktr_units) ?_); intro r9 led9 h9 tk9 F9 N9 e9; obtain ⟨l9, vs9, ns9, n9, rfl, rfl, i9, rfl, o9⟩ := e9; (try simp only [LCg.Off1, and_true] at o9); (try k_sweep); (try dsimp only); (try k_fold))
  k_with "call ref" => ((with_reducible show wpAny _ _ (call (Value.ref 124) _) _ _ _); (rename RInv _ _ _ _ _ _ _ _ => hR); have hR5 := RInv.w5 hw hR; (with_reducible show wpAny _ _ (call (Value.ref 124) _) _ _ _); k_dflt (first | refine' Meets.use_int (turned_left_meets (by first | exact hR5.1.1 | exact hR5.2.1.1) (by first | exact hR5.1.2 | exact hR5.2.1.2) (by omega) (by omega)) (by k_asm) (by k_asm) (by k_asm) (by k_asm) (by k_asm) (by first | exact rfl | assumption) (by ktr_room) (by ktr_units) ?_ | refine' Meets.use_bytes (turned_left_meets (by first | exact hR5.1.1 | exact hR5.2.1.1) (by first | exact hR5.1.2 | exact hR5.2.1.2) (by omega) (by omega)) (by k_asm) (by k_asm) (by k_asm) (by k_asm) (by k_asm) (by first | exact rfl | assumption) (by ktr_room) (by ktr_units) ?_); intro t9 h9 tk9 F9 N9; (try k_sweep); (try dsimp only); (try k_fold); (try clear hR5))
  k_with "exec If" => ((fail_if_success (rename WayMark => hw9)); (with_reducible show wpAny _ _ (exec (Stmt.If (Expr.Compare (Expr.Name ("at" : Str) _) _ _ _) _ _ _) _) _ _ _); (rename RInv _ _ _ _ _ _ _ _ => hR9); (with_reducible rename Fr _ _ _ _ => fW9); (with_reducible rename News _ _ _ _ => nW9); k_dflt (refine' way_cut "mixed" "added" fW9 nW9 hR9 (by with_reducible assumption) (fun hw9 => ?_) (fun h9 tk9 t9 u9 F9 N9 => ?_)); (try dsimp only at F9))
  k_with "WayR" => ((try dsimp only); (with_reducible rename Fr _ _ _ _ => fE9); (with_reducible rename News _ _ _ _ => nE9); k_dflt (refine' way_end ?wm ?wa fE9 nE9 ?wl; (case wm => first | (with_reducible refine mix1 ?_; with_reducible assumption) | (with_reducible refine mix2 ?_ ?_ <;> with_reducible assumption) | (with_reducible refine mix3 ?_ ?_ ?_ <;> with_reducible assumption) | (with_reducible refine mix4 ?_ ?_ ?_ <;> with_reducible assumption)); (case wa => first | (with_reducible refine add1 ?_; with_reducible assumption) | (with_reducible refine add2 ?_ ?_ <;> with_reducible assumption) | (with_reducible refine add3 ?_ ?_ ?_ <;> with_reducible assumption) | (with_reducible refine add4 ?_ ?_ ?_ <;> with_reducible assumption)); (case wl => exact (by (repeat (first | with_reducible exact fun p hp => hp | with_reducible exact fun p hp => List.mem_append_left _ hp | with_reducible refine keep_cons ?_ | with_reducible refine drop_cons ?_)); done))))
  k_with "pyIter ref" => (k_state (fun pre a b c d e => RInv (words80 ks) (a₁, a₂, a₃, a₄, a₅) pre.length a b c d e) "one" "two" "three" "four" "five"; (try (refine entry_gen (fun Qx hQx => ?_))))
  k_with "state" => first | exact rinv_start | (with_reducible exact rinv_step (by assumption) (by assumption) rfl rfl) | fail "state"
  k_with "subscriptTail" => (k_here; (with_reducible show wpAny _ _ (subscriptTail _ _ (Value.ref _) (Value.int _ _)) _ _ _); k_dflt (refine' item_ints ?N ?m ?i ?a ?b ?f ?_; (case N => k_asm); (case m => k_mem); (case i => with_reducible assumption); (case a => (first | (with_reducible refine (ix_word ?_ ?_ ?_ ?_ ?_).1 <;> first | with_reducible assumption | decide) | (with_reducible refine (ix_round ?_ ?_ ?_).1 <;> first | with_reducible assumption | decide) | (with_reducible refine (ix_flip ?_ ?_ ?_).1 <;> first | with_reducible assumption | decide) | (with_reducible refine (ix_page0 ?_ ?_ ?_).1 <;> first | with_reducible assumption | decide) | (with_reducible refine (ix_page ?_ ?_ ?_ ?_ ?_).1 <;> first | with_reducible assumption | decide) | (first | ((repeat (with_reducible rename _ ∧ _ => hx9; clear hx9)); (repeat (with_reducible rename _ ≠ _ => hx9; clear hx9)); omega) | omega))); (case b => (first | (with_reducible refine (ix_word ?_ ?_ ?_ ?_ ?_).2.1 <;> first | with_reducible assumption | decide) | (with_reducible refine (ix_round ?_ ?_ ?_).2.1 <;> first | with_reducible assumption | decide) | (with_reducible refine (ix_flip ?_ ?_ ?_).2.1 <;> first | with_reducible assumption | decide) | (with_reducible refine (ix_page0 ?_ ?_ ?_).2.1 <;> first | with_reducible assumption | decide) | (with_reducible refine (ix_page ?_ ?_ ?_ ?_ ?_).2.1 <;> first | with_reducible assumption | decide) | (first | ((repeat (with_reducible rename _ ∧ _ => hx9; clear hx9)); (repeat (with_reducible rename _ ≠ _ => hx9; clear hx9)); omega) | omega))); (case f => (first | (with_reducible refine (ix_word ?_ ?_ ?_ ?_ ?_).2.2 <;> first | with_reducible assumption | decide) | (with_reducible refine (ix_round ?_ ?_ ?_).2.2 <;> first | with_reducible assumption | decide) | (with_reducible refine (ix_flip ?_ ?_ ?_).2.2 <;> first | with_reducible assumption | decide) | (with_reducible refine (ix_page0 ?_ ?_ ?_).2.2 <;> first | with_reducible assumption | decide) | (with_reducible refine (ix_page ?_ ?_ ?_ ?_ ?_).2.2 <;> first | with_reducible assumption | decide) | (first | ((repeat (with_reducible rename _ ∧ _ => hx9; clear hx9)); (repeat (with_reducible rename _ ≠ _ => hx9; clear hx9)); omega) | omega))); k_whole); intro t9)
  k_with "subscriptTail" => (k_here; (with_reducible show wpAny _ _ (subscriptTail _ _ (Value.ref _) (Value.int _ _)) _ _ _); k_dflt (refine' item_itI ?N ?m ?i ?a ?b ?f ?_; (case N => k_asm); (case m => k_mem); (case i => exact .cons _ _ (.cons _ _ (.cons _ _ (.cons _ _ (.cons _ _ .nil))))); (case a => assumption); (case b => exact lt_five (by assumption)); (case f => exact lt_five63 (by assumption)); k_whole); intro t9)
  k_with "subscriptTail Name BinOp ref int" => k_extra "subscriptTail"
  k_with "subscriptTail Name Name ref int" => k_extra "subscriptTail"
  ((intro dp un gd cn cs a ccd cl outer A₀ base h₀ L m s Q E B F X N T hcs hdp hun hret; refine wpAny_call ?_; k_dflt (refine' code_defC ?k1 ?k2 ?k3 ?k4 ?k5 ?kA ?kF ?kK ?k6 ?k7 ?k8 ?k9 ?kB ?kD ?_ ?c2 ?c3 ?c4; (case kA => exact rfl); (case kF => exact rfl); (case kK => first | exact rfl | assumption); (case k1 => k_asm); (case k2 => k_asm); (case k3 => k_asm); (case k4 => k_asm); (case k5 => k_asm); (case k6 => k_is); (case k7 => k_is); (case k8 => ktr_room); (case k9 => exact BindsTo.of_eq rfl); (case kB => exact rfl); (case kD => decide +kernel); (case c2 => exact rfl); (case c3 => exact rfl); (case c4 => exact rfl); k_whole; intro g' L' h' tk' cells' FG' F' N' Y' B' X' T' l1; (try k_lt l1); k_cells Y'; (try simp only [List.cons_append, List.nil_append] at N'); (try dsimp only); (try k_lift B'); (try k_fold))); (refine entry_gen (fun Qx hQx => ?_)))
  (repeat' (first | (k_unfold; (try dsimp only)) | walk1 | (dsimp only; walk1) | (leave1; walk_say "STEP leave1"; try dsimp only)))
  refine ret_ints hret (by k_asm) (by k_asm) (by intro p hp; repeat (first | exact hp | refine List.Mem.tail _ ?_)) (by assumption) ?_ (by first | exact (by assumption) | exact (And.right (by assumption)) | exact (And.right (And.right (by assumption))) | exact (And.right (And.right (And.right (by assumption)))) | exact (And.right (And.right (And.right (And.right (by assumption))))) | exact (And.right (And.right (And.right (And.right (And.right (by assumption)))))) | exact (And.right (And.right (And.right (And.right (And.right (And.right (by assumption))))))) | exact (And.right (And.right (And.right (And.right (And.right (And.right (And.right (by assumption)))))))) | exact (And.right (And.right (And.right (And.right (And.right (And.right (And.right (And.right (by assumption))))))))))
  exact stir_map (by assumption)
end
section
theorem fmod64_lo (x : Int) : 0 ≤ x.fmod 64 := Int.fmod_nonneg_of_pos _ (by decide)
theorem fmod64_hi (x : Int) : x.fmod 64 < 64 := Int.fmod_lt_of_pos _ (by decide)
theorem ints_zeros (n : Nat) : KBw.bInts (Array.replicate n 0) = List.replicate n 0 := by
  unfold KBw.bInts
  simp
/-- the octets with the one bit, the noughts and the length behind them -/
def padL (ks : List Int) : List Int := ks ++ [128] ++ List.replicate ((55 - (ks.length : Int)).fmod 64).toNat 0 ++ beL (8 * ks.length) 8
theorem padded_meets {w mean mg mb led b t ks x} (hb : KBw.bInts b = ks) (hn : ks.length ≤ 300) : Meets w mean mg mb 4 32 led (.ref 145) [.ref x, .bytes b t] (Back led fun r => ∃ b t, r = .bytes b t ∧ KBw.bInts b = padL ks) := by
  have hz := ints_zeros ((55 - (ks.length : Int)).fmod 64).toNat
  have hbe := beL_in (8 * ks.length) 8
  have hl1 := fmod64_lo (55 - (ks.length : Int))
  have hl2 := fmod64_hi (55 - (ks.length : Int))
  have hl3 := beL_length (8 * ks.length) 8
  have hz2 : (List.replicate ((55 - (ks.length : Int)).fmod 64).toNat (0 : Int)).length = ((55 - (ks.length : Int)).fmod 64).toNat := List.length_replicate
  w_top off
  k_with_none
  k_with "call type:bytes" => (k_here; (with_reducible show wpAny _ _ (call (Value.type "bytes") [Value.int _ _]) _ _ _); refine call_bytes_int (by omega) (by omega) ?_; intro t9 k9; (try dsimp only); (try k_fold))
  k_with "call ref" => ((with_reducible show wpAny _ _ (call (Value.ref 66) _) _ _ _); k_dflt (first | refine' Meets.use_int (be64_meets (by omega) (by omega)) (by k_asm) (by k_asm) (by k_asm) (by k_asm) (by k_asm) (by first | exact rfl | assumption) (by ktr_room) (by ktr_units) ?_ | refine' Meets.use_bytes (be64_meets (by omega) (by omega)) (by k_asm) (by k_asm) (by k_asm) (by k_asm) (by k_asm) (by first | exact rfl | assumption) (by ktr_room) (by ktr_units) ?_); intro t9 h9 tk9 F9 N9; (try k_sweep); (try dsimp only); (try k_fold))
  ((intro dp un gd cn cs a ccd cl outer A₀ base h₀ L m s Q E B F X N T hcs hdp hun hret; refine wpAny_call ?_; k_dflt cell_enter); (refine entry_gen (fun Qx hQx => ?_)))
  (repeat' (first | (k_unfold; (try dsimp only)) | walk1 | (dsimp only; walk1) | (leave1; walk_say "STEP leave1"; try dsimp only)))
  (refine' ret_sub led hret ?rF ?rN ?rS ?_; (case rF => k_asm); (case rN => k_asm); (case rS => intro p hp; repeat (first | exact hp | refine List.Mem.tail _ ?_)))
  refine ⟨rfl, _, _, rfl, ?_⟩
  unfold padL
  assumption
theorem padL_length1 {ks : List Int} (h : ks.length ≤ 55) : (padL ks).length = 64 := by
  unfold padL
  simp only [List.length_append, List.length_cons, List.length_nil, List.length_replicate, beL_length]
  have e : (55 - (ks.length : Int)).fmod 64 = 55 - ks.length := by rw [Int.fmod_eq_emod_of_nonneg _ (by decide)]; omega
  rw [e]
  omega
theorem padL_length2 {ks : List Int} (h : 56 ≤ ks.length) (h2 : ks.length ≤ 119) : (padL ks).length = 128 := by
  unfold padL
  simp only [List.length_append, List.length_cons, List.length_nil, List.length_replicate, beL_length]
  have e : (55 - (ks.length : Int)).fmod 64 = 119 - ks.length := by rw [Int.fmod_eq_emod_of_nonneg _ (by decide)]; omega
  rw [e]
  omega
section
variable {prog : Program} {w : World} {A : Around} {E : Value → Shared → Prop} {s : Shared}
theorem len_at {b : Array UInt8} {t : Tok} {ks : List Int} {n : Nat} {Q : Value → Shared → Prop} (hk : KBw.bInts b = ks) (hl : ks.length = n) (hfit : n ≤ 1099511627776) (h : Q (.int (n : Int) (s.toks + 1)) { s with toks := s.toks + 1 + 1 }) : wpAny (model prog w) A (call (.builtin "len") [.bytes b t]) Q E s :=
  KBw.len_K hk (by omega) (by rw [hl]; exact h)
end
end
section
local macro_rules | `(tactic| walk_at "call builtin:len") => `(tactic| (k_here; (with_reducible show wpAny _ _ (call (Value.builtin "len") [Value.bytes _ _]) _ _ _); (refine len_at (by assumption) (by assumption) (by decide) ?_); (simp only [Int.cast_ofNat_Int])))
local macro_rules | `(tactic| walk_at "getMethod bytes") => `(tactic| (k_here; (with_reducible refine join_method ?_)))
local macro_rules | `(tactic| walk_at "call builtin:bytes.join") => `(tactic| (k_here; (refine join5 (News.isList (by k_asm) (by k_mem)) (by simp only [byteArr_size, beL_length]; decide) ?_); intro t9 k9))
abbrev sizeD (w : World) (ts : Tok) (ti : Tok) (nd : Nat) : Obj := dictOf [⟨PyData.keyHash w.params (Str.ofString "size"), .str (Str.ofString "size") ts, .int 20 ti⟩] nd
def stirS (ws : List Int) (s : St) : St := match s, rounds ws s 80 with
  | (a, b, c, d, e), (a', b', c', d', e') => (Builtin.bitAnd (a + a') 4294967295, Builtin.bitAnd (b + b') 4294967295, Builtin.bitAnd (c + c') 4294967295, Builtin.bitAnd (d + d') 4294967295, Builtin.bitAnd (e + e') 4294967295)
theorem stirS_w5 (ws : List Int) (s : St) : W5 (stirS ws s) := ⟨mask32 _, mask32 _, mask32 _, mask32 _, mask32 _⟩
def five (s : St) : List Int := [s.1, s.2.1, s.2.2.1, s.2.2.2.1, s.2.2.2.2]
theorem stirI_five (ws : List Int) (s : St) : stirI ws s = five (stirS ws s) := rfl
/-- a new list of five words ahead of the ledger -/
abbrev NewFive (led : List (Addr × Obj)) (S : St) (r : Value) (led' : List (Addr × Obj)) : Prop :=
  ∃ (l : Addr) (a b c d e : Int) (ta tb tc td te : Tok) (n : Nat), led' = (l, PySem.W.listOf [Value.int a ta, .int b tb, .int c tc, .int d td, .int e te].toArray n) :: led ∧ r = .ref l ∧ (a, b, c, d, e) = S ∧ W5 (a, b, c, d, e) ∧ LCg.Off1 l led
theorem ints5 {vs : List Value} {S : St} (h : IntsAre vs (five S)) : ∃ ta tb tc td te, vs = [.int S.1 ta, .int S.2.1 tb, .int S.2.2.1 tc, .int S.2.2.2.1 td, .int S.2.2.2.2 te] := by
  unfold five at h
  cases h with | cons _ ta h => cases h with | cons _ tb h => cases h with | cons _ tc h => cases h with | cons _ td h => cases h with | cons _ te h => cases h with | nil => exact ⟨ta, tb, tc, td, te, rfl⟩
theorem stirred5_meets {w mean mg mb led b t ks x l n dx ts ti nd} {a₁ a₂ a₃ a₄ a₅ : Int} {t₁ t₂ t₃ t₄ t₅ : Tok} (hb : KBw.bInts b = ks) (hn : ks.length = 64) (hw : W5 (a₁, a₂, a₃, a₄, a₅)) :
    Meets w mean mg mb 5 40 ((l, PySem.W.listOf [Value.int a₁ t₁, .int a₂ t₂, .int a₃ t₃, .int a₄ t₄, .int a₅ t₅].toArray n) :: (x, instObj 163 dx) :: (dx, sizeD w ts ti nd) :: led) (.ref 155) [.ref x, .ref l, .bytes b t] (NewFive led (stirS (words80 ks) (a₁, a₂, a₃, a₄, a₅))) :=
  (stirred_meets hb hn hw).mono fun r l9 h => by
    obtain ⟨l, vs, ns, n, h1, h2, h3, h4, h5⟩ := h
    rw [h4, stirI_five] at h3
    obtain ⟨ta, tb, tc, td, te, rfl⟩ := ints5 h3
    exact ⟨l, _, _, _, _, _, ta, tb, tc, td, te, n, h1, h2, rfl, stirS_w5 (words80 ks) (a₁, a₂, a₃, a₄, a₅), h5⟩
theorem w32_64 {x : Int} (h : W32 x) : x < 18446744073709551616 := by have := h.2; omega
theorem unr_end {h₀ : Heap} {L I : Addr} {it : Obj} {rest : (Str → Option Value) → List (Addr × Obj) → Prop} {s₁ : Shared} {h' : Heap} {tk : Nat} {m' : Str → Option Value} {q : Addr × Obj} {led : List (Addr × Obj)} (F : Fr h₀ L h' m') (N : News h₀ L h' (q :: (I, it) :: led))
    (hq : q.1 ≠ I) (off : ∀ p ∈ led, p.1 ≠ I) (r : rest m' (q :: led)) : UnrEnd h₀ L s₁ I it rest { s₁ with heap := h', toks := tk } :=
  UnrEnd.intro F N (q :: led) (fun p hp => by
    rcases List.mem_cons.mp hp with rfl | hp
    · exact .tail _ (.head _)
    · rcases List.mem_cons.mp hp with rfl | hp
      · exact .head _
      · exact .tail _ (.tail _ hp)) (fun p hp => by
    rcases List.mem_cons.mp hp with rfl | hp
    · exact hq
    · exact off p hp) r
theorem comp_end {h₀ : Heap} {L I C D : Addr} {m : Str → Option Value} {s₁ : Shared} {oI oC oD : Obj} {S : List (Addr × Obj) → Prop} {rest : Value → List (Addr × Obj) → Prop} {y : Value} {h' : Heap} {tk : Nat} {led : List (Addr × Obj)}
    (F : Fr h₀ L h' m) (N : News h₀ L h' ((I, oI) :: (C, oC) :: (D, oD) :: led)) (off : LCg.Off3 I C D led) (hS : S led) (r : rest y led) : LCg.CompEnd h₀ L m s₁ I oI C oC D oD S rest y { s₁ with heap := h', toks := tk } :=
  LCg.CompEnd.intro F N led (fun _ h => h) off hS r
local macro_rules | `(tactic| walk_at "CompEnd") => `(tactic| (refine comp_end (by k_asm) (by k_asm) (by assumption) (by lcg_src) ?_))
def H0 : St := (1732584193, 4023233417, 2562383102, 271733878, 3285377520)
theorem H0_w5 : W5 (1732584193, 4023233417, 2562383102, 271733878, 3285377520) := by unfold W5 W32; decide
def outL (S : St) : List Int := beL S.1 4 ++ beL S.2.1 4 ++ beL S.2.2.1 4 ++ beL S.2.2.2.1 4 ++ beL S.2.2.2.2 4
/-- the twenty octets that stand for some octets (119 at most) -/
def shaI (ks : List Int) : List Int := outL (if ks.length ≤ 55 then stirS (words80 (padL ks)) H0 else stirS (words80 ((padL ks).drop 64)) (stirS (words80 ((padL ks).take 64)) H0))
theorem byteArr_app (a b : List Int) : byteArr (a ++ b) = byteArr a ++ byteArr b := by unfold byteArr; simp
abbrev cutI (p : List Int) (a b : Int) : List Int := List.take (clipAt p.length b - clipAt p.length a) (List.drop (clipAt p.length a) p)
theorem cut_a {p : List Int} (h : p.length = 64) : cutI p 0 (0 + 64) = p := by
  unfold cutI
  rw [h, show clipAt 64 (0 + 64) = 64 from by decide, show clipAt 64 0 = 0 from by decide, List.drop_zero, List.take_of_length_le (by omega)]
theorem cut_b {p : List Int} (h : p.length = 128) : cutI p 0 (0 + 64) = p.take 64 := by
  unfold cutI
  rw [h, show clipAt 128 (0 + 64) = 64 from by decide, show clipAt 128 0 = 0 from by decide, List.drop_zero]
theorem cut_c {p : List Int} (h : p.length = 128) : cutI p 64 (64 + 64) = p.drop 64 := by
  unfold cutI
  rw [h, show clipAt 128 (64 + 64) = 128 from by decide, show clipAt 128 64 = 64 from by decide, List.take_of_length_le (by rw [List.length_drop]; omega)]
theorem cut_a_len {p : List Int} (h : p.length = 64) : (cutI p 0 (0 + 64)).length = 64 := by rw [cut_a h, h]
theorem cut_b_len {p : List Int} (h : p.length = 128) : (cutI p 0 (0 + 64)).length = 64 := by rw [cut_b h, List.length_take]; omega
theorem cut_c_len {p : List Int} (h : p.length = 128) : (cutI p 64 (64 + 64)).length = 64 := by rw [cut_c h, List.length_drop]; omega
theorem out_of {c1 c2 c3 c4 c5 : Int} {S : St} {t : Tok} {l : List Int} (h : (c1, c2, c3, c4, c5) = S) (hl : outL S = l) : ∃ t', Value.bytes (byteArr (beL c1 4) ++ byteArr (beL c2 4) ++ byteArr (beL c3 4) ++ byteArr (beL c4 4) ++ byteArr (beL c5 4)) t = .bytes (byteArr l) t' := by
  subst h hl
  exact ⟨t, by unfold outL; simp only [byteArr_app]⟩
theorem digest1_meets {w mean mg mb led b t ks x dx ts ti nd} (hb : KBw.bInts b = ks) (hn : ks.length ≤ 55) : Meets w mean mg mb 7 60 ((x, instObj 163 dx) :: (dx, sizeD w ts ti nd) :: led) (.ref 160) [.ref x, .bytes b t] (Back ((x, instObj 163 dx) :: (dx, sizeD w ts ti nd) :: led) fun r => ∃ t, r = .bytes (byteArr (shaI ks)) t) := by
  have hp := padL_length1 hn
  w_top off
  k_with_none
  k_with "call ref" => ((with_reducible show wpAny _ _ (call (Value.ref 145) _) _ _ _); k_dflt (refine' Meets.use (padded_meets hb (by omega)) (by k_asm) (by k_asm) (by k_asm) (by k_asm) (by k_asm) (by first | exact rfl | assumption) (by ktr_room) (by ktr_units) ?_); intro r9 led9 h9 tk9 F9 N9 e9; obtain ⟨rfl, b9, t9, rfl, hb9⟩ := e9; (try k_sweep); (try dsimp only); (try k_fold))
  k_with "call ref" => ((with_reducible show wpAny _ _ (call (Value.ref 155) _) _ _ _); k_dflt (refine' Meets.use (stirred5_meets (by assumption) (by first | with_reducible exact cut_a_len hp | with_reducible exact cut_b_len hp | with_reducible exact cut_c_len hp) (by first | with_reducible assumption | exact H0_w5)) (by k_asm) (by k_asm) (by k_asm) (news_dup (by k_asm) (by k_mem) (news_dup (by k_asm) (by k_mem) (news_dup (by k_asm) (by k_mem) (by k_asm)))) (by k_asm) (by first | exact rfl | assumption) (by ktr_room) (by ktr_units) ?_); intro r9 led9 h9 tk9 F9 N9 e9; obtain ⟨l9, c1, c2, c3, c4, c5, u1, u2, u3, u4, u5, n9, rfl, rfl, i9, w9, o9⟩ := e9; (try simp only [LCg.Off1, and_true] at o9); (try k_sweep); (try dsimp only); (try k_fold))
  k_with "call ref" => ((with_reducible show wpAny _ _ (call (Value.ref 59) _) _ _ _); (rename W5 _ => hw9); (with_reducible show wpAny _ _ (call (Value.ref 59) _) _ _ _); k_dflt (first | refine' Meets.use_int (be32_meets (by first | exact hw9.1.1 | exact hw9.2.1.1 | exact hw9.2.2.1.1 | exact hw9.2.2.2.1.1 | exact hw9.2.2.2.2.1) (by first | exact w32_64 hw9.1 | exact w32_64 hw9.2.1 | exact w32_64 hw9.2.2.1 | exact w32_64 hw9.2.2.2.1 | exact w32_64 hw9.2.2.2.2)) (by k_asm) (by k_asm) (by k_asm) (by k_asm) (by k_asm) (by first | exact rfl | assumption) (by ktr_room) (by ktr_units) ?_ | refine' Meets.use_bytes (be32_meets (by first | exact hw9.1.1 | exact hw9.2.1.1 | exact hw9.2.2.1.1 | exact hw9.2.2.2.1.1 | exact hw9.2.2.2.2.1) (by first | exact w32_64 hw9.1 | exact w32_64 hw9.2.1 | exact w32_64 hw9.2.2.1 | exact w32_64 hw9.2.2.2.1 | exact w32_64 hw9.2.2.2.2)) (by k_asm) (by k_asm) (by k_asm) (by k_asm) (by k_asm) (by first | exact rfl | assumption) (by ktr_room) (by ktr_units) ?_); intro t9 h9 tk9 F9 N9; (try k_sweep); (try dsimp only); (try k_fold))
  k_with "UnrEnd" => (refine unr_end (by k_asm) (by k_asm) (by k_ne) (by k_all) ?_)
  ((intro dp un gd cn cs a ccd cl outer A₀ base h₀ L m s Q E B F X N T hcs hdp hun hret; refine wpAny_call ?_; k_dflt cell_enter); (refine entry_gen (fun Qx hQx => ?_)))
  (repeat' (first | (k_unfold; (try dsimp only)) | walk1 | (dsimp only; walk1) | (leave1; walk_say "STEP leave1"; try dsimp only)))
  refine' ret_sub ((x, instObj 163 dx) :: (dx, sizeD w ts ti nd) :: led) hret ?rF ?rN ?rS ⟨rfl, out_of (by assumption) ?_⟩
  case rF => k_asm
  case rN => k_asm
  case rS => intro p hp; repeat (first | exact hp | refine List.Mem.tail _ ?_)
  unfold shaI
  rw [if_pos hn]
  have e := cut_a hp
  unfold cutI at e
  rw [e]
  rfl
end
section
local macro_rules | `(tactic| walk_at "call builtin:len") => `(tactic| (k_here; (with_reducible show wpAny _ _ (call (Value.builtin "len") [Value.bytes _ _]) _ _ _); (refine len_at (by assumption) (by assumption) (by decide) ?_); (simp only [Int.cast_ofNat_Int])))
local macro_rules | `(tactic| walk_at "getMethod bytes") => `(tactic| (k_here; (with_reducible refine join_method ?_)))
local macro_rules | `(tactic| walk_at "call builtin:bytes.join") => `(tactic| (k_here; (refine join5 (News.isList (by k_asm) (by k_mem)) (by simp only [byteArr_size, beL_length]; decide) ?_); intro t9 k9))
local macro_rules | `(tactic| walk_at "CompEnd") => `(tactic| (refine comp_end (by k_asm) (by k_asm) (by assumption) (by lcg_src) ?_))
theorem digest2_meets {w mean mg mb led b t ks x dx ts ti nd} (hb : KBw.bInts b = ks) (hn : 56 ≤ ks.length) (hn2 : ks.length ≤ 119) : Meets w mean mg mb 7 60 ((x, instObj 163 dx) :: (dx, sizeD w ts ti nd) :: led) (.ref 160) [.ref x, .bytes b t] (Back ((x, instObj 163 dx) :: (dx, sizeD w ts ti nd) :: led) fun r => ∃ t, r = .bytes (byteArr (shaI ks)) t) := by
  have hp := padL_length2 hn hn2
  w_top off
  k_with_none
  k_with "call ref" => ((with_reducible show wpAny _ _ (call (Value.ref 145) _) _ _ _); k_dflt (refine' Meets.use (padded_meets hb (by omega)) (by k_asm) (by k_asm) (by k_asm) (by k_asm) (by k_asm) (by first | exact rfl | assumption) (by ktr_room) (by ktr_units) ?_); intro r9 led9 h9 tk9 F9 N9 e9; obtain ⟨rfl, b9, t9, rfl, hb9⟩ := e9; (try k_sweep); (try dsimp only); (try k_fold))
  k_with "call ref" => ((with_reducible show wpAny _ _ (call (Value.ref 155) _) _ _ _); k_dflt (refine' Meets.use (stirred5_meets (by assumption) (by first | with_reducible exact cut_a_len hp | with_reducible exact cut_b_len hp | with_reducible exact cut_c_len hp) (by first | with_reducible assumption | exact H0_w5)) (by k_asm) (by k_asm) (by k_asm) (news_dup (by k_asm) (by k_mem) (news_dup (by k_asm) (by k_mem) (news_dup (by k_asm) (by k_mem) (by k_asm)))) (by k_asm) (by first | exact rfl | assumption) (by ktr_room) (by ktr_units) ?_); intro r9 led9 h9 tk9 F9 N9 e9; obtain ⟨l9, c1, c2, c3, c4, c5, u1, u2, u3, u4, u5, n9, rfl, rfl, i9, w9, o9⟩ := e9; (try simp only [LCg.Off1, and_true] at o9); (try k_sweep); (try dsimp only); (try k_fold))
  k_with "call ref" => ((with_reducible show wpAny _ _ (call (Value.ref 59) _) _ _ _); (rename W5 _ => hw9); (with_reducible show wpAny _ _ (call (Value.ref 59) _) _ _ _); k_dflt (first | refine' Meets.use_int (be32_meets (by first | exact hw9.1.1 | exact hw9.2.1.1 | exact hw9.2.2.1.1 | exact hw9.2.2.2.1.1 | exact hw9.2.2.2.2.1) (by first | exact w32_64 hw9.1 | exact w32_64 hw9.2.1 | exact w32_64 hw9.2.2.1 | exact w32_64 hw9.2.2.2.1 | exact w32_64 hw9.2.2.2.2)) (by k_asm) (by k_asm) (by k_asm) (by k_asm) (by k_asm) (by first | exact rfl | assumption) (by ktr_room) (by ktr_units) ?_ | refine' Meets.use_bytes (be32_meets (by first | exact hw9.1.1 | exact hw9.2.1.1 | exact hw9.2.2.1.1 | exact hw9.2.2.2.1.1 | exact hw9.2.2.2.2.1) (by first | exact w32_64 hw9.1 | exact w32_64 hw9.2.1 | exact w32_64 hw9.2.2.1 | exact w32_64 hw9.2.2.2.1 | exact w32_64 hw9.2.2.2.2)) (by k_asm) (by k_asm) (by k_asm) (by k_asm) (by k_asm) (by first | exact rfl | assumption) (by ktr_room) (by ktr_units) ?_); intro t9 h9 tk9 F9 N9; (try k_sweep); (try dsimp only); (try k_fold))
  k_with "UnrEnd" => (refine unr_end (by k_asm) (by k_asm) (by k_ne) (by k_all) ?_)
  ((intro dp un gd cn cs a ccd cl outer A₀ base h₀ L m s Q E B F X N T hcs hdp hun hret; refine wpAny_call ?_; k_dflt cell_enter); (refine entry_gen (fun Qx hQx => ?_)))
  (repeat' (first | (k_unfold; (try dsimp only)) | walk1 | (dsimp only; walk1) | (leave1; walk_say "STEP leave1"; try dsimp only)))
  (rename (_, _, _, _, _) = stirS _ (1732584193, _, _, _, _) => e1)
  (rename (_, _, _, _, _) = stirS _ _ => e2)
  rw [e1] at e2
  refine' ret_sub ((x, instObj 163 dx) :: (dx, sizeD w ts ti nd) :: led) hret ?rF ?rN ?rS ⟨rfl, out_of e2 ?_⟩
  case rF => k_asm
  case rN => k_asm
  case rS => intro p hp; repeat (first | exact hp | refine List.Mem.tail _ ?_)
  unfold shaI
  rw [if_neg (by omega)]
  have e := cut_b hp
  have e' := cut_c hp
  unfold cutI at e e'
  rw [e, e']
  rfl
end
section
section
variable {prog : Program} {w : World} {A : Around} {E : Value → Shared → Prop} {s : Shared} {env : Env} {h₀ : Heap} {target : PySem.Expr} {body : List Stmt} {Q : Flow → Shared → Prop} {m₀ : Str → Option Value} {news : List (Addr × Obj)}
/-- the end of a turn: the state behind the next item -/
def EndT (h₀ : Heap) (L : Addr) (I : Addr) (own : List (Addr × Obj)) (J : (Str → Option Value) → List (Addr × Obj) → Prop) (s₁ : Shared) (f : Flow) (s₂ : Shared) : Prop :=
  f = .next ∧ ∃ h' tk m' nx, s₂ = { s₁ with heap := h', toks := tk } ∧ Fr h₀ L h' m' ∧ News h₀ L h' (nx ++ own) ∧ (∀ p ∈ nx, p.1 ≠ I) ∧ J m' nx
theorem endT_intro {L I : Addr} {own nx all : List (Addr × Obj)} {J : (Str → Option Value) → List (Addr × Obj) → Prop} {s₁ : Shared} {h' : Heap} {tk : Nat} {m' : Str → Option Value} (F : Fr h₀ L h' m') (N : News h₀ L h' all) (hs : ∀ p ∈ nx ++ own, p ∈ all) (off : ∀ p ∈ nx, p.1 ≠ I) (j : J m' nx) :
    EndT h₀ L I own J s₁ .next { s₁ with heap := h', toks := tk } := ⟨rfl, h', tk, m', nx, rfl, F, fun p hp => N p (hs p hp), off, j⟩
theorem loopT_of {I : Addr} {n : Nat} {P : Nat → Value → Prop} {St : Nat → Heap → Prop} (W : Walks prog w A I [I] [I] n P St) (hL : env.locals ≠ I) (hI : h₀.get? I = none) (hnw : ∀ p ∈ news, p.1 ≠ I) (hst : St 0 s.heap) (F : Fr h₀ env.locals s.heap m₀) (N : News h₀ env.locals s.heap news)
    (hgo : ∀ i (s' : Shared) v (Q' : Unit → Shared → Prop), St i s'.heap → Q' () s' → wpAny (model prog w) A (letOwnedTupleGo target (.ref I) v) Q' E s')
    (J : Nat → (Str → Option Value) → List (Addr × Obj) → Prop) (h0 : J 0 m₀ news)
    (turn : ∀ i v m₁ nx s₁ own, i < n → P i v → J i m₁ nx → (∀ p ∈ nx, p.1 ≠ I) → (∀ p ∈ own, p.1 = I) → Fr h₀ env.locals s₁.heap m₁ → News h₀ env.locals s₁.heap (nx ++ own) →
      wpAny (model prog w) A (assign target env v) (fun _ s₃ => wpAny (model prog w) A (execs body env) (EndT h₀ env.locals I own (J (i + 1)) s₁) E s₃) E s₁)
    (done : ∀ h tk m₁ nx, Fr h₀ env.locals h m₁ → News h₀ env.locals h nx → J n m₁ nx → Q .next { s with heap := h, toks := tk }) :
    LoopAtT prog w A h₀ env target body Q E (.ref I) s := by
  refine ⟨I, [I], [I], n, P, St, m₀, news, J, rfl, W, (by simpa using hL), (fun b hb => by rw [List.mem_singleton.mp hb]; exact hI), (fun p hp hq => hnw p hp (List.mem_singleton.mp hq)), hst, F, N, hgo, h0, ?_, ?_⟩
  · intro i v m₁ nx s₁ own hi hP hJ hoff hown _ _ _ F₁ N₁
    refine wpAny_mono (turn i v m₁ nx s₁ own hi hP hJ (fun p hp e => hoff p hp (by rw [e]; exact .head _)) (fun p hp => List.mem_singleton.mp (hown p hp)) F₁ (fun p hp => N₁ p ((List.mem_append.mp hp).elim (fun h => List.mem_append.mpr (.inr h)) fun h => List.mem_append.mpr (.inl h)))) (fun _ s₂ h₂ => ?_) fun _ _ e => e
    refine wpAny_mono h₂ (fun f s₃ h₃ => ?_) fun _ _ e => e
    obtain ⟨hf, h', tk, m', nx', e, F', N', off, j⟩ := h₃
    exact ⟨hf, h', tk, m', nx', e, F', (fun p hp => N' p ((List.mem_append.mp hp).elim (fun h => List.mem_append.mpr (.inr h)) fun h => List.mem_append.mpr (.inl h))), (fun p hp hq => off p hp (List.mem_singleton.mp hq)), j⟩
  · intro h' tk m' nx F' N' _ hJ
    exact done h' tk m' nx F' N' hJ
theorem iterT_bytes {b : Array UInt8} {tb : Tok} {ks : List Int} (hk : KBw.bInts b = ks) (hh : A.handled = none) (F : Fr h₀ env.locals s.heap m₀) (N : News h₀ env.locals s.heap news)
    (hgo : ∀ I v (s' : Shared) (Q' : Unit → Shared → Prop), Q' () s' → wpAny (model prog w) A (letOwnedTupleGo target (.ref I) v) Q' E s')
    (J : Nat → (Str → Option Value) → List (Addr × Obj) → Prop) (h0 : J 0 m₀ news)
    (turn : ∀ i k t m₁ nx s₁ own I, ks[i]? = some k → 0 ≤ k → k < 256 → J i m₁ nx → (∀ p ∈ nx, p.1 ≠ I) → (∀ p ∈ own, p.1 = I) → Fr h₀ env.locals s₁.heap m₁ → News h₀ env.locals s₁.heap (nx ++ own) →
      wpAny (model prog w) A (assign target env (.int k t)) (fun _ s₃ => wpAny (model prog w) A (execs body env) (EndT h₀ env.locals I own (J (i + 1)) s₁) E s₃) E s₁)
    (done : ∀ h tk m₁ nx, Fr h₀ env.locals h m₁ → News h₀ env.locals h nx → J ks.length m₁ nx → Q .next { s with heap := h, toks := tk }) :
    wpAny (model prog w) A (pyIter (.bytes b tb)) (fun it s₂ => LoopAtT prog w A h₀ env target body Q E it s₂) E s := by
  subst hk
  refine KBw.pyIter_bytes ?_
  have W := KBw.walks (prog := prog) (w := w) hh s.heap.objs.size b tb
  have hlen : (KBw.bInts b).length = b.size := KBw.ints_length b
  refine loopT_of (P := fun i v => ∃ c u, b[i]? = some c ∧ v = .int (c.toNat : Int) u) W ?_ ?_ ?_ ⟨_, Heap.get?_push_size _ rfl, rfl, rfl⟩ (F.push _) (fun p hp => ⟨Heap.get?_push_of_some _ (N p hp).1, (N p hp).2⟩) (fun i s' v Q' _ hQ' => hgo _ v s' Q' hQ') J h0 ?_ ?_
  · exact Nat.ne_of_lt F.ns.lt
  · exact next_is_new F
  · intro p hp hI
    exact absurd (Heap.lt_size (N p hp).1) (hI ▸ Nat.lt_irrefl _)
  · rintro i v m₁ nx s₁ own hi ⟨c, u, hc, rfl⟩ hJ hoff hown F₁ N₁
    have hg : (KBw.bInts b)[i]? = some (c.toNat : Int) := KBw.ints_get hc
    have hm := KBw.ints_in (List.mem_of_getElem? hg)
    exact turn i _ u m₁ nx s₁ own _ hg hm.1 hm.2 hJ hoff hown F₁ N₁
  · intro h tk m₁ nx F₁ N₁ hJ
    exact done h tk m₁ nx F₁ N₁ (hlen ▸ hJ)
end
end
section
open PySem.Calls PySem.Spec PyProof.V
theorem bytes_len_look : typeLookup (.type "bytes") "__len__" = pure (some (.builtin "bytes.__len__")) := by rw [typeLookup_type, builtinLookup_eq_fast]; kernel_rfl
theorem ints_of_items (b : Array UInt8) : ∀ (l : List Value) (k : Nat), l.length + k = b.size → (∀ j v, l[j]? = some v → ∃ c u, b[k + j]? = some c ∧ v = .int (c.toNat : Int) u) → IntsAre l ((KBw.bInts b).drop k)
  | [], k, h, _ => by
    rw [List.drop_of_length_le (by rw [KBw.ints_length]; simp at h; omega)]
    exact .nil
  | v :: r, k, h, hv => by
    obtain ⟨c, u, hc, rfl⟩ := hv 0 v rfl
    have hg : (KBw.bInts b)[k]? = some (c.toNat : Int) := KBw.ints_get hc
    have hk : k < (KBw.bInts b).length := by rw [KBw.ints_length]; simp at h; omega
    rw [List.drop_eq_getElem_cons hk]
    have e : (KBw.bInts b)[k] = (c.toNat : Int) := by
      rw [List.getElem?_eq_getElem hk] at hg
      exact Option.some.inj hg
    rw [e]
    refine .cons _ _ (ints_of_items b r (k + 1) (by simp at h; omega) fun j v hj => ?_)
    have := hv (j + 1) v (by simpa using hj)
    rw [show k + 1 + j = k + (j + 1) by omega]
    exact this
section
variable {prog : Program} {w : World} {A : Around} {E : Value → Shared → Prop} {s : Shared}
theorem extend_bytes {R : Result → Shared → Prop} (hh : A.handled = none) (b : Array UInt8) (t : Tok) (S : Addr) (res : Value) (c₀ : Nat) (hS : s.heap.get? S = some { cls := .type "list", data := .seq #[] c₀ })
    (hR : ∀ h' tk acc' c', (∀ a o, a ≠ S → s.heap.get? a = some o → h'.get? a = some o) → h'.get? S = some { cls := .type "list", dict := none, data := .seq acc' c', slots := #[] } →
      IntsAre acc'.toList (KBw.bInts b) → R (.ok (.ret res)) { s with heap := h', toks := tk }) (hn : b.size ≤ sizeLine) :
    wpAny (model prog w) A.in1 (Builtin.List.listExtendWith (.ref S) (.bytes b t) res)
      (fun fin s' => match fin with | .done f => R (.ok f) s' | .again c' => c'.quiet = true ∧ codeAny (model prog w) A c' R s') (fun e s' => R (.error e) s') s := by
  have hSI : S ≠ s.heap.objs.size := Nat.ne_of_lt (Heap.lt_size hS)
  have hSf : S ∉ [s.heap.objs.size] := fun hm => hSI (List.mem_singleton.mp hm)
  unfold Builtin.List.listExtendWith
  refine wpAny_bind (wpAny_typeOf (T := "bytes") (v := .bytes b t) rfl ?_)
  have h1 : Builtin.List.listSameRef (.ref S) (.bytes b t) = false := rfl
  have h2 : (Value.type "bytes" == Value.type "list") = false := by decide
  have h3 : (Value.type "bytes" == Value.type "tuple") = false := by decide
  simp only [h1, h2, h3, Bool.or_false, Bool.false_eq_true, if_false]
  refine wpAny_bind (KBw.pyIter_bytes ?_)
  refine wpAny_bind (wpAny_holding ?_)
  unfold Builtin.List.listLengthHint
  refine wpAny_bind (wpAny_specialOf (T := "bytes") (v := .bytes b t) rfl bytes_len_look ?_)
  wp_delta
  refine wpAny_bind (wpAny_isInstance (T := "bytes") (v := .bytes b t) (b := true) rfl (by rw [isSubtype_type]; kernel_rfl) ?_)
  show wpAny _ _ (typeOf (Value.bytes b t) >>= _) _ _ _
  refine wpAny_bind (wpAny_typeOf (T := "bytes") (v := .bytes b t) rfl ?_)
  refine wpAny_pure ?_
  rw [if_neg (by decide)]
  refine wpAny_pure ⟨plainId_quiet F.plain_extend_loop _, codeAny_extend_loopS (KBw.walks (A := A.in1) hh s.heap.objs.size b t).toS hn _ hSf _ b.size 0 _ _ _ rfl (Nat.zero_le _) ⟨_, Heap.get?_push_size _ rfl, rfl, rfl⟩ (Heap.get?_push_of_some _ hS) (ItemsOf.nil _) fun s' acc' c' hm hS' hacc => ?_⟩
  rw [Moved.eq_with hm]
  refine hR s'.heap s'.toks acc' c' (fun a ob hb e => hm.heap a ob (fun hmem => ?_) (Heap.get?_push_of_some _ e)) hS' ?_
  · rcases List.mem_cons.mp hmem with e' | hmem
    · exact hb e'
    · exact absurd (Heap.lt_size e) (by rw [List.mem_singleton.mp hmem]; exact Nat.lt_irrefl _)
  · have h := ints_of_items b acc'.toList 0 (by rw [Array.length_toList, Nat.add_zero]; exact hacc.1) fun j v hj => by
      rw [Nat.zero_add]
      exact hacc.2 j v (by rw [← hj, Array.getElem?_toList])
    simpa using h
theorem init_bytes {R : Result → Shared → Prop} (hh : A.handled = none) (b : Array UInt8) (t : Tok) (S : Addr) (hS : s.heap.get? S = some { cls := .type "list", data := .seq #[] })
    (hR : ∀ h' tk acc' c', (∀ a o, a ≠ S → s.heap.get? a = some o → h'.get? a = some o) → h'.get? S = some { cls := .type "list", dict := none, data := .seq acc' c', slots := #[] } →
      IntsAre acc'.toList (KBw.bInts b) → R (.ok (.ret .none)) { s with heap := h', toks := tk }) (hn : b.size ≤ sizeLine) :
    wpAny (model prog w) A.in1 (Builtin.«list.__init__» ⟨[.ref S, .bytes b t], []⟩)
      (fun fin s' => match fin with | .done f => R (.ok f) s' | .again c' => c'.quiet = true ∧ codeAny (model prog w) A c' R s') (fun e s' => R (.error e) s') s := by
  show wpAny _ _ (do let old ← Builtin.List.listItems (.ref S); Builtin.List.listUpdate (.ref S) (fun _ => #[]); letGo old.toList.reverse; Builtin.List.listExtendWith (.ref S) (.bytes b t) .none) _ _ s
  refine wpAny_bind ?_
  unfold Builtin.List.listItems
  refine wpAny_bind (wpAny_seqItems hS rfl (wpAny_pure ?_))
  show wpAny _ _ (updateSeq S (fun _ => #[]) >>= fun _ => letGo (#[] : Array Value).toList.reverse >>= fun _ => Builtin.List.listExtendWith (.ref S) (.bytes b t) .none) _ _ s
  refine wpAny_bind (wpAny_updateSeq hS rfl ?_)
  have hS₂ := Heap.get?_update_self (Obj.mapSeq (fun _ => (#[] : Array Value))) hS rfl
  have oth : ∀ a o, a ≠ S → s.heap.get? a = some o → (s.heap.update S (Obj.mapSeq (fun _ => (#[] : Array Value)))).get? a = some o :=
    fun a o hb e => (Heap.get?_update_other _ _ (Ne.symm hb)).trans e
  refine wpAny_bind (wpAny_letGo ?_)
  refine extend_bytes hh b t S .none _ hS₂ (fun h' tk acc' c' hk hS' hacc => ?_) hn
  exact hR h' tk acc' c' (fun a o hb e => hk a o hb (oth a o hb e)) hS' hacc
theorem call_list_bytes {Q : Value → Shared → Prop} (hh : A.handled = none) (b : Array UInt8) (t : Tok)
    (hQ : ∀ h' tk acc' c', (∀ a o, s.heap.get? a = some o → h'.get? a = some o) →
      h'.get? s.heap.objs.size = some { cls := .type "list", dict := none, data := .seq acc' c', slots := #[] } → IntsAre acc'.toList (KBw.bInts b) → Q (.ref s.heap.objs.size) { s with heap := h', toks := tk }) (hn : b.size ≤ sizeLine) :
    wpAny (model prog w) A (call (.type "list") [.bytes b t]) Q E s := by
  refine callType_codes (Q₁ := fun obj s₁ => obj = .ref s.heap.objs.size ∧ s₁ = { s with heap := s.heap.push { cls := .type "list", data := .seq #[] } }) F.called_list (F.typeCall_list_1 _) F.entry_list_init
    (code_list_new _ ⟨rfl, rfl⟩) fun obj s₁ h₁ => ?_
  obtain ⟨rfl, rfl⟩ := h₁
  have hS : (s.heap.push { cls := .type "list", data := .seq #[] }).get? s.heap.objs.size = some { cls := .type "list", data := .seq #[] } := Heap.get?_push_size _ rfl
  refine ⟨⟨_, hS, rfl⟩, F.args_list_init_2 _ _, init_bytes (A := A.in1) hh b t _ hS (fun h' tk acc' c' hk hS' hacc => ?_) hn⟩
  exact ⟨rfl, hQ h' tk acc' c' (fun a o e => hk a o (Nat.ne_of_lt (Heap.lt_size e)) (Heap.get?_push_of_some _ e)) hS' hacc⟩
variable {h₀ : Heap} {L : Addr} {m : Str → Option Value} {news : List (Addr × Obj)}
theorem list_bytes_K {b : Array UInt8} {t : Tok} {ks : List Int} {Q : Value → Shared → Prop} (hh : A.handled = none) (F : Fr h₀ L s.heap m) (N : News h₀ L s.heap news) (hk : KBw.bInts b = ks) (hn : ks.length ≤ 16777216)
    (h : ∀ D us c h' tk, Fr h₀ L h' m → News h₀ L h' ((D, PySem.W.listOf (List.toArray us) c) :: news) → (∀ p ∈ news, p.1 < D) → IntsAre us ks → Q (.ref D) { s with heap := h', toks := tk }) : wpAny (model prog w) A (call (.type "list") [.bytes b t]) Q E s := by
  subst hk
  rw [KBw.ints_length] at hn
  refine call_list_bytes hh b t (fun h' tk acc c hk hD hI => ?_) (by rw [sizeLine_eq]; exact hn)
  have hD' : h'.get? s.heap.objs.size = some (PySem.W.listOf (List.toArray acc.toList) c) := by
    rw [Array.toArray_toList]
    exact hD
  exact h _ acc.toList c h' tk (F.keeps hk) (news_pushed F N hk hD' rfl) (fun p hp => Heap.lt_size (N p hp).1) hI
end
end
section
open PySem.Calls PySem.Spec PyProof.Rows.LCg
section
variable {prog : Program} {w : World} {A : Around} {E : Value → Shared → Prop} {s : Shared} {h₀ : Heap} {L : Addr} {m : Str → Option Value} {env : Env}
/-- the loop of a list comprehension with any target and no test -/
theorem comp_loop {elt target iter : PySem.Expr} {scope : Scope} {pos : Pos} {it acc : Value} {env : Env} {R : Result → Shared → Prop} (I : Nat → Shared → Prop)
    (turn : ∀ n s, I n s → wpAny (model prog w) A (pyNext it) (fun r s₁ => match r with
      | none => R (.ok .next) s₁
      | some v => wpAny (model prog w) A (letOwnedTupleGo target it v) (fun _ s₀ => wpAny (model prog w) A (assign target env v) (fun _ s₂ => wpAny (model prog w) A (eval elt env) (fun x s₃ =>
          wpAny (model prog w) A (call (.builtin "list.append") [acc, x]) (fun _ s₄ => ∃ m, m < n ∧ I m s₄) (notedBy (model prog w) A env fun e s' => R (.error e) s') s₃)
          (notedBy (model prog w) A env fun e s' => R (.error e) s') s₂) (notedBy (model prog w) A env fun e s' => R (.error e) s') s₀) (notedBy (model prog w) A env fun e s' => R (.error e) s') s₁) (notedBy (model prog w) A env fun e s' => R (.error e) s') s)
    (n : Nat) (h : I n s) : codeAny (model prog w) A (.compLoop (.ListComp elt [⟨target, iter, [], 0⟩] scope pos) 0 it acc env) R s := by
  refine codeAny_loop rfl I (fun n s hI => ?_) n h
  show wpAny _ _ ((compTurn (.ListComp elt [⟨target, iter, [], 0⟩] scope pos) 0 it acc env).onRaise (fun x => do noteFrame x env; theTreesLotGoes x)) _ _ s
  refine wpAny_noted ?_
  rw [compTurn_list1]
  refine wpAny_bind (wpAny_standAt (wpAny_bind (wpAny_mono (turn n s hI) (fun r s₁ h₁ => ?_) fun _ _ e => e)))
  match r, h₁ with
  | none, h₁ => exact wpAny_pure h₁
  | some v, h₁ =>
    refine wpAny_bind (wpAny_mono h₁ (fun _ s₀ g₀ => ?_) fun _ _ e => e)
    refine wpAny_bind (wpAny_mono g₀ (fun _ s₂ g₂ => ?_) fun _ _ e => e)
    refine wpAny_bind (wpAny_bind (wpAny_mono g₂ (fun x s₃ g₃ => ?_) fun _ _ e => e))
    exact wpAny_bind (wpAny_mono g₃ (fun _ s₄ g₄ => wpAny_pure (wpAny_pure ⟨rfl, g₄⟩)) fun _ _ e => e)

/-- what an iterator I and a target do in n turns: Pm i is what the block's names hold in turn i -/
structure CSrc (prog : Program) (w : World) (A : Around) (env : Env) (scope : Scope) (cl : List (Str × Addr)) (target : PySem.Expr) (I : Addr) (fp wr : List Addr) (n : Nat) (St : Nat → Heap → Prop) (Pm : Nat → (Str → Option Value) → Prop) : Prop where
  frame : ∀ i h h', St i h → (∀ b ∈ fp, ∀ o, h.get? b = some o → h'.get? b = some o) → St i h'
  has : ∀ i h, St i h → ∀ b ∈ fp, ∃ o, h.get? b = some o
  sub : ∀ b ∈ wr, b ∈ fp
  turn : ∀ i (s : Shared) C cm (R₀ : Shared → Prop) (Q : Unit → Shared → Prop) E, i < n → St i s.heap → C ∉ fp → s.heap.Ns C cm →
    (∀ h' tk cm', St (i + 1) h' → h'.Ns C cm' → Pm i cm' → (∀ b o, b ∉ wr → b ≠ C → s.heap.get? b = some o → h'.get? b = some o) → Q () { s with heap := h', toks := tk }) →
    wpAny (model prog w) A (pyNext (.ref I)) (fun r s₁ => match r with
      | none => R₀ s₁
      | some v => wpAny (model prog w) A (letOwnedTupleGo target (.ref I) v) (fun _ s₂ => wpAny (model prog w) A (assign target (compEnvC scope cl C env) v) Q E s₂) E s₁) E s
  done : ∀ (s : Shared) (Q : Option Value → Shared → Prop) (E : Value → Shared → Prop), St n s.heap →
    (∀ h' tk, (∀ b o, b ∉ wr → s.heap.get? b = some o → h'.get? b = some o) → Q none { s with heap := h', toks := tk }) → wpAny (model prog w) A (pyNext (.ref I)) Q E s
  self : ∀ i (s : Shared) (Q : Value → Shared → Prop) (E : Value → Shared → Prop), St i s.heap → Q (.ref I) s → wpAny (model prog w) A (pyIter (.ref I)) Q E s

/-- the turn of the block: what it tells is the int r, nothing else is changed -/
def CTurn (prog : Program) (w : World) (A : Around) (h₀ : Heap) (L : Addr) (m : Str → Option Value) (env : Env) (elt : PySem.Expr) (scope : Scope) (cl : List (Str × Addr)) (s : Shared) (Pm : (Str → Option Value) → Prop) (news : List (Addr × Obj)) (r : Int) : Prop :=
  ∀ own I oI C oC D cm ys h tk (E' : Value → Shared → Prop), NsObj oC cm → Pm cm → Fr h₀ L h m → News h₀ L h ((I, oI) :: (C, oC) :: (D, lst ys) :: (news ++ own)) → Off3 I C D (news ++ own) → ((@Ne Nat I C) ∧ (@Ne Nat I D) ∧ (@Ne Nat C D)) →
    wpAny (model prog w) A (eval elt (compEnvC scope cl C env)) (CompEnd h₀ L m { s with heap := h, toks := tk } I oI C oC D (lst ys) (fun _ => True) (fun y news' => KCfEl (news ++ own) r y news')) E' { s with heap := h, toks := tk }

theorem own_of {h : Heap} : ∀ {fr : List Addr}, (∀ b ∈ fr, ∃ o, h.get? b = some o) → ∃ own : List (Addr × Obj), (∀ b ∈ fr, ∃ o, (b, o) ∈ own) ∧ ∀ p ∈ own, p.1 ∈ fr ∧ h.get? p.1 = some p.2
  | [], _ => ⟨[], (fun _ h => nomatch h), (fun _ h => nomatch h)⟩
  | b :: r, x => by
    obtain ⟨o, ho⟩ := x b (.head _)
    obtain ⟨own, h1, h2⟩ := own_of (fr := r) fun c hc => x c (.tail _ hc)
    refine ⟨(b, o) :: own, fun c hc => ?_, fun p hp => ?_⟩
    · rcases List.mem_cons.mp hc with rfl | hc
      · exact ⟨o, .head _⟩
      · obtain ⟨o', h'⟩ := h1 c hc
        exact ⟨o', .tail _ h'⟩
    · rcases List.mem_cons.mp hp with rfl | hp
      · exact ⟨.head _, ho⟩
      · exact ⟨.tail _ (h2 p hp).1, (h2 p hp).2⟩
theorem off3_app {I C D : Addr} {a b : List (Addr × Obj)} (ha : Off3 I C D a) (hb : Off3 I C D b) : Off3 I C D (a ++ b) :=
  Off3.of fun p hp => (List.mem_append.mp hp).elim (fun h => ha.mem p h) fun h => hb.mem p h

theorem block_C {elt target iter : PySem.Expr} {scope : Scope} {cl : List (Str × Addr)} {pos : Pos} {s₂ : Shared} {I : Addr} {fp wr fr : List Addr} {n : Nat} {St : Nat → Heap → Prop} {Pm : Nat → (Str → Option Value) → Prop} {news : List (Addr × Obj)} {out : List Int}
    {RR : Value → Addr → Result → Shared → Prop} (W : CSrc prog w A env scope cl target I fp wr n St Pm) (hsz : n ≤ sizeLine) (hI : I ∈ fp)
    (hcell : ∀ y ∈ scope.names, y.2 ≠ .cell) (hkind : scope.kind = .function) (hst : St 0 s₂.heap) (F : Fr h₀ L s₂.heap m) (N : News h₀ L s₂.heap news)
    (hfp : ∀ b ∈ fp, b = I ∨ b ∈ fr ∨ ∃ o, (b, o) ∈ news) (hfr : ∀ b ∈ fr, b ∈ fp ∧ b ≠ L ∧ b ≠ I ∧ h₀.get? b = none) (hIL : L ≠ I) (hI₀ : h₀.get? I = none) (off : ∀ p ∈ news, p.1 ∉ wr) (offI : ∀ p ∈ news, p.1 ≠ I) (hwr : ∀ b ∈ wr, b ≠ L ∧ h₀.get? b = none)
    (ho : out.length = n) (T : ∀ i r, out[i]? = some r → CTurn prog w A h₀ L m env elt scope cl s₂ (Pm i) news r)
    (hRR : ∀ D C h tk cm ys, Fr h₀ L h m → News h₀ L h ((D, lst ys) :: news) → Off1 D news → h.Ns C cm → h₀.get? C = none → h₀.get? D = none → C ≠ L → D ≠ L → C ≠ D → (∀ p ∈ news, p.1 ≠ C) → IntsAre ys out → RR (.ref D) C (.ok .next) { s₂ with heap := h, toks := tk }) :
    wpAny (model prog w) A (newList []) (fun acc s₃ => wpAny (model prog w) A (newFunctionEnv scope env.globals cl [] env.qual none .none (some env)) (fun cenv s₄ =>
      codeAny (model prog w) A (.compStart (.ListComp elt [⟨target, iter, [], 0⟩] scope pos) 0 (.ref I) acc { cenv with scope := relabel scope env }) (RR acc cenv.locals) s₄) E s₃) E s₂ := by
  refine wpAny_newObj_type (wpAny_newFunctionEnv hcell (by intro y hy; simp at hy) (fun h₁ hns₁ hsb₁ => ?_) hkind)
  dsimp only at hns₁ hsb₁ ⊢
  generalize hH2 : s₂.heap.push { cls := .type "list", dict := none, data := .seq ([] : List Value).toArray } = H2 at hns₁ hsb₁ ⊢
  have hC : H2.objs.size = s₂.heap.objs.size + 1 := by rw [← hH2, Heap.size_push]
  have lt : ∀ b o, s₂.heap.get? b = some o → b ≠ H2.objs.size ∧ b ≠ s₂.heap.objs.size := fun b o e => by
    have := Heap.lt_size e
    rw [hC]
    exact ⟨Nat.ne_of_lt (Nat.lt_succ_of_lt this), Nat.ne_of_lt this⟩
  have hDC : s₂.heap.objs.size ≠ H2.objs.size := by rw [hC]; exact Nat.ne_of_lt (Nat.lt_succ_self _)
  have hCf : H2.objs.size ∉ fp := fun hm => by obtain ⟨o, e⟩ := W.has 0 _ hst _ hm; exact (lt _ o e).1 rfl
  have hDf : s₂.heap.objs.size ∉ fp := fun hm => by obtain ⟨o, e⟩ := W.has 0 _ hst _ hm; exact (lt _ o e).2 rfl
  have old : ∀ b o, s₂.heap.get? b = some o → h₁.get? b = some o := fun b o e => hsb₁.extBut b o (lt b o e).1 (Heap.get?_push_of_some _ (hH2 ▸ Heap.get?_push_of_some _ e))
  have hacc : h₁.get? s₂.heap.objs.size = some (lst []) := hsb₁.extBut _ _ hDC (Heap.get?_push_of_some _ (hH2 ▸ Heap.get?_push_size _ rfl))
  have fresh₀ : ∀ a, s₂.heap.objs.size ≤ a → h₀.get? a = none := fun a ha => by
    cases e : h₀.get? a with
    | none => rfl
    | some o' => exact absurd (Heap.lt_size (F.keep a o' e)) (Nat.not_lt.mpr ha)
  have hD₀ : h₀.get? s₂.heap.objs.size = none := fresh₀ _ (Nat.le_refl _)
  have hC₀ : h₀.get? H2.objs.size = none := fresh₀ _ (by rw [hC]; exact Nat.le_succ _)
  have hLlt : L < s₂.heap.objs.size := F.ns.lt
  have hDL : s₂.heap.objs.size ≠ L := Ne.symm (Nat.ne_of_lt hLlt)
  have hCL : H2.objs.size ≠ L := by rw [hC]; exact Ne.symm (Nat.ne_of_lt (Nat.lt_succ_of_lt hLlt))
  have hIC : I ≠ H2.objs.size := fun e => hCf (e ▸ hI)
  have hID : I ≠ s₂.heap.objs.size := fun e => hDf (e ▸ hI)
  have offN : Off3 I H2.objs.size s₂.heap.objs.size news := Off3.of fun p hp => ⟨offI p hp, (lt _ _ (N p hp).1).1, (lt _ _ (N p hp).1).2⟩
  have loop : ∀ s₃ : Shared, s₃ = { s₂ with heap := h₁, toks := s₂.toks + ([] : List (Str × Value)).length } →
      codeAny (model prog w) A (.compLoop (.ListComp elt [⟨target, iter, [], 0⟩] scope pos) 0 (.ref I) (.ref s₂.heap.objs.size) (compEnvC scope cl H2.objs.size env)) (RR (.ref s₂.heap.objs.size) H2.objs.size) s₃ := by
    rintro s₃ rfl
    refine comp_loop (fun k s' => ∃ h' tk i ys cm, s' = { s₂ with heap := h', toks := tk } ∧ i ≤ n ∧ k = n + 1 - i ∧ St i h' ∧ Fr h₀ L h' m ∧ h'.Ns H2.objs.size cm ∧ News h₀ L h' ((s₂.heap.objs.size, lst ys) :: news) ∧ IntsAre ys (out.take i)) ?_ (n + 1)
      ⟨h₁, _, 0, [], _, rfl, Nat.zero_le _, rfl, W.frame _ _ _ hst fun b _ o e => old b o e, F.keeps old, hns₁, fun p hp => ?_, by rw [List.take_zero]; exact .nil⟩
    · rintro k s' ⟨h', tk, i, ys, cm, rfl, hi, rfl, hst', F', hn', N', hys⟩
      by_cases hlt : i < n
      · have hout : out[i]? = some out[i] := List.getElem?_eq_getElem (by omega)
        refine W.turn i _ H2.objs.size cm _ _ _ hlt hst' hCf hn' fun h₃ tk₃ cm₃ hst₃ hn₃ hPm hk₃ => ?_
        have offD : s₂.heap.objs.size ∉ wr := fun hm => hDf (W.sub _ hm)
        have F₃ : Fr h₀ L h₃ m := ⟨F'.ns.at' fun o e => hk₃ L o (fun hm => (hwr _ hm).1 rfl) (Ne.symm hCL) e, fun b o e => hk₃ b o (fun hm => by rw [(hwr _ hm).2] at e; cases e) (fun q => by rw [q, hC₀] at e; cases e) (F'.keep b o e), F'.above⟩
        have N₃ : News h₀ L h₃ ((s₂.heap.objs.size, lst ys) :: news) := fun p hp => by
          refine ⟨hk₃ _ _ ?_ ?_ (N' p hp).1, (N' p hp).2⟩
          · rcases List.mem_cons.mp hp with rfl | hp
            · exact offD
            · exact off p hp
          · rcases List.mem_cons.mp hp with rfl | hp
            · exact hDC
            · exact (lt _ _ (N p hp).1).1
        obtain ⟨oI, heI⟩ := W.has _ _ hst₃ I hI
        obtain ⟨oC, heC, hoC⟩ := ns_obj hn₃
        obtain ⟨own, hw1, hw2⟩ := own_of (fr := fr) (h := h₃) fun b hb => W.has _ _ hst₃ b (hfr b hb).1
        have offO : Off3 I H2.objs.size s₂.heap.objs.size own := Off3.of fun p hp => ⟨(hfr _ (hw2 p hp).1).2.2.1, fun e => hCf (e ▸ (hfr _ (hw2 p hp).1).1), fun e => hDf (e ▸ (hfr _ (hw2 p hp).1).1)⟩
        have NN : News h₀ L h₃ ((I, oI) :: (H2.objs.size, oC) :: (s₂.heap.objs.size, lst ys) :: (news ++ own)) := fun p hp => by
          rcases List.mem_cons.mp hp with rfl | hp
          · exact ⟨heI, Ne.symm hIL, hI₀⟩
          · rcases List.mem_cons.mp hp with rfl | hp
            · exact ⟨heC, hCL, hC₀⟩
            · rcases List.mem_cons.mp hp with rfl | hp
              · exact N₃ _ (.head _)
              · rcases List.mem_append.mp hp with hp | hp
                · exact N₃ _ (.tail _ hp)
                · exact ⟨(hw2 p hp).2, (hfr _ (hw2 p hp).1).2.1, (hfr _ (hw2 p hp).1).2.2.2⟩
        refine wpAny_mono (T i out[i] hout own I oI H2.objs.size oC s₂.heap.objs.size cm₃ ys h₃ tk₃ _ hoC hPm F₃ NN (off3_app offN offO) ⟨hIC, hID, Ne.symm hDC⟩) (fun y s₄ g₄ => ?_) fun _ _ e => e
        obtain ⟨h₄, tk₄, news₄, rfl, F₄, N₄, off₄, _, rfl, ty, rfl⟩ := g₄
        have zI := (N₄ (I, oI) (.head _)).1
        have zC := (N₄ (H2.objs.size, oC) (.tail _ (.head _))).1
        have zD := (N₄ (s₂.heap.objs.size, lst ys) (.tail _ (.tail _ (.head _)))).1
        have N₄' : News h₀ L h₄ (news ++ own) := fun p hp => N₄ p (.tail _ (.tail _ (.tail _ hp)))
        have hst₄ : St (i + 1) h₄ := W.frame _ _ _ hst₃ fun b hb o e => by
          rcases hfp b hb with rfl | hb' | ⟨o', hm⟩
          · rw [heI] at e
            cases e
            exact zI
          · obtain ⟨o', hm⟩ := hw1 b hb'
            rw [(hw2 _ hm).2] at e
            cases e
            exact (N₄' _ (List.mem_append.mpr (.inr hm))).1
          · rw [(N₃ _ (.tail _ hm)).1] at e
            cases e
            exact (N₄' _ (List.mem_append.mpr (.inl hm))).1
        have hyl : ys.length = i := by rw [hys.length, List.length_take]; omega
        refine append_at (hsz := by show ys.toArray.size ≤ sizeLine; rw [List.size_toArray, hyl]; exact Nat.le_trans hi hsz) zD fun h₅ hs₅ hD₅ => ?_
        refine ⟨n + 1 - (i + 1), by omega, h₅, tk₄, i + 1, ys ++ [.int out[i] ty], _, rfl, hlt, rfl, W.frame _ _ _ hst₄ fun b hb o e => hs₅.extBut b o (fun q => hDf (by have q' : b = s₂.heap.objs.size := q; rw [← q']; exact hb)) e, F₄.change hs₅ hDL hD₀,
          (hoC.ns zC).sameBut hs₅ (Ne.symm hDC), fun p hp => ?_, ?_⟩
        · rcases List.mem_cons.mp hp with rfl | hp
          · exact ⟨hD₅.trans (congrArg some (lst_snoc ys _)), hDL, hD₀⟩
          · exact ⟨hs₅.extBut _ _ (lt _ _ (N p hp).1).2 (N₄' p (List.mem_append.mpr (.inl hp))).1, (N p hp).2⟩
        · rw [List.take_add_one, hout]
          exact IntsAre.append hys (.cons _ _ .nil)
      · obtain rfl : i = n := Nat.le_antisymm hi (Nat.not_lt.mp hlt)
        refine W.done _ _ _ hst' fun h₂ tk₂ hk₂ => ?_
        have offD : s₂.heap.objs.size ∉ wr := fun hm => hDf (W.sub _ hm)
        refine hRR _ _ h₂ tk₂ _ ys ⟨F'.ns.at' fun o e => hk₂ L o (fun hm => (hwr _ hm).1 rfl) e, fun b o e => hk₂ b o (fun hm => by rw [(hwr _ hm).2] at e; cases e) (F'.keep b o e), F'.above⟩ (fun p hp => ?_) offN.one (hn'.at' fun o e => hk₂ _ o (fun hm => hCf (W.sub _ hm)) e) hC₀ hD₀ hCL hDL (Ne.symm hDC) (fun p hp => (lt _ _ (N p hp).1).1) ?_
        · refine ⟨hk₂ _ _ ?_ (N' p hp).1, (N' p hp).2⟩
          rcases List.mem_cons.mp hp with rfl | hp
          · exact offD
          · exact off p hp
        · rw [List.take_of_length_le (by omega)] at hys
          exact hys
    · rcases List.mem_cons.mp hp with rfl | hp
      · exact ⟨hacc, hDL, hD₀⟩
      · exact ⟨old _ _ (N p hp).1, (N p hp).2⟩
  have hst₁ : St 0 h₁ := W.frame _ _ _ hst fun b _ o e => old b o e
  exact codeAny_compStart_list (loop _ rfl) (W.self 0 _ _ _ hst₁ (loop _ rfl))

/-- the iterable's value: its iterator, and what its turns do -/
def MSrc (prog : Program) (w : World) (A : Around) (E : Value → Shared → Prop) (h₀ : Heap) (L : Addr) (m : Str → Option Value) (env : Env) (elt target : PySem.Expr) (scope : Scope) (cl : List (Str × Addr)) (Fin : Shared → List Value → List (Addr × Obj) → Prop) (xv : Value) (s₁ : Shared) : Prop :=
  wpAny (model prog w) A (pyIter xv) (fun it s₂ => ∃ (I : Addr) (fp wr fr : List Addr) (n : Nat) (St : Nat → Heap → Prop) (Pm : Nat → (Str → Option Value) → Prop) (news : List (Addr × Obj)) (out : List Int), it = .ref I ∧ CSrc prog w A env scope cl target I fp wr n St Pm ∧ n ≤ sizeLine ∧ I ∈ fp ∧ St 0 s₂.heap ∧ Fr h₀ L s₂.heap m ∧ News h₀ L s₂.heap news ∧
    (∀ b ∈ fp, b = I ∨ b ∈ fr ∨ ∃ o, (b, o) ∈ news) ∧ (∀ b ∈ fr, b ∈ fp ∧ b ≠ L ∧ b ≠ I ∧ h₀.get? b = none) ∧ L ≠ I ∧ h₀.get? I = none ∧ (∀ p ∈ news, p.1 ∉ wr) ∧ (∀ p ∈ news, p.1 ≠ I) ∧ (∀ b ∈ wr, b ≠ L ∧ h₀.get? b = none) ∧
    out.length = n ∧ (∀ i r, out[i]? = some r → CTurn prog w A h₀ L m env elt scope cl s₂ (Pm i) news r) ∧ ∀ ys, IntsAre ys out → Fin s₂ ys news) E s₁

theorem comp_eval {elt target iter : PySem.Expr} {scope : Scope} {cl : List (Str × Addr)} {pos : Pos} {Q : Value → Shared → Prop} (F₀ : Fr h₀ L s.heap m)
    (hclos : closureFor scope env = pure cl) (hcell : ∀ y ∈ scope.names, y.2 ≠ .cell) (hkind : scope.kind = .function) (hnames : ∀ y ∈ scope.names, y.2 = .local → scope.names.lookup y.1 = some .local)
    (h : wpAny (model prog w) A (eval iter env) (MSrc prog w A E h₀ L m env elt target scope cl (fun s₂ => FinE h₀ L m s₂ Q)) E s)
    (hs : ∀ x, foldedSetIterable iter env x = pure x := by intro _; rfl) :
    wpAny (model prog w) A (eval (.ListComp elt [⟨target, iter, [], 0⟩] scope pos) env) Q E s := by
  rw [eval_ListComp]
  refine wpAny_comprehension_free (use := none) rfl hs hclos hkind hnames (wpAny_mono h (fun xv s₁ h₁ => ?_) fun _ _ e => e)
  refine wpAny_mono h₁ (fun it s₂ h₂ => ?_) fun _ _ e => e
  obtain ⟨I, fp, wr, fr, n, St, Pm, news, out, rfl, W, hsz, hI, hst, F, N, hfp, hfr, hIL, hI₀, off, offI, hwr, ho, T, fin⟩ := h₂
  refine block_C W hsz hI hcell hkind hst F N hfp hfr hIL hI₀ off offI hwr ho T ?_
  intro D C h tk cm ys F' N' o1 hn hC₀ hD₀ hCL hDL hCD offC hys
  refine ⟨cm, hn, fun h'' hs'' => fin ys hys D h'' tk (F'.change hs'' hCL hC₀) (fun p hp => ?_) o1⟩
  refine ⟨hs''.extBut _ _ ?_ (N' p hp).1, (N' p hp).2⟩
  rcases List.mem_cons.mp hp with rfl | hp
  · exact Ne.symm hCD
  · exact offC p hp

theorem comp_assign {elt target iter : PySem.Expr} {y : Str} {py : Pos} {scope : Scope} {cl : List (Str × Addr)} {pos spos : Pos} {Q : Flow → Shared → Prop} (F₀ : Fr h₀ L s.heap m) (hLe : env.locals = L)
    (hsw : swapsWith (.ListComp elt [⟨target, iter, [], 0⟩] scope pos) (some (.Name y py)) spos.line env = pure true)
    (hclos : closureFor scope env = pure cl) (hcell : ∀ z ∈ scope.names, z.2 ≠ .cell) (hkind : scope.kind = .function) (hnames : ∀ z ∈ scope.names, z.2 = .local → scope.names.lookup z.1 = some .local)
    (hy : env.kindOf y = some .local) (hp : (env.scope.kind == .class || (env.scope.kind == .module && env.locals != env.globals)) = false)
    (h : wpAny (model prog w) A (eval iter env) (MSrc prog w A E h₀ L m env elt target scope cl (fun s₂ => FinA h₀ L m s₂ y Q)) E s)
    (hs : ∀ x, foldedSetIterable iter env x = pure x := by intro _; rfl) :
    wpAny (model prog w) A (exec (.Assign [.Name y py] (.ListComp elt [⟨target, iter, [], 0⟩] scope pos) spos) env) Q E s := by
  subst hLe
  rw [exec_Assign_Name_used _ _ _ _ hsw]
  refine wpAny_bind (wpAny_standAt (wpAny_bind ?_))
  show wpAny _ A (do let _ ← comprehension (.ListComp elt [⟨target, iter, [], 0⟩] scope pos) scope env _ (newList []) false (eval iter env) (some (assign (.Name y py) env))) _ _ s
  refine wpAny_bind (wpAny_mono (wpAny_comprehension_free (use := some (assign (.Name y py) env)) (Q := fun _ s' => Q .next s') rfl hs hclos hkind hnames
    (wpAny_mono h (fun xv s₁ h₁ => ?_) fun _ _ e => e)) (fun _ s' hq => wpAny_pure (wpAny_pure hq)) fun _ _ e => e)
  refine wpAny_mono h₁ (fun it s₂ h₂ => ?_) fun _ _ e => e
  obtain ⟨I, fp, wr, fr, n, St, Pm, news, out, rfl, W, hsz, hI, hst, F, N, hfp, hfr, hIL, hI₀, off, offI, hwr, ho, T, fin⟩ := h₂
  refine block_C W hsz hI hcell hkind hst F N hfp hfr hIL hI₀ off offI hwr ho T ?_
  intro D C h' tk cm ys F' N' o1 hn hC₀ hD₀ hCL hDL hCD offC hys
  show wpAny _ A (assign (.Name y py) env (.ref D)) _ _ _
  refine wpAny_assign_Name (wpAny_storeName_local hy F'.ns (fun h₂ hn₂ hs₂ => ?_) hp)
  have hL₀ : h₀.get? env.locals = none := Heap.get?_none_of_le F'.above
  have F₂ : Fr h₀ env.locals h₂ (fun z => if z = y then some (.ref D) else m z) := ⟨hn₂, fun b o e => hs₂.extBut b o (fun q => by rw [q, hL₀] at e; cases e) (F'.keep b o e), F'.above⟩
  refine ⟨cm, hn.sameBut hs₂ hCL, fun h'' hs'' => fin ys hys D h'' _ (F₂.change hs'' hCL hC₀) (fun p hp => ?_) o1⟩
  have z : h₂.get? p.1 = some p.2 := hs₂.extBut _ _ (N' p hp).2.1 (N' p hp).1
  refine ⟨hs''.extBut _ _ ?_ z, (N' p hp).2⟩
  rcases List.mem_cons.mp hp with rfl | hp
  · exact Ne.symm hCD
  · exact offC p hp
end
end
section
open PySem.Calls PySem.Spec PyProof.Rows.LCg
section
variable {prog : Program} {w : World} {A : Around} {E : Value → Shared → Prop} {s : Shared} {h₀ : Heap} {L : Addr} {m : Str → Option Value} {env : Env} {scope : Scope} {cl : List (Str × Addr)}
theorem csrc_name {x : Str} {px : Pos} {I : Addr} {fp : List Addr} {n : Nat} {P : Nat → Value → Prop} {St : Nat → Heap → Prop} (W : Walks prog w A I fp [I] n P St) (hkind : scope.kind = .function) (hx : scope.names.lookup x = some .local)
    (hhas : ∀ i h, St i h → ∀ b ∈ fp, ∃ o, h.get? b = some o) : CSrc prog w A env scope cl (.Name x px) I fp [I] n St (fun i cm => ∃ v, P i v ∧ cm x = some v) where
  frame := W.frame
  has := hhas
  sub := W.sub
  done := W.done
  self := W.self
  turn := fun i s C cm R₀ Q E hi hst hC hn hQ => by
    have hCI : C ≠ I := fun e => hC (e ▸ W.sub I (List.mem_singleton.mpr rfl))
    refine W.item i s _ _ hi hst fun v h₁ tk₁ hP hst₁ hk₁ => ?_
    refine wpAny_pure ?_
    refine wpAny_assign_Name (wpAny_storeName_local (lookup_relabel_local hx) (hn.at' fun o e => hk₁ _ o (by simpa using hCI) e) (fun h₂ hn₂ hs₂ => ?_) (by simp [compEnvC, relabel, hkind]))
    exact hQ h₂ _ _ (W.frame _ _ _ hst₁ fun b hb o e => hs₂.extBut b o (fun q => hC (by have q' : b = C := q; rw [← q']; exact hb)) e) hn₂ ⟨v, hP, by simp⟩ fun b o hb hbC e => hs₂.extBut b o hbC (hk₁ b o hb e)
theorem csrc_pair {x y : Str} {px py tp : Pos} {tk : Nat} {I : Addr} {fp wr : List Addr} {n : Nat} {Pt : Nat → Array Value → Prop} {St : Nat → Heap → Prop} {Mid : Nat → Addr → Heap → Prop} (W : WalksU prog w A I fp wr n Pt St Mid) (hh : A.handled = none) (hkind : scope.kind = .function)
    (hx : scope.names.lookup x = some .local) (hy : scope.names.lookup y = some .local) (hxy : x ≠ y) (hhas : ∀ i h, St i h → ∀ b ∈ fp, ∃ o, h.get? b = some o) (hPt : ∀ i vals, Pt i vals → ∃ v₁ v₂, vals = #[v₁, v₂]) :
    CSrc prog w A env scope cl (.Tuple [.Name x px, .Name y py] tk tp) I fp wr n St (fun i cm => ∃ v₁ v₂, Pt i #[v₁, v₂] ∧ cm x = some v₁ ∧ cm y = some v₂) where
  frame := W.frame
  has := hhas
  sub := W.sub
  done := W.done
  self := W.self
  turn := fun i s C cm R₀ Q E hi hst hC hn hQ => by
    have hCw : C ∉ wr := fun e => hC (W.sub _ e)
    refine W.item i s _ _ hi hst fun T vals h₁ tk₁ hP hT hm hk₁ => ?_
    obtain ⟨v₁, v₂, rfl⟩ := hPt _ _ hP
    refine W.go _ _ _ i T _ _ _ hm fun h₂ hst₂ hk₂ => ?_
    have hT₂ : IsTup h₂ T #[v₁, v₂] := by obtain ⟨o, e, r⟩ := hT; exact ⟨o, hk₂ _ _ (W.apart _ _ _ hm) e, r⟩
    refine assign_Tuple_tuple hh hT₂ rfl rfl fun h₃ he₃ => ?_
    have keep₃ : ∀ b o, h₂.get? b = some o → h₃.get? b = some o := fun b o e => he₃ b o (Nat.ne_of_lt (Heap.lt_size e)) e
    have hn₃ : h₃.Ns C cm := ((hn.at' fun o e => hk₁ _ o hCw e).at' fun o e => hk₂ _ o hCw e).at' fun o e => keep₃ _ o e
    refine assignInOrder_cons (wpAny_assign_Name (wpAny_storeName_local (lookup_relabel_local hx) hn₃ (fun h₄ hn₄ hs₄ => ?_) (by simp [compEnvC, relabel, hkind])))
    refine assignInOrder_cons (wpAny_assign_Name (wpAny_storeName_local (lookup_relabel_local hy) hn₄ (fun h₅ hn₅ hs₅ => ?_) (by simp [compEnvC, relabel, hkind])))
    refine assignInOrder_nil ?_
    have keep₅ : ∀ b o, b ≠ C → h₂.get? b = some o → h₅.get? b = some o := fun b o hb e => hs₅.extBut b o hb (hs₄.extBut b o hb (keep₃ b o e))
    exact hQ h₅ _ _ (W.frame _ _ _ hst₂ fun b hb o e => keep₅ b o (fun q => hC (by have q' : b = C := q; rw [← q']; exact hb)) e) hn₅ ⟨v₁, v₂, hP, by simp [hxy], by simp⟩ fun b o hb hbC e => keep₅ b o hbC (hk₂ b o hb (hk₁ b o hb e))

/-- the block's turns over ints -/
def CRest (prog : Program) (w : World) (A : Around) (h₀ : Heap) (L : Addr) (m : Str → Option Value) (env : Env) (elt : PySem.Expr) (x : Str) (scope : Scope) (cl : List (Str × Addr)) (Fin : Shared → List Value → List (Addr × Obj) → Prop) (s : Shared) (ks : List Int) (news : List (Addr × Obj)) : Prop :=
  ∃ g : Int → Int, (∀ k t, k ∈ ks → CTurn prog w A h₀ L m env elt scope cl s (fun cm => cm x = some (.int k t)) news (g k)) ∧ ∀ ys, IntsAre ys (ks.map g) → Fin s ys news
theorem CRest.of {elt : PySem.Expr} {x : Str} {Fin : Shared → List Value → List (Addr × Obj) → Prop} {ks : List Int} {news : List (Addr × Obj)} (g : Int → Int) (lo hi : Int) (hb : ∀ k ∈ ks, lo ≤ k ∧ k < hi)
    (turn : ∀ k t own I oI C oC D cm ys h tk (E' : Value → Shared → Prop), lo ≤ k → k < hi → NsObj oC cm → cm x = some (.int k t) → Fr h₀ L h m → News h₀ L h ((I, oI) :: (C, oC) :: (D, lst ys) :: (news ++ own)) → Off3 I C D (news ++ own) → ((@Ne Nat I C) ∧ (@Ne Nat I D) ∧ (@Ne Nat C D)) → KPfMark →
      wpAny (model prog w) A (eval elt (compEnvC scope cl C env)) (CompEnd h₀ L m { s with heap := h, toks := tk } I oI C oC D (lst ys) (fun _ => True) (fun y news' => KCfEl (news ++ own) (g k) y news')) E' { s with heap := h, toks := tk })
    (fin : KPfDone (∀ ys, IntsAre ys (ks.map g) → Fin s ys news)) : CRest prog w A h₀ L m env elt x scope cl Fin s ks news :=
  ⟨g, fun k t hk own I oI C oC D cm ys h tk E' hC hx F N off ne => turn k t own I oI C oC D cm ys h tk E' (hb k hk).1 (hb k hk).2 hC hx F N off ne True.intro, fin⟩
def CRest2 (prog : Program) (w : World) (A : Around) (h₀ : Heap) (L : Addr) (m : Str → Option Value) (env : Env) (elt : PySem.Expr) (x y : Str) (scope : Scope) (cl : List (Str × Addr)) (Fin : Shared → List Value → List (Addr × Obj) → Prop) (s : Shared) (ks js : List Int) (news : List (Addr × Obj)) : Prop :=
  ∃ g : Int → Int → Int, (∀ k t j u, k ∈ ks → j ∈ js → CTurn prog w A h₀ L m env elt scope cl s (fun cm => cm x = some (.int k t) ∧ cm y = some (.int j u)) news (g k j)) ∧ ∀ ys, IntsAre ys (List.zipWith g ks js) → Fin s ys news
theorem CRest2.of {elt : PySem.Expr} {x y : Str} {Fin : Shared → List Value → List (Addr × Obj) → Prop} {ks js : List Int} {news : List (Addr × Obj)} (g : Int → Int → Int)
    (turn : ∀ k t j u own I oI C oC D cm ys h tk (E' : Value → Shared → Prop), k ∈ ks → j ∈ js → NsObj oC cm → cm x = some (.int k t) → cm y = some (.int j u) → Fr h₀ L h m → News h₀ L h ((I, oI) :: (C, oC) :: (D, lst ys) :: (news ++ own)) → Off3 I C D (news ++ own) → ((@Ne Nat I C) ∧ (@Ne Nat I D) ∧ (@Ne Nat C D)) → KPfMark →
      wpAny (model prog w) A (eval elt (compEnvC scope cl C env)) (CompEnd h₀ L m { s with heap := h, toks := tk } I oI C oC D (lst ys) (fun _ => True) (fun z news' => KCfEl (news ++ own) (g k j) z news')) E' { s with heap := h, toks := tk })
    (fin : KPfDone (∀ ys, IntsAre ys (List.zipWith g ks js) → Fin s ys news)) : CRest2 prog w A h₀ L m env elt x y scope cl Fin s ks js news :=
  ⟨g, fun k t j u hk hj own I oI C oC D cm ys h tk E' hC hx F N off ne => turn k t j u own I oI C oC D cm ys h tk E' hk hj hC hx.1 hx.2 F N off ne True.intro, fin⟩

theorem cturn_mono {elt : PySem.Expr} {Pm Pm' : (Str → Option Value) → Prop} {news : List (Addr × Obj)} {r : Int} (T : CTurn prog w A h₀ L m env elt scope cl s Pm news r) (h : ∀ cm, Pm' cm → Pm cm) : CTurn prog w A h₀ L m env elt scope cl s Pm' news r :=
  fun own I oI C oC D cm ys h tk E' hC hp F N off ne => T own I oI C oC D cm ys h tk E' hC (‹∀ cm, Pm' cm → Pm cm› cm hp) F N off ne

variable {elt : PySem.Expr} {x y : Str} {px py tp : Pos} {tkk : Nat} {Fin : Shared → List Value → List (Addr × Obj) → Prop} {news : List (Addr × Obj)}
/-- a name over any walk of one new iterator whose items are ints -/
theorem msrc_walk {I : Addr} {fp : List Addr} {n : Nat} {P : Nat → Value → Prop} {St : Nat → Heap → Prop} {ks : List Int} {s₂ : Shared} (W : Walks prog w A I fp [I] n P St) (hkind : scope.kind = .function) (hx : scope.names.lookup x = some .local)
    (hhas : ∀ i h, St i h → ∀ b ∈ fp, ∃ o, h.get? b = some o) (hsz : n ≤ sizeLine) (hst : St 0 s₂.heap) (F : Fr h₀ L s₂.heap m) (N : News h₀ L s₂.heap news) (hfp : ∀ b ∈ fp, b = I ∨ ∃ o, (b, o) ∈ news) (hIL : L ≠ I) (hI₀ : h₀.get? I = none) (offI : ∀ p ∈ news, p.1 ≠ I)
    (hl : ks.length = n) (hP : ∀ i k, ks[i]? = some k → ∀ v, P i v → ∃ t, v = .int k t) (h : CRest prog w A h₀ L m env elt x scope cl Fin s₂ ks news) :
    ∃ (I' : Addr) (fp wr fr : List Addr) (n : Nat) (St : Nat → Heap → Prop) (Pm : Nat → (Str → Option Value) → Prop) (news : List (Addr × Obj)) (out : List Int), Value.ref I = .ref I' ∧ CSrc prog w A env scope cl (.Name x px) I' fp wr n St Pm ∧ n ≤ sizeLine ∧ I' ∈ fp ∧ St 0 s₂.heap ∧ Fr h₀ L s₂.heap m ∧ News h₀ L s₂.heap news ∧
    (∀ b ∈ fp, b = I' ∨ b ∈ fr ∨ ∃ o, (b, o) ∈ news) ∧ (∀ b ∈ fr, b ∈ fp ∧ b ≠ L ∧ b ≠ I' ∧ h₀.get? b = none) ∧ L ≠ I' ∧ h₀.get? I' = none ∧ (∀ p ∈ news, p.1 ∉ wr) ∧ (∀ p ∈ news, p.1 ≠ I') ∧ (∀ b ∈ wr, b ≠ L ∧ h₀.get? b = none) ∧
    out.length = n ∧ (∀ i r, out[i]? = some r → CTurn prog w A h₀ L m env elt scope cl s₂ (Pm i) news r) ∧ ∀ ys, IntsAre ys out → Fin s₂ ys news := by
  obtain ⟨g, T, fin⟩ := h
  refine ⟨I, fp, [I], [], n, St, _, news, ks.map g, rfl, csrc_name W hkind hx hhas, hsz, W.sub I (List.mem_singleton.mpr rfl), hst, F, N, fun b hb => (hfp b hb).elim .inl fun h => .inr (.inr h), (fun b hb => nomatch hb), hIL, hI₀, fun p hp => by simpa using offI p hp, offI,
    fun b hb => by rw [List.mem_singleton.mp hb]; exact ⟨Ne.symm hIL, hI₀⟩, by rw [List.length_map, hl], fun i r hr => ?_, fin⟩
  rw [List.getElem?_map] at hr
  cases hk : ks[i]? with
  | none => rw [hk] at hr; cases hr
  | some k =>
    rw [hk] at hr
    cases hr
    intro own I oI C oC D cm ys h tk E' hC hp F N off ne
    obtain ⟨v, hv, hx⟩ := hp
    obtain ⟨t, rfl⟩ := hP i k hk v hv
    exact T k t (List.mem_of_getElem? hk) own I oI C oC D cm ys h tk E' hC hx F N off ne
abbrev stepKs (a c : Int) (n : Nat) : List Int := (List.range n).map fun (i : Nat) => a + (i : Int) * c
theorem msrc_range {r : Addr} {a b c : Int} {t u v : Tok} {n : Nat} (hh : A.handled = none) (F : Fr h₀ L s.heap m) (N : News h₀ L s.heap news) (hr : IsRange s.heap r a b c t u v) (hsm : Builtin.Range.small a b c = true) (hn : Builtin.Range.rangeSize a b c = ((n : Nat) : Int)) (hsz : n ≤ sizeLine)
    (hkind : scope.kind = .function) (hx : scope.names.lookup x = some .local) (h : ∀ g, CRest prog w A h₀ L m env elt x scope cl Fin { s with heap := g } (stepKs a c n) news) : MSrc prog w A E h₀ L m env elt (.Name x px) scope cl Fin (.ref r) s := by
  unfold MSrc
  refine wpAny_pyIter_range hr hsm ?_
  refine msrc_walk (ks := stepKs a c n) (Walks.range hh s.heap.objs.size a c n) hkind hx (fun i h st b hb => by rw [List.mem_singleton.mp hb]; exact ⟨_, st⟩) hsz (by show IsRangeIter _ _ _ _ _; rw [hn]; simpa using Heap.get?_push_size _ rfl) (F.push _)
    (fun p hp => ⟨Heap.get?_push_of_some _ (N p hp).1, (N p hp).2⟩) (fun b hb => .inl (List.mem_singleton.mp hb)) (Nat.ne_of_lt F.ns.lt) (next_is_new F) (fun p hp => Nat.ne_of_lt (Heap.lt_size (N p hp).1)) (by simp) ?_ (h _)
  intro i k hk v hv
  obtain ⟨t, rfl⟩ := hv
  rw [List.getElem?_map] at hk
  by_cases hi : i < n
  · rw [List.getElem?_range hi] at hk
    cases hk
    exact ⟨t, rfl⟩
  · rw [List.getElem?_eq_none (by simpa using hi)] at hk
    cases hk
theorem msrc_tuple {ax : Addr} {vs : List Value} {ks : List Int} {o : Obj} {k : Nat} (hh : A.handled = none) (F : Fr h₀ L s.heap m) (N : News h₀ L s.heap news) (hm : (ax, o) ∈ news) (hc : o.cls = .type "tuple") (hd : o.data = .seq vs.toArray k) (hi : IntsAre vs ks) (hsz : vs.toArray.size ≤ sizeLine)
    (hkind : scope.kind = .function) (hx : scope.names.lookup x = some .local) (h : ∀ g, CRest prog w A h₀ L m env elt x scope cl Fin { s with heap := g } ks news) : MSrc prog w A E h₀ L m env elt (.Name x px) scope cl Fin (.ref ax) s := by
  unfold MSrc
  have ht : IsTup s.heap ax vs.toArray := ⟨o, (N _ hm).1, hc, k, hd⟩
  have hlt : ax < s.heap.objs.size := Heap.lt_size (N _ hm).1
  refine iter_tuple ht ?_
  refine msrc_walk (ks := ks) (Walks.tuple hh s.heap.objs.size ax (Nat.ne_of_lt hlt) vs.toArray) hkind hx (fun i h st b hb => ?_) hsz ⟨⟨_, Heap.get?_push_size _ rfl, rfl, rfl⟩, ht.push _⟩ (F.push _)
    (fun p hp => ⟨Heap.get?_push_of_some _ (N p hp).1, (N p hp).2⟩) (fun b hb => ?_) (Nat.ne_of_lt F.ns.lt) (next_is_new F) (fun p hp => Nat.ne_of_lt (Heap.lt_size (N p hp).1)) (by rw [List.size_toArray]; exact hi.length.symm) ?_ (h _)
  · rcases List.mem_cons.mp hb with rfl | hb
    · obtain ⟨o, e, _⟩ := st.1; exact ⟨o, e⟩
    · rw [List.mem_singleton.mp hb]
      obtain ⟨o, e, _⟩ := st.2; exact ⟨o, e⟩
  · rcases List.mem_cons.mp hb with rfl | hb
    · exact .inl rfl
    · rw [List.mem_singleton.mp hb]
      exact .inr ⟨o, hm⟩
  · intro i k hk v hv
    obtain ⟨k', t, e, hk'⟩ := IntsAre.at hi i v (by simpa using hv)
    rw [hk] at hk'
    cases hk'
    exact ⟨t, e⟩
theorem msrc_list {ax : Addr} {vs : List Value} {ks : List Int} {o : Obj} {k : Nat} (hh : A.handled = none) (F : Fr h₀ L s.heap m) (N : News h₀ L s.heap news) (hm : (ax, o) ∈ news) (hc : o.cls = .type "list") (hd : o.data = .seq vs.toArray k) (hi : IntsAre vs ks) (hsz : vs.toArray.size ≤ sizeLine)
    (hkind : scope.kind = .function) (hx : scope.names.lookup x = some .local) (h : ∀ g, CRest prog w A h₀ L m env elt x scope cl Fin { s with heap := g } ks news) : MSrc prog w A E h₀ L m env elt (.Name x px) scope cl Fin (.ref ax) s := by
  unfold MSrc
  have ht : s.heap.IsList ax vs.toArray := ⟨o, (N _ hm).1, hc, k, hd⟩
  have hlt : ax < s.heap.objs.size := Heap.lt_size (N _ hm).1
  refine wpAny_pyIter_list ht ?_
  refine msrc_walk (ks := ks) (Walks.list hh s.heap.objs.size ax (Nat.ne_of_lt hlt) vs.toArray) hkind hx (fun i h st b hb => ?_) hsz ⟨⟨_, Heap.get?_push_size _ rfl, rfl, rfl⟩, ht.push _⟩ (F.push _)
    (fun p hp => ⟨Heap.get?_push_of_some _ (N p hp).1, (N p hp).2⟩) (fun b hb => ?_) (Nat.ne_of_lt F.ns.lt) (next_is_new F) (fun p hp => Nat.ne_of_lt (Heap.lt_size (N p hp).1)) (by rw [List.size_toArray]; exact hi.length.symm) ?_ (h _)
  · rcases List.mem_cons.mp hb with rfl | hb
    · obtain ⟨o, e, _⟩ := st.1; exact ⟨o, e⟩
    · rw [List.mem_singleton.mp hb]
      obtain ⟨o, e, _⟩ := st.2; exact ⟨o, e⟩
  · rcases List.mem_cons.mp hb with rfl | hb
    · exact .inl rfl
    · rw [List.mem_singleton.mp hb]
      exact .inr ⟨o, hm⟩
  · intro i k hk v hv
    obtain ⟨k', t, e, hk'⟩ := IntsAre.at hi i v (by simpa using hv)
    rw [hk] at hk'
    cases hk'
    exact ⟨t, e⟩
end
end
section
open PySem.Calls PySem.Spec PyProof.Rows.LCg PyProof.V
section
variable {prog : Program} {w : World} {A : Around} {E : Value → Shared → Prop} {s : Shared} {h₀ : Heap} {L : Addr} {m : Str → Option Value} {env : Env} {scope : Scope} {cl : List (Str × Addr)}
  {elt : PySem.Expr} {x y : Str} {px py tp : Pos} {tkk : Nat} {Fin : Shared → List Value → List (Addr × Obj) → Prop} {news : List (Addr × Obj)}
theorem msrc_pair {I : Addr} {fp wr fr : List Addr} {n : Nat} {Pt : Nat → Array Value → Prop} {St : Nat → Heap → Prop} {Mid : Nat → Addr → Heap → Prop} {ks js : List Int} (W : WalksU prog w A I fp wr n Pt St Mid) (hh : A.handled = none) (hkind : scope.kind = .function)
    (hx : scope.names.lookup x = some .local) (hy : scope.names.lookup y = some .local) (hxy : x ≠ y) (hhas : ∀ i h, St i h → ∀ b ∈ fp, ∃ o, h.get? b = some o) (hPt : ∀ i vals, Pt i vals → ∃ v₁ v₂, vals = #[v₁, v₂])
    (hself : ∀ Q : Value → Shared → Prop, Q (.ref I) s → wpAny (model prog w) A (pyIter (.ref I)) Q E s) (hsz : n ≤ sizeLine) (hI : I ∈ fp) (hst : St 0 s.heap) (F : Fr h₀ L s.heap m) (N : News h₀ L s.heap news)
    (hfp : ∀ b ∈ fp, b = I ∨ b ∈ fr ∨ ∃ o, (b, o) ∈ news) (hfr : ∀ b ∈ fr, b ∈ fp ∧ b ≠ L ∧ b ≠ I ∧ h₀.get? b = none) (hIL : L ≠ I) (hI₀ : h₀.get? I = none) (off : ∀ p ∈ news, p.1 ∉ wr) (offI : ∀ p ∈ news, p.1 ≠ I) (hwr : ∀ b ∈ wr, b ≠ L ∧ h₀.get? b = none)
    (hk : ks.length = n) (hj : js.length = n) (hP : ∀ i k j, ks[i]? = some k → js[i]? = some j → ∀ v₁ v₂, Pt i #[v₁, v₂] → ∃ t u, v₁ = .int k t ∧ v₂ = .int j u)
    (h : CRest2 prog w A h₀ L m env elt x y scope cl Fin s ks js news) : MSrc prog w A E h₀ L m env elt (.Tuple [.Name x px, .Name y py] tkk tp) scope cl Fin (.ref I) s := by
  unfold MSrc
  obtain ⟨g, T, fin⟩ := h
  refine hself _ ⟨I, fp, wr, fr, n, St, _, news, List.zipWith g ks js, rfl, csrc_pair W hh hkind hx hy hxy hhas hPt, hsz, hI, hst, F, N, hfp, hfr, hIL, hI₀, off, offI, hwr, by rw [List.length_zipWith, hk, hj, Nat.min_self], fun i r hr => ?_, fin⟩
  rw [List.getElem?_zipWith] at hr
  cases ek : ks[i]? with
  | none => rw [ek] at hr; cases hr
  | some k =>
    cases ej : js[i]? with
    | none => rw [ek, ej] at hr; cases hr
    | some j =>
      rw [ek, ej] at hr
      cases hr
      intro own I oI C oC D cm ys h tk E' hC hp F N off ne
      obtain ⟨v₁, v₂, hv, hx, hy⟩ := hp
      obtain ⟨t, u, rfl, rfl⟩ := hP i k j ek ej v₁ v₂ hv
      exact T k t j u (List.mem_of_getElem? ek) (List.mem_of_getElem? ej) own I oI C oC D cm ys h tk E' hC ⟨hx, hy⟩ F N off ne
theorem add_ne {a b : Nat} (S : Nat) (h : a ≠ b) : S + a ≠ S + b := by omega
theorem lt_add_ne {b S : Nat} (h : b < S) (a : Nat) : b ≠ S + a := by omega
theorem zip_src {l1 l2 : Addr} {vs us : List Value} {ks js : List Int} {n1 n2 : Nat} (hh : A.handled = none) (F : Fr h₀ L s.heap m) (N : News h₀ L s.heap news) (hm1 : (l1, PySem.W.listOf vs.toArray n1) ∈ news) (hm2 : (l2, PySem.W.listOf us.toArray n2) ∈ news)
    (hi : IntsAre vs ks) (hj : IntsAre us js) (hkj : ks.length = js.length) (hsz : ks.length ≤ 16777216) (hkind : scope.kind = .function) (hx : scope.names.lookup x = some .local) (hy : scope.names.lookup y = some .local) (hxy : x ≠ y)
    (h : ∀ g, CRest2 prog w A h₀ L m env elt x y scope cl Fin { s with heap := g } ks js news) :
    wpAny (model prog w) A (call (.type "zip") [.ref l1, .ref l2]) (MSrc prog w A E h₀ L m env elt (.Tuple [.Name x px, .Name y py] tkk tp) scope cl Fin) E s := by
  have hl1 : s.heap.IsList l1 vs.toArray := ⟨_, (N _ hm1).1, rfl, n1, rfl⟩
  have hl2 : s.heap.IsList l2 us.toArray := ⟨_, (N _ hm2).1, rfl, n2, rfl⟩
  have lt1 : l1 < s.heap.objs.size := Heap.lt_size (N _ hm1).1
  have lt2 : l2 < s.heap.objs.size := Heap.lt_size (N _ hm2).1
  have ltL : L < s.heap.objs.size := F.ns.lt
  have lv : vs.length = ks.length := hi.length
  have lu : us.length = js.length := hj.length
  refine call_zip_2 hl1 hl2 fun h' hz hTI hTO hi1 hi2 hsz' hk => ?_
  generalize hS : s.heap.objs.size = S at *
  have fresh₀ : ∀ a, h₀.get? (S + a) = none := fun a => by
    cases e : h₀.get? (S + a) with
    | none => rfl
    | some o' => exact absurd (Heap.lt_size (F.keep _ o' e)) (by rw [hS]; exact Nat.not_lt.mpr (Nat.le_add_right _ _))
  have lN : ∀ p ∈ news, p.1 < S := fun p hp => hS ▸ Heap.lt_size (N p hp).1
  have D : ZipApart (S + 4) (S + 2) (S + 3) (S + 0) (S + 1) l1 l2 :=
    ⟨add_ne S (by decide), add_ne S (by decide), add_ne S (by decide), add_ne S (by decide), add_ne S (by decide), add_ne S (by decide), add_ne S (by decide), add_ne S (by decide), add_ne S (by decide), add_ne S (by decide),
     lt_add_ne lt1 _, lt_add_ne lt1 _, lt_add_ne lt1 _, lt_add_ne lt1 _, lt_add_ne lt2 _, lt_add_ne lt2 _, lt_add_ne lt2 _, lt_add_ne lt2 _⟩
  have nw : ∀ a, S + a ≠ L ∧ h₀.get? (S + a) = none := fun a => ⟨Ne.symm (lt_add_ne ltL a), fresh₀ a⟩
  refine msrc_pair (s := { s with heap := h' }) (fr := [S + 2, S + 3, S + 0, S + 1]) (ks := ks) (js := js) (WalksT.zip2 hh (S + 4) (S + 2) (S + 3) (S + 0) (S + 1) l1 l2 D vs.toArray us.toArray).toU hh hkind hx hy hxy ?_ ?_ (fun Q hQ => wpAny_pyIter_zip hz hQ) ?_ ?_
    ⟨hz, hTI, ⟨_, _, hTO⟩, hi1, hi2, hl1.at fun o e => hk _ _ e, hl2.at fun o e => hk _ _ e⟩ (F.keeps hk) (fun p hp => ⟨hk _ _ (N p hp).1, (N p hp).2⟩) ?_ ?_ (Ne.symm (nw 4).1) (nw 4).2 ?_ (fun p hp => lt_add_ne (lN p hp) _) ?_ ?_ ?_ ?_ (h _)
  · rintro i g ⟨g1, g2, ⟨_, _, g3⟩, ⟨o4, e4, _⟩, ⟨o5, e5, _⟩, ⟨o6, e6, _⟩, ⟨o7, e7, _⟩⟩ b hb
    simp only [List.mem_cons, List.mem_nil_iff, or_false] at hb
    rcases hb with rfl | rfl | rfl | rfl | rfl | rfl | rfl
    · exact ⟨_, g1⟩
    · exact ⟨_, g2⟩
    · exact ⟨_, g3⟩
    · exact ⟨_, e4⟩
    · exact ⟨_, e5⟩
    · exact ⟨_, e6⟩
    · exact ⟨_, e7⟩
  · rintro i vals ⟨v₁, v₂, _, _, e⟩
    exact ⟨v₁, v₂, e⟩
  · rw [sizeLine_eq, List.size_toArray, List.size_toArray]
    omega
  · exact .head _
  · intro b hb
    simp only [List.mem_cons, List.mem_nil_iff, or_false] at hb ⊢
    rcases hb with rfl | rfl | rfl | rfl | rfl | rfl | rfl
    · exact .inl rfl
    · exact .inr (.inl (by simp))
    · exact .inr (.inl (by simp))
    · exact .inr (.inl (by simp))
    · exact .inr (.inl (by simp))
    · exact .inr (.inr ⟨_, hm1⟩)
    · exact .inr (.inr ⟨_, hm2⟩)
  · intro b hb
    simp only [List.mem_cons, List.mem_nil_iff, or_false] at hb
    rcases hb with e | e | e | e
    · rw [e]; exact ⟨by simp, (nw _).1, add_ne S (by decide), (nw _).2⟩
    · rw [e]; exact ⟨by simp, (nw _).1, add_ne S (by decide), (nw _).2⟩
    · rw [e]; exact ⟨by simp, (nw _).1, add_ne S (by decide), (nw _).2⟩
    · rw [e]; exact ⟨by simp, (nw _).1, add_ne S (by decide), (nw _).2⟩
  · intro p hp hb
    simp only [List.mem_cons, List.mem_nil_iff, or_false] at hb
    rcases hb with e | e | e | e
    · exact lt_add_ne (lN p hp) _ e
    · exact lt_add_ne (lN p hp) _ e
    · exact lt_add_ne (lN p hp) _ e
    · exact lt_add_ne (lN p hp) _ e
  · intro b hb
    simp only [List.mem_cons, List.mem_nil_iff, or_false] at hb
    rcases hb with e | e | e | e
    · rw [e]; exact nw _
    · rw [e]; exact nw _
    · rw [e]; exact nw _
    · rw [e]; exact nw _
  · rw [List.size_toArray, List.size_toArray]
    omega
  · rw [List.size_toArray, List.size_toArray]
    omega
  · rintro i k j hk hj v₁ v₂ ⟨a, b, ha, hb, e⟩
    obtain ⟨rfl, rfl⟩ : v₁ = a ∧ v₂ = b := by simpa using e
    obtain ⟨k', t, rfl, hk'⟩ := IntsAre.at hi i v₁ (by simpa using ha)
    obtain ⟨j', u, rfl, hj'⟩ := IntsAre.at ‹IntsAre us js› i v₂ (by simpa using hb)
    rw [hk] at hk'
    rw [hj] at hj'
    cases hk'
    cases hj'
    exact ⟨t, u, rfl, rfl⟩
end
end
section
open PySem.Calls PySem.Spec PyProof.Rows.LCg PyProof.V Builtin
set_option maxRecDepth 100000
section
variable {prog : Program} {w : World} {A : Around} {E : Value → Shared → Prop} {s : Shared} {b : Array UInt8} {t : Tok}
theorem nextOf_bytes_item {it : Addr} {i : Nat} {c : UInt8} {Q : Value → Shared → Prop} (hit : KBw.IsBytesIter s.heap it b t i) (hx : b[i]? = some c)
    (hQ : ∀ h', KBw.IsBytesIter h' it b t (i + 1) → Heap.SameBut it s.heap h' → Q (.int (c.toNat : Int) s.toks) { s with heap := h', toks := s.toks + 1 }) :
    wpAny (model prog w) A (Builtin.SmallTypes.nextOf (.ref it)) Q E s := by
  obtain ⟨o, ho, hc, hd⟩ := id hit
  unfold Builtin.SmallTypes.nextOf
  refine wpAny_bind (wpAny_callSpecial?_slot (name := PySem.Str.ofString "__next__") (KBw.iter_typeIs hit) KBw.slot_next (wpAny_call_entry KBw.slot_next (KBw.iter_typeIs hit) KBw.entry_next ?_ (KBw.args_next _)))
  show wpAny _ _ (field (.ref it) 0 >>= _) _ _ s
  refine wpAny_bind (wpAny_field ho hd (x := .bytes b t) rfl ?_)
  show wpAny _ _ (if (Value.bytes b t == Value.none) = true then _ else _) _ _ s
  rw [if_neg (show ¬ ((Value.bytes b t == Value.none) = true) from Bool.false_ne_true)]
  show wpAny _ _ (field (.ref it) 1 >>= _) _ _ s
  refine wpAny_bind (wpAny_field ho hd (x := .int i 0) rfl ?_)
  refine wpAny_bind (wpAny_of_eq (a := b) rfl ?_)
  simp only [Int.toNat_natCast, hx]
  refine wpAny_bind (wpAny_setField ho hd (by simp) (wpAny_bind (wpAny_mkInt (wpAny_pure ⟨_, rfl, wpAny_pure (hQ _ ?_ (Heap.SameBut.update ..))⟩))))
  exact ⟨_, Heap.get?_update_self _ ho (Obj.isFreed_of_fields (Obj.data_mapFields hd _)), (Obj.cls_mapFields ..).trans hc, by rw [Obj.data_mapFields hd]; simp [rawInt]⟩
theorem nextOf_bytes_end {it : Addr} {i : Nat} {Q : Value → Shared → Prop} (hh : A.handled = none) (hit : KBw.IsBytesIter s.heap it b t i) (hx : b[i]? = none)
    (hE : ∀ h' e, Heap.ExtBut it s.heap h' → (∃ o, h'.get? e = some o ∧ o.cls = .type "StopIteration") → E (.ref e) { s with heap := h' }) :
    wpAny (model prog w) A (Builtin.SmallTypes.nextOf (.ref it)) Q E s := by
  obtain ⟨o, ho, hc, hd⟩ := id hit
  unfold Builtin.SmallTypes.nextOf
  refine wpAny_bind (wpAny_callSpecial?_slot (name := PySem.Str.ofString "__next__") (KBw.iter_typeIs hit) KBw.slot_next (wpAny_call_entry KBw.slot_next (KBw.iter_typeIs hit) KBw.entry_next ?_ (KBw.args_next _)))
  show wpAny _ _ (field (.ref it) 0 >>= _) _ _ s
  refine wpAny_bind (wpAny_field ho hd (x := .bytes b t) rfl ?_)
  show wpAny _ _ (if (Value.bytes b t == Value.none) = true then _ else _) _ _ s
  rw [if_neg (show ¬ ((Value.bytes b t == Value.none) = true) from Bool.false_ne_true)]
  show wpAny _ _ (field (.ref it) 1 >>= _) _ _ s
  refine wpAny_bind (wpAny_field ho hd (x := .int i 0) rfl ?_)
  refine wpAny_bind (wpAny_of_eq (a := b) rfl ?_)
  simp only [Int.toNat_natCast, hx]
  refine wpAny_bind (wpAny_rule (wpAny_bind (wpAny_setField ho hd (by simp) ?_)))
  show wpAny _ _ (newExc (.type "StopIteration") [] >>= _) _ _ _
  refine wpAny_bind ?_
  simp only [newExc, newTuple]
  refine wpAny_bind (wpAny_newObj_type ?_ (by size_fits))
  refine wpAny_bind (m := firstArgMember _ _) (wpAny_of_eq (a := Value.none) (by first | rfl | (simp only [firstArgMember]; rfl)) ?_)
  refine wpAny_newObj_type ?_ (by size_fits)
  simp only [raiseNew]
  refine wpAny_bind (wpAny_handled ?_)
  first | rw [show A.in1.handled = none from hh] | rw [hh]
  refine wpAny_bind (wpAny_pure (wpAny_throw ?_))
  exact hE _ _ (((Heap.SameBut.update ..).extBut.push _).push _) ⟨_, Heap.get?_push_size _ rfl, rfl⟩
theorem draws_bytes (hh : A.handled = none) (it : Addr) (b : Array UInt8) (t : Tok) :
    Draws prog w A it [it] b.size (fun i v => ∃ c u, b[i]? = some c ∧ v = .int (c.toNat : Int) u) (fun i h => KBw.IsBytesIter h it b t i) where
  live := fun _ _ st => let ⟨o, ho, _⟩ := st; ⟨o, ho⟩
  frame := fun _ _ _ st hk => let ⟨o, ho, r⟩ := st; ⟨o, hk it (by simp) o ho, r⟩
  item := fun i s Q E hi st hQ => nextOf_bytes_item st (c := b[i]) (by simp [hi]) fun h' hit' hs' => hQ _ h' _ ⟨_, _, by simp [hi], rfl⟩ hit' hs'
  done := fun s Q E st hE => nextOf_bytes_end hh st (by simp) fun h' e he ho => hE h' e he ho
set_option maxHeartbeats 1000000 in
theorem meets_enum_bytes (b : Array UInt8) (t : Tok) :
    PySem.Meets (Builtin.«enumerate.__new__» ⟨[.type "enumerate", .bytes b t], []⟩) (fun _ R s =>
      R (.ok (.ret (.ref (s.heap.push { cls := .type "bytes_iterator", data := .fields #[.bytes b t, .int 0 0] }).objs.size)))
        { s with heap := (s.heap.push { cls := .type "bytes_iterator", data := .fields #[.bytes b t, .int 0 0] }).push { cls := .type "enumerate", data := .fields #[.none, .bool false, .ref s.heap.objs.size, rawInt 0, .none, .none] } }) :=
  .of_wp fun prog w A R s h => by
    obtain ⟨hp, g, d, tk, os⟩ := s
    have hsub := sub_enumerate
    wp_walk
    refine wpAny_stack_any fun st => wpAny_pure ?_
    split
    · rename_i c _ _ _ _ _
      cases (c == Value.type "enumerate")
      · wp_walk using KBw.pyIter_bytes
        exact ⟨_, rfl, h⟩
      · wp_walk using KBw.pyIter_bytes
        exact ⟨_, rfl, h⟩
    · wp_walk using KBw.pyIter_bytes
      exact ⟨_, rfl, h⟩
theorem call_enum_bytes {Q : Value → Shared → Prop} (h : ∀ h', IsEnum h' (s.heap.objs.size + 1) s.heap.objs.size 0 .none → KBw.IsBytesIter h' s.heap.objs.size b t 0 → h'.objs.size = s.heap.objs.size + 2 →
      (∀ c o, s.heap.get? c = some o → h'.get? c = some o) → Q (.ref (s.heap.objs.size + 1)) { s with heap := h' }) : wpAny (model prog w) A (call (.type "enumerate") [.bytes b t]) Q E s := by
  refine callType_new F.called_enumerate (by decide) (F.typeCall_enumerate_1 _) (F.newCall_enumerate_1 _) (fun obj => F.args_object_init_2 obj _) F.entry_enumerate_new (meets_enum_bytes b t) ?_
  generalize hp : s.heap.push { cls := .type "bytes_iterator", data := .fields #[.bytes b t, .int 0 0] } = H
  have hz : H.objs.size = s.heap.objs.size + 1 := by rw [← hp]; exact Heap.size_push ..
  have hI : H.get? s.heap.objs.size = some { cls := .type "bytes_iterator", data := .fields #[.bytes b t, .int 0 0] } := by rw [← hp]; exact Heap.get?_push_size _ rfl
  have hk : ∀ c o, s.heap.get? c = some o → H.get? c = some o := fun c o x => by rw [← hp]; exact Heap.get?_push_of_some _ x
  clear hp
  show _ ∧ _
  rw [hz]
  have he : IsEnum (H.push { cls := .type "enumerate", data := .fields #[.none, .bool false, .ref s.heap.objs.size, rawInt 0, .none, .none] }) (s.heap.objs.size + 1) s.heap.objs.size 0 .none := by
    have e := Heap.get?_push_size H (o := { cls := .type "enumerate", data := .fields #[.none, .bool false, .ref s.heap.objs.size, rawInt 0, .none, .none] }) rfl
    rw [hz] at e
    exact e
  refine ⟨⟨_, he, rfl⟩, h _ he ⟨_, Heap.get?_push_of_some _ hI, rfl, rfl⟩ (by rw [Heap.size_push, hz]) fun c o x => Heap.get?_push_of_some _ (hk c o x)⟩
variable {h₀ : Heap} {L : Addr} {m : Str → Option Value} {env : Env} {scope : Scope} {cl : List (Str × Addr)} {elt : PySem.Expr} {x y : Str} {px py tp : Pos} {tkk : Nat} {Fin : Shared → List Value → List (Addr × Obj) → Prop} {news : List (Addr × Obj)}
theorem enum_src {ks : List Int} (hb : KBw.bInts b = ks) (hh : A.handled = none) (F : Fr h₀ L s.heap m) (N : News h₀ L s.heap news) (hsz : ks.length ≤ 16777216) (hkind : scope.kind = .function) (hx : scope.names.lookup x = some .local) (hy : scope.names.lookup y = some .local) (hxy : x ≠ y)
    (h : ∀ g, CRest2 prog w A h₀ L m env elt x y scope cl Fin { s with heap := g } (rangeKs 0 ks.length) ks news) :
    wpAny (model prog w) A (call (.type "enumerate") [.bytes b t]) (MSrc prog w A E h₀ L m env elt (.Tuple [.Name x px, .Name y py] tkk tp) scope cl Fin) E s := by
  subst hb
  rw [KBw.ints_length] at hsz h
  have ltL : L < s.heap.objs.size := F.ns.lt
  refine call_enum_bytes fun h' he hit hsz' hk => ?_
  generalize hS : s.heap.objs.size = S at *
  have fresh₀ : ∀ a, h₀.get? (S + a) = none := fun a => by
    cases e : h₀.get? (S + a) with
    | none => rfl
    | some o' => exact absurd (Heap.lt_size (F.keep _ o' e)) (by rw [hS]; exact Nat.not_lt.mpr (Nat.le_add_right _ _))
  have lN : ∀ p ∈ news, p.1 < S := fun p hp => hS ▸ Heap.lt_size (N p hp).1
  have nw : ∀ a, S + a ≠ L ∧ h₀.get? (S + a) = none := fun a => ⟨Ne.symm (lt_add_ne ltL a), fresh₀ a⟩
  refine msrc_pair (s := { s with heap := h' }) (fr := [S + 0]) (ks := rangeKs 0 b.size) (js := KBw.bInts b) (WalksT.enumerateD (draws_bytes (A := A.in1) hh (S + 0) b t) (S + 1) (add_ne S (by decide)) (fun hm => add_ne S (by decide) (List.mem_singleton.mp hm)) (.head _)).toU hh hkind hx hy hxy ?_ ?_
    (fun Q hQ => wpAny_pyIter_enum he hQ) ?_ (.head _) ⟨⟨_, he⟩, hit⟩ (F.keeps hk) (fun p hp => ⟨hk _ _ (N p hp).1, (N p hp).2⟩) ?_ ?_ (Ne.symm (nw 1).1) (nw 1).2 ?_ (fun p hp => lt_add_ne (lN p hp) _) ?_ ?_ ?_ ?_ (h _)
  · rintro i g ⟨⟨_, g1⟩, ⟨o, e, _⟩⟩ c hc
    rcases List.mem_cons.mp hc with rfl | hc
    · exact ⟨_, g1⟩
    · rw [List.mem_singleton.mp hc]
      exact ⟨o, e⟩
  · rintro i vals ⟨t, v, _, e⟩
    exact ⟨_, _, e⟩
  · rw [sizeLine_eq]
    exact hsz
  · intro c hc
    rcases List.mem_cons.mp hc with rfl | hc
    · exact .inl rfl
    · exact .inr (.inl hc)
  · intro c hc
    rw [List.mem_singleton.mp hc]
    exact ⟨.tail _ (.head _), (nw 0).1, add_ne S (by decide), (nw 0).2⟩
  · intro p hp hc
    rcases List.mem_cons.mp hc with e | hc
    · exact lt_add_ne (lN p hp) _ e
    · exact lt_add_ne (lN p hp) 0 (List.mem_singleton.mp hc)
  · intro c hc
    rcases List.mem_cons.mp hc with e | hc
    · rw [e]; exact nw _
    · rw [List.mem_singleton.mp hc]; exact nw 0
  · rw [rangeKs_length]
  · rw [KBw.ints_length]
  · rintro i k j hk hj v₁ v₂ ⟨t', v, ⟨c, u, hc, rfl⟩, e⟩
    obtain ⟨rfl, rfl⟩ : v₁ = .int i t' ∧ v₂ = .int (c.toNat : Int) u := by simpa using e
    have hj' := KBw.ints_get hc
    rw [hj] at hj'
    cases hj'
    have hk' : k = (i : Int) := by
      unfold rangeKs at hk
      rw [List.getElem?_map] at hk
      cases e : (List.range b.size)[i]? with
      | none => rw [e] at hk; cases hk
      | some q =>
        rw [e] at hk
        cases hk
        have := List.getElem?_range (n := b.size) (i := i) (by
          have := (List.getElem?_eq_some_iff.mp e).1
          simpa using this)
        rw [this] at e
        cases e
        simp
    exact ⟨t', u, by rw [hk'], rfl⟩
end
end
section
theorem off1_of {D : Addr} : ∀ {l : List (Addr × Obj)}, (∀ p ∈ l, p.1 ≠ D) → LCg.Off1 D l
  | [], _ => trivial
  | q :: r, h => ⟨h q (.head _), off1_of fun p hp => h p (.tail _ hp)⟩
section
variable {prog : Program} {w : World} {A : Around} {E : Value → Shared → Prop} {s : Shared} {env : Env} {h₀ : Heap} {target : PySem.Expr} {body : List Stmt} {Q : Flow → Shared → Prop} {m₀ : Str → Option Value} {led : List (Addr × Obj)}
/-- the end of a turn that lengthens the list l and stores into the cell c -/
def ExtEnd (h₀ : Heap) (L : Addr) (m₀ : Str → Option Value) (led : List (Addr × Obj)) (l c : Addr) (own : List (Addr × Obj)) (ns : List Int) (s₁ : Shared) (f : Flow) (s₂ : Shared) : Prop :=
  f = .next ∧ ∃ h' tk vs n co, s₂ = { s₁ with heap := h', toks := tk } ∧ Fr h₀ L h' m₀ ∧ News h₀ L h' ((l, PySem.W.listOf (List.toArray vs) n) :: (c, co) :: (led ++ own)) ∧ IntsAre vs ns ∧ ∃ v, co.data = .cell v
theorem ext_end {L l c : Addr} {own : List (Addr × Obj)} {ns ns' : List Int} {s₁ : Shared} {h' : Heap} {tk n : Nat} {co : Obj} {cv : Option Value} {vs : List Value} {all : List (Addr × Obj)} (F : Fr h₀ L h' m₀) (N : News h₀ L h' all) (hl : (l, PySem.W.listOf (List.toArray vs) n) ∈ all) (hc : (c, co) ∈ all) (hs : ∀ p ∈ led ++ own, p ∈ all)
    (hi : IntsAre vs ns') (hd : co.data = .cell cv) (e : ns' = ns) : ExtEnd h₀ L m₀ led l c own ns s₁ .next { s₁ with heap := h', toks := tk } := by
  refine ⟨rfl, h', tk, vs, n, co, rfl, F, fun p hp => ?_, e ▸ hi, cv, hd⟩
  rcases List.mem_cons.mp hp with rfl | hp
  · exact N _ hl
  · rcases List.mem_cons.mp hp with rfl | hp
    · exact N _ hc
    · exact N _ (hs p hp)
/-- a for over ints whose turns lengthen the list l by f of the item; the target may be a cell c -/
theorem loop_ext {I l c : Addr} {fp : List Addr} {co : Obj} {vs : List Value} {ks : List Int} {n₀ n : Nat} {cv₀ : Option Value} {P : Nat → Value → Prop} {St : Nat → Heap → Prop} (W : Walks prog w A I fp [I] n P St) (hL : env.locals ∉ fp) (hI : h₀.get? I = none) (hlf : l ∉ fp) (hcf : c ∉ fp) (hlI : l ≠ I) (hcI : c ≠ I) (hledI : ∀ p ∈ led, p.1 ≠ I)
    (hst : St 0 s.heap) (F : Fr h₀ env.locals s.heap m₀) (N : News h₀ env.locals s.heap ((l, PySem.W.listOf (List.toArray vs) n₀) :: (c, co) :: led)) (hi : IntsAre vs []) (hco : co.data = .cell cv₀) (hn : ks.length = n) (hP : ∀ i v k, ks[i]? = some k → P i v → ∃ t, v = .int k t)
    (hgo : ∀ v (s' : Shared) (Q' : Unit → Shared → Prop), Q' () s' → wpAny (model prog w) A (letOwnedTupleGo target (.ref I) v) Q' E s') (f : Int → List Int)
    (turn : ∀ i k t vs' n' co' cv s₁ own, ks[i]? = some k → co'.data = .cell cv → IntsAre vs' ((ks.take i).flatMap f) → LCg.Off1 l own → LCg.Off1 c own → Fr h₀ env.locals s₁.heap m₀ → News h₀ env.locals s₁.heap ((l, PySem.W.listOf (List.toArray vs') n') :: (c, co') :: (led ++ own)) →
      wpAny (model prog w) A (assign target env (.int k t)) (fun _ s₃ => wpAny (model prog w) A (execs body env) (ExtEnd h₀ env.locals m₀ led l c own ((ks.take i).flatMap f ++ f k) s₁) E s₃) E s₁)
    (done : ∀ h tk vs' n' co', Fr h₀ env.locals h m₀ → News h₀ env.locals h ((l, PySem.W.listOf (List.toArray vs') n') :: (c, co') :: led) → IntsAre vs' (ks.flatMap f) → Q .next { s with heap := h, toks := tk }) :
    LoopAtT prog w A h₀ env target body Q E (.ref I) s := by
  subst hn
  refine ⟨I, fp, [I], ks.length, P, St, m₀, _, fun i m' nx => m' = m₀ ∧ ∃ vs' n' co', nx = (l, PySem.W.listOf (List.toArray vs') n') :: (c, co') :: led ∧ IntsAre vs' ((ks.take i).flatMap f) ∧ ∃ v, co'.data = .cell v, rfl, W, hL, fun b hb => by rw [List.mem_singleton.mp hb]; exact hI, ?_, hst, F, N,
    fun i s' v Q' _ hQ' => hgo v s' Q' hQ', ⟨rfl, vs, n₀, co, rfl, by simpa using hi, _, hco⟩, ?_, ?_⟩
  · intro p hp hm
    have e := List.mem_singleton.mp hm
    rcases List.mem_cons.mp hp with rfl | hp
    · exact hlI e
    · rcases List.mem_cons.mp hp with rfl | hp
      · exact hcI e
      · exact hledI p hp e
  · rintro i v m₁ nx s₁ own hin hPv ⟨rfl, vs', n', co', rfl, hi', cv, hcv⟩ hoff hown _ _ _ F₁ N₁
    have hk : ks[i]? = some ks[i] := List.getElem?_eq_getElem hin
    obtain ⟨t, rfl⟩ := hP i v _ hk hPv
    have N₂ : News h₀ env.locals s₁.heap ((l, PySem.W.listOf (List.toArray vs') n') :: (c, co') :: (led ++ own)) := fun p hp => by
      rcases List.mem_cons.mp hp with rfl | hp
      · exact N₁ _ (List.mem_append.mpr (.inr (.head _)))
      · rcases List.mem_cons.mp hp with rfl | hp
        · exact N₁ _ (List.mem_append.mpr (.inr (.tail _ (.head _))))
        · exact N₁ _ (List.mem_append.mpr ((List.mem_append.mp hp).elim (fun h => .inr (.tail _ (.tail _ h))) .inl))
    have off : ∀ b : Addr, b ∉ fp → LCg.Off1 b own := fun b hb => off1_of fun p hp e => hb (e ▸ hown p hp)
    refine wpAny_mono (turn i _ t vs' n' co' cv s₁ own hk hcv hi' (off l hlf) (off c hcf) F₁ N₂) (fun _ s₂ h₂ => ?_) fun _ _ e => e
    refine wpAny_mono h₂ (fun g s₃ h₃ => ?_) fun _ _ e => e
    obtain ⟨hg, h', tk, vs'', n'', co'', e, F', N', hi'', hcv''⟩ := h₃
    refine ⟨hg, h', tk, m₁, (l, PySem.W.listOf (List.toArray vs'') n'') :: (c, co'') :: led, e, F', fun p hp => ?_, fun p hp hm => ?_, rfl, vs'', n'', co'', rfl, ?_, hcv''⟩
    · rcases List.mem_append.mp hp with hp | hp
      · exact N' _ (.tail _ (.tail _ (List.mem_append.mpr (.inr hp))))
      · rcases List.mem_cons.mp hp with rfl | hp
        · exact N' _ (.head _)
        · rcases List.mem_cons.mp hp with rfl | hp
          · exact N' _ (.tail _ (.head _))
          · exact N' _ (.tail _ (.tail _ (List.mem_append.mpr (.inl hp))))
    · have e := List.mem_singleton.mp hm
      rcases List.mem_cons.mp hp with rfl | hp
      · exact hlI e
      · rcases List.mem_cons.mp hp with rfl | hp
        · exact hcI e
        · exact hledI p hp e
    · rw [List.take_add_one, hk, List.flatMap_append]
      simpa using hi''
  · rintro h' tk m' nx F' N' _ ⟨rfl, vs', n', co', rfl, hi', _⟩
    rw [List.take_length] at hi'
    exact done h' tk vs' n' co' F' N' hi'
theorem iter_ext_bytes {b : Array UInt8} {tb : Tok} {l c : Addr} {co : Obj} {vs : List Value} {ks : List Int} {n₀ : Nat} {cv₀ : Option Value} (hk : KBw.bInts b = ks) (hh : A.handled = none)
    (F : Fr h₀ env.locals s.heap m₀) (N : News h₀ env.locals s.heap ((l, PySem.W.listOf (List.toArray vs) n₀) :: (c, co) :: led)) (hi : IntsAre vs []) (hco : co.data = .cell cv₀) (hgo : ∀ I v (s' : Shared) (Q' : Unit → Shared → Prop), Q' () s' → wpAny (model prog w) A (letOwnedTupleGo target (.ref I) v) Q' E s') (f : Int → List Int)
    (turn : ∀ i k t vs' n' co' cv s₁ own, ks[i]? = some k → co'.data = .cell cv → IntsAre vs' ((ks.take i).flatMap f) → LCg.Off1 l own → LCg.Off1 c own → Fr h₀ env.locals s₁.heap m₀ → News h₀ env.locals s₁.heap ((l, PySem.W.listOf (List.toArray vs') n') :: (c, co') :: (led ++ own)) →
      wpAny (model prog w) A (assign target env (.int k t)) (fun _ s₃ => wpAny (model prog w) A (execs body env) (ExtEnd h₀ env.locals m₀ led l c own ((ks.take i).flatMap f ++ f k) s₁) E s₃) E s₁)
    (done : ∀ h tk vs' n' co', Fr h₀ env.locals h m₀ → News h₀ env.locals h ((l, PySem.W.listOf (List.toArray vs') n') :: (c, co') :: led) → IntsAre vs' (ks.flatMap f) → Q .next { s with heap := h, toks := tk }) :
    wpAny (model prog w) A (pyIter (.bytes b tb)) (fun it s₂ => LoopAtT prog w A h₀ env target body Q E it s₂) E s := by
  subst hk
  refine KBw.pyIter_bytes ?_
  have lt : ∀ {a o}, (a, o) ∈ ((l, PySem.W.listOf (List.toArray vs) n₀) :: (c, co) :: led) → a ≠ s.heap.objs.size := fun h => Nat.ne_of_lt (Heap.lt_size (N _ h).1)
  refine loop_ext (ks := KBw.bInts b) (KBw.walks (prog := prog) (w := w) hh s.heap.objs.size b tb) ?_ (next_is_new F) (fun h => lt (.head _) (List.mem_singleton.mp h)) (fun h => lt (.tail _ (.head _)) (List.mem_singleton.mp h)) (lt (.head _)) (lt (.tail _ (.head _))) (fun p hp => lt (.tail _ (.tail _ hp))) ⟨_, Heap.get?_push_size _ rfl, rfl, rfl⟩ (F.push _)
    (fun p hp => ⟨Heap.get?_push_of_some _ (N p hp).1, (N p hp).2⟩) hi hco (KBw.ints_length b) ?_ (fun v s' Q' h => hgo _ v s' Q' h) f turn ?_
  · intro h
    exact Nat.ne_of_lt F.ns.lt (List.mem_singleton.mp h)
  · rintro i v k hk ⟨c, u, hc, rfl⟩
    have hg : (KBw.bInts b)[i]? = some (c.toNat : Int) := KBw.ints_get hc
    rw [hk] at hg
    cases hg
    exact ⟨u, rfl⟩
  · intro h tk vs' n' co' F' N' hi'
    exact done h tk vs' n' co' F' N' hi'
theorem iter_ext_list {l c a : Addr} {co : Obj} {vs us : List Value} {ks : List Int} {n₀ n₁ : Nat} {cv₀ : Option Value} (hh : A.handled = none)
    (F : Fr h₀ env.locals s.heap m₀) (N : News h₀ env.locals s.heap ((l, PySem.W.listOf (List.toArray vs) n₀) :: (c, co) :: led)) (hm : (a, PySem.W.listOf (List.toArray us) n₁) ∈ led) (hal : l ≠ a) (hac : c ≠ a) (hk : IntsAre us ks) (hi : IntsAre vs []) (hco : co.data = .cell cv₀)
    (hgo : ∀ I v (s' : Shared) (Q' : Unit → Shared → Prop), Q' () s' → wpAny (model prog w) A (letOwnedTupleGo target (.ref I) v) Q' E s') (f : Int → List Int)
    (turn : ∀ i k t vs' n' co' cv s₁ own, ks[i]? = some k → co'.data = .cell cv → IntsAre vs' ((ks.take i).flatMap f) → LCg.Off1 l own → LCg.Off1 c own → Fr h₀ env.locals s₁.heap m₀ → News h₀ env.locals s₁.heap ((l, PySem.W.listOf (List.toArray vs') n') :: (c, co') :: (led ++ own)) →
      wpAny (model prog w) A (assign target env (.int k t)) (fun _ s₃ => wpAny (model prog w) A (execs body env) (ExtEnd h₀ env.locals m₀ led l c own ((ks.take i).flatMap f ++ f k) s₁) E s₃) E s₁)
    (done : ∀ h tk vs' n' co', Fr h₀ env.locals h m₀ → News h₀ env.locals h ((l, PySem.W.listOf (List.toArray vs') n') :: (c, co') :: led) → IntsAre vs' (ks.flatMap f) → Q .next { s with heap := h, toks := tk }) :
    wpAny (model prog w) A (pyIter (.ref a)) (fun it s₂ => LoopAtT prog w A h₀ env target body Q E it s₂) E s := by
  have lt : ∀ {a o}, (a, o) ∈ ((l, PySem.W.listOf (List.toArray vs) n₀) :: (c, co) :: led) → a ≠ s.heap.objs.size := fun h => Nat.ne_of_lt (Heap.lt_size (N _ h).1)
  have ha : s.heap.IsList a us.toArray := ⟨_, (N _ (.tail _ (.tail _ hm))).1, rfl, n₁, rfl⟩
  have naL : a ≠ env.locals := (N _ (.tail _ (.tail _ hm))).2.1
  refine wpAny_pyIter_list ha ?_
  refine loop_ext (ks := ks) (Walks.list (prog := prog) (w := w) hh s.heap.objs.size a (lt (.tail _ (.tail _ hm))) us.toArray) ?_ (next_is_new F) (fun h => ?_) (fun h => ?_) (lt (.head _)) (lt (.tail _ (.head _))) (fun p hp => lt (.tail _ (.tail _ hp))) ⟨⟨_, Heap.get?_push_size _ rfl, rfl, rfl⟩, ha.push _⟩ (F.push _)
    (fun p hp => ⟨Heap.get?_push_of_some _ (N p hp).1, (N p hp).2⟩) hi hco (by rw [List.size_toArray]; exact hk.length.symm) ?_ (fun v s' Q' h => hgo _ v s' Q' h) f turn ?_
  · intro h
    rcases List.mem_cons.mp h with e | h
    · exact Nat.ne_of_lt F.ns.lt e
    · exact naL (List.mem_singleton.mp h).symm
  · rcases List.mem_cons.mp h with e | h
    · exact lt (.head _) e
    · exact hal (List.mem_singleton.mp h)
  · rcases List.mem_cons.mp h with e | h
    · exact lt (.tail _ (.head _)) e
    · exact hac (List.mem_singleton.mp h)
  · intro i v k hki hv
    obtain ⟨k', t, e, hk'⟩ := IntsAre.at hk i v (by simpa using hv)
    rw [hki] at hk'
    cases hk'
    exact ⟨t, e⟩
  · intro h tk vs' n' co' F' N' hi'
    exact done h tk vs' n' co' F' N' hi'
end
end
section
local macro_rules | `(tactic| walk_at "eval ListComp") => `(tactic| (k_here; (with_reducible show wpAny _ _ (eval (Expr.ListComp _ _ _ _) _) _ _ _); k_dflt (refine comp_eval (F₀ := by k_asm) (by with_unfolding_all rfl) (by decide) (by rfl) (by decide) ?_)))
local macro_rules | `(tactic| walk_at "call type:enumerate") => `(tactic| (k_here; (with_reducible show wpAny _ _ (call (Value.type "enumerate") [Value.bytes _ _]) _ _ _); k_dflt (refine enum_src (by assumption) (by rfl) (by k_asm) (by k_asm) (by omega) (by rfl) (by rfl) (by rfl) (by decide) ?_); intro g'; (refine' CRest2.of _ (fun k' t' j' u' own' I' oI' C' oC' D' cm' ys' h' tk' E' hk' hj' hC' hx' hy' F' N' off' ne' hMark' => ?_) ?_); (all_goals (try (simp only [List.cons_append] at N' off'))); (all_goals (try (simp only [LCg.Off3] at off'))); kcf_last))
theorem law_sums_meets {w mean mg mb led b t ks} (hb : KBw.bInts b = ks) (hn : ks.length ≤ 300)  : Meets w mean mg mb 4 32 led (.ref 235) [.bytes b t] (Back led fun r => ∃ t, r = .int (adlV 1 ks) t) := by
  w_top off
  k_with_none
  k_with "binaryOp Mult int int" => (refine mul_int ?_ (by (rename _ ∈ rangeKs _ _ => hkk); (rename _ ∈ ks => hjj); have hk1 := mem_rangeKs hkk; have hj1 := KBw.ints_in (hb ▸ hjj); exact (mulOk64 (by omega) (by omega))))
  ((intro dp un gd cn cs a ccd cl outer A₀ base h₀ L m s Q E B F X N T hcs hdp hun hret; refine wpAny_call ?_; k_dflt (refine' code_defC ?k1 ?k2 ?k3 ?k4 ?k5 ?kA ?kF ?kK ?k6 ?k7 ?k8 ?k9 ?kB ?kD ?_ ?c2 ?c3 ?c4; (case kA => exact rfl); (case kF => exact rfl); (case kK => first | exact rfl | assumption); (case k1 => k_asm); (case k2 => k_asm); (case k3 => k_asm); (case k4 => k_asm); (case k5 => k_asm); (case k6 => k_is); (case k7 => k_is); (case k8 => ktr_room); (case k9 => exact BindsTo.of_eq rfl); (case kB => exact rfl); (case kD => decide +kernel); (case c2 => exact rfl); (case c3 => exact rfl); (case c4 => exact rfl); k_whole; intro g' L' h' tk' cells' FG' F' N' Y' B' X' T' l1; (try k_lt l1); k_cells Y'; (try simp only [List.cons_append, List.nil_append] at N'); (try dsimp only); (try k_lift B'); (try k_fold))); (refine entry_gen (fun Qx hQx => ?_)))
  (repeat' (first | (k_unfold; (try dsimp only)) | walk1 | (dsimp only; walk1) | (leave1; walk_say "STEP leave1"; try dsimp only)))
  (refine' ret_sub led hret ?rF ?rN ?rS ?_; (case rF => k_asm); (case rN => k_asm); (case rS => intro p hp; repeat (first | exact hp | refine List.Mem.tail _ ?_)))
  exact ⟨rfl, int_back (sums_law ks)⟩
end
section
abbrev tabD (w : World) (ts : Tok) (l : Addr) (nd : Nat) : Obj := dictOf [⟨PyData.keyHash w.params (Str.ofString "table"), .str (Str.ofString "table") ts, .ref l⟩] nd
theorem and15_len {x : Int} (h0 : 0 ≤ x) : Builtin.bitAnd x 15 < tab16.length := by have := and15_hi h0; rw [tab16_length]; omega
theorem and15_63 {x : Int} (h0 : 0 ≤ x) : Builtin.bitAnd x 15 < 2 ^ 63 := by have := and15_hi h0; omega
theorem at_rng {st r k : Int} {pre : List Int} (h : OInv st pre r) (k0 : 0 ≤ k) (k1 : k < 256) : 0 ≤ Builtin.bitXor r k ∧ 0 ≤ Builtin.bitXor ((Builtin.bitXor r k).fdiv (2 ^ Int.toNat 4)) (itI tab16 (Builtin.bitAnd (Builtin.bitXor r k) 15)) := by
  have a := xorb_range h.2.1 h.2.2 k0 k1
  exact ⟨a.1, (nibI_range a.1 a.2).1⟩
theorem crc_of_meets {w mean mg mb led b t ks st tt x dx ts l vs nd n} (hb : KBw.bInts b = ks) (hn : ks.length ≤ 300) (h0 : 0 ≤ st) (h1 : st < 4294967296) (hi : IntsAre vs tab16) :
    Meets w mean mg mb 1 8 ((l, PySem.W.listOf vs.toArray n) :: (x, instObj 113 dx) :: (dx, tabD w ts l nd) :: led) (.ref 110) [.ref x, .bytes b t, .int st tt] (Back ((l, PySem.W.listOf vs.toArray n) :: (x, instObj 113 dx) :: (dx, tabD w ts l nd) :: led) fun r => ∃ t, r = .int (crcO st ks) t) := by
  have h16 := tab16_length
  w_top off
  k_with_none
  k_with "pyIter bytes" => (k_state (fun pre rest => OInv st pre rest) "rest"; (try (refine entry_gen (fun Qx hQx => ?_))))
  k_with "state" => first | exact oinv_start h0 h1 | exact oinv_step (by assumption) (by assumption) (by assumption) 
  k_with "subscriptTail" => (k_here; (with_reducible show wpAny _ _ (subscriptTail _ _ (Value.ref _) (Value.int _ _)) _ _ _); k_dflt (refine' item_itI ?N ?m ?i ?a ?b ?f ?_; (case N => k_asm); (case m => k_mem); (case i => with_reducible assumption); (case a => first | exact and15_lo (at_rng (by assumption) (by assumption) (by assumption)).1 | exact and15_lo (at_rng (by assumption) (by assumption) (by assumption)).2); (case b => first | exact and15_len (at_rng (by assumption) (by assumption) (by assumption)).1 | exact and15_len (at_rng (by assumption) (by assumption) (by assumption)).2); (case f => first | exact and15_63 (at_rng (by assumption) (by assumption) (by assumption)).1 | exact and15_63 (at_rng (by assumption) (by assumption) (by assumption)).2); k_whole); intro t9)
  k_with "subscriptTail Name BinOp ref int" => k_extra "subscriptTail"
  ((intro dp un gd cn cs a ccd cl outer A₀ base h₀ L m s Q E B F X N T hcs hdp hun hret; refine wpAny_call ?_; k_dflt (refine' code_def ?k1 ?k2 ?k3 ?k4 ?k5 ?kA ?kF ?kK ?k6 ?k7 ?k8 ?k9 ?kB ?_ ?c2 ?c3 ?c4 ?c5; (case kA => exact rfl); (case kF => exact rfl); (case kK => first | exact rfl | assumption); (case k1 => k_asm); (case k2 => k_asm); (case k3 => k_asm); (case k4 => k_asm); (case k5 => k_asm); (case k6 => k_is); (case k7 => k_is); (case k8 => ktr_room); (case k9 => exact binds_K (by k_in) rfl (by k_is) rfl rfl rfl); (case c5 => decide); (case kB => exact locs rfl); (case c2 => exact rfl); (case c3 => exact rfl); (case c4 => exact rfl); k_whole; intro g' L' h' FG' F' N' B' X' T'; (try dsimp only); (try k_lift B'); (try k_fold))); (refine entry_gen (fun Qx hQx => ?_)))
  (repeat' (first | (k_unfold; (try dsimp only)) | walk1 | (dsimp only; walk1) | (leave1; walk_say "STEP leave1"; try dsimp only)))
  (refine ret_of hret (by k_asm) (by k_asm) ?_)
  exact ⟨rfl, int_back (by rename OInv _ _ _ => hA; rw [hA.1]; rfl)⟩
theorem crc_of1_meets {w mean mg mb led b t ks x dx ts l vs nd n} (hb : KBw.bInts b = ks) (hn : ks.length ≤ 300) (hi : IntsAre vs tab16) :
    Meets w mean mg mb 1 8 ((l, PySem.W.listOf vs.toArray n) :: (x, instObj 113 dx) :: (dx, tabD w ts l nd) :: led) (.ref 110) [.ref x, .bytes b t] (Back ((l, PySem.W.listOf vs.toArray n) :: (x, instObj 113 dx) :: (dx, tabD w ts l nd) :: led) fun r => ∃ t, r = .int (crcO 0 ks) t) := by
  have h16 := tab16_length
  w_top off
  k_with_none
  k_with "pyIter bytes" => (k_state (fun pre rest => OInv 0 pre rest) "rest"; (try (refine entry_gen (fun Qx hQx => ?_))))
  k_with "state" => first | exact oinv_start (by decide) (by decide) | exact oinv_step (by assumption) (by assumption) (by assumption) 
  k_with "subscriptTail" => (k_here; (with_reducible show wpAny _ _ (subscriptTail _ _ (Value.ref _) (Value.int _ _)) _ _ _); k_dflt (refine' item_itI ?N ?m ?i ?a ?b ?f ?_; (case N => k_asm); (case m => k_mem); (case i => with_reducible assumption); (case a => first | exact and15_lo (at_rng (by assumption) (by assumption) (by assumption)).1 | exact and15_lo (at_rng (by assumption) (by assumption) (by assumption)).2); (case b => first | exact and15_len (at_rng (by assumption) (by assumption) (by assumption)).1 | exact and15_len (at_rng (by assumption) (by assumption) (by assumption)).2); (case f => first | exact and15_63 (at_rng (by assumption) (by assumption) (by assumption)).1 | exact and15_63 (at_rng (by assumption) (by assumption) (by assumption)).2); k_whole); intro t9)
  k_with "subscriptTail Name BinOp ref int" => k_extra "subscriptTail"
  ((intro dp un gd cn cs a ccd cl outer A₀ base h₀ L m s Q E B F X N T hcs hdp hun hret; refine wpAny_call ?_; k_dflt (refine' code_def ?k1 ?k2 ?k3 ?k4 ?k5 ?kA ?kF ?kK ?k6 ?k7 ?k8 ?k9 ?kB ?_ ?c2 ?c3 ?c4 ?c5; (case kA => exact rfl); (case kF => exact rfl); (case kK => first | exact rfl | assumption); (case k1 => k_asm); (case k2 => k_asm); (case k3 => k_asm); (case k4 => k_asm); (case k5 => k_asm); (case k6 => k_is); (case k7 => k_is); (case k8 => ktr_room); (case k9 => exact binds_K (by k_in) rfl (by k_is) rfl rfl rfl); (case c5 => decide); (case kB => exact locs rfl); (case c2 => exact rfl); (case c3 => exact rfl); (case c4 => exact rfl); k_whole; intro g' L' h' FG' F' N' B' X' T'; (try dsimp only); (try k_lift B'); (try k_fold))); (refine entry_gen (fun Qx hQx => ?_)))
  (repeat' (first | (k_unfold; (try dsimp only)) | walk1 | (dsimp only; walk1) | (leave1; walk_say "STEP leave1"; try dsimp only)))
  (refine ret_of hret (by k_asm) (by k_asm) ?_)
  exact ⟨rfl, int_back (by rename OInv _ _ _ => hA; rw [hA.1]; rfl)⟩
end
section
local macro_rules | `(tactic| walk_at "exec For Name Name") => `(tactic| (k_here; (k_dflt show wpAny _ _ (exec (Stmt.For (Expr.Name ("number" : Str) _) _ _ _ _) _) _ _ _); k_dflt (refine For_invTF (by k_asm) ?_ (by intro _; rfl))))
theorem lt8 {k : Int} (h : k < 0 + (((8 - 0 : Int).toNat : Nat) : Int)) : k < 8 := h
theorem flip_lt {pre : List Int} {k : Int} (hk : k = 0 + (pre.length : Int)) (hn : pre.length < (32 - 0 : Int).toNat) : k < 0 + (((32 - 0 : Int).toNat : Nat) : Int) := by omega
theorem law_done {b : Array UInt8} {ks l : List Int} {rest found : Int} (hb : KBw.bInts b = ks) (hl : l = flipN (bitsP ks) (rangeKs 0 (32 - 0 : Int).toNat).length) (hc : CInv l rest) (hf : FInv rest (rangeKs 0 (32 - 0 : Int).toNat) found) : found = crcO 0 ks :=
  crc_law (hb ▸ fun _ h => KBw.ints_in h) (by rw [rangeKs_length] at hl; exact hl) hc hf
local macro_rules | `(tactic| l_bnd) => `(tactic| first | assumption | ((repeat (with_reducible rename _ ∧ _ => hx9; clear hx9)); (repeat (with_reducible rename _ ≠ _ => hx9; clear hx9)); k_dflt omega))
theorem law_crc_meets {w mean mg mb led b t ks} (hb : KBw.bInts b = ks) (hn : ks.length ≤ 300)  : Meets w mean mg mb 4 32 led (.ref 230) [.bytes b t] (Back led fun r => ∃ t, r = .int (crcO 0 ks) t) := by
  w_top off
  k_with_none
  have h8 := bits8_length ks
  k_with "binaryOp Add ref ref" => (k_here; (with_reducible show wpAny _ _ (binaryOp _ (Value.ref _) (Value.ref _)) _ _ _); k_dflt (refine' kmk_add_ints ?F ?N ?a ?b ?i ?j ?_ ?z; (case F => k_asm); (case N => k_asm); (case a => exact News.isList (by k_asm) (by k_mem)); (case b => exact News.isList (by k_asm) (by k_mem)); (case i => with_reducible assumption); (case j => with_reducible assumption); (case z => rw [sizeLine_eq, h8]; (k_dflt show 8 * ks.length + 32 ≤ 16777216); omega)); intro D' ws' h' F' N' l1 hI'; (try k_lt l1); (try k_sweep))
  k_with "call builtin:list.extend" => (k_here; (with_reducible show wpAny _ _ (call (Value.builtin _) [Value.ref _, Value.ref _]) _ _ _); k_dflt (refine' extend_in_ints (own := [(_, _)]) ?F ?N ?o ?a ?b ?i ?j ?_ ?z; (case F => k_asm); (case N => k_asm); (case o => exact apart1 (by k_ne)); (case a => k_all); (case b => exact News.get (by k_asm) (by k_mem)); (case i => with_reducible assumption); (case j => assumption); (case z => rw [sizeLine_eq]; exact ext_size (by assumption) (by assumption) hn)); intro h9' n9' F9' N9' i9'; (try simp only [List.cons_append, List.nil_append] at N9'))
  k_with "ExtEnd" => (k_dflt (refine' ext_end (by k_asm) (by k_asm) (by k_mem) (by k_mem) (by intro p hp; repeat (first | exact hp | refine List.Mem.tail _ ?_)) (by assumption) (by assumption) rfl))
  k_with "pyIter ref" => (k_of "bit" => (k_state (fun pre rest => CInv pre rest) "rest"; (try (refine entry_gen (fun Qx hQx => ?_)))))
  k_with "pyIter ref" => (k_of "k" => first | (k_state_given ["rest"] (fun rest pre found => FInv rest pre found) "found") | ((k_state (fun pre bits => bits = flipN (bitsP ks) pre.length ∧ bits.length = 8 * ks.length + 32) "bits"; (try (refine entry_gen (fun Qx hQx => ?_))))))
  k_with "state" => first | exact flip_start' ks | exact cinv_start | exact finv_start _ | exact finv_step (by assumption) | exact cinv_step1 (by assumption) (bin_at (by assumption) (by assumption)) (by assumption) | exact cinv_step2 (by assumption) (bin_at (by assumption) (by assumption)) (by assumption) | exact flip_step (by assumption) (by assumption) (by assumption) (by assumption) | exact flip_step (by assumption) (by assumption) (by assumption) (flip_lt (by assumption) (by assumption)) | fail "state"
  k_with "subscriptTail" => (k_here; (with_reducible show wpAny _ _ (subscriptTail _ _ (Value.ref _) (Value.int _ _)) _ _ _); k_dflt (refine' item_ints ?N ?m ?i ?a ?b ?f ?_; (case N => k_asm); (case m => k_mem); (case i => with_reducible assumption); (case a => (first | (with_reducible refine (ix_word ?_ ?_ ?_ ?_ ?_).1 <;> first | with_reducible assumption | decide) | (with_reducible refine (ix_round ?_ ?_ ?_).1 <;> first | with_reducible assumption | decide) | (with_reducible refine (ix_flip ?_ ?_ ?_).1 <;> first | with_reducible assumption | decide) | (with_reducible refine (ix_page0 ?_ ?_ ?_).1 <;> first | with_reducible assumption | decide) | (with_reducible refine (ix_page ?_ ?_ ?_ ?_ ?_).1 <;> first | with_reducible assumption | decide) | (first | ((repeat (with_reducible rename _ ∧ _ => hx9; clear hx9)); (repeat (with_reducible rename _ ≠ _ => hx9; clear hx9)); omega) | omega))); (case b => (first | (with_reducible refine (ix_word ?_ ?_ ?_ ?_ ?_).2.1 <;> first | with_reducible assumption | decide) | (with_reducible refine (ix_round ?_ ?_ ?_).2.1 <;> first | with_reducible assumption | decide) | (with_reducible refine (ix_flip ?_ ?_ ?_).2.1 <;> first | with_reducible assumption | decide) | (with_reducible refine (ix_page0 ?_ ?_ ?_).2.1 <;> first | with_reducible assumption | decide) | (with_reducible refine (ix_page ?_ ?_ ?_ ?_ ?_).2.1 <;> first | with_reducible assumption | decide) | (first | ((repeat (with_reducible rename _ ∧ _ => hx9; clear hx9)); (repeat (with_reducible rename _ ≠ _ => hx9; clear hx9)); omega) | omega))); (case f => (first | (with_reducible refine (ix_word ?_ ?_ ?_ ?_ ?_).2.2 <;> first | with_reducible assumption | decide) | (with_reducible refine (ix_round ?_ ?_ ?_).2.2 <;> first | with_reducible assumption | decide) | (with_reducible refine (ix_flip ?_ ?_ ?_).2.2 <;> first | with_reducible assumption | decide) | (with_reducible refine (ix_page0 ?_ ?_ ?_).2.2 <;> first | with_reducible assumption | decide) | (with_reducible refine (ix_page ?_ ?_ ?_ ?_ ?_).2.2 <;> first | with_reducible assumption | decide) | (first | ((repeat (with_reducible rename _ ∧ _ => hx9; clear hx9)); (repeat (with_reducible rename _ ≠ _ => hx9; clear hx9)); omega) | omega))); k_whole); intro t9)
  k_with "subscriptTail Name Name ref int" => k_extra "subscriptTail"
  k_with "pyIter bytes" => (k_here; k_dflt (refine' iter_ext_bytes hb rfl (by k_asm) (by k_asm) (by exact .nil) (by k_asm) (fun _ _ _ _ h => wpAny_pure h) bits8 (fun i9 k9 t9 vs9 n9 co9 cv9 s9 own9 hk9 hc9 hi9 o1 o2 F9 N9 => ?_) (fun h9 tk9 vs9 n9 co9 F9 N9 hi9 => ?_)))
  k_with "binaryOp Pow int int" => ((with_reducible rename _ < (0 : Int) + _ => hz9); replace hz9 := lt8 hz9)
  ((intro dp un gd cn cs a ccd cl outer A₀ base h₀ L m s Q E B F X N T hcs hdp hun hret; refine wpAny_call ?_; k_dflt (refine' code_defC ?k1 ?k2 ?k3 ?k4 ?k5 ?kA ?kF ?kK ?k6 ?k7 ?k8 ?k9 ?kB ?kD ?_ ?c2 ?c3 ?c4; (case kA => exact rfl); (case kF => exact rfl); (case kK => first | exact rfl | assumption); (case k1 => k_asm); (case k2 => k_asm); (case k3 => k_asm); (case k4 => k_asm); (case k5 => k_asm); (case k6 => k_is); (case k7 => k_is); (case k8 => ktr_room); (case k9 => exact BindsTo.of_eq rfl); (case kB => exact rfl); (case kD => decide +kernel); (case c2 => exact rfl); (case c3 => exact rfl); (case c4 => exact rfl); k_whole; intro g' L' h' tk' cells' FG' F' N' Y' B' X' T' l1; (try k_lt l1); k_cells Y'; (try simp only [List.cons_append, List.nil_append] at N'); (try dsimp only); (try k_lift B'); (try k_fold))); (refine entry_gen (fun Qx hQx => ?_)))
  (repeat' (first | (k_unfold; (try dsimp only)) | walk1 | (dsimp only; walk1) | (leave1; walk_say "STEP leave1"; try dsimp only)))
  (refine' ret_sub led hret ?rF ?rN ?rS ?_; (case rF => k_asm); (case rN => k_asm); (case rS => intro p hp; repeat (first | exact hp | refine List.Mem.tail _ ?_)))
  exact ⟨rfl, int_back (law_done hb (by assumption) (by assumption) (by assumption))⟩
end
section
local macro_rules | `(tactic| k_intsEnd) => `(tactic| exact IntsAre.nil)
def TabInv (pre tb : List Int) : Prop := tb = pre.map (iterI 4)
theorem tab_start : TabInv [] [] ∧ ([] : List Int).length = ([] : List Int).length := ⟨rfl, rfl⟩
theorem tab_step {pre tb : List Int} {k r : Int} (h : TabInv pre tb) (hl : tb.length = pre.length) (hr : TInv k (rangeKs 0 (4 - 0 : Int).toNat).length r) : TabInv (pre ++ [k]) (tb ++ [r]) ∧ (tb ++ [r]).length = (pre ++ [k]).length := by
  unfold TabInv at *
  refine ⟨?_, by simp [hl]⟩
  rw [List.map_append, h, hr.1]
  rfl
theorem under_make {dp un : Nat} {gd : Option (List Code)} {cn : Str} {cs : Scope} {L a C : Addr} {ccd : Value} {cl : List (Str × Addr)} {outer : List Env} {vals : List Value} :
    ∃ gd', (ktrTop dp un gd cn cs L a ccd cl outer).under (.builtin "type.__call__" ⟨.ref C :: vals, []⟩) = ktrTop (dp + 1) (un + 1) gd' cn cs L a ccd cl outer := ⟨pushGuards (Code.guards (.builtin "type.__call__" ⟨.ref C :: vals, []⟩)) gd, rfl⟩
theorem tab_done {vs : List Value} (h : IntsAre vs ((rangeKs 0 (16 - 0 : Int).toNat).map (iterI 4))) : IntsAre vs tab16 := h
theorem crc_new_meets {w mean mg mb led} : Meets w mean mg mb 2 16 led (.ref 113) [] (fun r led' => ∃ (x dx l : Addr) (vs : List Value) (n : Nat) (ts : Tok) (nd : Nat), led' = (l, PySem.W.listOf vs.toArray n) :: (x, instObj 113 dx) :: (dx, tabD w ts l nd) :: led ∧ r = .ref x ∧ IntsAre vs tab16 ∧ dx < x ∧ x < l ∧ ∀ p ∈ led, p.1 < dx) := by
  w_top off
  k_with_none
  k_with "pyIter ref" => (k_of "number" => (k_state (fun pre table => TabInv pre table ∧ table.length = pre.length) "self.table"; (try (refine entry_gen (fun Qx hQx => ?_)))))
  k_with "pyIter ref" => (k_of "turn" => ((rename Int => num9); k_state_short (fun pre rest => TInv num9 pre.length rest) "rest"))
  k_with "state" => (first | exact tab_start | exact tab_step (by assumption) (by assumption) (by assumption) | exact tinv_step1 (by assumption) (by assumption) | exact tinv_step2 (by assumption) (by assumption) | exact tinv_start (by omega) (by omega))
  (intro dp un gd cn cs a ccd cl outer A₀ base h₀ L m s Q E B F X N T hcs hdp hun hret)
  (k_dflt (refine' call_cls ?k1 ?k2 ?k3 ?k4 ?k5 ?k6 ?_; (case k1 => k_asm); (case k2 => k_asm); (case k3 => k_asm); (case k4 => k_is); (case k5 => k_is); (case k6 => k_is); k_whole; intro x' d' h' F' N' l1 l2; (try k_lt l1); (try k_lt2 l2); (try k_sweep)))
  obtain ⟨gd9, eg9⟩ := @under_make dp un gd cn cs L a 113 ccd cl outer []
  rw [eg9]
  ((refine' code_def ?k1 ?k2 ?k3 ?k4 ?k5 ?kA ?kF ?kK ?k6 ?k7 ?k8 ?k9 ?kB ?_ ?c2 ?c3 ?c4 ?c5; (case kA => exact rfl); (case kF => exact rfl); (case kK => first | exact rfl | assumption); (case k1 => k_asm); (case k2 => k_asm); (case k3 => k_asm); (case k4 => k_asm); (case k5 => k_asm); (case k6 => k_is); (case k7 => k_is); (case k8 => ktr_room); (case k9 => exact BindsTo.of_eq rfl); (case c5 => decide); (case kB => exact locs rfl); (case c2 => exact rfl); (case c3 => exact rfl); (case c4 => exact rfl); k_whole; intro g' L' h' FG' F' N' B' X' T'; (try dsimp only); (try k_lift B'); (try k_fold)); (refine entry_gen (fun Qx hQx => ?_)))
  (repeat' (first | (k_unfold; (try dsimp only)) | walk1 | (dsimp only; walk1) | (leave1; walk_say "STEP leave1"; try dsimp only)))
  (rename TabInv _ _ => hT)
  (rename _ ∧ _ ∧ AllLt _ _ => hl9)
  unfold TabInv at hT
  subst hT
  exact hret _ _ _ _ (by k_asm) (by k_asm) ⟨_, _, _, _, _, _, _, rfl, rfl, tab_done (by with_reducible assumption), (by assumption), hl9.1, (by assumption)⟩
end
section
local macro_rules | `(tactic| units_room) => `(tactic| ktr_units)
abbrev deckK (l : Addr) (mi : Int) (tm : Tok) : List (Str × Value) := [(Str.ofString "left", .ref l), (Str.ofString "mixed", .int mi tm)]
abbrev IsDeck (w : World) (o : Obj) (l : Addr) (mi : Int) (tm : Tok) : Prop := o.IsDictOf (strKind PySem.Challenge.pw_nt0270_01 w) (deckK l mi tm)
def Cells (ns : List Int) : Prop := ns.length ≤ 24 ∧ ∀ x ∈ ns, 0 ≤ x ∧ x < 1000003
theorem Cells.tail {ns : List Int} (h : Cells ns) : Cells ns.tail := ⟨by rw [List.length_tail]; have := h.1; omega, fun x hx => h.2 x (List.mem_of_mem_tail hx)⟩
/-- a draw: an int below many; the deck goes on -/
abbrev Drawn (w : World) (d l : Addr) (led : List (Addr × Obj)) (many : Int) (r : Value) (led' : List (Addr × Obj)) : Prop :=
  ∃ (v : Int) (t : Tok) (o : Obj) (vs : List Value) (ns : List Int) (n : Nat) (mi : Int) (tm : Tok), led' = (d, o) :: (l, PySem.W.listOf vs.toArray n) :: led ∧ r = .int v t ∧ 0 ≤ v ∧ v < many ∧ IsDeck w o l mi tm ∧ 0 ≤ mi ∧ mi < 1000003 ∧ IntsAre vs ns ∧ Cells ns
section
variable {prog : Program} {w : World} {A : Around} {E : Value → Shared → Prop} {s : Shared} {h₀ : Heap} {L D : Addr} {m : Str → Option Value} {news news' : List (Addr × Obj)} {vs : List Value} {ns : List Int} {n : Nat} {u : Tok} {Q : Value → Shared → Prop}
theorem pop0 (F : Fr h₀ L s.heap m) (N : News h₀ L s.heap news) (hi : IntsAre vs ns) (hne : decide (ns = []) = false) (hc : Cells ns) (U : Upd D (PySem.W.listOf vs.toArray n) (PySem.W.listOf vs.tail.toArray (n + 1)) news news')
    (h : ∀ h' t, Fr h₀ L h' m → News h₀ L h' news' → IntsAre vs.tail ns.tail → Q (.int (ns.headD 0) t) { s with heap := h' }) : wpAny (model prog w) A (call (.builtin "list.pop") [.ref D, .int 0 u]) Q E s := by
  cases hi with
  | nil => simp at hne
  | cons k t r =>
    have hl := r.length
    have hc1 := hc.1
    rw [List.length_cons] at hc1
    refine kl_popAt (k := 0) (p := []) F N rfl ?_ rfl U ?_ fun h' F' N' => h h' t F' N' r
    · unfold seqIndex?
      simp
    · rw [sizeLine_eq, List.toList_toArray, List.length_cons]
      omega
end
theorem draw_meets {w mean mg mb led d l o vs ns n mi tm many t} (hd : IsDeck w o l mi tm) (lo : (d == sysModules) = false) (h0 : 0 ≤ mi) (h1 : mi < 1000003) (hi : IntsAre vs ns) (hc : Cells ns) (hm : 1 ≤ many) (hm2 : many ≤ 1000) (hdl : @Ne Nat d l) (od : LCg.Off1 d led) (ol : LCg.Off1 l led) :
    Meets w mean mg mb 1 100 ((d, o) :: (l, PySem.W.listOf vs.toArray n) :: led) (.ref 208) [.ref d, .int many t] (Drawn w d l led many) := by
  w_top off
  delta IsDeck deckK at hd
  k_with_none
  k_with "call builtin:list.pop" => (k_here; (with_reducible show wpAny _ _ (call (Value.builtin _) [Value.ref _, Value.int _ _]) _ _ _); k_dflt (refine' pop0 ?F ?N hi ?e hc ?U ?_; (case F => k_asm); (case N => k_asm); (case U => k_upd); (case e => with_reducible assumption)); intro h9 t9 F9 N9 i9; (try dsimp only [List.nil_append, List.cons_append] at N9))
  ((intro dp un gd cn cs a ccd cl outer A₀ base h₀ L m s Q E B F X N T hcs hdp hun hret; refine wpAny_call ?_; k_dflt cell_enter); (refine entry_gen (fun Qx hQx => ?_)))
  (repeat' (first | (k_unfold; (try dsimp only)) | walk1 | (dsimp only; walk1) | (leave1; walk_say "STEP leave1"; try dsimp only)))
  · (rename Obj.IsDictOf _ _ _ => hd9)
    exact hret _ _ _ _ (by k_asm) (kst_newsOf (by k_asm) (by intro p hp; repeat (first | exact hp | refine List.Mem.tail _ ?_))) ⟨_, _, _, vs, ns, n, _, _, rfl, rfl, Int.fmod_nonneg_of_pos _ (by omega), Int.fmod_lt_of_pos _ (by omega), hd9, Int.fmod_nonneg_of_pos _ (by decide), Int.fmod_lt_of_pos _ (by decide), hi, hc⟩
  · exact hret _ _ _ _ (by k_asm) (kst_newsOf (by k_asm) (by intro p hp; repeat (first | exact hp | refine List.Mem.tail _ ?_))) ⟨_, _, _, vs.tail, ns.tail, n + 1, _, _, rfl, rfl, Int.fmod_nonneg_of_pos _ (by omega), Int.fmod_lt_of_pos _ (by omega), hd, h0, h1, (by with_reducible assumption), hc.tail⟩
end
section
theorem dict_nil {w : World} {o : Obj} (h : o.IsDictOf (intKind PySem.Challenge.pw_nt0270_01 w) []) : o.IsDictOf (bytesKind PySem.Challenge.pw_nt0270_01 w) [] := by
  obtain ⟨es, ep, a, b, c, d, e⟩ := h
  have hn : es = #[] := by
    have : es.toList = [] := by cases hh : es.toList with
      | nil => rfl
      | cons x r => rw [hh] at d; cases d
    exact Array.toList_eq_nil_iff.mp this
  subst hn
  refine ⟨#[], ep, a, b, fun x hx => ?_, ?_, List.nodup_nil⟩
  · simp at hx
  · constructor
theorem sha_new_meets {w mean mg mb led} : Meets w mean mg mb 2 16 led (.ref 163) [] (fun r led' => ∃ (x dx : Addr) (ts ti : Tok) (nd : Nat), led' = (x, instObj 163 dx) :: (dx, dictOf [⟨PyData.keyHash w.params (Str.ofString "size"), .str (Str.ofString "size") ts, .int 20 ti⟩] nd) :: led ∧ r = .ref x ∧ dx < x ∧ ∀ p ∈ led, p.1 < dx) := by
  w_top off
  k_with_none
  (intro dp un gd cn cs a ccd cl outer A₀ base h₀ L m s Q E B F X N T hcs hdp hun hret)
  (k_dflt (refine' call_cls ?k1 ?k2 ?k3 ?k4 ?k5 ?k6 ?_; (case k1 => k_asm); (case k2 => k_asm); (case k3 => k_asm); (case k4 => k_is); (case k5 => k_is); (case k6 => k_is); k_whole; intro x' d' h' F' N' l1 l2; (try k_lt l1); (try k_lt2 l2); (try k_sweep)))
  obtain ⟨gd9, eg9⟩ := @under_make dp un gd cn cs L a 163 ccd cl outer []
  rw [eg9]
  ((refine' code_def ?k1 ?k2 ?k3 ?k4 ?k5 ?kA ?kF ?kK ?k6 ?k7 ?k8 ?k9 ?kB ?_ ?c2 ?c3 ?c4 ?c5; (case kA => exact rfl); (case kF => exact rfl); (case kK => first | exact rfl | assumption); (case k1 => k_asm); (case k2 => k_asm); (case k3 => k_asm); (case k4 => k_asm); (case k5 => k_asm); (case k6 => k_is); (case k7 => k_is); (case k8 => ktr_room); (case k9 => exact BindsTo.of_eq rfl); (case c5 => decide); (case kB => exact locs rfl); (case c2 => exact rfl); (case c3 => exact rfl); (case c4 => exact rfl); k_whole; intro g' L' h' FG' F' N' B' X' T'; (try dsimp only); (try k_lift B'); (try k_fold)); (refine entry_gen (fun Qx hQx => ?_)))
  (repeat' (first | (k_unfold; (try dsimp only)) | walk1 | (dsimp only; walk1) | (leave1; walk_say "STEP leave1"; try dsimp only)))
  exact hret _ _ _ _ (by k_asm) (by k_asm) ⟨_, _, _, _, _, rfl, rfl, (by assumption), (by assumption)⟩
theorem cnt_new_meets {w mean mg mb led} : Meets w mean mg mb 2 16 led (.ref 192) [] (fun r led' => ∃ (x dx kd : Addr) (o : Obj) (ts ti tk : Tok) (nd : Nat), led' = (kd, o) :: (x, instObj 192 dx) :: (dx, dictOf [⟨PyData.keyHash w.params (Str.ofString "size"), .str (Str.ofString "size") ts, .int 4 ti⟩, ⟨PyData.keyHash w.params (Str.ofString "known"), .str (Str.ofString "known") tk, .ref kd⟩] nd) :: led ∧ r = .ref x ∧ dx < x ∧ x < kd ∧ (∀ p ∈ led, p.1 < dx) ∧ (kd == sysModules) = false ∧ o.IsDictOf (bytesKind PySem.Challenge.pw_nt0270_01 w) []) := by
  w_top off
  k_with_none
  (intro dp un gd cn cs a ccd cl outer A₀ base h₀ L m s Q E B F X N T hcs hdp hun hret)
  (k_dflt (refine' call_cls ?k1 ?k2 ?k3 ?k4 ?k5 ?k6 ?_; (case k1 => k_asm); (case k2 => k_asm); (case k3 => k_asm); (case k4 => k_is); (case k5 => k_is); (case k6 => k_is); k_whole; intro x' d' h' F' N' l1 l2; (try k_lt l1); (try k_lt2 l2); (try k_sweep)))
  obtain ⟨gd9, eg9⟩ := @under_make dp un gd cn cs L a 192 ccd cl outer []
  rw [eg9]
  ((refine' code_def ?k1 ?k2 ?k3 ?k4 ?k5 ?kA ?kF ?kK ?k6 ?k7 ?k8 ?k9 ?kB ?_ ?c2 ?c3 ?c4 ?c5; (case kA => exact rfl); (case kF => exact rfl); (case kK => first | exact rfl | assumption); (case k1 => k_asm); (case k2 => k_asm); (case k3 => k_asm); (case k4 => k_asm); (case k5 => k_asm); (case k6 => k_is); (case k7 => k_is); (case k8 => ktr_room); (case k9 => exact binds_K (by k_in) rfl (by k_is) rfl rfl rfl); (case c5 => decide); (case kB => exact locs rfl); (case c2 => exact rfl); (case c3 => exact rfl); (case c4 => exact rfl); k_whole; intro g' L' h' FG' F' N' B' X' T'; (try dsimp only); (try k_lift B'); (try k_fold)); (refine entry_gen (fun Qx hQx => ?_)))
  (repeat' (first | (k_unfold; (try dsimp only)) | walk1 | (dsimp only; walk1) | (leave1; walk_say "STEP leave1"; try dsimp only)))
  (rename _ ∧ _ ∧ AllLt _ _ => hl9)
  exact hret _ _ _ _ (by k_asm) (by k_asm) ⟨_, _, _, _, _, _, _, _, rfl, rfl, (by assumption), hl9.1, (by assumption), (by assumption), dict_nil (by assumption)⟩
end
section
abbrev cntD (w : World) (ts ti tk : Tok) (kd : Addr) (nd : Nat) : Obj := dictOf [⟨PyData.keyHash w.params (Str.ofString "size"), .str (Str.ofString "size") ts, .int 4 ti⟩, ⟨PyData.keyHash w.params (Str.ofString "known"), .str (Str.ofString "known") tk, .ref kd⟩] nd
theorem num_same {kvs : List (List UInt8 × Value)} {T : List (List UInt8)} {k : List UInt8} (h : NumTab kvs T) (hk : (valueAt kvs k).isSome = true) : NumTab kvs (addT T k) := by rw [(num_old h hk).1]; exact h
theorem bytesKind_is {w : World} (b : Array UInt8) (t : Tok) : (bytesKind PySem.Challenge.pw_nt0270_01 w).is b.toList (.bytes b t) = true := by simp [bytesKind, isBytes]
theorem bytesKind_isL {w : World} (k : List UInt8) (t : Tok) : (bytesKind PySem.Challenge.pw_nt0270_01 w).is k (.bytes k.toArray t) = true := by simp [bytesKind, isBytes]
theorem cnt_digest_meets {w mean mg mb led b t x dx kd ts ti tk nd o kvs T} (hd : Obj.IsDictOf (bytesKind PySem.Challenge.pw_nt0270_01 w) o kvs) (hn : NumTab kvs T) (hT : T.length ≤ 8) (lo : (kd == sysModules) = false) (hx : @Ne Nat x kd) (hdx : @Ne Nat dx kd) (ho : LCg.Off1 kd led) :
    Meets w mean mg mb 2 32 ((kd, o) :: (x, instObj 192 dx) :: (dx, cntD w ts ti tk kd nd) :: led) (.ref 189) [.ref x, .bytes b t]
      (fun r led' => ∃ o' kvs' t, led' = (kd, o') :: (x, instObj 192 dx) :: (dx, cntD w ts ti tk kd nd) :: led ∧ r = .bytes (byteArr (beL (numT T b.toList) 4)) t ∧ Obj.IsDictOf (bytesKind PySem.Challenge.pw_nt0270_01 w) o' kvs' ∧ NumTab kvs' (addT T b.toList)) := by
  have hln := hn.1
  have hnr := numT_range T b.toList
  w_top off
  k_with_none
  k_with "call type:bytes" => (k_here; (with_reducible show wpAny _ _ (call (Value.type "bytes") [Value.bytes _ _]) _ _ _); refine call_bytes_bytes ?_)
  k_with "compareOp NotIn bytes ref" => (k_here; k_dflt (refine' kdg_notin (knd := bytesKind _ _) ?N ?m ?d ?l (bytesKind_is b _) (valueAt kvs b.toList).isSome rfl ?_; (case N => k_asm); (case m => k_mem); (case d => with_reducible assumption); (case l => with_reducible assumption)))
  k_with "setItem ref bytes" => (k_here; k_dflt (refine' kda_set (knd := bytesKind _ _) ?F ?N ?U ?d (bytesKind_is b _) ?z ?_; (case F => k_asm); (case N => k_asm); (case U => k_updF); (case d => with_reducible assumption); (case z => rw [sizeLine_eq]; omega)); intro h' o' F' N' hd'; (try dsimp only at N'))
  k_with "call builtin:len" => (k_here; (with_reducible show wpAny _ _ (call (Value.builtin "len") [Value.ref _]) _ _ _); k_dflt (refine' kda_len (knd := bytesKind _ _) ?N ?m ?d ?l ?z ?_; (case N => k_asm); (case m => k_mem); (case d => with_reducible assumption); (case l => with_reducible assumption); (case z => omega)))
  k_with "subscriptTail" => (k_here; (with_reducible show wpAny _ _ (subscriptTail _ _ (Value.ref _) (Value.bytes _ _)) _ _ _); (rename Obj.IsDictOf _ _ _ => hd9); (rename Option.isSome _ = _ => hq9); k_dflt (first
    | (obtain ⟨ea9, tt9, ev9⟩ := num_old hn hq9; (refine' kda_item (knd := bytesKind _ _) ?N ?m hd9 (bytesKind_is b _) ev9 ?_; (case N => k_asm); (case m => k_mem)))
    | (refine' kda_item (knd := bytesKind _ _) ?N ?m hd9 (bytesKind_is b _) (num_new hn hq9 rfl).2.2 ?_; (case N => k_asm); (case m => k_mem))))
  k_with "subscriptTail Name Name ref bytes" => k_extra "subscriptTail"
  k_with "call ref" => ((with_reducible show wpAny _ _ (call (Value.ref 52) _) _ _ _); k_dflt (first | refine' Meets.use_int (big_endian_meets (by omega) (by omega) (by omega) (by omega)) (by k_asm) (by k_asm) (by k_asm) (by k_asm) (by k_asm) (by first | exact rfl | assumption) (by ktr_room) (by ktr_units) ?_ | refine' Meets.use_bytes (big_endian_meets (by omega) (by omega) (by omega) (by omega)) (by k_asm) (by k_asm) (by k_asm) (by k_asm) (by k_asm) (by first | exact rfl | assumption) (by ktr_room) (by ktr_units) ?_); intro t9 h9 tk9 F9 N9; (try k_sweep); (try dsimp only); (try k_fold))
  ((intro dp un gd cn cs a ccd cl outer A₀ base h₀ L m s Q E B F X N T hcs hdp hun hret; refine wpAny_call ?_; k_dflt cell_enter); (refine entry_gen (fun Qx hQx => ?_)))
  (repeat' (first | (k_unfold; (try dsimp only)) | walk1 | (dsimp only; walk1) | (leave1; walk_say "STEP leave1"; try dsimp only)))
  all_goals (rename Obj.IsDictOf _ _ _ => hd9)
  all_goals (rename Option.isSome _ = _ => hq9)
  · exact hret _ _ _ _ (by k_asm) (by k_asm) ⟨_, _, _, rfl, rfl, hd9, num_same hn hq9⟩
  · exact hret _ _ _ _ (by k_asm) (by k_asm) ⟨_, _, _, rfl, rfl, hd9, (num_new hn hq9 rfl).1⟩
end
section
open PySem.Calls PySem.Spec PyProof.Rows.LCg
section
variable {prog : Program} {w : World} {A : Around} {E : Value → Shared → Prop} {s : Shared} {h₀ : Heap} {L : Addr} {m : Str → Option Value} {env : Env}
/-- the end of a turn whose element changes the ledger -/
def SEnd (h₀ : Heap) (L : Addr) (m : Str → Option Value) (s₁ : Shared) (I : Addr) (oI : Obj) (C : Addr) (oC : Obj) (D : Addr) (oD : Obj) (J : List (Addr × Obj) → Prop) (P : Int → Prop) (y : Value) (s₂ : Shared) : Prop :=
  ∃ h tk news k t, s₂ = { s₁ with heap := h, toks := tk } ∧ Fr h₀ L h m ∧ News h₀ L h ((I, oI) :: (C, oC) :: (D, oD) :: news) ∧ J news ∧ y = .int k t ∧ P k
theorem send_intro {s₁ : Shared} {I C D : Addr} {oI oC oD : Obj} {J : List (Addr × Obj) → Prop} {P : Int → Prop} {k : Int} {t : Tok} {h : Heap} {tk : Nat} {all news : List (Addr × Obj)} (F : Fr h₀ L h m) (N : News h₀ L h all) (hs : ∀ p ∈ (I, oI) :: (C, oC) :: (D, oD) :: news, p ∈ all) (hJ : J news) (hP : P k) :
    SEnd h₀ L m s₁ I oI C oC D oD J P (.int k t) { s₁ with heap := h, toks := tk } := ⟨h, tk, news, k, t, rfl, F, fun p hp => N p (hs p hp), hJ, rfl, hP⟩
/-- a turn of a block whose element changes the ledger -/
def STurn (prog : Program) (w : World) (A : Around) (h₀ : Heap) (L : Addr) (m : Str → Option Value) (env : Env) (elt : PySem.Expr) (scope : Scope) (cl : List (Str × Addr)) (s : Shared) (J : List (Addr × Obj) → Prop) (P : Int → Prop) : Prop :=
  ∀ I oI C oC D cm ys h tk news (E' : Value → Shared → Prop), J news → NsObj oC cm → Fr h₀ L h m → News h₀ L h ((I, oI) :: (C, oC) :: (D, lst ys) :: news) → Off3 I C D news → ((@Ne Nat I C) ∧ (@Ne Nat I D) ∧ (@Ne Nat C D)) →
    wpAny (model prog w) A (eval elt (compEnvC scope cl C env)) (SEnd h₀ L m { s with heap := h, toks := tk } I oI C oC D (lst ys) J P) E' { s with heap := h, toks := tk }
theorem block_S {elt target iter : PySem.Expr} {scope : Scope} {cl : List (Str × Addr)} {pos : Pos} {s₂ : Shared} {I : Addr} {n : Nat} {St : Nat → Heap → Prop} {Pm : Nat → (Str → Option Value) → Prop} {news : List (Addr × Obj)} {J : List (Addr × Obj) → Prop} {P : Int → Prop}
    {RR : Value → Addr → Result → Shared → Prop} (W : CSrc prog w A env scope cl target I [I] [I] n St Pm) (hsz : n ≤ sizeLine)
    (hcell : ∀ y ∈ scope.names, y.2 ≠ .cell) (hkind : scope.kind = .function) (hst : St 0 s₂.heap) (F : Fr h₀ L s₂.heap m) (N : News h₀ L s₂.heap news)
    (hIL : L ≠ I) (hI₀ : h₀.get? I = none) (offI : ∀ p ∈ news, p.1 ≠ I) (hJ0 : J news) (hJ : ∀ nx, J nx → ∀ p ∈ nx, ∃ o, (p.1, o) ∈ news) (T : STurn prog w A h₀ L m env elt scope cl s₂ J P)
    (hRR : ∀ D C h tk cm ys ns nx, Fr h₀ L h m → News h₀ L h ((D, lst ys) :: nx) → J nx → Off1 D nx → h.Ns C cm → h₀.get? C = none → h₀.get? D = none → C ≠ L → D ≠ L → C ≠ D → (∀ p ∈ nx, p.1 ≠ C) → IntsAre ys ns → ns.length = n → (∀ x ∈ ns, P x) → RR (.ref D) C (.ok .next) { s₂ with heap := h, toks := tk }) :
    wpAny (model prog w) A (newList []) (fun acc s₃ => wpAny (model prog w) A (newFunctionEnv scope env.globals cl [] env.qual none .none (some env)) (fun cenv s₄ =>
      codeAny (model prog w) A (.compStart (.ListComp elt [⟨target, iter, [], 0⟩] scope pos) 0 (.ref I) acc { cenv with scope := relabel scope env }) (RR acc cenv.locals) s₄) E s₃) E s₂ := by
  have hI : I ∈ [I] := .head _
  refine wpAny_newObj_type (wpAny_newFunctionEnv hcell (by intro y hy; simp at hy) (fun h₁ hns₁ hsb₁ => ?_) hkind)
  dsimp only at hns₁ hsb₁ ⊢
  generalize hH2 : s₂.heap.push { cls := .type "list", dict := none, data := .seq ([] : List Value).toArray } = H2 at hns₁ hsb₁ ⊢
  have hC : H2.objs.size = s₂.heap.objs.size + 1 := by rw [← hH2, Heap.size_push]
  have lt : ∀ b o, s₂.heap.get? b = some o → b ≠ H2.objs.size ∧ b ≠ s₂.heap.objs.size := fun b o e => by
    have := Heap.lt_size e
    rw [hC]
    exact ⟨Nat.ne_of_lt (Nat.lt_succ_of_lt this), Nat.ne_of_lt this⟩
  have hDC : s₂.heap.objs.size ≠ H2.objs.size := by rw [hC]; exact Nat.ne_of_lt (Nat.lt_succ_self _)
  have hCf : H2.objs.size ∉ [I] := fun hm => by obtain ⟨o, e⟩ := W.has 0 _ hst _ hm; exact (lt _ o e).1 rfl
  have hDf : s₂.heap.objs.size ∉ [I] := fun hm => by obtain ⟨o, e⟩ := W.has 0 _ hst _ hm; exact (lt _ o e).2 rfl
  have old : ∀ b o, s₂.heap.get? b = some o → h₁.get? b = some o := fun b o e => hsb₁.extBut b o (lt b o e).1 (Heap.get?_push_of_some _ (hH2 ▸ Heap.get?_push_of_some _ e))
  have hacc : h₁.get? s₂.heap.objs.size = some (lst []) := hsb₁.extBut _ _ hDC (Heap.get?_push_of_some _ (hH2 ▸ Heap.get?_push_size _ rfl))
  have fresh₀ : ∀ a, s₂.heap.objs.size ≤ a → h₀.get? a = none := fun a ha => by
    cases e : h₀.get? a with
    | none => rfl
    | some o' => exact absurd (Heap.lt_size (F.keep a o' e)) (Nat.not_lt.mpr ha)
  have hD₀ : h₀.get? s₂.heap.objs.size = none := fresh₀ _ (Nat.le_refl _)
  have hC₀ : h₀.get? H2.objs.size = none := fresh₀ _ (by rw [hC]; exact Nat.le_succ _)
  have hLlt : L < s₂.heap.objs.size := F.ns.lt
  have hDL : s₂.heap.objs.size ≠ L := Ne.symm (Nat.ne_of_lt hLlt)
  have hCL : H2.objs.size ≠ L := by rw [hC]; exact Ne.symm (Nat.ne_of_lt (Nat.lt_succ_of_lt hLlt))
  have hIC : I ≠ H2.objs.size := fun e => hCf (e ▸ hI)
  have hID : I ≠ s₂.heap.objs.size := fun e => hDf (e ▸ hI)
  have offN : ∀ nx, J nx → Off3 I H2.objs.size s₂.heap.objs.size nx := fun nx hx => Off3.of fun p hp => by
    obtain ⟨o, hm⟩ := hJ nx hx p hp
    exact ⟨offI (p.1, o) hm, (lt _ _ (N _ hm).1).1, (lt _ _ (N _ hm).1).2⟩
  have loop : ∀ s₃ : Shared, s₃ = { s₂ with heap := h₁, toks := s₂.toks + ([] : List (Str × Value)).length } →
      codeAny (model prog w) A (.compLoop (.ListComp elt [⟨target, iter, [], 0⟩] scope pos) 0 (.ref I) (.ref s₂.heap.objs.size) (compEnvC scope cl H2.objs.size env)) (RR (.ref s₂.heap.objs.size) H2.objs.size) s₃ := by
    rintro s₃ rfl
    refine comp_loop (fun k s' => ∃ h' tk i ys cm ns nx, s' = { s₂ with heap := h', toks := tk } ∧ i ≤ n ∧ k = n + 1 - i ∧ St i h' ∧ Fr h₀ L h' m ∧ h'.Ns H2.objs.size cm ∧ News h₀ L h' ((s₂.heap.objs.size, lst ys) :: nx) ∧ J nx ∧ IntsAre ys ns ∧ ns.length = i ∧ ∀ x ∈ ns, P x) ?_ (n + 1)
      ⟨h₁, _, 0, [], _, [], news, rfl, Nat.zero_le _, rfl, W.frame _ _ _ hst fun b _ o e => old b o e, F.keeps old, hns₁, fun p hp => ?_, hJ0, .nil, rfl, fun _ h => nomatch h⟩
    · rintro k s' ⟨h', tk, i, ys, cm, ns, nx, rfl, hi, rfl, hst', F', hn', N', hJx, hys, hnl, hP⟩
      have oN := offN nx hJx
      by_cases hlt : i < n
      · refine W.turn i _ H2.objs.size cm _ _ _ hlt hst' hCf hn' fun h₃ tk₃ cm₃ hst₃ hn₃ hPm hk₃ => ?_
        have F₃ : Fr h₀ L h₃ m := ⟨F'.ns.at' fun o e => hk₃ L o (fun hm => hIL (List.mem_singleton.mp hm)) (Ne.symm hCL) e, fun b o e => hk₃ b o (fun hm => by rw [List.mem_singleton.mp hm, hI₀] at e; cases e) (fun q => by rw [q, hC₀] at e; cases e) (F'.keep b o e), F'.above⟩
        have N₃ : News h₀ L h₃ ((s₂.heap.objs.size, lst ys) :: nx) := fun p hp => by
          refine ⟨hk₃ _ _ ?_ ?_ (N' p hp).1, (N' p hp).2⟩
          · rcases List.mem_cons.mp hp with rfl | hp
            · exact hDf
            · exact fun hm => (oN.mem p hp).1 (List.mem_singleton.mp hm)
          · rcases List.mem_cons.mp hp with rfl | hp
            · exact hDC
            · exact (oN.mem p hp).2.1
        obtain ⟨oI, heI⟩ := W.has _ _ hst₃ I hI
        obtain ⟨oC, heC, hoC⟩ := ns_obj hn₃
        have NN : News h₀ L h₃ ((I, oI) :: (H2.objs.size, oC) :: (s₂.heap.objs.size, lst ys) :: nx) := fun p hp => by
          rcases List.mem_cons.mp hp with rfl | hp
          · exact ⟨heI, Ne.symm hIL, hI₀⟩
          · rcases List.mem_cons.mp hp with rfl | hp
            · exact ⟨heC, hCL, hC₀⟩
            · exact N₃ _ hp
        refine wpAny_mono (T I oI H2.objs.size oC s₂.heap.objs.size cm₃ ys h₃ tk₃ nx _ hJx hoC F₃ NN oN ⟨hIC, hID, Ne.symm hDC⟩) (fun y s₄ g₄ => ?_) fun _ _ e => e
        obtain ⟨h₄, tk₄, nx₄, k₄, t₄, rfl, F₄, N₄, hJ₄, rfl, hP₄⟩ := g₄
        have oN₄ := offN nx₄ hJ₄
        have zI := (N₄ (I, oI) (.head _)).1
        have zC := (N₄ (H2.objs.size, oC) (.tail _ (.head _))).1
        have zD := (N₄ (s₂.heap.objs.size, lst ys) (.tail _ (.tail _ (.head _)))).1
        have N₄' : News h₀ L h₄ nx₄ := fun p hp => N₄ p (.tail _ (.tail _ (.tail _ hp)))
        have hst₄ : St (i + 1) h₄ := W.frame _ _ _ hst₃ fun b hb o e => by
          rw [List.mem_singleton.mp hb] at e ⊢
          rw [heI] at e
          cases e
          exact zI
        have hyl : ys.length = i := by rw [hys.length, hnl]
        refine append_at (hsz := by show ys.toArray.size ≤ sizeLine; rw [List.size_toArray, hyl]; exact Nat.le_trans hi hsz) zD fun h₅ hs₅ hD₅ => ?_
        refine ⟨n + 1 - (i + 1), by omega, h₅, tk₄, i + 1, ys ++ [.int k₄ t₄], _, ns ++ [k₄], nx₄, rfl, hlt, rfl, W.frame _ _ _ hst₄ fun b hb o e => hs₅.extBut b o (fun q => hDf (by have q' : b = s₂.heap.objs.size := q; rw [← q']; exact hb)) e, F₄.change hs₅ hDL hD₀,
          (hoC.ns zC).sameBut hs₅ (Ne.symm hDC), fun p hp => ?_, hJ₄, IntsAre.append hys (.cons _ _ .nil), by rw [List.length_append, hnl]; rfl, fun x hx => ?_⟩
        · rcases List.mem_cons.mp hp with rfl | hp
          · exact ⟨hD₅.trans (congrArg some (lst_snoc ys _)), hDL, hD₀⟩
          · exact ⟨hs₅.extBut _ _ (oN₄.mem p hp).2.2 (N₄' p hp).1, (N₄' p hp).2⟩
        · rcases List.mem_append.mp hx with hx | hx
          · exact hP x hx
          · rw [List.mem_singleton.mp hx]; exact hP₄
      · obtain rfl : i = n := Nat.le_antisymm hi (Nat.not_lt.mp hlt)
        refine W.done _ _ _ hst' fun h₂ tk₂ hk₂ => ?_
        refine hRR _ _ h₂ tk₂ _ ys ns nx ⟨F'.ns.at' fun o e => hk₂ L o (fun hm => hIL (List.mem_singleton.mp hm)) e, fun b o e => hk₂ b o (fun hm => by rw [List.mem_singleton.mp hm, hI₀] at e; cases e) (F'.keep b o e), F'.above⟩ (fun p hp => ?_) hJx oN.one (hn'.at' fun o e => hk₂ _ o hCf e) hC₀ hD₀ hCL hDL (Ne.symm hDC) (fun p hp => (oN.mem p hp).2.1) hys hnl hP
        refine ⟨hk₂ _ _ ?_ (N' p hp).1, (N' p hp).2⟩
        rcases List.mem_cons.mp hp with rfl | hp
        · exact hDf
        · exact fun hm => (oN.mem p hp).1 (List.mem_singleton.mp hm)
    · rcases List.mem_cons.mp hp with rfl | hp
      · exact ⟨hacc, hDL, hD₀⟩
      · exact ⟨old _ _ (N p hp).1, (N p hp).2⟩
  have hst₁ : St 0 h₁ := W.frame _ _ _ hst fun b _ o e => old b o e
  exact codeAny_compStart_list (loop _ rfl) (W.self 0 _ _ _ hst₁ (loop _ rfl))

/-- the range over which a block runs whose element changes the ledger -/
def SSrc (prog : Program) (w : World) (A : Around) (h₀ : Heap) (L : Addr) (m : Str → Option Value) (env : Env) (elt : PySem.Expr) (scope : Scope) (cl : List (Str × Addr)) (Fin : Shared → List Value → List (Addr × Obj) → Prop) (xv : Value) (s₁ : Shared) : Prop :=
  ∃ r a b t u v n news J P, xv = .ref r ∧ Fr h₀ L s₁.heap m ∧ News h₀ L s₁.heap news ∧ IsRange s₁.heap r a b 1 t u v ∧ Builtin.Range.small a b 1 = true ∧ Builtin.Range.rangeSize a b 1 = ((n : Nat) : Int) ∧ n ≤ sizeLine ∧
    J news ∧ (∀ nx, J nx → ∀ p ∈ nx, ∃ o, (p.1, o) ∈ news) ∧ STurn prog w A h₀ L m env elt scope cl s₁ J P ∧ ∀ ys ns nx, IntsAre ys ns → ns.length = n → (∀ x ∈ ns, P x) → J nx → Fin s₁ ys nx
theorem ssrc_intro {elt : PySem.Expr} {scope : Scope} {cl : List (Str × Addr)} {Fin : Shared → List Value → List (Addr × Obj) → Prop} {r : Addr} {a b : Int} {t u v : Tok} {n : Nat} {all : List (Addr × Obj)} (news : List (Addr × Obj)) (J : List (Addr × Obj) → Prop) (P : Int → Prop) (F : Fr h₀ L s.heap m) (N : News h₀ L s.heap all)
    (hr : IsRange s.heap r a b 1 t u v) (hsm : Builtin.Range.small a b 1 = true) (hn : Builtin.Range.rangeSize a b 1 = ((n : Nat) : Int)) (hsz : n ≤ sizeLine) (hs : ∀ p ∈ news, p ∈ all) (hJ0 : J news) (hJ : ∀ nx, J nx → ∀ p ∈ nx, ∃ o, (p.1, o) ∈ news)
    (T : ∀ I oI C oC D cm ys h tk nx (E' : Value → Shared → Prop), J nx → NsObj oC cm → Fr h₀ L h m → News h₀ L h ((I, oI) :: (C, oC) :: (D, lst ys) :: nx) → Off3 I C D nx → ((@Ne Nat I C) ∧ (@Ne Nat I D) ∧ (@Ne Nat C D)) →
      wpAny (model prog w) A (eval elt (compEnvC scope cl C env)) (SEnd h₀ L m { s with heap := h, toks := tk } I oI C oC D (lst ys) J P) E' { s with heap := h, toks := tk })
    (fin : ∀ ys ns nx, IntsAre ys ns → ns.length = n → (∀ x ∈ ns, P x) → J nx → Fin s ys nx) : SSrc prog w A h₀ L m env elt scope cl Fin (.ref r) s :=
  ⟨r, a, b, t, u, v, n, news, J, P, rfl, F, fun p hp => N p (hs p hp), hr, hsm, hn, hsz, hJ0, hJ, T, fin⟩
theorem comp_assign_S {elt iter : PySem.Expr} {x y : Str} {px py : Pos} {scope : Scope} {cl : List (Str × Addr)} {pos spos : Pos} {Q : Flow → Shared → Prop} (F₀ : Fr h₀ L s.heap m) (hLe : env.locals = L) (hh : A.handled = none)
    (hsw : swapsWith (.ListComp elt [⟨.Name x px, iter, [], 0⟩] scope pos) (some (.Name y py)) spos.line env = pure true)
    (hclos : closureFor scope env = pure cl) (hcell : ∀ z ∈ scope.names, z.2 ≠ .cell) (hkind : scope.kind = .function) (hnames : ∀ z ∈ scope.names, z.2 = .local → scope.names.lookup z.1 = some .local) (hx : scope.names.lookup x = some .local)
    (hy : env.kindOf y = some .local) (hp : (env.scope.kind == .class || (env.scope.kind == .module && env.locals != env.globals)) = false)
    (h : wpAny (model prog w) A (eval iter env) (SSrc prog w A h₀ L m env elt scope cl (fun s₂ => FinA h₀ L m s₂ y Q)) E s)
    (hs : ∀ x, foldedSetIterable iter env x = pure x := by intro _; rfl) :
    wpAny (model prog w) A (exec (.Assign [.Name y py] (.ListComp elt [⟨.Name x px, iter, [], 0⟩] scope pos) spos) env) Q E s := by
  subst hLe
  rw [exec_Assign_Name_used _ _ _ _ hsw]
  refine wpAny_bind (wpAny_standAt (wpAny_bind ?_))
  show wpAny _ A (do let _ ← comprehension (.ListComp elt [⟨.Name x px, iter, [], 0⟩] scope pos) scope env _ (newList []) false (eval iter env) (some (assign (.Name y py) env))) _ _ s
  refine wpAny_bind (wpAny_mono (wpAny_comprehension_free (use := some (assign (.Name y py) env)) (Q := fun _ s' => Q .next s') rfl hs hclos hkind hnames
    (wpAny_mono h (fun xv s₁ h₁ => ?_) fun _ _ e => e)) (fun _ s' hq => wpAny_pure (wpAny_pure hq)) fun _ _ e => e)
  obtain ⟨r, a, b, t, u, v, n, news, J, P, rfl, F, N, hr, hsm, hn, hsz, hJ0, hJ, T, fin⟩ := h₁
  refine wpAny_pyIter_range hr hsm ?_
  refine block_S (csrc_name (Walks.range hh s₁.heap.objs.size a 1 n) hkind hx (fun i h st b hb => by rw [List.mem_singleton.mp hb]; exact ⟨_, st⟩)) hsz hcell hkind (by show IsRangeIter _ _ _ _ _; rw [hn]; simpa using Heap.get?_push_size _ rfl) (F.push _)
    (fun p hp => ⟨Heap.get?_push_of_some _ (N p hp).1, (N p hp).2⟩) (Nat.ne_of_lt F.ns.lt) (next_is_new F) (fun p hp => Nat.ne_of_lt (Heap.lt_size (N p hp).1)) hJ0 hJ T ?_
  intro D C h' tk cm ys ns nx F' N' hJx o1 hnC hC₀ hD₀ hCL hDL hCD offC hys hnl hP
  show wpAny _ A (assign (.Name y py) env (.ref D)) _ _ _
  refine wpAny_assign_Name (wpAny_storeName_local hy F'.ns (fun h₂ hn₂ hs₂ => ?_) hp)
  have hL₀ : h₀.get? env.locals = none := Heap.get?_none_of_le F'.above
  have F₂ : Fr h₀ env.locals h₂ (fun z => if z = y then some (.ref D) else m z) := ⟨hn₂, fun b o e => hs₂.extBut b o (fun q => by rw [q, hL₀] at e; cases e) (F'.keep b o e), F'.above⟩
  refine ⟨cm, hnC.sameBut hs₂ hCL, fun h'' hs'' => fin ys ns nx hys hnl hP hJx D h'' _ (F₂.change hs'' hCL hC₀) (fun p hp => ?_) o1⟩
  have z : h₂.get? p.1 = some p.2 := hs₂.extBut _ _ (N' p hp).2.1 (N' p hp).1
  refine ⟨hs''.extBut _ _ ?_ z, (N' p hp).2⟩
  rcases List.mem_cons.mp hp with rfl | hp
  · exact Ne.symm hCD
  · exact offC p hp
end
end
section
local macro_rules | `(tactic| units_room) => `(tactic| ktr_units)
/-- what the deck holds behind some draws -/
abbrev DeckBack (w : World) (d l : Addr) (led : List (Addr × Obj)) (R : Value → Prop) (r : Value) (led' : List (Addr × Obj)) : Prop :=
  ∃ (o : Obj) (vs : List Value) (ns : List Int) (n : Nat) (mi : Int) (tm : Tok), led' = (d, o) :: (l, PySem.W.listOf vs.toArray n) :: led ∧ R r ∧ IsDeck w o l mi tm ∧ 0 ≤ mi ∧ mi < 1000003 ∧ IntsAre vs ns ∧ Cells ns
theorem news_rot1 {h₀ h : Heap} {L : Addr} {a b c : Addr × Obj} {r : List (Addr × Obj)} (N : News h₀ L h (a :: b :: c :: r)) : News h₀ L h (b :: c :: a :: r) := kst_newsOf N fun p hp => by
  simp only [List.mem_cons] at hp ⊢
  rcases hp with h | h | h | h <;> simp [h]
theorem news_rot3 {h₀ h : Heap} {L : Addr} {x y z b c : Addr × Obj} {r : List (Addr × Obj)} (N : News h₀ L h (x :: y :: z :: b :: c :: r)) : News h₀ L h (b :: c :: x :: y :: z :: r) := kst_newsOf N fun p hp => by
  simp only [List.mem_cons] at hp ⊢
  rcases hp with h | h | h | h | h | h <;> simp [h]
section
variable {prog : Program} {w : World} {A : Around} {E : Value → Shared → Prop} {s : Shared} {h₀ : Heap} {L : Addr} {news : List (Addr × Obj)} {value slice : PySem.Expr} {a : Addr} {vs : List Value} {ns : List Int} {n : Nat} {k : Int} {u : Tok} {Q : Value → Shared → Prop}
theorem menu_item (lo hi : Int) (N : News h₀ L s.heap news) (hm : (a, PySem.W.listOf vs.toArray n) ∈ news) (hi' : IntsAre vs ns) (h0 : 0 ≤ k) (h1 : k < ns.length) (hfit : k < 2 ^ 63) (hP : ∀ x ∈ ns, lo ≤ x ∧ x ≤ hi) (h : ∀ x t, lo ≤ x → x ≤ hi → Q (.int x t) s)
    (hs : subscripted slice false (.ref a) (.int k u) = operate [.ref a, .int k u] (getItem (.ref a) (.int k u)) := by with_unfolding_all rfl) (hg : ∀ r, letTemporaryGo value (.ref a) r = pure () := by intro _; with_unfolding_all rfl) :
    wpAny (model prog w) A (subscriptTail value slice (.ref a) (.int k u)) Q E s := by
  have hk : k.toNat < ns.length := by omega
  have e : ns.getD k.toNat 0 = ns[k.toNat] := by simp [List.getD_eq_getElem?_getD, hk]
  have hx := hP _ (List.getElem_mem hk)
  exact item_ints N hm hi' h0 h1 hfit (fun t => h _ t (by rw [e]; exact hx.1) (by rw [e]; exact hx.2)) hs hg
end
def DeckJ (w : World) (d l : Addr) (rest : List (Addr × Obj)) (nx : List (Addr × Obj)) : Prop :=
  ∃ (o : Obj) (vs : List Value) (ns : List Int) (n : Nat) (mi : Int) (tm : Tok), nx = (d, o) :: (l, PySem.W.listOf vs.toArray n) :: rest ∧ IsDeck w o l mi tm ∧ 0 ≤ mi ∧ mi < 1000003 ∧ IntsAre vs ns ∧ Cells ns
section
variable {prog : Program} {w : World} {A : Around} {E : Value → Shared → Prop} {s : Shared} {h₀ : Heap} {L d l : Addr} {m : Str → Option Value} {env : Env} {o : Obj} {vs : List Value} {ns : List Int} {n : Nat} {mi : Int} {tm : Tok} {rest : List (Addr × Obj)}
theorem deck_src {elt : PySem.Expr} {scope : Scope} {cl : List (Str × Addr)} {Fin : Shared → List Value → List (Addr × Obj) → Prop} {r : Addr} {a b lo hi : Int} {t u v : Tok} {k : Nat}
    (N : News h₀ L s.heap ((d, o) :: (l, PySem.W.listOf vs.toArray n) :: rest)) (hd : IsDeck w o l mi tm) (m0 : 0 ≤ mi) (m1 : mi < 1000003) (i : IntsAre vs ns) (c : Cells ns) (F : Fr h₀ L s.heap m)
    (hr : IsRange s.heap r a b 1 t u v) (hsm : Builtin.Range.small a b 1 = true) (hn : Builtin.Range.rangeSize a b 1 = ((k : Nat) : Int)) (hsz : k ≤ sizeLine)
    (T : ∀ I oI C oC D cm ys h tk o vs ns n mi tm (E' : Value → Shared → Prop), IsDeck w o l mi tm → 0 ≤ mi → mi < 1000003 → IntsAre vs ns → Cells ns → LCg.NsObj oC cm → Fr h₀ L h m → News h₀ L h ((I, oI) :: (C, oC) :: (D, LCg.lst ys) :: (d, o) :: (l, PySem.W.listOf vs.toArray n) :: rest) → LCg.Off3 I C D ((d, o) :: (l, PySem.W.listOf vs.toArray n) :: rest) → ((@Ne Nat I C) ∧ (@Ne Nat I D) ∧ (@Ne Nat C D)) →
      wpAny (model prog w) A (eval elt (compEnvC scope cl C env)) (SEnd h₀ L m { s with heap := h, toks := tk } I oI C oC D (LCg.lst ys) (DeckJ w d l rest) (fun x => lo ≤ x ∧ x < hi)) E' { s with heap := h, toks := tk })
    (fin : ∀ ys ks o vs ns n mi tm, IntsAre ys ks → ks.length = k → (∀ x ∈ ks, lo ≤ x ∧ x < hi) → IsDeck w o l mi tm → 0 ≤ mi → mi < 1000003 → IntsAre vs ns → Cells ns → Fin s ys ((d, o) :: (l, PySem.W.listOf vs.toArray n) :: rest)) : SSrc prog w A h₀ L m env elt scope cl Fin (.ref r) s := by
  refine ssrc_intro ((d, o) :: (l, PySem.W.listOf vs.toArray n) :: rest) (DeckJ w d l rest) (fun x => lo ≤ x ∧ x < hi) F N hr hsm hn hsz (fun _ h => h) ⟨o, vs, ns, n, mi, tm, rfl, hd, m0, m1, i, c⟩ ?_ ?_ ?_
  · rintro nx ⟨o', vs', ns', n', mi', tm', rfl, _⟩ p hp
    rcases List.mem_cons.mp hp with rfl | hp
    · exact ⟨_, .head _⟩
    · rcases List.mem_cons.mp hp with rfl | hp
      · exact ⟨_, .tail _ (.head _)⟩
      · exact ⟨p.2, .tail _ (.tail _ hp)⟩
  · rintro I oI C oC D cm ys h tk nx E' ⟨o', vs', ns', n', mi', tm', rfl, d', a0, a1, i', c'⟩ hC F' N' off ne
    exact T I oI C oC D cm ys h tk o' vs' ns' n' mi' tm' E' d' a0 a1 i' c' hC F' N' off ne
  · rintro ys ks nx iy ly py ⟨o', vs', ns', n', mi', tm', rfl, d', a0, a1, i', c'⟩
    exact fin ys ks o' vs' ns' n' mi' tm' iy ly py d' a0 a1 i' c'
theorem send_deck {s₁ : Shared} {I C D : Addr} {oI oC oD : Obj} {lo hi k : Int} {t : Tok} {h : Heap} {tk : Nat} (F : Fr h₀ L h m) (N : News h₀ L h ((d, o) :: (l, PySem.W.listOf vs.toArray n) :: (I, oI) :: (C, oC) :: (D, oD) :: rest)) (hd : IsDeck w o l mi tm) (m0 : 0 ≤ mi) (m1 : mi < 1000003) (i : IntsAre vs ns) (c : Cells ns) (hP : lo ≤ k ∧ k < hi) :
    SEnd h₀ L m s₁ I oI C oC D oD (DeckJ w d l rest) (fun x => lo ≤ x ∧ x < hi) (.int k t) { s₁ with heap := h, toks := tk } :=
  send_intro (news := (d, o) :: (l, PySem.W.listOf vs.toArray n) :: rest) F N (fun p hp => by
    simp only [List.mem_cons] at hp ⊢
    rcases hp with h | h | h | h | h | h <;> simp [h]) ⟨o, vs, ns, n, mi, tm, rfl, hd, m0, m1, i, c⟩ hP
end
theorem menu_rng {v a b c : Int} (v1 : v < 8) (v0 : 0 ≤ v) (a1 : a < 7) (a0 : 0 ≤ a) (b1 : b < 9) (b0 : 0 ≤ b) (c1 : c < 45) (c0 : 0 ≤ c) : 0 ≤ [55, 56, 57 + a, 64, 0, 1 + b, 10 + c, 3].getD v.toNat 0 ∧ [55, 56, 57 + a, 64, 0, 1 + b, 10 + c, 3].getD v.toNat 0 ≤ 64 := by
  have hv : v.toNat < 8 := by omega
  generalize v.toNat = k at hv
  match k, hv with
  | 0, _ => show (0 : Int) ≤ 55 ∧ (55 : Int) ≤ 64; decide
  | 1, _ => show (0 : Int) ≤ 56 ∧ (56 : Int) ≤ 64; decide
  | 2, _ => show 0 ≤ 57 + a ∧ 57 + a ≤ 64; omega
  | 3, _ => show (0 : Int) ≤ 64 ∧ (64 : Int) ≤ 64; decide
  | 4, _ => show (0 : Int) ≤ 0 ∧ (0 : Int) ≤ 64; decide
  | 5, _ => show 0 ≤ 1 + b ∧ 1 + b ≤ 64; omega
  | 6, _ => show 0 ≤ 10 + c ∧ 10 + c ≤ 64; omega
  | 7, _ => show (0 : Int) ≤ 3 ∧ (3 : Int) ≤ 64; decide
theorem rng_small {x : Int} (h0 : 0 ≤ x) (h1 : x ≤ 64) : Builtin.Range.small 0 (if 5 < x then 5 else x) 1 = true := by
  split
  · decide
  · exact small_one (by omega) (by omega) (by omega) (by omega)
theorem rng_size {x : Int} (h0 : 0 ≤ x) (h1 : x ≤ 64) : ((if 5 < x then 5 else x) - 0 : Int).toNat ≤ sizeLine := by
  rw [sizeLine_eq]
  split <;> omega
theorem len5 {x : Int} {n : Nat} (h : n = ((if 5 < x then 5 else x) - 0 : Int).toNat) : n ≤ 5 := by
  subst h
  split <;> omega
theorem piece_in {ks : List Int} {n : Nat} (h : ∀ x ∈ ks, 0 ≤ x ∧ x < 256) : KBa.In (List.take n (List.replicate 13 ks).flatten) := by
  intro y hy
  obtain ⟨l, hl, hy⟩ := List.mem_flatten.mp (List.mem_of_mem_take hy)
  rw [List.eq_of_mem_replicate hl] at hy
  exact h y hy
theorem piece_len {ks : List Int} {x : Int} (h0 : 0 ≤ x) (h1 : x ≤ 64) : (List.take x.toNat (List.replicate 13 ks).flatten).length ≤ 64 := by
  rw [List.length_take]
  omega
local macro_rules | `(tactic| walk_at "exec Assign cons ListComp") => `(tactic| (k_here; k_dflt (refine comp_assign_S (by k_asm) rfl rfl (by with_unfolding_all rfl) (by with_unfolding_all rfl) (by decide) (by rfl) (by decide) (by rfl) (by rfl) (by rfl) ?_)))
theorem octets_meets {w mean mg mb led d l o vs ns n mi tm} (hd : IsDeck w o l mi tm) (lo : (d == sysModules) = false) (h0 : 0 ≤ mi) (h1 : mi < 1000003) (hi : IntsAre vs ns) (hc : Cells ns) (hdl : @Ne Nat d l) (od : LCg.Off1 d led) (ol : LCg.Off1 l led) :
    Meets w mean mg mb 3 200 ((d, o) :: (l, PySem.W.listOf vs.toArray n) :: led) (.ref 213) [.ref d] (DeckBack w d l led fun r => ∃ b t, r = .bytes b t ∧ (KBw.bInts b).length ≤ 64) := by
  w_top off
  k_with_none
  k_with "call ref" => ((with_reducible show wpAny _ _ (call (Value.ref 208) _) _ _ _); (rename IsDeck _ _ _ _ _ => hd9); (rename Cells _ => hc9); (rename News _ _ _ _ => nN9); k_dflt (first
    | refine' Meets.use (draw_meets hd9 lo (by assumption) (by assumption) (by with_reducible assumption) hc9 (by decide) (by decide) hdl (by repeat' (first | exact od | refine And.intro (by k_ne) ?_)) (by repeat' (first | exact ol | refine And.intro (by k_ne) ?_))) (by k_asm) (by k_asm) (by k_asm) nN9 (by k_asm) (by first | exact rfl | assumption) (by ktr_room) (by ktr_units) ?_
    | refine' Meets.use (draw_meets hd9 lo (by assumption) (by assumption) (by with_reducible assumption) hc9 (by decide) (by decide) hdl (by repeat' (first | exact od | refine And.intro (by k_ne) ?_)) (by repeat' (first | exact ol | refine And.intro (by k_ne) ?_))) (by k_asm) (by k_asm) (by k_asm) (news_rot1 nN9) (by k_asm) (by first | exact rfl | assumption) (by ktr_room) (by ktr_units) ?_
    | refine' Meets.use (draw_meets hd9 lo (by assumption) (by assumption) (by with_reducible assumption) hc9 (by decide) (by decide) hdl (by repeat' (first | exact od | refine And.intro (by k_ne) ?_)) (by repeat' (first | exact ol | refine And.intro (by k_ne) ?_))) (by k_asm) (by k_asm) (by k_asm) (news_rot3 nN9) (by k_asm) (by first | exact rfl | assumption) (by ktr_room) (by ktr_units) ?_); intro r9 led9 h9 tk9 F9 N9 e9; obtain ⟨v9, t9, o9, vs9, ns9, n9, mi9, tm9, rfl, rfl, v0, v1, d9, m0, m1, i9, c9⟩ := e9; (try k_sweep); (try dsimp only); (try k_fold))
  k_with "SSrc" => ((have hx9 := menu_rng (by with_reducible assumption) (by with_reducible assumption) (by with_reducible assumption) (by with_reducible assumption) (by with_reducible assumption) (by with_reducible assumption) (by with_reducible assumption) (by with_reducible assumption)); (rename IsDeck _ _ _ _ _ => hd9); (rename Cells _ => hc9); (rename News _ _ _ _ => nN9); (rename IsRange _ _ _ _ _ _ _ _ => rg9); k_dflt (refine' deck_src (lo := 0) (hi := 256) nN9 hd9 (by assumption) (by assumption) (by with_reducible assumption) hc9 (by k_asm) rg9 (rng_small hx9.1 hx9.2) (rangeSize_nat _ _) (rng_size hx9.1 hx9.2) ?tt ?ff); (case' tt => intro I9 oI9 C9 oC9 D9 cm9 ys9 h9 tk9 o9 vs9 ns9 n9 mi9 tm9 E9 d9 m0 m1 i9 c9 hC9 F9 N9 off9 ne9; (simp only [LCg.Off3] at off9)); (case' ff => intro ys9 ks9 o9 vs9 ns9 n9 mi9 tm9 iy9 ly9 py9 d9 m0 m1 i9 c9; replace ly9 := len5 ly9))
  k_with "SEnd" => ((rename IsDeck _ _ _ _ _ => hd9); (rename Cells _ => hc9); (rename News _ _ _ _ => nN9); k_dflt (refine' send_deck (by k_asm) nN9 hd9 (by assumption) (by assumption) (by with_reducible assumption) hc9 ⟨by assumption, by assumption⟩))
  k_with "call type:bytes" => (k_here; (with_reducible show wpAny _ _ (call (Value.type "bytes") [Value.ref _]) _ _ _); (rename 0 ≤ _ ∧ _ ≤ 64 => hx9); k_dflt (refine' KBa.make_K ?F ?N ?h ?l ?i ?r ?n ?_; (case F => k_asm); (case N => k_asm); (case h => rfl); (case l => exact News.isList (by k_asm) (by k_mem)); (case i => with_reducible assumption); (case r => exact piece_in (by assumption)); (case n => exact Nat.le_trans (piece_len hx9.1 hx9.2) (by decide))); intro h9 t9 k9 F9 N9 in9)
  ((intro dp un gd cn cs a ccd cl outer A₀ base h₀ L m s Q E B F X N T hcs hdp hun hret; refine wpAny_call ?_; k_dflt (refine' code_defC ?k1 ?k2 ?k3 ?k4 ?k5 ?kA ?kF ?kK ?k6 ?k7 ?k8 ?k9 ?kB ?kD ?_ ?c2 ?c3 ?c4; (case kA => exact rfl); (case kF => exact rfl); (case kK => first | exact rfl | assumption); (case k1 => k_asm); (case k2 => k_asm); (case k3 => k_asm); (case k4 => k_asm); (case k5 => k_asm); (case k6 => k_is); (case k7 => k_is); (case k8 => ktr_room); (case k9 => exact BindsTo.of_eq rfl); (case kB => exact rfl); (case kD => decide +kernel); (case c2 => exact rfl); (case c3 => exact rfl); (case c4 => exact rfl); k_whole; intro g' L' h' tk' cells' FG' F' N' Y' B' X' T' l1; (try k_lt l1); k_cells Y'; (try simp only [List.cons_append, List.nil_append] at N'); (try dsimp only); (try k_lift B'); (try k_fold))); (refine entry_gen (fun Qx hQx => ?_)))
  (repeat' (first | (k_unfold; (try dsimp only)) | walk1 | (dsimp only; walk1) | (leave1; walk_say "STEP leave1"; try dsimp only)))
  (rename IsDeck _ _ _ _ _ => hd9)
  (rename Cells _ => hc9)
  (rename 0 ≤ _ ∧ _ ≤ 64 => hx9)
  exact hret _ _ _ _ (by k_asm) (news_dup (by k_asm) (by k_mem) (news_dup (by k_asm) (by k_mem) (kst_newsOf (by k_asm) (by intro p hp; repeat (first | exact hp | refine List.Mem.tail _ ?_))))) ⟨_, _, _, _, _, _, rfl, ⟨_, _, rfl, by rw [KBw.ints_length, byteArr_size]; exact piece_len hx9.1 hx9.2⟩, hd9, (by assumption), (by assumption), (by with_reducible assumption), hc9⟩
end
section
section
open PyProof.Rows.LCg
variable {prog : Program} {w : World} {A : Around} {E : Value → Shared → Prop} {s : Shared} {h₀ : Heap} {L : Addr} {m : Str → Option Value} {env : Env} {scope : Scope} {cl : List (Str × Addr)}
theorem CRest.ofAny {elt : PySem.Expr} {x : Str} {Fin : Shared → List Value → List (Addr × Obj) → Prop} {ks : List Int} {news : List (Addr × Obj)} (g : Int → Int)
    (turn : ∀ k t own I oI C oC D cm ys h tk (E' : Value → Shared → Prop), k ∈ ks → NsObj oC cm → cm x = some (.int k t) → Fr h₀ L h m → News h₀ L h ((I, oI) :: (C, oC) :: (D, lst ys) :: (news ++ own)) → Off3 I C D (news ++ own) → ((@Ne Nat I C) ∧ (@Ne Nat I D) ∧ (@Ne Nat C D)) → KPfMark →
      wpAny (model prog w) A (eval elt (compEnvC scope cl C env)) (CompEnd h₀ L m { s with heap := h, toks := tk } I oI C oC D (lst ys) (fun _ => True) (fun y news' => KCfEl (news ++ own) (g k) y news')) E' { s with heap := h, toks := tk })
    (fin : KPfDone (∀ ys, IntsAre ys (ks.map g) → Fin s ys news)) : CRest prog w A h₀ L m env elt x scope cl Fin s ks news :=
  ⟨g, fun k t hk own I oI C oC D cm ys h tk E' hC hx F N off ne => turn k t own I oI C oC D cm ys h tk E' hk hC hx F N off ne True.intro, fin⟩
end
/-- a contract that may read the law's script -/
def MeetsB (w : World) (mean : ExcName → Option Value) (mg mb : Str → Option Value) (d u : Nat) (led : List (Addr × Obj)) (f : Value) (vs : List Value) (P : Heap → Prop) (R : Value → List (Addr × Obj) → Prop) : Prop :=
  ∀ (dp un : Nat) (gd : Option (List Code)) (cn : Str) (cs : Scope) (a : Addr) (ccd : Value) (cl : List (Str × Addr)) (outer : List Env) (A₀ : Around) (base h₀ : Heap) (L : Addr) (m : Str → Option Value) (s : Shared) (Q E : Value → Shared → Prop),
    P base → Below A₀ base outer h₀ → Fr h₀ L s.heap m → (hd.heap_39 w.params).In h₀ → News h₀ L s.heap led → Top hd.view_39 LL mean mg mb h₀ → cs.kind = .function →
    dp + d < recursionLimit → un + u < cLine →
    (∀ r led' h' tk', Fr h₀ L h' m → News h₀ L h' led' → R r led' → Q r { s with heap := h', toks := tk' }) →
    wpAny (model PySem.Challenge.pw_nt0270_01 w) (ktrTop dp un gd cn cs L a ccd cl outer) (call f vs) Q E s
local macro_rules | `(tactic| walk_at "eval ListComp") => `(tactic| (k_here; (with_reducible show wpAny _ _ (eval (Expr.ListComp _ _ _ _) _) _ _ _); k_dflt (refine comp_eval (F₀ := by k_asm) (by with_unfolding_all rfl) (by decide) (by rfl) (by decide) ?_)))
theorem take_size {us : List Value} {ns : List Int} (h : IntsAre us (List.take 24 ns)) : us.toArray.size ≤ sizeLine := by
  rw [sizeLine_eq, List.size_toArray, h.length, List.length_take]
  omega
theorem cells_of (ns : List Int) : Cells ((List.take 24 ns).map fun k => k.fmod 1000003) := by
  refine ⟨by rw [List.length_map, List.length_take]; omega, fun x hx => ?_⟩
  obtain ⟨k, _, rfl⟩ := List.mem_map.mp hx
  exact ⟨Int.fmod_nonneg_of_pos _ (by decide), Int.fmod_lt_of_pos _ (by decide)⟩
theorem lt_ne' {a b : Nat} (h : a < b) : @Ne Nat b a := Nat.ne_of_gt h
theorem deck_meets {w mean mg mb a vs ns} (hi : IntsAre vs ns) (hn : ns.length ≤ 63) : MeetsB w mean mg mb 2 100 [] (.ref 201) [.ref a] (fun h => h.IsList a vs.toArray)
    (fun r led' => ∃ (d l : Addr) (o : Obj) (us : List Value) (ks : List Int) (n : Nat) (mi : Int) (tm : Tok), led' = (d, o) :: (l, PySem.W.listOf us.toArray n) :: [] ∧ r = .ref d ∧ IsDeck w o l mi tm ∧ 0 ≤ mi ∧ mi < 1000003 ∧ IntsAre us ks ∧ Cells ks ∧ (d == sysModules) = false ∧ @Ne Nat d l) := by
  w_top off
  k_with_none
  k_with "MSrc" => (k_here; k_dflt (refine msrc_list (by rfl) (by k_asm) (by k_asm) (by k_mem) (by rfl) (by rfl) (by with_reducible assumption) (take_size (by with_reducible assumption)) (by rfl) (by rfl) ?_); intro g'; (refine' CRest.ofAny _ (fun k' t' own' I' oI' C' oC' D' cm' ys' h' tk' E' hk' hC' hx' F' N' off' ne' hMark' => ?_) ?_); (all_goals (try (simp only [List.cons_append] at N' off'))); (all_goals (try (simp only [LCg.Off3] at off'))); kcf_last)
  k_with "pyIter ref" => (k_state (fun pre mi => 0 ≤ mi ∧ mi < 1000003) "mixed"; (try (refine entry_gen (fun Qx hQx => ?_))))
  intro dp un gd cn cs a ccd cl outer A₀ base h₀ L m s Q E hP B F X N T hcs hdp hun hret
  refine wpAny_call ?_
  ((refine' code_def ?k1 ?k2 ?k3 ?k4 ?k5 ?kA ?kF ?kK ?k6 ?k7 ?k8 ?k9 ?kB ?_ ?c2 ?c3 ?c4 ?c5; (case kA => exact rfl); (case kF => exact rfl); (case kK => first | exact rfl | assumption); (case k1 => k_asm); (case k2 => k_asm); (case k3 => k_asm); (case k4 => k_asm); (case k5 => k_asm); (case k6 => k_is); (case k7 => k_is); (case k8 => ktr_room); (case k9 => exact BindsTo.of_eq rfl); (case c5 => decide); (case kB => exact locs rfl); (case c2 => exact rfl); (case c3 => exact rfl); (case c4 => exact rfl); k_whole; intro g' L' h' FG' F' N' B' X' T'; (try dsimp only); (try k_lift B'); (try k_fold)); (refine entry_gen (fun Qx hQx => ?_)))
  (repeat' (first | (k_unfold; (try dsimp only)) | walk1 | (dsimp only; walk1) | (leave1; walk_say "STEP leave1"; try dsimp only)))
  (rename Obj.IsDictOf _ _ _ => hd9)
  (rename _ ∧ _ ∧ _ => hl9)
  exact hret _ _ _ _ (by k_asm) (news_dup (by k_asm) (by k_mem) (news_dup (by k_asm) (by k_mem) News.nil)) ⟨_, _, _, _, _, _, _, _, rfl, rfl, hd9, (by assumption), (by assumption), (by with_reducible assumption), cells_of ns, (by assumption), (by (rename _ ∧ _ ∧ _ => hl9); exact lt_ne' hl9.2.1)⟩
end
section
theorem lt_off1' {D : Addr} : ∀ {l : List (Addr × Obj)}, (∀ p ∈ l, p.1 ≠ D) → LCg.Off1 D l
  | [], _ => trivial
  | q :: r, h => ⟨h q (.head _), lt_off1' fun p hp => h p (.tail _ hp)⟩
section
variable {prog : Program} {w : World} {A : Around} {E : Value → Shared → Prop} {s : Shared} {env : Env} {h₀ : Heap} {target : PySem.Expr} {body : List Stmt} {Q : Flow → Shared → Prop} {m₀ : Str → Option Value} {news : List (Addr × Obj)}
/-- the end of a turn over a range: the iterator as it was, the state behind the next item -/
def EndR (h₀ : Heap) (L I : Addr) (oI : Obj) (J : (Str → Option Value) → List (Addr × Obj) → Prop) (s₁ : Shared) (f : Flow) (s₂ : Shared) : Prop :=
  f = .next ∧ ∃ h' tk m' nx, s₂ = { s₁ with heap := h', toks := tk } ∧ Fr h₀ L h' m' ∧ News h₀ L h' ((I, oI) :: nx) ∧ (∀ p ∈ nx, p.1 ≠ I) ∧ J m' nx
/-- the same, of a loop that lengthens a list -/
def EndG (h₀ : Heap) (L I : Addr) (oI : Obj) (J : (Str → Option Value) → List (Addr × Obj) → Prop) (s₁ : Shared) (f : Flow) (s₂ : Shared) : Prop := EndR h₀ L I oI J s₁ f s₂
theorem iter_rangeT {r : Addr} {a b c : Int} {t u v : Tok} {n : Nat} (hh : A.handled = none) (hr : IsRange s.heap r a b c t u v) (hsm : Builtin.Range.small a b c = true) (hn : Builtin.Range.rangeSize a b c = ((n : Nat) : Int)) (F : Fr h₀ env.locals s.heap m₀) (N : News h₀ env.locals s.heap news)
    (hgo : ∀ I v (s' : Shared) (Q' : Unit → Shared → Prop), Q' () s' → wpAny (model prog w) A (letOwnedTupleGo target (.ref I) v) Q' E s')
    (J : Nat → (Str → Option Value) → List (Addr × Obj) → Prop) (h0 : J 0 m₀ news)
    (turn : ∀ i t m₁ nx s₁ I oI, i < n → J i m₁ nx → (∀ p ∈ nx, p.1 ≠ I) → Fr h₀ env.locals s₁.heap m₁ → News h₀ env.locals s₁.heap ((I, oI) :: nx) →
      wpAny (model prog w) A (assign target env (.int (a + (i : Int) * c) t)) (fun _ s₃ => wpAny (model prog w) A (execs body env) (EndR h₀ env.locals I oI (J (i + 1)) s₁) E s₃) E s₁)
    (done : ∀ h tk m₁ nx, Fr h₀ env.locals h m₁ → News h₀ env.locals h nx → J n m₁ nx → Q .next { s with heap := h, toks := tk }) :
    wpAny (model prog w) A (pyIter (.ref r)) (fun it s₂ => LoopAtT prog w A h₀ env target body Q E it s₂) E s := by
  refine wpAny_pyIter_range hr hsm ?_
  have hI0 := next_is_new F
  refine ⟨s.heap.objs.size, [s.heap.objs.size], [s.heap.objs.size], n, _, _, m₀, news, J, rfl, Walks.range hh s.heap.objs.size a c n, ?_, ?_, ?_, (by show IsRangeIter _ _ _ _ _; rw [hn]; simpa using Heap.get?_push_size _ rfl), F.push _,
    (fun p hp => ⟨Heap.get?_push_of_some _ (N p hp).1, (N p hp).2⟩), fun i s' v Q' _ hQ' => hgo _ v s' Q' hQ', h0, ?_, ?_⟩
  · intro h
    exact Nat.ne_of_lt F.ns.lt (List.mem_singleton.mp h)
  · intro b hb
    rw [List.mem_singleton.mp hb]
    exact hI0
  · intro p hp hq
    exact Nat.ne_of_lt (Heap.lt_size (N p hp).1) (List.mem_singleton.mp hq)
  · rintro i v m₁ nx s₁ own hi ⟨t, rfl⟩ hJ hoff hown hget hall hst F₁ N₁
    have hoff' : ∀ p ∈ nx, p.1 ≠ s.heap.objs.size := fun p hp e => hoff p hp (by rw [e]; exact .head _)
    obtain ⟨oI, hoI⟩ : ∃ oI, s₁.heap.get? s.heap.objs.size = some oI := ⟨_, hst⟩
    have hmem : (s.heap.objs.size, oI) ∈ own := hall _ (.head _) hI0 oI hoI
    have hone : ∀ p ∈ own, p = (s.heap.objs.size, oI) := fun p hp => by
      have h1 := List.mem_singleton.mp (hown p hp)
      have h2 := hget p hp
      rw [h1, hoI] at h2
      obtain ⟨p1, p2⟩ := p
      dsimp only at h1 h2
      cases h2
      rw [h1]
    refine wpAny_mono (turn i t m₁ nx s₁ _ oI hi hJ hoff' F₁ (fun p hp => ?_)) (fun _ s₂ h₂ => ?_) fun _ _ e => e
    · rcases List.mem_cons.mp hp with rfl | hp
      · exact N₁ _ (List.mem_append.mpr (.inl hmem))
      · exact N₁ _ (List.mem_append.mpr (.inr hp))
    · refine wpAny_mono h₂ (fun f s₃ h₃ => ?_) fun _ _ e => e
      obtain ⟨hf, h', tk, m', nx', e, F', N', off, j⟩ := h₃
      refine ⟨hf, h', tk, m', nx', e, F', fun p hp => ?_, fun p hp hq => off p hp (List.mem_singleton.mp hq), j⟩
      rcases List.mem_append.mp hp with hp | hp
      · rw [hone p hp]
        exact N' _ (.head _)
      · exact N' _ (.tail _ hp)
  · intro h' tk m' nx F' N' _ hJ
    exact done h' tk m' nx F' N' hJ
/-- the map m₀ but for some names -/
abbrev kMask (names : List Str) (u m₀ : Str → Option Value) : Str → Option Value := fun y => if names.contains y then u y else m₀ y
theorem kmask_of {names : List Str} {m' m₀ : Str → Option Value} (h : ∀ y, names.contains y = false → m' y = m₀ y) : m' = kMask names m' m₀ := by
  funext y
  unfold kMask
  cases e : names.contains y with
  | true => rfl
  | false => exact h y e
/-- a loop over a range of any step whose turns lengthen the list l by one int -/
theorem iter_grow {r l : Addr} {a b c : Int} {t u v : Tok} {n n₀ : Nat} {vs : List Value} {led : List (Addr × Obj)} (names : List Str) (G : Nat → List Int) (hh : A.handled = none) (hr : IsRange s.heap r a b c t u v) (hsm : Builtin.Range.small a b c = true) (hn : Builtin.Range.rangeSize a b c = ((n : Nat) : Int)) (F : Fr h₀ env.locals s.heap m₀)
    (N : News h₀ env.locals s.heap ((l, PySem.W.listOf vs.toArray n₀) :: led)) (hi : IntsAre vs (G 0))
    (hgo : ∀ I v (s' : Shared) (Q' : Unit → Shared → Prop), Q' () s' → wpAny (model prog w) A (letOwnedTupleGo target (.ref I) v) Q' E s')
    (turn : ∀ i t u vs n' s₁ I oI, i < n → IntsAre vs (G i) → (@Ne Nat I l) → LCg.Off1 I led → Fr h₀ env.locals s₁.heap (kMask names u m₀) → News h₀ env.locals s₁.heap ((I, oI) :: (l, PySem.W.listOf vs.toArray n') :: led) →
      wpAny (model prog w) A (assign target env (.int (a + (i : Int) * c) t)) (fun _ s₃ => wpAny (model prog w) A (execs body env) (EndG h₀ env.locals I oI (fun m' nx => (∀ y, names.contains y = false → m' y = m₀ y) ∧ ∃ vs n', nx = (l, PySem.W.listOf vs.toArray n') :: led ∧ IntsAre vs (G (i + 1))) s₁) E s₃) E s₁)
    (done : ∀ h tk u vs n', Fr h₀ env.locals h (kMask names u m₀) → News h₀ env.locals h ((l, PySem.W.listOf vs.toArray n') :: led) → IntsAre vs (G n) → Q .next { s with heap := h, toks := tk }) :
    wpAny (model prog w) A (pyIter (.ref r)) (fun it s₂ => LoopAtT prog w A h₀ env target body Q E it s₂) E s := by
  refine iter_rangeT hh hr hsm hn F N hgo (fun i m' nx => (∀ y, names.contains y = false → m' y = m₀ y) ∧ ∃ vs n', nx = (l, PySem.W.listOf vs.toArray n') :: led ∧ IntsAre vs (G i)) ⟨fun _ _ => rfl, vs, n₀, rfl, hi⟩ ?_ ?_
  · rintro i t m₁ nx s₁ I oI hin ⟨hm, vs', n', rfl, hi'⟩ hoff F₁ N₁
    have e := kmask_of hm
    rw [e] at F₁
    exact turn i t m₁ vs' n' s₁ I oI hin hi' (fun e => hoff _ (.head _) e.symm) (lt_off1' fun p hp => hoff p (.tail _ hp)) F₁ N₁
  · rintro h tk m₁ nx F₁ N₁ ⟨hm, vs', n', rfl, hi'⟩
    have e := kmask_of hm
    rw [e] at F₁
    exact done h tk m₁ vs' n' F₁ N₁ hi'
theorem grow_end {L I l : Addr} {oI : Obj} {names : List Str} {ns ns' : List Int} {led : List (Addr × Obj)} {s₁ : Shared} {h' : Heap} {tk n : Nat} {m' : Str → Option Value} {vs : List Value} {all : List (Addr × Obj)} (F : Fr h₀ L h' m') (N : News h₀ L h' all) (hl : (l, PySem.W.listOf vs.toArray n) ∈ all) (hI : (I, oI) ∈ all) (hs : ∀ p ∈ led, p ∈ all)
    (hlI : @Ne Nat I l) (off : LCg.Off1 I led) (hm : ∀ y, names.contains y = false → m' y = m₀ y) (hi : IntsAre vs ns') (e : ns' = ns) : EndG h₀ L I oI (fun m' nx => (∀ y, names.contains y = false → m' y = m₀ y) ∧ ∃ vs n', nx = (l, PySem.W.listOf vs.toArray n') :: led ∧ IntsAre vs ns) s₁ .next { s₁ with heap := h', toks := tk } := by
  show EndR _ _ _ _ _ _ _ _
  refine ⟨rfl, h', tk, m', _, rfl, F, fun p hp => ?_, off1_ne (show LCg.Off1 I ((l, PySem.W.listOf vs.toArray n) :: led) from ⟨fun e => hlI e.symm, off⟩), hm, vs, n, rfl, e ▸ hi⟩
  rcases List.mem_cons.mp hp with rfl | hp
  · exact N _ hI
  · rcases List.mem_cons.mp hp with rfl | hp
    · exact N _ hl
    · exact N _ (hs p hp)
/-- a loop over a range whose turns make a list of five words anew -/
def fiveV (S : St) (t : Tok × Tok × Tok × Tok × Tok) : List Value := [.int S.1 t.1, .int S.2.1 t.2.1, .int S.2.2.1 t.2.2.1, .int S.2.2.2.1 t.2.2.2.1, .int S.2.2.2.2 t.2.2.2.2]
theorem iter_five {r f₀ pg : Addr} {a b c : Int} {t u v : Tok} {n n₀ : Nat} {led : List (Addr × Obj)} {tt : Tok × Tok × Tok × Tok × Tok} (x z : Str) (names : List Str) (S : Nat → St) (hh : A.handled = none) (hr : IsRange s.heap r a b c t u v) (hsm : Builtin.Range.small a b c = true) (hn : Builtin.Range.rangeSize a b c = ((n : Nat) : Int)) (F : Fr h₀ env.locals s.heap m₀)
    (N : News h₀ env.locals s.heap ((f₀, PySem.W.listOf (fiveV (S 0) tt).toArray n₀) :: led)) (hx : m₀ x = some (.ref f₀)) (hz : m₀ z = some (.ref pg)) (hzx : z ≠ x) (hzn : names.contains z = false)
    (hgo : ∀ I v (s' : Shared) (Q' : Unit → Shared → Prop), Q' () s' → wpAny (model prog w) A (letOwnedTupleGo target (.ref I) v) Q' E s')
    (turn : ∀ i t (v : Str → Option Value) f tt n' s₁ I oI, i < n → (∀ y, y ≠ x → names.contains y = false → (if y = z then some (.ref pg) else v y) = m₀ y) → (@Ne Nat I f) → LCg.Off1 I led → Fr h₀ env.locals s₁.heap (fun y => if y = x then some (.ref f) else if y = z then some (.ref pg) else v y) → News h₀ env.locals s₁.heap ((I, oI) :: (f, PySem.W.listOf (fiveV (S i) tt).toArray n') :: led) →
      wpAny (model prog w) A (assign target env (.int (a + (i : Int) * c) t)) (fun _ s₃ => wpAny (model prog w) A (execs body env) (EndR h₀ env.locals I oI (fun m' nx => ∃ f tt n', m' x = some (.ref f) ∧ (∀ y, y ≠ x → names.contains y = false → m' y = m₀ y) ∧ nx = (f, PySem.W.listOf (fiveV (S (i + 1)) tt).toArray n') :: led) s₁) E s₃) E s₁)
    (done : ∀ h tk (v : Str → Option Value) f tt n', Fr h₀ env.locals h (fun y => if y = x then some (.ref f) else v y) → News h₀ env.locals h ((f, PySem.W.listOf (fiveV (S n) tt).toArray n') :: led) → Q .next { s with heap := h, toks := tk }) :
    wpAny (model prog w) A (pyIter (.ref r)) (fun it s₂ => LoopAtT prog w A h₀ env target body Q E it s₂) E s := by
  refine iter_rangeT hh hr hsm hn F N hgo (fun i m' nx => ∃ f tt n', m' x = some (.ref f) ∧ (∀ y, y ≠ x → names.contains y = false → m' y = m₀ y) ∧ nx = (f, PySem.W.listOf (fiveV (S i) tt).toArray n') :: led) ⟨f₀, tt, n₀, hx, fun _ _ _ => rfl, rfl⟩ ?_ ?_
  · rintro i t m₁ nx s₁ I oI hin ⟨f, tt', n', h1, h2, rfl⟩ hoff F₁ N₁
    have ez : m₁ z = some (.ref pg) := (h2 z hzx hzn).trans hz
    have e : m₁ = fun y => if y = x then some (.ref f) else if y = z then some (.ref pg) else m₁ y := by
      funext y
      by_cases hy : y = x
      · rw [if_pos hy, hy, h1]
      · rw [if_neg hy]
        by_cases hy2 : y = z
        · rw [if_pos hy2, hy2, ez]
        · rw [if_neg hy2]
    rw [e] at F₁
    refine turn i t m₁ f tt' n' s₁ I oI hin (fun y hy hy2 => ?_) (fun e => hoff _ (.head _) e.symm) (lt_off1' fun p hp => hoff p (.tail _ hp)) F₁ N₁
    by_cases hy3 : y = z
    · rw [if_pos hy3, hy3, hz]
    · rw [if_neg hy3]
      exact h2 y hy hy2
  · rintro h tk m₁ nx F₁ N₁ ⟨f, tt', n', h1, h2, rfl⟩
    have e : m₁ = fun y => if y = x then some (.ref f) else m₁ y := by
      funext y
      by_cases hy : y = x
      · rw [if_pos hy, hy, h1]
      · rw [if_neg hy]
    rw [e] at F₁
    exact done h tk m₁ f tt' n' F₁ N₁
theorem five_end {L I f : Addr} {oI : Obj} {x : Str} {names : List Str} {S : St} {led : List (Addr × Obj)} {s₁ : Shared} {h' : Heap} {tk n : Nat} {m' : Str → Option Value} {vs : List Value} {ns : List Int} {all : List (Addr × Obj)} (F : Fr h₀ L h' m') (N : News h₀ L h' all) (hx : m' x = some (.ref f)) (hl : (f, PySem.W.listOf vs.toArray n) ∈ all) (hI : (I, oI) ∈ all) (hs : ∀ p ∈ led, p ∈ all)
    (hf : @Ne Nat f I) (off : LCg.Off1 I led) (hm : ∀ y, y ≠ x → names.contains y = false → m' y = m₀ y) (hi : IntsAre vs ns) (e : ns = five S) :
    EndR h₀ L I oI (fun m' nx => ∃ f tt n', m' x = some (.ref f) ∧ (∀ y, y ≠ x → names.contains y = false → m' y = m₀ y) ∧ nx = (f, PySem.W.listOf (fiveV S tt).toArray n') :: led) s₁ .next { s₁ with heap := h', toks := tk } := by
  subst e
  obtain ⟨ta, tb, tc, td, te, rfl⟩ := ints5 hi
  refine ⟨rfl, h', tk, m', _, rfl, F, fun p hp => ?_, fun p hp => ?_, f, (ta, tb, tc, td, te), n, hx, hm, rfl⟩
  · rcases List.mem_cons.mp hp with rfl | hp
    · exact N _ hI
    · rcases List.mem_cons.mp hp with rfl | hp
      · exact N _ hl
      · exact N _ (hs p hp)
  · rcases List.mem_cons.mp hp with rfl | hp
    · exact hf
    · exact off1_ne off p hp
end
end
section
/-! the law's own rounds, over lists -/
theorem size_4 (a : Int) : Builtin.Range.rangeSize a (a + 64) 4 = ((16 : Nat) : Int) := by
  unfold Builtin.Range.rangeSize
  rw [if_pos (by decide), if_pos (by omega)]
  omega
theorem size_64 {n : Nat} (h : n = 64 ∨ n = 128) : Builtin.Range.rangeSize 0 (n : Int) 64 = ((n / 64 : Nat) : Int) := by
  unfold Builtin.Range.rangeSize
  rw [if_pos (by decide), if_pos (by omega)]
  omega
theorem small_4 {a : Int} (h0 : 0 ≤ a) (h1 : a ≤ 1000) : Builtin.Range.small a (a + 64) 4 = true := by
  unfold Builtin.Range.small
  rw [size_4]
  simp only [Builtin.Range.rangeFitsLong, Bool.and_eq_true, Bool.or_eq_true, decide_eq_true_eq, beq_iff_eq]
  first
    | omega
    | (split <;> omega)
    | (simp; omega)
theorem small_64 {n : Nat} (h : n = 64 ∨ n = 128) : Builtin.Range.small 0 (n : Int) 64 = true := by
  rcases h with rfl | rfl <;> decide
def blkN (ks : List Int) (i : Nat) : List Int := ((padL ks).drop (64 * i)).take 64
def stN (ks : List Int) : Nat → St
  | 0 => H0
  | i + 1 => stirS (words80 (blkN ks i)) (stN ks i)
theorem stN_w5 (ks : List Int) : ∀ i, W5 (stN ks i)
  | 0 => H0_w5
  | i + 1 => stirS_w5 _ _
theorem padL_len {ks : List Int} (h : ks.length ≤ 119) : (padL ks).length = 64 ∨ (padL ks).length = 128 := by
  by_cases h1 : ks.length ≤ 55
  · exact .inl (padL_length1 h1)
  · exact .inr (padL_length2 (by omega) h)
theorem sha_final {ks : List Int} (h : ks.length ≤ 119) : shaI ks = outL (stN ks ((padL ks).length / 64)) := by
  unfold shaI
  by_cases h1 : ks.length ≤ 55
  · rw [if_pos h1, padL_length1 h1]
    show _ = outL (stirS (words80 (blkN ks 0)) H0)
    unfold blkN
    rw [Nat.mul_zero, List.drop_zero, List.take_of_length_le (by rw [padL_length1 h1]; exact Nat.le_refl _)]
  · have hl := padL_length2 (ks := ks) (by omega) h
    rw [if_neg h1, hl]
    show _ = outL (stirS (words80 (blkN ks 1)) (stirS (words80 (blkN ks 0)) H0))
    unfold blkN
    rw [Nat.mul_zero, List.drop_zero, Nat.mul_one, List.take_of_length_le (l := List.drop 64 (padL ks)) (by rw [List.length_drop, hl]; exact Nat.le_refl _)]
theorem padL_octs {ks : List Int} (h : Octs ks) : Octs (padL ks) := by
  intro x hx
  unfold padL at hx
  rcases List.mem_append.mp hx with hx | hx
  · rcases List.mem_append.mp hx with hx | hx
    · rcases List.mem_append.mp hx with hx | hx
      · exact h x hx
      · rw [List.mem_singleton.mp hx]; decide
    · rw [List.eq_of_mem_replicate hx]; decide
  · exact beL_in _ _ x hx
theorem blk_octs {ks : List Int} (h : Octs ks) (i : Nat) : Octs (blkN ks i) := fun x hx => padL_octs h x (List.mem_of_mem_drop (List.mem_of_mem_take hx))
theorem octs_getD {l : List Int} (h : Octs l) (i : Nat) : 0 ≤ l.getD i 0 ∧ l.getD i 0 < 256 := by
  rw [List.getD_eq_getElem?_getD]
  cases e : l[i]? with
  | none => decide
  | some x => exact h x (List.mem_of_getElem? e)
theorem take4 {p : List Int} {n : Nat} (h : n + 4 ≤ p.length) : (p.drop n).take 4 = [p.getD n 0, p.getD (n + 1) 0, p.getD (n + 2) 0, p.getD (n + 3) 0] := by
  have e : ∀ q, q < p.length → p.getD q 0 = p[q]?.getD 0 := fun q _ => List.getD_eq_getElem?_getD ..
  rw [List.drop_eq_getElem_cons (by omega : n < p.length), List.drop_eq_getElem_cons (by omega : n + 1 < p.length), List.drop_eq_getElem_cons (by omega : n + 1 + 1 < p.length), List.drop_eq_getElem_cons (by omega : n + 1 + 1 + 1 < p.length)]
  simp only [List.take_succ_cons, List.take_zero]
  rw [e n (by omega), e (n + 1) (by omega), e (n + 2) (by omega), e (n + 3) (by omega)]
  rw [List.getElem?_eq_getElem (by omega), List.getElem?_eq_getElem (by omega), List.getElem?_eq_getElem (by omega), List.getElem?_eq_getElem (by omega)]
  rfl
theorem hor_four (a b c d : Int) : hor [a, b, c, d] = ((a * 256 + b) * 256 + c) * 256 + d := by
  unfold hor
  simp only [List.foldl_cons, List.foldl_nil]
  omega
/-- the first words of a block -/
def growG (ks : List Int) (i j : Nat) : List Int := (rangeKs 0 j).map fun q => hor (((blkN ks i).drop (4 * q).toNat).take 4)
theorem growG_zero (ks : List Int) (i : Nat) : growG ks i 0 = [] := rfl
theorem growG_full (ks : List Int) (i : Nat) : growG ks i 16 = words16 (blkN ks i) := rfl
theorem growG_length (ks : List Int) (i j : Nat) : (growG ks i j).length = j := by unfold growG; rw [List.length_map, rangeKs_length]
theorem grow_word {ks : List Int} {i j : Nat} (hi : i < (padL ks).length / 64) (hj : j < 16) {k : Int} (hk : k = 0 + (i : Int) * 64 + (j : Int) * 4) :
    growG ks i j ++ [(((padL ks).getD k.toNat 0 * 256 + (padL ks).getD (k + 1).toNat 0) * 256 + (padL ks).getD (k + 2).toNat 0) * 256 + (padL ks).getD (k + 3).toNat 0] = growG ks i (j + 1) := by
  have e : rangeKs 0 (j + 1) = rangeKs 0 j ++ [(j : Int)] := by
    unfold rangeKs
    rw [List.range_succ, List.map_append]
    simp
  have h0 : k.toNat = 64 * i + 4 * j := by omega
  have h1 : (k + 1).toNat = 64 * i + 4 * j + 1 := by omega
  have h2 : (k + 2).toNat = 64 * i + 4 * j + 2 := by omega
  have h3 : (k + 3).toNat = 64 * i + 4 * j + 3 := by omega
  have hq : (4 * (j : Int)).toNat = 4 * j := by omega
  have hb : ((blkN ks i).drop (4 * j)).take 4 = ((padL ks).drop (64 * i + 4 * j)).take 4 := by
    unfold blkN
    rw [List.drop_take, List.take_take, List.drop_drop]
    congr 1
    omega
  unfold growG
  rw [e, List.map_append, h0, h1, h2, h3]
  congr 1
  rw [List.map_cons, List.map_nil, hq, hb, take4 (by omega), hor_four]
theorem five_sum {ws : List Int} {S : St} {a b c d e : Int} (h : RInv ws S 80 a b c d e) : List.zipWith (fun old new => (old + new).fmod 4294967296) [S.1, S.2.1, S.2.2.1, S.2.2.2.1, S.2.2.2.2] [a, b, c, d, e] = five (stirS ws S) := by
  obtain ⟨s1, s2, s3, s4, s5⟩ := S
  unfold RInv at h
  unfold stirS
  rw [← h]
  unfold five
  have z : ∀ x y : Int, (x + y).fmod 4294967296 = Builtin.bitAnd (x + y) 4294967295 := fun x y => by rw [bitAnd_m32, Int.fmod_eq_emod_of_nonneg _ (by decide)]
  simp only [List.zipWith_cons_cons, List.zipWith_nil_right, z]
theorem be_four (x : Int) : [3, 2, 1, 0].map (fun k : Int => (x.fdiv (256 ^ k.toNat)).fmod 256) = beL x 4 := by
  unfold beL
  have e : rangeKs 0 (4 : Int).toNat = [0, 1, 2, 3] := by decide
  rw [e]
  simp only [List.map_cons, List.map_nil, Int.fmod_eq_emod_of_nonneg _ (show (0 : Int) ≤ 256 by decide)]
  rfl
theorem be_eight (x : Int) : [7, 6, 5, 4, 3, 2, 1, 0].map (fun k : Int => (x.fdiv (256 ^ k.toNat)).fmod 256) = beL x 8 := by
  unfold beL
  have e : rangeKs 0 (8 : Int).toNat = [0, 1, 2, 3, 4, 5, 6, 7] := by decide
  rw [e]
  simp only [List.map_cons, List.map_nil, Int.fmod_eq_emod_of_nonneg _ (show (0 : Int) ≤ 256 by decide)]
  rfl
theorem out_flat (S : St) : (five S).flatMap (fun x => [3, 2, 1, 0].map fun k : Int => (x.fdiv (256 ^ k.toNat)).fmod 256) = outL S := by
  unfold five outL
  simp only [be_four, List.flatMap_cons, List.flatMap_nil, List.append_nil, List.append_assoc]
theorem outL_in (S : St) : KBa.In (outL S) := by
  intro x hx
  unfold outL at hx
  simp only [List.mem_append] at hx
  rcases hx with (((h | h) | h) | h) | h <;> exact beL_in _ _ x h
theorem outL_length (S : St) : (outL S).length = 20 := by
  unfold outL
  simp only [List.length_append, beL_length]
  rfl
end
section
local macro_rules | `(tactic| size_fits) => `(tactic| (rw [sizeLine_eq, List.size_toArray]; omega))
def PInv (ks : List Int) (page : List Int) : Prop := page = ks ++ [128] ++ List.replicate (page.length - ks.length - 1) 0
theorem pinv_start {ks : List Int} {T : Nat} (hT : (T = 56 ∧ ks.length ≤ 55) ∨ (T = 120 ∧ 56 ≤ ks.length)) (hn : ks.length ≤ 119) : PInv ks (ks ++ [128]) ∧ (ks ++ [128]).length ≤ T ∧ ks.length + 1 ≤ (ks ++ [128]).length := by
  have e : (ks ++ [(128 : Int)]).length = ks.length + 1 := by simp
  unfold PInv
  rw [e]
  refine ⟨?_, by omega, by omega⟩
  have z : ks.length + 1 - ks.length - 1 = 0 := by omega
  rw [z]
  simp
theorem pinv_step {ks page : List Int} {T : Nat} (hT : (T = 56 ∧ ks.length ≤ 55) ∨ (T = 120 ∧ 56 ≤ ks.length)) (h : PInv ks page) (h1 : page.length ≤ T) (h2 : ks.length + 1 ≤ page.length) (hq : ¬ (page.length : Int).fmod 64 = 56) : PInv ks (page ++ [0]) ∧ (page ++ [0]).length ≤ T ∧ ks.length + 1 ≤ (page ++ [0]).length := by
  have e : (page ++ [(0 : Int)]).length = page.length + 1 := by simp
  rw [Int.fmod_eq_emod_of_nonneg _ (by decide)] at hq
  unfold PInv at *
  rw [e]
  refine ⟨?_, by omega, by omega⟩
  have z : page.length + 1 - ks.length - 1 = (page.length - ks.length - 1) + 1 := by omega
  rw [z, List.replicate_succ', ← List.append_assoc, ← h]
theorem pinv_meas {ks page : List Int} {T : Nat} (hT : (T = 56 ∧ ks.length ≤ 55) ∨ (T = 120 ∧ 56 ≤ ks.length)) (h1 : page.length ≤ T) (h2 : ks.length + 1 ≤ page.length) (hq : ¬ (page.length : Int).fmod 64 = 56) : T - (page ++ [0]).length < T - page.length := by
  have e : (page ++ [(0 : Int)]).length = page.length + 1 := by simp
  rw [Int.fmod_eq_emod_of_nonneg _ (by decide)] at hq
  rw [e]
  omega
theorem pad_law {ks page : List Int} {T : Nat} (hT : (T = 56 ∧ ks.length ≤ 55) ∨ (T = 120 ∧ 56 ≤ ks.length)) (hn : ks.length ≤ 119) (h : PInv ks page) (h1 : page.length ≤ T) (h2 : ks.length + 1 ≤ page.length) (hq : (page.length : Int).fmod 64 = 56) :
    page ++ List.map (fun k' => (((ks.length : Int) * 8).fdiv (256 ^ k'.toNat)).fmod 256) (stepKs 7 (-1) 8) = padL ks := by
  rw [Int.fmod_eq_emod_of_nonneg _ (by decide)] at hq
  have hl : page.length = T := by omega
  have e : stepKs 7 (-1) 8 = [7, 6, 5, 4, 3, 2, 1, 0] := by decide
  unfold PInv at h
  rw [e, be_eight, h, hl]
  unfold padL
  have c : T - ks.length - 1 = ((55 - (ks.length : Int)).fmod 64).toNat := by
    rw [Int.fmod_eq_emod_of_nonneg _ (by decide)]
    omega
  rw [c, Int.mul_comm 8]
theorem w5_of {ws : List Int} {ks : List Int} {i n : Nat} {a b c d e : Int} (h : RInv ws (stN ks i) n a b c d e) : W32 a ∧ W32 b ∧ W32 c ∧ W32 d ∧ W32 e := RInv.w5 (stN_w5 ks i) h
theorem lw1 {ws ks : List Int} {i n : Nat} {a b c d e k : Int} (h : RInv ws (stN ks i) n a b c d e) (h1 : k < 20) : Builtin.bitXor d (Builtin.bitAnd b (Builtin.bitXor c d)) = mixI k b c d := by
  have w := w5_of h
  rw [ch_law w.2.1 w.2.2.1 w.2.2.2.1]
  exact mix1 h1
theorem lw3 {ws ks : List Int} {i n : Nat} {a b c d e k : Int} (h : RInv ws (stN ks i) n a b c d e) (h1 : ¬ k < 20) (h2 : ¬ k < 40) (h3 : k < 60) : Builtin.bitAnd b c + Builtin.bitAnd d (Builtin.bitXor b c) = mixI k b c d := by
  have w := w5_of h
  rw [maj_law w.2.1 w.2.2.1 w.2.2.2.1]
  exact mix3 h1 h2 h3
theorem rstepM {ws ks : List Int} {i : Nat} {pre : List Int} {a b c d e k : Int} (h : RInv ws (stN ks i) pre.length a b c d e) (hk : k = 0 + (pre.length : Int)) :
    RInv ws (stN ks i) (pre ++ [k]).length ((rotI a 5 + mixI k b c d + e + addI k + ws.getD k.toNat 0).fmod 4294967296) a (rotI b 30) c d := by
  have z : ∀ x : Int, x.fmod 4294967296 = Builtin.bitAnd x 4294967295 := fun x => by rw [bitAnd_m32, Int.fmod_eq_emod_of_nonneg _ (by decide)]
  rw [z]
  exact rinv_step h hk rfl rfl
theorem rstart (ws ks : List Int) (i : Nat) : RInv ws (stN ks i) ([] : List Int).length (stN ks i).1 (stN ks i).2.1 (stN ks i).2.2.1 (stN ks i).2.2.2.1 (stN ks i).2.2.2.2 := rfl
theorem winv_end {blk ws : List Int} (h : WInv blk (rangeKs 16 (80 - 16 : Int).toNat).length ws) : ws = words80 blk := by
  rw [rangeKs_length] at h
  exact h
theorem five_law {ks : List Int} {i : Nat} {a b c d e : Int} (h : RInv (words80 (blkN ks i)) (stN ks i) (rangeKs 0 (80 - 0 : Int).toNat).length a b c d e) : List.zipWith (fun old new => (old + new).fmod 4294967296) [(stN ks i).1, (stN ks i).2.1, (stN ks i).2.2.1, (stN ks i).2.2.2.1, (stN ks i).2.2.2.2] [a, b, c, d, e] = five (stN ks (i + 1)) := by
  rw [rangeKs_length] at h
  exact five_sum h
theorem wstart (ks : List Int) (i : Nat) : WInv (blkN ks i) ([] : List Int).length (growG ks i 16) ∧ (growG ks i 16).length = 16 + ([] : List Int).length := ⟨growG_full ks i, growG_length ks i 16⟩
local macro_rules | `(tactic| walk_at "exec For Name Name") => `(tactic| (k_here; (with_reducible show wpAny _ _ (exec (Stmt.For (Expr.Name ("number" : Str) _) _ _ _ _) _) _ _ _); k_dflt (refine For_invTF (by k_asm) ?_ (by intro _; rfl))))
local macro_rules | `(tactic| walk_at "call type:list") => `(tactic| (k_here; (with_reducible show wpAny _ _ (call (Value.type "list") [Value.bytes _ _]) _ _ _); (refine list_bytes_K rfl (by k_asm) (by k_asm) (by kba_ints) (by kba_size) ?_); intro D' us' c' h' tk' F' N' l1 hI'; (try k_lt l1); (try k_sweep); (try dsimp only); (try k_fold)))
local macro_rules | `(tactic| walk_at "eval ListComp") => `(tactic| (k_here; (with_reducible show wpAny _ _ (eval (Expr.ListComp _ _ _ _) _) _ _ _); k_dflt (refine comp_eval (F₀ := by k_asm) (by with_unfolding_all rfl) (by decide) (by rfl) (by decide) ?_)))
theorem pow256_ne (k : Nat) : (256 : Int) ^ k ≠ 0 := Int.ne_of_gt (Int.pow_pos (by decide))
theorem pow256_log : ∀ k < 8, ((256 : Int) ^ k).natAbs.log2 < 9000 := by decide +kernel
theorem pow256_py {x : Int} {k : Nat} (h : k < 8) : Builtin.divisionGoesByPylong x (256 ^ k) = false := PyProof.noPylong_of_log2 (pow256_log k h)
local macro_rules | `(tactic| walk_at "exec For Name Call cons nil") => `(tactic| (k_here; (with_reducible show wpAny _ _ (exec (Stmt.For (Expr.Name _ _) (Expr.Call _ [_, _, _] _ _) _ _ _) _) _ _ _); k_dflt (refine For_invTF (by k_asm) ?_ (by intro _; rfl))))
local macro_rules | `(tactic| walk_at "exec Assign cons ListComp") => `(tactic| (k_here; k_dflt (refine comp_assign (F₀ := by k_asm) rfl (by with_unfolding_all rfl) (by with_unfolding_all rfl) (by decide) (by rfl) (by decide) (by rfl) (by rfl) ?_)))
local macro_rules | `(tactic| walk_at "call type:zip") => `(tactic| (k_here; (with_reducible show wpAny _ _ (call (Value.type "zip") [Value.ref _, Value.ref _]) _ _ _); k_dflt (refine zip_src (by rfl) (by k_asm) (by k_asm) (by k_mem) (by k_mem) (by exact .cons _ _ (.cons _ _ (.cons _ _ (.cons _ _ (.cons _ _ .nil))))) (by exact .cons _ _ (.cons _ _ (.cons _ _ (.cons _ _ (.cons _ _ .nil))))) (by rfl) (Nat.le_of_ble_eq_true (by rfl)) (by rfl) (by rfl) (by rfl) (by decide) ?_); intro g'; (refine' CRest2.of _ (fun k' t' j' u' own' I' oI' C' oC' D' cm' ys' h' tk' E' hk' hj' hC' hx' hy' F' N' off' ne' hMark' => ?_) ?_); (all_goals (try (simp only [List.cons_append] at N' off'))); (all_goals (try (simp only [LCg.Off3] at off'))); kcf_last))
local macro_rules | `(tactic| walk_at "callWith builtin:list.append cons nil") => `(tactic| (k_here; k_dflt (refine callWith_method1 ?_)))
local macro_rules | `(tactic| walk_at "callWith builtin:list.extend cons nil") => `(tactic| (k_here; k_dflt (refine callWith_method1 ?_)))
theorem num_news {h₀ h : Heap} {L : Addr} {a f x1 x2 x3 x4 x5 c d : Addr × Obj} {led : List (Addr × Obj)} (N : News h₀ L h (a :: f :: x1 :: x2 :: x3 :: x4 :: x5 :: c :: d :: led)) : News h₀ L h (a :: c :: f :: led) := fun p hp => by
  rcases List.mem_cons.mp hp with rfl | hp
  · exact N _ (.head _)
  · rcases List.mem_cons.mp hp with rfl | hp
    · exact N _ (.tail _ (.tail _ (.tail _ (.tail _ (.tail _ (.tail _ (.tail _ (.head _))))))))
    · rcases List.mem_cons.mp hp with rfl | hp
      · exact N _ (.tail _ (.head _))
      · exact N _ (.tail _ (.tail _ (.tail _ (.tail _ (.tail _ (.tail _ (.tail _ (.tail _ (.tail _ hp)))))))))
theorem num_cell {h₀ h : Heap} {L c a l : Addr} {co : Obj} {v : Option Value} {vs us : List Value} {n k : Nat} {r : List (Addr × Obj)} (N : News h₀ L h ((l, PySem.W.listOf vs.toArray n) :: (c, co) :: (a, PySem.W.listOf us.toArray k) :: r)) (hd : co.data = .cell v) : @Ne Nat c a := fun e => by
  have h1 := (N _ (.tail _ (.head _))).1
  have h2 := (N _ (.tail _ (.tail _ (.head _)))).1
  dsimp only at h1 h2
  have e' : c = a := e
  subst e'
  rw [h1] at h2
  cases h2
  exact nomatch hd
theorem with_num {P : Prop} {h₀ h : Heap} {L : Addr} {l f c : Addr} {co : Obj} {v : Option Value} {vs us : List Value} {n k : Nat} {x1 x2 x3 x4 x5 d : Addr × Obj} {led : List (Addr × Obj)} (N : News h₀ L h ((l, PySem.W.listOf vs.toArray n) :: (f, PySem.W.listOf us.toArray k) :: x1 :: x2 :: x3 :: x4 :: x5 :: (c, co) :: d :: led)) (hd : co.data = .cell v)
    (g : News h₀ L h ((l, PySem.W.listOf vs.toArray n) :: (c, co) :: (f, PySem.W.listOf us.toArray k) :: led) → @Ne Nat c f → co.data = .cell v → P) : P := g (num_news N) (num_cell (num_news N) hd) hd
theorem own2_ne {a b D : Addr} {o p : Obj} (h1 : @Ne Nat a D) (h2 : @Ne Nat b D) : ∀ q ∈ [(a, o), (b, p)], q.1 ≠ D := List.forall_mem_cons.mpr ⟨h1, List.forall_mem_cons.mpr ⟨h2, List.forall_mem_nil _⟩⟩
theorem fiveV_ints (S : St) (t : Tok × Tok × Tok × Tok × Tok) : IntsAre (fiveV S t) (five S) := .cons _ _ (.cons _ _ (.cons _ _ (.cons _ _ (.cons _ _ .nil))))
def out4 (x : Int) : List Int := [3, 2, 1, 0].map fun k : Int => (x.fdiv (256 ^ k.toNat)).fmod 256
theorem out4_flat (S : St) : (five S).flatMap out4 = outL S := out_flat S
theorem out4_length (l : List Int) : (l.flatMap out4).length = 4 * l.length := by
  rw [List.length_flatMap]
  have : List.map (fun a => (out4 a).length) l = List.replicate l.length 4 := by
    rw [← List.map_const']
    exact List.map_congr_left fun a _ => rfl
  rw [this]
  simp [Nat.mul_comm]
theorem out4_size {vs ys : List Value} {S : St} {i : Nat} {g : List Int} (hi : IntsAre vs (List.flatMap out4 (List.take i (five S)))) (hj : IntsAre ys g) (hg : g.length = 4) : vs.length + ys.toArray.size ≤ 16777216 := by
  have h1 := hi.length
  have h2 := hj.length
  have h3 := out4_length (List.take i (five S))
  rw [List.length_take] at h3
  have h4 : (five S).length = 5 := rfl
  rw [List.size_toArray]
  omega
theorem sha_back {ks : List Int} (hn : ks.length ≤ 119) {t : Tok} : ∃ t', Value.bytes (byteArr (outL (stN ks ((padL ks).length / 64)))) t = .bytes (byteArr (shaI ks)) t' := ⟨t, by rw [sha_final hn]⟩
theorem pg_ne : ("page" : Str) ≠ "five" := by decide +kernel
theorem pg_no : (["at", "words", "k", "a", "b", "c", "d", "e", "mix", "add"] : List Str).contains "page" = false := by decide +kernel
theorem page_keep {vs : List Value} {ks : List Int} (h : IntsAre vs (padL ks)) : IntsAre vs (padL ks) := h
local macro_rules | `(tactic| l_bnd) => `(tactic| first | assumption | ((repeat (with_reducible rename _ ∧ _ => hx9; clear hx9)); (repeat (with_reducible rename _ ≠ _ => hx9; clear hx9)); k_dflt omega))
theorem law_sha_meets {w mean mg mb led b t ks} (hb : KBw.bInts b = ks) (hn : ks.length ≤ 119) : Meets w mean mg mb 4 200 led (.ref 225) [.bytes b t] (Back led fun r => ∃ t, r = .bytes (byteArr (shaI ks)) t) := by
  obtain ⟨Tt, hT⟩ : ∃ T : Nat, (T = 56 ∧ ks.length ≤ 55) ∨ (T = 120 ∧ 56 ≤ ks.length) := by
    by_cases h : ks.length ≤ 55
    · exact ⟨56, .inl ⟨rfl, h⟩⟩
    · exact ⟨120, .inr ⟨rfl, by omega⟩⟩
  w_top off
  k_with_none
  k_with "MSrc" => (k_here; k_dflt (first
    | refine msrc_range (by rfl) (by k_asm) (by k_asm) (by assumption) (by decide) (by rfl) (n := 8) (by decide) (by rfl) (by rfl) ?_
    | refine msrc_tuple (by rfl) (by k_asm) (by k_asm) (by k_mem) (by rfl) (by rfl) (.cons _ _ (.cons _ _ (.cons _ _ (.cons _ _ .nil)))) (by rw [sizeLine_eq]; exact Nat.le_of_ble_eq_true rfl) (by rfl) (by rfl) ?_); intro g'; (refine' CRest.of _ 0 8 (by decide) (fun k' t' own' I' oI' C' oC' D' cm' ys' h' tk' E' hlo' hhi' hC' hx' F' N' off' ne' hMark' => ?_) ?_); (all_goals (try (simp only [List.cons_append] at N' off'))); (all_goals (try (simp only [LCg.Off3] at off'))); kcf_last)
  k_with "state" => first | (with_reducible exact pinv_start hT hn) | (with_reducible exact pinv_step hT (by assumption) (by assumption) (by assumption) (by assumption)) | (with_reducible exact wstart ks _) | (with_reducible exact winv_step (by with_reducible assumption) (by with_reducible assumption) (by with_reducible assumption)) | (with_reducible exact rstart _ ks _) | (with_reducible exact rstepM (by assumption) (by assumption)) | fail "state"
  k_with "measure" => first | exact pinv_meas hT (by assumption) (by assumption) (by assumption)
  k_with "exec While Compare cons nil" => (k_while (fun (_ : List Int) (page : List Int) => PInv ks page ∧ page.length ≤ Tt ∧ ks.length + 1 ≤ page.length) (fun _ page => Tt - page.length) "page")
  ((intro dp un gd cn cs a ccd cl outer A₀ base h₀ L m s Q E B F X N T hcs hdp hun hret; refine wpAny_call ?_; k_dflt (refine' code_defC ?k1 ?k2 ?k3 ?k4 ?k5 ?kA ?kF ?kK ?k6 ?k7 ?k8 ?k9 ?kB ?kD ?_ ?c2 ?c3 ?c4; (case kA => exact rfl); (case kF => exact rfl); (case kK => first | exact rfl | assumption); (case k1 => k_asm); (case k2 => k_asm); (case k3 => k_asm); (case k4 => k_asm); (case k5 => k_asm); (case k6 => k_is); (case k7 => k_is); (case k8 => ktr_room); (case k9 => exact BindsTo.of_eq rfl); (case kB => exact rfl); (case kD => decide +kernel); (case c2 => exact rfl); (case c3 => exact rfl); (case c4 => exact rfl); k_whole; intro g' L' h' tk' cells' FG' F' N' Y' B' X' T' l1; (try k_lt l1); k_cells Y'; (try simp only [List.cons_append, List.nil_append] at N'); (try dsimp only); (try k_lift B'); (try k_fold))); (refine entry_gen (fun Qx hQx => ?_)))
  k_with "binaryOp FloorDiv int int" => (k_here; refine floordiv_int (pow256_ne _) ?_ (.inl (pow256_py (by omega))))
  have hpl := padL_len hn
  have hoc : Octs ks := hb ▸ octs_ints b
  k_with "binaryOp Add ref ref" => (k_here; (with_reducible show wpAny _ _ (binaryOp _ (Value.ref _) (Value.ref _)) _ _ _); k_dflt (refine' kmk_add_ints ?F ?N ?a ?b ?i ?j ?_ ?z; (case F => k_asm); (case N => k_asm); (case a => exact News.isList (by k_asm) (by k_mem)); (case b => exact News.isList (by k_asm) (by k_mem)); (case i => with_reducible assumption); (case j => with_reducible assumption); (case z => rw [sizeLine_eq, List.length_map]; (try simp only [List.length_map, List.length_range]); (first | ((repeat (with_reducible rename _ ∧ _ => hx9; clear hx9)); (repeat (with_reducible rename _ ≠ _ => hx9; clear hx9)); omega) | omega))); intro D' ws' h' F' N' l1 hI'; (try k_lt l1); (try k_sweep); (rw [pad_law hT hn (by assumption) (by assumption) (by assumption) (by assumption)] at hI'))
  k_with "exec If" => ((fail_if_success (rename WayMark => hw9)); (with_reducible show wpAny _ _ (exec (Stmt.If (Expr.Compare (Expr.Name ("k" : Str) _) _ _ _) _ _ _) _) _ _ _); (rename RInv _ _ _ _ _ _ _ _ => hR9); (with_reducible rename Fr _ _ _ _ => fW9); (with_reducible rename News _ _ _ _ => nW9); k_dflt (refine' way_cut2 "add" "mix" fW9 nW9 hR9 (by with_reducible assumption) (fun hw9 => ?_) (fun h9 tk9 t9 u9 F9 N9 => ?_)); (try dsimp only at F9))
  k_with "WayR" => ((try dsimp only); (rename RInv _ _ _ _ _ _ _ _ => hR9); (with_reducible rename Fr _ _ _ _ => fE9); (with_reducible rename News _ _ _ _ => nE9); k_dflt (refine' way_end ?wa ?wm fE9 nE9 ?wl; (case wm => first | (with_reducible refine lw1 hR9 ?_; with_reducible assumption) | (with_reducible refine mix2 ?_ ?_ <;> with_reducible assumption) | (with_reducible refine lw3 hR9 ?_ ?_ ?_ <;> with_reducible assumption) | (with_reducible refine mix4 ?_ ?_ ?_ <;> with_reducible assumption)); (case wa => first | (with_reducible refine add1 ?_; with_reducible assumption) | (with_reducible refine add2 ?_ ?_ <;> with_reducible assumption) | (with_reducible refine add3 ?_ ?_ ?_ <;> with_reducible assumption) | (with_reducible refine add4 ?_ ?_ ?_ <;> with_reducible assumption)); (case wl => exact (by (repeat (first | with_reducible exact fun p hp => hp | with_reducible exact fun p hp => List.mem_append_left _ hp | with_reducible refine keep_cons ?_ | with_reducible refine drop_cons ?_)); done))))
  k_with "call ref" => ((with_reducible show wpAny _ _ (call (Value.ref 220) _) _ _ _); first | ((rename RInv _ _ _ _ _ _ _ _ => hR); have hR5 := w5_of hR; (with_reducible show wpAny _ _ (call (Value.ref 220) _) _ _ _); k_dflt (first | refine' Meets.use_int (law_turned_meets (by first | exact hR5.1.1 | exact hR5.2.1.1) (by first | exact hR5.1.2 | exact hR5.2.1.2) (by omega) (by omega)) (by k_asm) (by k_asm) (by k_asm) (by k_asm) (by k_asm) (by first | exact rfl | assumption) (by ktr_room) (by ktr_units) ?_ | refine' Meets.use_bytes (law_turned_meets (by first | exact hR5.1.1 | exact hR5.2.1.1) (by first | exact hR5.1.2 | exact hR5.2.1.2) (by omega) (by omega)) (by k_asm) (by k_asm) (by k_asm) (by k_asm) (by k_asm) (by first | exact rfl | assumption) (by ktr_room) (by ktr_units) ?_); intro t9 h9 tk9 F9 N9; (try k_sweep); (try dsimp only); (try k_fold); (try clear hR5)) | ((with_reducible show wpAny _ _ (call (Value.ref 220) _) _ _ _); k_dflt (first | refine' Meets.use_int (law_turned_meets (by exact (winv_xor (blk_octs hoc _) (by assumption) _ _ _ _).1) (by exact (winv_xor (blk_octs hoc _) (by assumption) _ _ _ _).2) (by omega) (by omega)) (by k_asm) (by k_asm) (by k_asm) (by k_asm) (by k_asm) (by first | exact rfl | assumption) (by ktr_room) (by ktr_units) ?_ | refine' Meets.use_bytes (law_turned_meets (by exact (winv_xor (blk_octs hoc _) (by assumption) _ _ _ _).1) (by exact (winv_xor (blk_octs hoc _) (by assumption) _ _ _ _).2) (by omega) (by omega)) (by k_asm) (by k_asm) (by k_asm) (by k_asm) (by k_asm) (by first | exact rfl | assumption) (by ktr_room) (by ktr_units) ?_); intro t9 h9 tk9 F9 N9; (try k_sweep); (try dsimp only); (try k_fold)))
  k_with "subscriptTail" => (k_here; (with_reducible show wpAny _ _ (subscriptTail _ _ (Value.ref _) (Value.int _ _)) _ _ _); k_dflt (refine' item_ints ?N ?m ?i ?a ?b ?f ?_; (case N => k_asm); (case m => k_mem); (case i => with_reducible assumption); (case a => first | (with_reducible refine (ix_page0 (len := (padL ks).length) ?_ ?_ ?_).1 <;> with_reducible assumption) | (with_reducible refine (ix_page (len := (padL ks).length) ?_ ?_ ?_ ?_ ?_).1 <;> first | with_reducible assumption | decide) | (with_reducible refine (ix_word (by with_reducible assumption) (by with_reducible assumption) (by with_reducible assumption) (by decide) (by decide)).1) | (with_reducible refine (ix_round (by with_reducible assumption) (by with_reducible assumption) (by with_reducible assumption)).1) | (first | ((repeat (with_reducible rename _ ∧ _ => hx9; clear hx9)); (repeat (with_reducible rename _ ≠ _ => hx9; clear hx9)); omega) | omega)); (case b => first | (with_reducible refine (ix_page0 (len := (padL ks).length) ?_ ?_ ?_).2.1 <;> with_reducible assumption) | (with_reducible refine (ix_page (len := (padL ks).length) ?_ ?_ ?_ ?_ ?_).2.1 <;> first | with_reducible assumption | decide) | (with_reducible refine (ix_word (by with_reducible assumption) (by with_reducible assumption) (by with_reducible assumption) (by decide) (by decide)).2.1) | (with_reducible refine (ix_round (by with_reducible assumption) (by with_reducible assumption) (by with_reducible assumption)).2.1) | (first | ((repeat (with_reducible rename _ ∧ _ => hx9; clear hx9)); (repeat (with_reducible rename _ ≠ _ => hx9; clear hx9)); omega) | omega)); (case f => first | (with_reducible refine (ix_page0 (len := (padL ks).length) ?_ ?_ ?_).2.2 <;> with_reducible assumption) | (with_reducible refine (ix_page (len := (padL ks).length) ?_ ?_ ?_ ?_ ?_).2.2 <;> first | with_reducible assumption | decide) | (with_reducible refine (ix_word (by with_reducible assumption) (by with_reducible assumption) (by with_reducible assumption) (by decide) (by decide)).2.2) | (with_reducible refine (ix_round (by with_reducible assumption) (by with_reducible assumption) (by with_reducible assumption)).2.2) | (first | ((repeat (with_reducible rename _ ∧ _ => hx9; clear hx9)); (repeat (with_reducible rename _ ≠ _ => hx9; clear hx9)); omega) | omega)); k_whole); intro t9)
  k_with "subscriptTail Name BinOp ref int" => k_extra "subscriptTail"
  k_with "subscriptTail Name Name ref int" => k_extra "subscriptTail"
  k_with "pyIter ref" => first
    | ((with_reducible show wpAny _ _ _ (fun it s₂ => LoopAtT _ _ _ _ _ (Expr.Name ("at" : Str) _) _ _ _ it s₂) _ _); (rename News _ _ _ _ => nN9); (rename IsRange _ _ _ _ _ _ _ _ => rg9); (k_dflt (refine' iter_five (tt := (_, _, _, _, _)) "five" "page" ["at", "words", "k", "a", "b", "c", "d", "e", "mix", "add"] (stN ks) (by rfl) rg9 (small_64 hpl) (size_64 hpl) (by k_asm) nN9 (by rfl) (by rfl) pg_ne pg_no (fun _ _ _ _ h => wpAny_pure h) ?tt ?ff)); (case' tt => (have hpg9 := page_keep (ks := ks) (by with_reducible assumption)); ((try (rename_i yy0; try clear yy0)); (try (rename_i yy1; try clear yy1)); (try (rename_i yy2; try clear yy2)); (try (rename_i yy3; try clear yy3)); (try (rename_i yy4; try clear yy4)); (try (rename_i yy5; try clear yy5)); (try (rename_i yy6; try clear yy6)); (try (rename_i yy7; try clear yy7)); (try (rename_i yy8; try clear yy8)); (try (rename_i yy9; try clear yy9)); (try (rename_i yy10; try clear yy10)); (try (rename_i yy11; try clear yy11)); (try (rename_i yy12; try clear yy12)); (try (rename_i yy13; try clear yy13)); (try (rename_i yy14; try clear yy14)); (try (rename_i yy15; try clear yy15)); (try (rename_i yy16; try clear yy16)); (try (rename_i yy17; try clear yy17)); (try (rename_i yy18; try clear yy18)); (try (rename_i yy19; try clear yy19)); (try (rename_i yy20; try clear yy20)); (try (rename_i yy21; try clear yy21)); (try (rename_i yy22; try clear yy22)); (try (rename_i yy23; try clear yy23)); (try (rename_i yy24; try clear yy24)); (try (rename_i yy25; try clear yy25)); (try (rename_i yy26; try clear yy26)); (try (rename_i yy27; try clear yy27)); (try (rename_i yy28; try clear yy28)); (try (rename_i yy29; try clear yy29)); (try (rename_i yy30; try clear yy30)); (try (rename_i yy31; try clear yy31)); (try (rename_i yy32; try clear yy32)); (try (rename_i yy33; try clear yy33)); (try (rename_i yy34; try clear yy34)); (try (rename_i yy35; try clear yy35)); (try (rename_i yy36; try clear yy36)); (try (rename_i yy37; try clear yy37)); (try (rename_i yy38; try clear yy38)); (try (rename_i yy39; try clear yy39)); (try (rename_i yy40; try clear yy40)); (try (rename_i yy41; try clear yy41)); (try (rename_i yy42; try clear yy42)); (try (rename_i yy43; try clear yy43)); (try (rename_i yy44; try clear yy44)); (try (rename_i yy45; try clear yy45)); (try (rename_i yy46; try clear yy46)); (try (rename_i yy47; try clear yy47)); (try (rename_i yy48; try clear yy48)); (try (rename_i yy49; try clear yy49)); (try (rename_i yy50; try clear yy50)); (try (rename_i yy51; try clear yy51)); (try (rename_i yy52; try clear yy52)); (try (rename_i yy53; try clear yy53)); (try (rename_i yy54; try clear yy54))); (try clear d1'); (try clear d2'); (try clear d'); (try clear l1); (try clear nN9); (try clear rg9); (intro i9 t9 u9 f9 tt9 n9 s9 I9 oI9 hin9 hv9 hif9 off9 F9 N9)); (case' ff => intro h9 tk9 u9 f9 tt9 n9 F9 N9); (all_goals (try (dsimp only [fiveV] at N9))); (all_goals (try (refine entry_gen2 (fun Rx hRx => ?_)))))
    | ((with_reducible show wpAny _ _ _ (fun it s₂ => LoopAtT _ _ _ _ _ (Expr.Name ("k" : Str) _) _ _ _ it s₂) _ _); (rename News _ _ _ _ => nN9); (rename IsRange _ _ _ _ _ _ _ _ => rg9); k_dflt (refine' iter_grow ["k"] (growG ks i9) (by rfl) rg9 (small_4 (by omega) (by omega)) (size_4 _) (by k_asm) nN9 (by exact .nil) (fun _ _ _ _ h => wpAny_pure h) (fun j9 tj9 uj9 vj9 nj9 sj9 Ij9 oIj9 hj9 ij9 hlj9 offj9 Fj9 Nj9 => ?_) (fun hj9 tkj9 uj9 vj9 nj9 Fj9 Nj9 ij9 => ?_)); (all_goals (try (have hvl9 := (IntsAre.length ij9).trans (growG_length ks i9 j9)))); (all_goals (try (refine entry_gen2 (fun Rx hRx => ?_)))))
    | (k_of "k" => ((rename WInv _ _ _ => hW9); have e9 := winv_end hW9; subst e9; have hw80 := words80_length (blkN ks i9); (k_state (fun pre a b c d e => RInv (words80 (blkN ks i9)) (stN ks i9) pre.length a b c d e) "a" "b" "c" "d" "e"; (try (refine entry_gen (fun Qx hQx => ?_))))))
    | (k_of "k" => (k_state (fun pre ws => WInv (blkN ks i9) pre.length ws ∧ ws.length = 16 + pre.length) "words"; (try (refine entry_gen (fun Qx hQx => ?_)))))
    | ((with_reducible show wpAny _ _ _ (fun it s₂ => LoopAtT _ _ _ _ _ (Expr.Name ("number" : Str) _) _ _ _ it s₂) _ _); (with_reducible rename News _ _ _ _ => nN9); k_dflt (refine' with_num nN9 ?zd9 (fun nM9 nC9 hC9 => ?_); (case zd9 => with_reducible assumption)); k_dflt (refine' iter_ext_list rfl (by k_asm) nM9 (.head _) (by k_ne) nC9 (fiveV_ints (stN ks ((padL ks).length / 64)) tt9) .nil hC9 (fun _ _ _ _ h => wpAny_pure h) out4 (fun i9 k9 t9 vs9 n9 co9 cv9 s9 own9 hk9 hc9 hi9 o1 o2 F9 N9 => ?_) (fun h9 tk9 vs9 n9 co9 F9 N9 hi9 => ?_)); (all_goals (try (rw [out4_flat] at hi9))); (all_goals (try simp only [List.cons_append] at N9)); (all_goals (try (refine entry_gen2 (fun Rx hRx => ?_)))))
  k_with "call builtin:list.extend" => (k_here; (with_reducible show wpAny _ _ (call (Value.builtin _) [Value.ref _, Value.ref _]) _ _ _); k_dflt (refine' extend_in_ints (own := [(_, _), (_, _)]) ?zF ?zN ?zo ?za ?zb ?zi ?zj ?_ ?zz; (case zF => k_asm); (case zN => k_asm); (case zo => exact own2_ne (by k_ne) (by k_ne)); (case za => k_all); (case zb => exact News.get (by k_asm) (by k_mem)); (case zi => with_reducible assumption); (case zj => assumption); (case zz => rw [sizeLine_eq]; exact out4_size (by assumption) (by assumption) rfl)); intro h9' n9' F9' N9' i9'; (try simp only [List.cons_append, List.nil_append] at N9'))
  k_with "ExtEnd" => (k_dflt (refine' ext_end (by k_asm) (by k_asm) (by k_mem) (by k_mem) (by intro p hp; repeat (first | exact hp | refine List.Mem.tail _ ?_)) (by assumption) (by assumption) rfl))
  k_with "call type:bytes" => (k_here; (with_reducible show wpAny _ _ (call (Value.type "bytes") [Value.ref _]) _ _ _); (rename IntsAre _ (outL _) => hO9); k_dflt (refine KBa.make_K (by k_asm) (by k_asm) rfl (News.isList (by k_asm) (by k_mem)) hO9 (outL_in _) (by rw [outL_length]; decide) ?_); intro h9 t9 k9 F9 N9 _)
  k_with "EndG" => ((with_reducible rename News _ _ _ _ => nE9); (try simp only [List.push_toArray] at nE9); k_dflt (refine grow_end (names := ["k"]) (by k_asm) nE9 (by k_mem) (by k_mem) (by exact (by intro p hp; repeat (first | exact hp | refine List.Mem.tail _ ?_))) (by exact hlj9) (by exact offj9) (by intro y9 hy9; (simp only [List.contains_cons, List.contains_nil, Bool.or_false, Bool.or_eq_false_iff, beq_eq_false_iff_ne, ne_eq] at hy9); (simp [kMask, hy9])) (by exact IntsAre.append ij9 (.cons _ _ .nil)) (by exact grow_word hin9 hj9 rfl)))
  k_with "EndR" => ((rename RInv _ _ _ _ _ _ _ _ => hR9); (rename News _ _ _ _ => nE9); (try simp only [List.push_toArray] at nE9); k_dflt (refine five_end (x := "five") (names := ["at", "words", "k", "a", "b", "c", "d", "e", "mix", "add"]) (by ((k_asm); done)) nE9 (by ((rfl); done)) (by ((k_mem); done)) (by ((k_mem); done)) (by (repeat (first | with_reducible exact fun p hp => hp | with_reducible exact fun p hp => List.mem_append_left _ hp | with_reducible refine keep_cons ?_ | with_reducible refine drop_cons ?_)); done) (by ((k_ne); done)) (by ((exact off9); done)) (by intro y9 hx9 hy9; (have e9 := hv9 y9 hx9 hy9); (simp only [List.contains_cons, List.contains_nil, Bool.or_false, Bool.or_eq_false_iff, beq_eq_false_iff_ne, ne_eq] at hy9); (refine Eq.trans ?_ e9); (simp [kMask, hx9, hy9]); done) (by ((with_reducible assumption); done)) (by ((exact five_law hR9); done))))
  k_with "InvEndN" => ((with_reducible rename Fr _ _ _ _ => fE'); (with_reducible rename News _ _ _ _ => nE'); (try simp only [List.push_toArray] at nE'); first | (k_dflt refine kst_end ⟨_, _, _, _, _, _, _, _, _, _⟩ fE' nE' (by first | ((try dsimp only); (repeat (first | with_reducible exact fun p hp => hp | with_reducible exact fun p hp => List.mem_append_left _ hp | with_reducible refine keep_cons ?_ | with_reducible refine drop_cons ?_)); done) | kst_in | kst_inAny) (by first | (intro p hp; kst_mem) | kst_anyIn) (by rfl) (by kst_facts) (by kst_all) (by kst_same) (by kst_p)) | (k_dflt refine kst_end ⟨_, _, _⟩ fE' nE' (by first | ((try dsimp only); (repeat (first | with_reducible exact fun p hp => hp | with_reducible exact fun p hp => List.mem_append_left _ hp | with_reducible refine keep_cons ?_ | with_reducible refine drop_cons ?_)); done) | kst_in | kst_inAny) (by first | (intro p hp; kst_mem) | kst_anyIn) (by rfl) (by kst_facts) (by kst_all) (by kst_same) (by kst_p)))
  (repeat' (first | (k_unfold; (try dsimp only)) | walk1 | (dsimp only; walk1) | (leave1; walk_say "STEP leave1"; try dsimp only)))
  (refine' ret_sub led hret ?rF ?rN ?rS ?_; (case rF => k_asm); (case rN => k_asm); (case rS => intro p hp; repeat (first | exact hp | refine List.Mem.tail _ ?_)))
  exact ⟨rfl, sha_back hn⟩
end
section
theorem digest_meets {w mean mg mb led b t ks x dx ts ti nd} (hb : KBw.bInts b = ks) (hn : ks.length ≤ 119) : Meets w mean mg mb 7 60 ((x, instObj 163 dx) :: (dx, sizeD w ts ti nd) :: led) (.ref 160) [.ref x, .bytes b t] (Back ((x, instObj 163 dx) :: (dx, sizeD w ts ti nd) :: led) fun r => ∃ t, r = .bytes (byteArr (shaI ks)) t) := by
  by_cases h : ks.length ≤ 55
  · exact digest1_meets hb h
  · exact digest2_meets hb (by omega) hn
section
variable {prog : Program} {w : World} {A : Around} {E : Value → Shared → Prop} {s : Shared}
theorem ne_int_eq {a b : Int} {t u : Tok} {Q : Value → Shared → Prop} (e : a = b) (h : Q (.bool false) s) : wpAny (model prog w) A (compareOp .NotEq (.int a t) (.int b u)) Q E s := by
  subst e
  refine ne_int ?_
  have : (a != a) = false := by simp
  rw [this]
  exact h
theorem ne_bytes_eq {a b : Array UInt8} {t u : Tok} {Q : Value → Shared → Prop} (e : a = b) (h : Q (.bool false) s) : wpAny (model prog w) A (compareOp .NotEq (.bytes a t) (.bytes b u)) Q E s := by
  subst e
  refine ne_bytes ?_
  have : (a.toList != a.toList) = false := by simp
  rw [this]
  exact h
theorem cut_at {α : Type} {M : Model} {t : Sem α} {Q R : α → Shared → Prop} (h : wpAny M A t R E s) (k : ∀ v s', R v s' → Q v s') : wpAny M A t Q E s := wpAny_mono h k fun _ _ e => e
end
theorem be_last {n : Int} (h0 : 0 ≤ n) (h1 : n < 256) : beL n 4 = [0, 0, 0, n] := by
  unfold beL
  have e : rangeKs 0 (4 : Int).toNat = [0, 1, 2, 3] := by decide
  rw [e]
  have z : ∀ k : Nat, n.fdiv ((2 : Int) ^ k) = n / (2 : Int) ^ k := fun k => Int.fdiv_eq_ediv_of_nonneg _ (Int.le_of_lt (Int.pow_pos (by decide)))
  simp only [List.map_cons, List.map_nil, z]
  have e3 : (8 * (4 - 1 - 0) : Int).toNat = 24 := by decide
  have e2 : (8 * (4 - 1 - 1) : Int).toNat = 16 := by decide
  have e1 : (8 * (4 - 1 - 2) : Int).toNat = 8 := by decide
  have e0 : (8 * (4 - 1 - 3) : Int).toNat = 0 := by decide
  rw [e3, e2, e1, e0]
  have a3 : n / (2 : Int) ^ 24 % 256 = 0 := by show n / 16777216 % 256 = 0; omega
  have a2 : n / (2 : Int) ^ 16 % 256 = 0 := by show n / 65536 % 256 = 0; omega
  have a1 : n / (2 : Int) ^ 8 % 256 = 0 := by show n / 256 % 256 = 0; omega
  have a0 : n / (2 : Int) ^ 0 % 256 = n := by show n / 1 % 256 = n; omega
  rw [a3, a2, a1, a0]
/-! the last loop: rows of octets against two dicts -/
section
variable {prog : Program} {w : World} {A : Around} {E : Value → Shared → Prop} {s : Shared} {env : Env} {h₀ : Heap} {body : List Stmt} {Q : Flow → Shared → Prop} {m₀ : Str → Option Value} {news : List (Addr × Obj)}
/-- the end of a turn over a tuple: iterator and tuple as they were -/
def EndU (h₀ : Heap) (L I : Addr) (oI : Obj) (ax : Addr) (o : Obj) (names : List Str) (m₀ : Str → Option Value) (J : List (Addr × Obj) → Prop) (s₁ : Shared) (f : Flow) (s₂ : Shared) : Prop :=
  f = .next ∧ ∃ h' tk m' nx, s₂ = { s₁ with heap := h', toks := tk } ∧ Fr h₀ L h' m' ∧ News h₀ L h' ((I, oI) :: (ax, o) :: nx) ∧ (∀ y, names.contains y = false → m' y = m₀ y) ∧ J nx
theorem iter_rows {target : PySem.Expr} {ax : Addr} {vs : List Value} {o : Obj} {k : Nat} (names : List Str) (hh : A.handled = none) (F : Fr h₀ env.locals s.heap m₀) (N : News h₀ env.locals s.heap ((ax, o) :: news)) (hc : o.cls = .type "tuple") (hd : o.data = .seq vs.toArray k) (hv : ∀ v ∈ vs, ∃ b t, v = .bytes b t)
    (hgo : ∀ I v (s' : Shared) (Q' : Unit → Shared → Prop), Q' () s' → wpAny (model prog w) A (letOwnedTupleGo target (.ref I) v) Q' E s')
    (J : Nat → List (Addr × Obj) → Prop) (h0 : J 0 news) (hJ : ∀ i nx, J i nx → ∀ p ∈ nx, ∃ o, (p.1, o) ∈ news)
    (turn : ∀ i b t u nx s₁ I oI oA, i < vs.length → J i nx → LCg.Off1 I nx → Fr h₀ env.locals s₁.heap (kMask names u m₀) → News h₀ env.locals s₁.heap ((I, oI) :: (ax, oA) :: nx) →
      wpAny (model prog w) A (assign target env (.bytes b t)) (fun _ s₃ => wpAny (model prog w) A (execs body env) (EndU h₀ env.locals I oI ax oA names m₀ (J (i + 1)) s₁) E s₃) E s₁)
    (done : ∀ h tk u nx, Fr h₀ env.locals h (kMask names u m₀) → News h₀ env.locals h nx → J vs.length nx → Q .next { s with heap := h, toks := tk }) :
    wpAny (model prog w) A (pyIter (.ref ax)) (fun it s₂ => LoopAtT prog w A h₀ env target body Q E it s₂) E s := by
  have ht : IsTup s.heap ax vs.toArray := ⟨o, (N _ (.head _)).1, hc, k, hd⟩
  have hlt : ax < s.heap.objs.size := Heap.lt_size (N _ (.head _)).1
  have hax₀ : h₀.get? ax = none := (N _ (.head _)).2.2
  have haxL : ax ≠ env.locals := (N _ (.head _)).2.1
  have hI0 := next_is_new F
  have N' : News h₀ env.locals s.heap news := fun p hp => N p (.tail _ hp)
  have lt : ∀ i nx, J i nx → ∀ p ∈ nx, p.1 ≠ s.heap.objs.size := fun i nx hj p hp => by
    obtain ⟨o', hm⟩ := hJ i nx hj p hp
    exact Nat.ne_of_lt (Heap.lt_size (N' _ hm).1)
  refine iter_tuple ht ?_
  refine ⟨s.heap.objs.size, _, [s.heap.objs.size], vs.toArray.size, _, _, m₀, news, fun i m' nx => (∀ y, names.contains y = false → m' y = m₀ y) ∧ J i nx, rfl, Walks.tuple hh s.heap.objs.size ax (Nat.ne_of_lt hlt) vs.toArray, ?_, ?_, ?_, ⟨⟨_, Heap.get?_push_size _ rfl, rfl, rfl⟩, ht.push _⟩, F.push _,
    (fun p hp => ⟨Heap.get?_push_of_some _ (N' p hp).1, (N' p hp).2⟩), fun i s' v Q' _ hQ' => hgo _ v s' Q' hQ', ⟨fun _ _ => rfl, h0⟩, ?_, ?_⟩
  · intro h
    rcases List.mem_cons.mp h with h | h
    · exact Nat.ne_of_lt F.ns.lt h
    · exact haxL (List.mem_singleton.mp h).symm
  · intro b hb
    rw [List.mem_singleton.mp hb]
    exact hI0
  · intro p hp hq
    exact lt 0 news h0 p hp (List.mem_singleton.mp hq)
  · rintro i v m₁ nx s₁ own hi hP ⟨hm, hj⟩ hoff hown hget hall hst F₁ N₁
    obtain ⟨b, t, rfl⟩ := hv v (by
      have : vs[i]? = some v := by simpa using hP
      exact List.mem_of_getElem? this)
    obtain ⟨oI, hoI⟩ : ∃ oI, s₁.heap.get? s.heap.objs.size = some oI := by
      obtain ⟨⟨oI, h, _⟩, _⟩ := hst
      exact ⟨oI, h⟩
    obtain ⟨oA, hoA⟩ : ∃ oA, s₁.heap.get? ax = some oA := by
      obtain ⟨_, ⟨o', h, _⟩⟩ := hst
      exact ⟨o', h⟩
    have e := kmask_of hm
    rw [e] at F₁
    have hmI : (s.heap.objs.size, oI) ∈ own := hall _ (.head _) hI0 oI hoI
    have hmA : (ax, oA) ∈ own := hall _ (.tail _ (.head _)) hax₀ oA hoA
    have hone : ∀ p ∈ own, p = (s.heap.objs.size, oI) ∨ p = (ax, oA) := fun p hp => by
      have h2 := hget p hp
      obtain ⟨p1, p2⟩ := p
      dsimp only at h2
      rcases List.mem_cons.mp (hown _ hp) with h1 | h1
      · dsimp only at h1
        rw [h1, hoI] at h2
        cases h2
        exact .inl (by rw [h1])
      · replace h1 := List.mem_singleton.mp h1
        dsimp only at h1
        rw [h1, hoA] at h2
        cases h2
        exact .inr (by rw [h1])
    refine wpAny_mono (turn i b t m₁ nx s₁ _ oI oA (by simpa using hi) hj (lt_off1' (lt i nx hj)) F₁ (fun p hp => ?_)) (fun _ s₂ h₂ => ?_) fun _ _ e => e
    · rcases List.mem_cons.mp hp with rfl | hp
      · exact N₁ _ (List.mem_append.mpr (.inl hmI))
      · rcases List.mem_cons.mp hp with rfl | hp
        · exact N₁ _ (List.mem_append.mpr (.inl hmA))
        · exact N₁ _ (List.mem_append.mpr (.inr hp))
    · refine wpAny_mono h₂ (fun f s₃ h₃ => ?_) fun _ _ e => e
      obtain ⟨hf, h', tk, m', nx', e, F', N'', hm', j⟩ := h₃
      refine ⟨hf, h', tk, m', nx', e, F', fun p hp => ?_, fun p hp hq => lt (i + 1) nx' j p hp (List.mem_singleton.mp hq), hm', j⟩
      rcases List.mem_append.mp hp with hp | hp
      · rcases hone p hp with rfl | rfl
        · exact N'' _ (.head _)
        · exact N'' _ (.tail _ (.head _))
      · exact N'' _ (.tail _ (.tail _ hp))
  · rintro h' tk m' nx F' N'' _ ⟨hm, hj⟩
    have e := kmask_of hm
    rw [e] at F'
    exact done h' tk m' nx F' N'' (by simpa using hj)
end
end
section
section
variable {h₀ h h' : Heap} {L : Addr}
theorem rows_news {a b : Addr × Obj} {r : List (Addr × Obj)} (N : News h₀ L h (a :: b :: r)) : News h₀ L h (a :: r) := fun p hp => by
  rcases List.mem_cons.mp hp with rfl | hp
  · exact N _ (.head _)
  · exact N _ (.tail _ (.tail _ hp))
theorem six_bytes {a b c d e f : Array UInt8} {t u v x y z : Tok} : ∀ q ∈ [Value.bytes a t, .bytes b u, .bytes c v, .bytes d x, .bytes e y, .bytes f z], ∃ b t, q = .bytes b t := by
  intro q hq
  simp only [List.mem_cons, List.not_mem_nil, or_false] at hq
  rcases hq with rfl | rfl | rfl | rfl | rfl | rfl <;> exact ⟨_, _, rfl⟩
/-- both dicts number the same rows -/
def RowJ (w : World) (dk kd : Addr) (rest : List (Addr × Obj)) (i : Nat) (nx : List (Addr × Obj)) : Prop :=
  ∃ (o1 o2 : Obj) (kvs1 kvs2 : List (List UInt8 × Value)) (T : List (List UInt8)), nx = (dk, o1) :: (kd, o2) :: rest ∧ o1.IsDictOf (bytesKind PySem.Challenge.pw_nt0270_01 w) kvs1 ∧ o2.IsDictOf (bytesKind PySem.Challenge.pw_nt0270_01 w) kvs2 ∧ NumTab kvs1 T ∧ NumTab kvs2 T ∧ T.length ≤ i
theorem rowj_start {w : World} {dk kd : Addr} {rest : List (Addr × Obj)} {o1 o2 : Obj} (h1 : o1.IsDictOf (bytesKind PySem.Challenge.pw_nt0270_01 w) []) (h2 : o2.IsDictOf (bytesKind PySem.Challenge.pw_nt0270_01 w) []) : RowJ w dk kd rest 0 ((dk, o1) :: (kd, o2) :: rest) :=
  ⟨o1, o2, [], [], [], rfl, h1, h2, num_nil, num_nil, Nat.le_refl _⟩
theorem rowj_keep {w : World} {dk kd : Addr} {rest : List (Addr × Obj)} {o1 o2 : Obj} (i : Nat) (nx : List (Addr × Obj)) (j : RowJ w dk kd rest i nx) : ∀ p ∈ nx, ∃ o, (p.1, o) ∈ ((dk, o1) :: (kd, o2) :: rest) := by
  obtain ⟨p1, p2, _, _, _, rfl, _⟩ := j
  intro p hp
  rcases List.mem_cons.mp hp with rfl | hp
  · exact ⟨_, .head _⟩
  · rcases List.mem_cons.mp hp with rfl | hp
    · exact ⟨_, .tail _ (.head _)⟩
    · exact ⟨p.2, .tail _ (.tail _ hp)⟩
theorem rows_end {w : World} {I ax dk kd : Addr} {oI oA o1 o2 : Obj} {rest all : List (Addr × Obj)} {names : List Str} {m₀ m' : Str → Option Value} {i tk : Nat} {s₁ : Shared} {kvs1 kvs2 : List (List UInt8 × Value)} {T : List (List UInt8)} {k : List UInt8} (F : Fr h₀ L h' m') (N : News h₀ L h' all) (hI : (I, oI) ∈ all) (hA : (ax, oA) ∈ all) (h1 : (dk, o1) ∈ all) (h2 : (kd, o2) ∈ all) (hr : ∀ p ∈ rest, p ∈ all)
    (hm : ∀ y, names.contains y = false → m' y = m₀ y) (d1 : o1.IsDictOf (bytesKind PySem.Challenge.pw_nt0270_01 w) kvs1) (d2 : o2.IsDictOf (bytesKind PySem.Challenge.pw_nt0270_01 w) kvs2) (n1 : NumTab kvs1 (addT T k)) (n2 : NumTab kvs2 (addT T k)) (hT : T.length ≤ i) :
    EndU h₀ L I oI ax oA names m₀ (RowJ w dk kd rest (i + 1)) s₁ .next { s₁ with heap := h', toks := tk } := by
  refine ⟨rfl, h', tk, m', _, rfl, F, fun p hp => ?_, hm, o1, o2, kvs1, kvs2, _, rfl, d1, d2, n1, n2, Nat.le_trans (addT_length T k) (Nat.succ_le_succ hT)⟩
  rcases List.mem_cons.mp hp with rfl | hp
  · exact N _ hI
  · rcases List.mem_cons.mp hp with rfl | hp
    · exact N _ hA
    · rcases List.mem_cons.mp hp with rfl | hp
      · exact N _ h1
      · rcases List.mem_cons.mp hp with rfl | hp
        · exact N _ h2
        · exact N _ (hr p hp)
theorem num4_in {n : Int} (h0 : 1 ≤ n) (h1 : n ≤ 9) : KBa.In [0, 0, 0, n] := by
  intro x hx
  simp only [List.mem_cons, List.not_mem_nil, or_false] at hx
  rcases hx with rfl | rfl | rfl | rfl <;> omega
theorem num_eq {T : List (List UInt8)} {k : List UInt8} (hT : T.length ≤ 8) : byteArr (beL (numT T k) 4) = byteArr [0, 0, 0, numT T k] := by
  have h := numT_range T k
  rw [be_last (by omega) (by omega)]
/-- what the turn's call of digest wants of the ledger -/
theorem dig_news {I ax dk kd x dx : Addr × Obj} (N : News h₀ L h [I, ax, dk, kd, x, dx]) : News h₀ L h [kd, x, dx, dk, I, ax] := fun p hp => by
  simp only [List.mem_cons, List.not_mem_nil, or_false] at hp
  refine N p ?_
  simp only [List.mem_cons, List.not_mem_nil, or_false]
  rcases hp with h | h | h | h | h | h <;> simp [h]
theorem mask_row {x : Str} {u m₀ : Str → Option Value} {v : Option Value} : ∀ y, [x].contains y = false → (if y = x then v else kMask [x] u m₀ y) = m₀ y := by
  intro y hy
  have h : ¬ y = x := by
    intro e
    subst e
    simp at hy
  rw [if_neg h]
  unfold kMask
  rw [hy]
  rfl
theorem off3 {kd dk I ax : Addr} {a b c : Obj} (h1 : @Ne Nat dk kd) (h2 : @Ne Nat I kd) (h3 : @Ne Nat ax kd) : LCg.Off1 kd [(dk, a), (I, b), (ax, c)] := ⟨h1, h2, h3, True.intro⟩
theorem with_rows {P : Prop} {ax dk kd x dx : Addr} {b : Addr × Obj} {oA o1 o2 ox od : Obj} (N : News h₀ L h [(ax, oA), b, (dk, o1), (kd, o2), (x, ox), (dx, od)]) (n1 : @Ne Nat ax dk) (n2 : @Ne Nat ax kd) (n3 : @Ne Nat dk kd) (n4 : @Ne Nat x dk) (n5 : @Ne Nat dx dk) (n6 : @Ne Nat x kd) (n7 : @Ne Nat dx kd) (l1 : (dk == sysModules) = false) (l2 : (kd == sysModules) = false)
    (g : News h₀ L h [(ax, oA), (dk, o1), (kd, o2), (x, ox), (dx, od)] → @Ne Nat ax dk → @Ne Nat ax kd → @Ne Nat dk kd → @Ne Nat x dk → @Ne Nat dx dk → @Ne Nat x kd → @Ne Nat dx kd → (dk == sysModules) = false → (kd == sysModules) = false → P) : P := g (rows_news N) n1 n2 n3 n4 n5 n6 n7 l1 l2
end
end
section
theorem law_post (args : List WData) : (PySem.Challenge.rw_nt0270_01.row.claim).post args (.bool (4 == 4)) args = true := by
  show (WShape.has [] (WData.bool true) WShape.bool && WTm.holds [] (WTm.res.eq (WTm.lit (WData.bool true))) { args := args, res := some (WData.bool true), after := args }) = true
  have h1 : WShape.has [] (WData.bool true) WShape.bool = true := by first | rfl | decide | simp [WShape.has]
  have h2 : WTm.value [] (WTm.res.eq (WTm.lit (WData.bool true))) { args := args, res := some (WData.bool true), after := args } = some (.bool true) := by first | rfl | wtm_val | simp [WTm.value]
  rw [h1, holdsW_of_value h2]
  rfl
end
section
local macro_rules | `(tactic| k_qdec) => `(tactic| decide +kernel)
local macro_rules | `(tactic| units_room) => `(tactic| ktr_units)
theorem MeetsB.use {w : World} {mean : ExcName → Option Value} {mg mb : Str → Option Value} {d u : Nat} {led : List (Addr × Obj)} {f : Value} {vs : List Value} {P : Heap → Prop} {R : Value → List (Addr × Obj) → Prop} (M : MeetsB w mean mg mb d u led f vs P R)
    {dp un : Nat} {gd : Option (List Code)} {cn : Str} {cs : Scope} {a : Addr} {ccd : Value} {cl : List (Str × Addr)} {outer : List Env} {A₀ : Around} {base h₀ : Heap} {L : Addr} {m : Str → Option Value} {s : Shared} {Q E : Value → Shared → Prop}
    (hP : P base) (B : Below A₀ base outer h₀) (F : Fr h₀ L s.heap m) (X : (hd.heap_39 w.params).In h₀) (N : News h₀ L s.heap led) (T : Top hd.view_39 LL mean mg mb h₀) (hk : cs.kind = .function) (hd : dp + d < recursionLimit) (hu : un + u < cLine)
    (ret : ∀ r led' h' tk', Fr h₀ L h' m → News h₀ L h' led' → R r led' → Q r { s with heap := h', toks := tk' }) :
    wpAny (model PySem.Challenge.pw_nt0270_01 w) (ktrTop dp un gd cn cs L a ccd cl outer) (call f vs) Q E s := M _ _ _ _ _ _ _ _ _ _ _ _ _ _ _ _ _ hP B F X N T hk hd hu ret
local macro_rules | `(tactic| walk_at "callWith ref nil nil") => `(tactic| (k_here; k_dflt ((with_reducible rename Fr _ _ _ _ => fX9); refine' callWith_K0 (Frag.In.keeps ?k1 (Fr.keep fX9)) ?k2 ?_; (case k1 => with_reducible assumption); (case k2 => k_is); k_whole)))
local macro_rules | `(tactic| walk_at "exec For Name Tuple cons nil") => `(tactic| (k_here; (k_dflt show wpAny _ _ (exec (Stmt.For (Expr.Name _ _) (Expr.Tuple _ _ _) _ _ _) _) _ _ _); k_dflt (refine For_invTF (by k_asm) ?_ (by intro _; rfl))))
theorem tail9 {b' : Array UInt8} {ks : List Int} (h : KBw.bInts b' = (ks.drop (clipAt ks.length (-9))).take (ks.length - clipAt ks.length (-9))) : ∃ q, KBw.bInts b' = q ∧ q.length ≤ 9 := by
  refine ⟨_, h, ?_⟩
  rw [List.length_take]
  have : ks.length - clipAt ks.length (-9) ≤ 9 := by unfold clipAt; omega
  omega
theorem take_cut {b' : Array UInt8} {ks : List Int} {c : Int} (h : KBw.bInts b' = (ks.drop 0).take (clipAt ks.length c - 0)) (h0 : 0 ≤ c) (h1 : c < ks.length + 1) : KBw.bInts b' = ks.take c.toNat := by
  rw [h, clipAt_in h0 (Int.le_of_lt_add_one h1), List.drop_zero, Nat.sub_zero]
theorem drop_cut {b' : Array UInt8} {ks : List Int} {c : Int} (h : KBw.bInts b' = (ks.drop (clipAt ks.length c)).take (ks.length - clipAt ks.length c)) (h0 : 0 ≤ c) (h1 : c < ks.length + 1) : KBw.bInts b' = ks.drop c.toNat := by
  rw [h, clipAt_in h0 (Int.le_of_lt_add_one h1), List.take_of_length_le (by rw [List.length_drop]; exact Nat.le_refl _)]
theorem octs_of {b : Array UInt8} {ks : List Int} (h : KBw.bInts b = ks) : ∀ k ∈ ks, 0 ≤ k ∧ k < 256 := h ▸ fun _ hk => KBw.ints_in hk
theorem news_drop3 {h₀ h : Heap} {L : Addr} {a b c : Addr × Obj} {r : List (Addr × Obj)} (N : News h₀ L h (a :: b :: c :: r)) : News h₀ L h r := fun p hp => N p (.tail _ (.tail _ (.tail _ hp)))
theorem crc_news {w : World} {h₀ h : Heap} {L x dx l : Addr} {ts : Tok} {nd n : Nat} {vs : List Value} {led : List (Addr × Obj)} (N : News h₀ L h led) (hx : (x, instObj 113 dx) ∈ led) (hd : (dx, tabD w ts l nd) ∈ led) (hl : (l, PySem.W.listOf vs.toArray n) ∈ led) : News h₀ L h ((l, PySem.W.listOf vs.toArray n) :: (x, instObj 113 dx) :: (dx, tabD w ts l nd) :: led) :=
  news_dup N hl (news_dup N hx (news_dup N hd N))
theorem crc_parts {b : Array UInt8} {ks : List Int} (c : Nat) (h : KBw.bInts b = ks.take c) {ks' : List Int} (_h' : KBw.bInts b = ks') : crcO (crcO 0 (ks.take c)) (ks.drop c) = crcO 0 ks := by
  rw [crcO_cut (octs_of h), List.take_append_drop]
theorem adl_parts (ks : List Int) (c : Nat) : adlV (adlV 1 (ks.take c)) (ks.drop c) = adlV 1 ks := by
  rw [adlV_cut, List.take_append_drop]
theorem wide_len {n : Int} {c : UInt8} (h : n ≤ 300) : (KBw.bInts ((List.replicate n.toNat [c]).flatten.toArray)).length ≤ 300 := by
  rw [KBw.ints_length]
  simp
  omega
theorem wide_nil : (KBw.bInts #[]).length ≤ 300 := Nat.zero_le _
/-- the row of the greatest octets, however it came -/
def WideR (h₀ : Heap) (L : Addr) (m : Str → Option Value) (s : Shared) (v : Value) (s' : Shared) : Prop := ∃ b t q h tk, v = .bytes b t ∧ s' = { s with heap := h, toks := tk } ∧ KBw.bInts b = q ∧ q.length ≤ 300 ∧ Fr h₀ L h m
theorem wide_end {h₀ h : Heap} {L : Addr} {m : Str → Option Value} {s : Shared} {b : Array UInt8} {t : Tok} {q : List Int} {tk : Nat} (F : Fr h₀ L h m) (hq : KBw.bInts b = q) (hl : q.length ≤ 300) : WideR h₀ L m s (.bytes b t) { s with heap := h, toks := tk } := ⟨b, t, q, h, tk, rfl, rfl, hq, hl, F⟩
theorem wide_cut {M : Model} {A : Around} {E : Value → Shared → Prop} {s : Shared} {t : Sem Value} {Q : Value → Shared → Prop} {h₀ : Heap} {L : Addr} {m : Str → Option Value} (_F : Fr h₀ L s.heap m) (h : wpAny M A t (WideR h₀ L m s) E s)
    (k : ∀ b u q h tk, KBw.bInts b = q → q.length ≤ 300 → Fr h₀ L h m → News h₀ L h [] → Q (.bytes b u) { s with heap := h, toks := tk }) : wpAny M A t Q E s :=
  cut_at h fun v s' ⟨b, u, q, h', tk, hv, hs, hq, hl, F⟩ => by
    subst hv
    subst hs
    exact k b u q h' tk hq hl F News.nil
theorem law_holds : PySem.Challenge.rw_nt0270_01.Holds := hd rfl rfl rfl (by
  (try unfold hd.loose)
  (try unfold hd.hook)
  k_go0
  all_goals (try k_fold)
  all_goals (refine entry_gen (fun Qx hQx => ?_))
  k_with_none
  k_with "call ref" => ((with_reducible show wpAny _ _ (call (Value.ref 201) _) _ _ _); k_dflt (refine' MeetsB.use (deck_meets (by with_reducible assumption) (by omega)) (by k_asm) (by k_asm) (by k_asm) (by k_asm) (by first | k_asm | exact News.nil) (by k_asm) (by first | exact rfl | assumption) (by ktr_room) (by ktr_units) ?_); intro r9 led9 h9 tk9 F9 N9 e9; obtain ⟨d9, l9, o9, us9, ks9, n9, mi9, tm9, rfl, rfl, hd9, m0, m1, i9, c9, lo9, hdl9⟩ := e9; (try k_sweep); (try dsimp only); (try k_fold))
  k_with "call ref" => ((with_reducible show wpAny _ _ (call (Value.ref 213) _) _ _ _); (rename IsDeck _ _ _ _ _ => hd9); (rename Cells _ => hc9); k_dflt (refine' Meets.use (octets_meets (led := []) hd9 (by assumption) (by assumption) (by assumption) (by with_reducible assumption) hc9 (by assumption) True.intro True.intro) (by k_asm) (by k_asm) (by k_asm) (news_dup (by k_asm) (by k_mem) (news_dup (by k_asm) (by k_mem) News.nil)) (by k_asm) (by first | exact rfl | assumption) (by ktr_room) (by ktr_units) ?_); intro r9 led9 h9 tk9 F9 N9 e9; obtain ⟨o9, us9, ks9, n9, mi9, tm9, rfl, ⟨b9, tb9, rfl, hb9⟩, hd9', m0, m1, i9, c9⟩ := e9; obtain ⟨q9, hq9⟩ : ∃ q, KBw.bInts b9 = q := ⟨_, rfl⟩; rw [hq9] at hb9; (try k_sweep); (try dsimp only); (try k_fold))
  k_with "call ref" => ((with_reducible show wpAny _ _ (call (Value.ref 208) _) _ _ _); (rename IsDeck _ _ _ _ _ => hd9); (rename Cells _ => hc9); k_dflt (refine' Meets.use (draw_meets (led := []) hd9 (by assumption) (by assumption) (by assumption) (by with_reducible assumption) hc9 (by omega) (by omega) (by assumption) True.intro True.intro) (by k_asm) (by k_asm) (by k_asm) (news_dup (by k_asm) (by k_mem) (news_dup (by k_asm) (by k_mem) News.nil)) (by k_asm) (by first | exact rfl | assumption) (by ktr_room) (by ktr_units) ?_); intro r9 led9 h9 tk9 F9 N9 e9; obtain ⟨v9, tv9, o9, us9, ks9, n9, mi9, tm9, rfl, rfl, v0, v1, hd9', m0, m1, i9, c9⟩ := e9; (try k_sweep); (try dsimp only); (try k_fold))
  k_with "call ref" => ((with_reducible show wpAny _ _ (call (Value.ref 163) _) _ _ _); k_dflt (refine' Meets.use sha_new_meets (by k_asm) (by k_asm) (by k_asm) (by k_asm) (by k_asm) (by first | exact rfl | assumption) (by ktr_room) (by ktr_units) ?_); intro r9 led9 h9 tk9 F9 N9 e9; obtain ⟨x9, dx9, ts9, ti9, nd9, rfl, rfl, hx9, hl9⟩ := e9; (try k_sweep); (try dsimp only); (try k_fold))
  k_with "call ref" => ((with_reducible show wpAny _ _ (call (Value.ref 160) _) _ _ _); k_dflt (refine' Meets.use_bytes (digest_meets (by with_reducible assumption) (by omega)) (by k_asm) (by k_asm) (by k_asm) (by k_asm) (by k_asm) (by first | exact rfl | assumption) (by ktr_room) (by ktr_units) ?_); intro t9 h9 tk9 F9 N9; (try k_sweep); (try dsimp only); (try k_fold))
  k_with "call ref" => ((with_reducible show wpAny _ _ (call (Value.ref 225) _) _ _ _); k_dflt (refine' Meets.use_bytes (law_sha_meets (by with_reducible assumption) (by omega)) (by k_asm) (by k_asm) (by k_asm) (by k_asm) (by k_asm) (by first | exact rfl | assumption) (by ktr_room) (by ktr_units) ?_); intro t9 h9 tk9 F9 N9; (try k_sweep); (try dsimp only); (try k_fold))
  k_with "compareOp NotEq bytes bytes" => (refine ne_bytes_eq rfl ?_)
  k_with "subscriptTail" => (k_here; (with_reducible show wpAny _ _ (subscriptTail _ (Expr.Slice _ _ none _) (Value.bytes _ _) (Value.ref _)) _ _ _); (with_reducible rename Fr _ _ _ _ => F'); (with_reducible rename News _ _ _ _ => N'); (refine KBc.slice_K (s := ⟨_, _, _, _, _⟩) F' N' (by with_reducible assumption) (by constructor) (by constructor) (by omega) ?_); intro h9 t9 k9 F9 N9 e9; first | (k_dflt (obtain ⟨p9, hp9, hl9⟩ := tail9 e9); clear e9) | (k_dflt (replace e9 := take_cut e9 (by assumption) (by omega))) | (k_dflt (replace e9 := drop_cut e9 (by assumption) (by omega))))
  k_with "subscriptTail Name Slice bytes ref" => k_extra "subscriptTail"
  k_with "call ref" => ((with_reducible show wpAny _ _ (call (Value.ref 113) _) _ _ _); k_dflt (refine' Meets.use crc_new_meets (by k_asm) (by k_asm) (by k_asm) (by k_asm) (by k_asm) (by first | exact rfl | assumption) (by ktr_room) (by ktr_units) ?_); intro r9 led9 h9 tk9 F9 N9 e9; obtain ⟨x9, dx9, lx9, vx9, nx9, ts9, nd9, rfl, rfl, ix9, hx9, hx9', hl9⟩ := e9; (try k_sweep); (try dsimp only); (try k_fold))
  k_with "call ref" => ((with_reducible show wpAny _ _ (call (Value.ref 110) [_, _, _]) _ _ _); k_dflt (refine' Meets.use_int (crc_of_meets (by with_reducible assumption) (by (try simp only [List.length_take, List.length_drop]); omega) (crcO_range (by decide) (by decide) (octs_of (by with_reducible assumption))).1 (crcO_range (by decide) (by decide) (octs_of (by with_reducible assumption))).2 ?hi) (by k_asm) (by k_asm) (by k_asm) (crc_news (by k_asm) (by k_mem) (by k_mem) (by k_mem)) (by k_asm) (by first | exact rfl | assumption) (by ktr_room) (by ktr_units) ?_); (case hi => with_reducible assumption); intro t9 h9 tk9 F9 N9; (replace N9 := news_drop3 N9); (try k_sweep); (try dsimp only); (try k_fold))
  k_with "call ref" => ((with_reducible show wpAny _ _ (call (Value.ref 110) [_, _]) _ _ _); k_dflt (refine' Meets.use_int (crc_of1_meets (by with_reducible assumption) (by (try simp only [List.length_take, List.length_drop]); omega) ?hi) (by k_asm) (by k_asm) (by k_asm) (crc_news (by k_asm) (by k_mem) (by k_mem) (by k_mem)) (by k_asm) (by first | exact rfl | assumption) (by ktr_room) (by ktr_units) ?_); (case hi => with_reducible assumption); intro t9 h9 tk9 F9 N9; (replace N9 := news_drop3 N9); (try k_sweep); (try dsimp only); (try k_fold))
  k_with "call ref" => ((with_reducible show wpAny _ _ (call (Value.ref 230) _) _ _ _); k_dflt (refine' Meets.use_int (law_crc_meets (by with_reducible assumption) (by omega)) (by k_asm) (by k_asm) (by k_asm) (by k_asm) (by k_asm) (by first | exact rfl | assumption) (by ktr_room) (by ktr_units) ?_); intro t9 h9 tk9 F9 N9; (try k_sweep); (try dsimp only); (try k_fold))
  k_with "call ref" => ((with_reducible show wpAny _ _ (call (Value.ref 235) _) _ _ _); k_dflt (refine' Meets.use_int (law_sums_meets (by with_reducible assumption) (by omega)) (by k_asm) (by k_asm) (by k_asm) (by k_asm) (by k_asm) (by first | exact rfl | assumption) (by ktr_room) (by ktr_units) ?_); intro t9 h9 tk9 F9 N9; (try k_sweep); (try dsimp only); (try k_fold))
  k_with "call ref" => ((with_reducible show wpAny _ _ (call (Value.ref 88) [_]) _ _ _); k_dflt (refine' Meets.use_int (adler1_meets (by with_reducible assumption) (by (try simp only [List.length_take, List.length_drop]); omega)) (by k_asm) (by k_asm) (by k_asm) (by k_asm) (by k_asm) (by first | exact rfl | assumption) (by ktr_room) (by ktr_units) ?_); intro t9 h9 tk9 F9 N9; (try k_sweep); (try dsimp only); (try k_fold))
  k_with "call ref" => ((with_reducible show wpAny _ _ (call (Value.ref 88) [_, _]) _ _ _); k_dflt (refine' Meets.use_int (adler_meets (by with_reducible assumption) (by (try simp only [List.length_take, List.length_drop]); omega) (adlV_range _ (by decide) (by decide)).1 (adlV_range _ (by decide) (by decide)).2) (by k_asm) (by k_asm) (by k_asm) (by k_asm) (by k_asm) (by first | exact rfl | assumption) (by ktr_room) (by ktr_units) ?_); intro t9 h9 tk9 F9 N9; (try k_sweep); (try dsimp only); (try k_fold))
  k_with "compareOp NotEq int int" => first | (with_reducible refine ne_int_eq rfl ?_) | (with_reducible refine ne_int_eq (crc_parts _ (by with_reducible assumption) (by with_reducible assumption)) ?_) | (with_reducible refine ne_int_eq (adl_parts _ _) ?_)
  k_with "eval IfExp" => ((fail_if_success (with_reducible show wpAny _ _ _ (WideR _ _ _ _) _ _)); (rename Fr _ _ _ _ => fF9); k_dflt (refine wide_cut fF9 ?_ (fun b9 t9 q9 h9 tk9 hq9 hl9 F9 N9 => ?_)))
  k_with "WideR" => (k_dflt (first | exact wide_end (by k_asm) rfl wide_nil | exact wide_end (by k_asm) rfl (wide_len (by omega))))
  k_with "call ref" => ((with_reducible show wpAny _ _ (call (Value.ref 192) _) _ _ _); k_dflt (refine' Meets.use cnt_new_meets (by k_asm) (by k_asm) (by k_asm) (by k_asm) (by k_asm) (by first | exact rfl | assumption) (by ktr_room) (by ktr_units) ?_); intro r9 led9 h9 tk9 F9 N9 e9; obtain ⟨x9, dx9, kd9, oc9, ts9, ti9, tq9, nd9, rfl, rfl, hx9, hx9', hl9, lo9, hdc9⟩ := e9; (try k_sweep); (try dsimp only); (try k_fold))
  k_with "pyIter ref" => ((with_reducible rename News _ _ _ _ => nN9); (with_reducible rename Fr _ _ _ _ => fF9); k_dflt (refine' with_rows nN9 ?ra1 ?ra2 ?ra3 ?ra4 ?ra5 ?ra6 ?ra7 ?ra8 ?ra9 (fun nR9 ne1 ne2 ne3 ne4 ne5 ne6 ne7 lo1 lo2 => ?_); (case ra1 => k_ne); (case ra2 => k_ne); (case ra3 => k_ne); (case ra4 => k_ne); (case ra5 => k_ne); (case ra6 => exact Nat.ne_of_lt hx9'); (case ra7 => exact Nat.ne_of_lt (Nat.lt_trans hx9 hx9')); (case ra8 => with_reducible assumption); (case ra9 => with_reducible assumption)); k_dflt (refine' iter_rows ["row"] rfl fF9 nR9 rfl rfl six_bytes (fun _ _ _ _ h => wpAny_pure h) (RowJ _ _ _ _) (rowj_start ?rb1 ?rb2) (rowj_keep) (fun i9 b9 t9 u9 nx9 s9 I9 oI9 oA9 hi9 hJ9 off9 F9 N9 => ?rt) (fun h9 tk9 u9 nx9 F9 N9 hJ9 => ?rd); (case' rb1 => (rename Obj.IsDictOf (intKind _ _) _ [] => hi9d; exact dict_nil hi9d)); (case' rb2 => with_reducible assumption)); (all_goals (obtain ⟨o1, o2, kvs1, kvs2, T9, rfl, hd1, hd2, hn1, hn2, hT9⟩ := hJ9)); (all_goals (try (replace hi9 : i9 < 6 := hi9))); (all_goals (try (obtain ⟨of1, of2, of3, of4, _⟩ := off9))))
  k_with "compareOp NotIn bytes ref" => (k_here; k_dflt (refine' kdg_notin (knd := bytesKind _ _) ?N ?m hd1 lo1 (bytesKind_is b9 _) (valueAt kvs1 b9.toList).isSome rfl ?_; (case N => k_asm); (case m => k_mem)))
  k_with "setItem ref bytes" => (k_here; k_dflt (refine' kda_set (knd := bytesKind _ _) ?F ?N ?U hd1 (bytesKind_is b9 _) ?z ?_; (case F => k_asm); (case N => k_asm); (case U => k_updF); (case z => rw [sizeLine_eq, hn1.1]; omega)); intro h' o' F' N' hdS; (try dsimp only at N'))
  k_with "call builtin:len" => (k_here; (with_reducible show wpAny _ _ (call (Value.builtin "len") [Value.ref _]) _ _ _); k_dflt (refine' kda_len (knd := bytesKind _ _) ?N ?m hd1 lo1 ?z ?_; (case N => k_asm); (case m => k_mem); (case z => rw [hn1.1]; omega)))
  k_with "call ref" => ((with_reducible show wpAny _ _ (call (Value.ref 189) _) _ _ _); k_dflt (refine' Meets.use (cnt_digest_meets hd2 hn2 (by omega) lo2 ne6 ne7 (off3 ne3 (Ne.symm of2) ne2)) (by k_asm) (by k_asm) (by k_asm) (dig_news (by k_asm)) (by k_asm) (by first | exact rfl | assumption) (by ktr_room) (by ktr_units) ?_); intro r9 led9 h9 tk9 F9 N9 e9; obtain ⟨o3, kvs3, t3, rfl, rfl, hd3, hn3⟩ := e9; (try k_sweep); (try dsimp only); (try k_fold))
  k_with "subscriptTail" => (k_here; (with_reducible show wpAny _ _ (subscriptTail _ _ (Value.ref _) (Value.bytes _ _)) _ _ _); (rename Option.isSome _ = _ => hq9); k_dflt (first
    | (obtain ⟨ea9, tt9, ev9⟩ := num_old hn1 hq9; (refine' kda_item (knd := bytesKind _ _) ?N ?m hd1 (bytesKind_is b9 _) ev9 ?_; (case N => k_asm); (case m => k_mem)))
    | (refine' kda_item (knd := bytesKind _ _) ?N ?m hdS (bytesKind_is b9 _) (num_new hn1 hq9 rfl).2.2 ?_; (case N => k_asm); (case m => k_mem))))
  k_with "subscriptTail Name Name ref bytes" => k_extra "subscriptTail"
  k_with "call type:bytes" => (k_here; (with_reducible show wpAny _ _ (call (Value.type "bytes") [Value.ref _]) _ _ _); (fail_if_success (clear b9)); k_dflt (have hnr9 := numT_range T9 b9.toList; refine KBa.make_K (ns := [0, 0, 0, numT T9 b9.toList]) (by k_asm) (by k_asm) rfl (News.isList (by k_asm) (by k_mem)) (.cons _ _ (.cons _ _ (.cons _ _ (.cons _ _ .nil)))) (num4_in (by omega) (by omega)) (Nat.le_of_ble_eq_true rfl) ?_); intro h9 t9 k9 F9 N9 _)
  k_with "compareOp NotEq bytes bytes" => first | (with_reducible refine ne_bytes_eq rfl ?_) | (refine ne_bytes_eq (num_eq (by omega)) ?_)
  k_with "EndU" => ((with_reducible rename News _ _ _ _ => nE9); (rename Option.isSome _ = _ => hq9); k_dflt (first
    | refine rows_end (by k_asm) nE9 (by k_mem) (by k_mem) (by k_mem) (by k_mem) (List.forall_mem_cons.mpr ⟨by k_mem, List.forall_mem_cons.mpr ⟨by k_mem, List.forall_mem_nil _⟩⟩) mask_row hd1 hd3 (num_same hn1 hq9) hn3 hT9
    | refine rows_end (by k_asm) nE9 (by k_mem) (by k_mem) (by k_mem) (by k_mem) (List.forall_mem_cons.mpr ⟨by k_mem, List.forall_mem_cons.mpr ⟨by k_mem, List.forall_mem_nil _⟩⟩) mask_row hdS hd3 (num_new hn1 hq9 rfl).1 hn3 hT9))
  (repeat' (first | (k_unfold; (try dsimp only)) | walk1 | (dsimp only; walk1) | (leave1; walk_say "STEP leave1"; try dsimp only)))
  all_goals (try dsimp only)
  all_goals ((with_reducible rename Fr _ _ _ _ => fZ9); (refine' goodW_bool fZ9 ?zg (raisesW_false ?zh) ?zp); (case zg => with_reducible assumption); (case zh => wrow_none_raised); (case zp => exact law_post _)))
end
end Mine
theorem PySem.Challenge.cw_nt0270_01_holds : PySem.Challenge.rw_nt0270_01.Holds := by
  exact Mine.law_holds

