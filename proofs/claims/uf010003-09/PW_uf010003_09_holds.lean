import PyProof.Rows.All
import KE.KEqDict
import KE.KDictList
import KE.KLam
import KE.KDictOf
import KE.LcSums
import KE.KSortTup
import Lean
import PySem.Challenge.RW_uf010003_09
set_option compiler.extract_closed false
set_option genSizeOf false
set_option genInjectivity false
set_option Elab.async false
set_option maxRecDepth 100000
set_option linter.all false

section
open PySem PySem.W PyProof.Rows PySem.Calls PyProof
namespace Mine
noncomputable abbrev pw:=PySem.Challenge.pw_uf010003_09
noncomputable def recOf (p:Program) (i:Nat):DefRec :=
 match p.main.body[i]? with
 | some (.FunctionDef n a b _ _ _ s _ _ pos)=>⟨n,a,b,s,pos⟩
 | _=>⟨"",{ posonlyargs:=[],args:=[],vararg:=none,kwonlyargs:=[],kw_defaults:=[],kwarg:=none,defaults:=[] },[],p.main.scope,⟨0,0,0,0⟩⟩
noncomputable def kf:Params→Frag:=fun P=>[
 (3,{ cls:=Value.type "dict",data:=Data.dict #[{ hash:=PyData.keyHash P (Str.ofString "__name__"),key:=Value.str (Str.ofString "__name__") 165,val:=Value.str (Str.ofString "law_uf010003_09") 651 },{ hash:=PyData.keyHash P (Str.ofString "__doc__"),key:=Value.str (Str.ofString "__doc__") 166,val:=Value.none },{ hash:=PyData.keyHash P (Str.ofString "__package__"),key:=Value.str (Str.ofString "__package__") 167,val:=Value.none },{ hash:=PyData.keyHash P (Str.ofString "__loader__"),key:=Value.str (Str.ofString "__loader__") 168,val:=Value.builtin "__main__.__loader__#opaque" },{ hash:=PyData.keyHash P (Str.ofString "__spec__"),key:=Value.str (Str.ofString "__spec__") 169,val:=Value.none },{ hash:=PyData.keyHash P (Str.ofString "__annotations__"),key:=Value.str (Str.ofString "__annotations__") 170,val:=Value.ref 6 },{ hash:=PyData.keyHash P (Str.ofString "__builtins__"),key:=Value.str (Str.ofString "__builtins__") 171,val:=Value.ref 4 },{ hash:=PyData.keyHash P (Str.ofString "__file__"),key:=Value.str (Str.ofString "__file__") 173,val:=Value.str (Str.ofString "/claim/cut.py") 172 },{ hash:=PyData.keyHash P (Str.ofString "__cached__"),key:=Value.str (Str.ofString "__cached__") 174,val:=Value.none },{ hash:=PyData.keyHash P (Str.ofString "SomeError"),key:=Value.str (Str.ofString "SomeError") 206,val:=Value.ref 24 },{ hash:=PyData.keyHash P (Str.ofString "NoValue"),key:=Value.str (Str.ofString "NoValue") 222,val:=Value.ref 37 },{ hash:=PyData.keyHash P (Str.ofString "NotPlain"),key:=Value.str (Str.ofString "NotPlain") 238,val:=Value.ref 49 },{ hash:=PyData.keyHash P (Str.ofString "made"),key:=Value.str (Str.ofString "made") 246,val:=Value.ref 56 },{ hash:=PyData.keyHash P (Str.ofString "added"),key:=Value.str (Str.ofString "added") 254,val:=Value.ref 63 },{ hash:=PyData.keyHash P (Str.ofString "times"),key:=Value.str (Str.ofString "times") 260,val:=Value.ref 68 },{ hash:=PyData.keyHash P (Str.ofString "share"),key:=Value.str (Str.ofString "share") 270,val:=Value.ref 75 },{ hash:=PyData.keyHash P (Str.ofString "without"),key:=Value.str (Str.ofString "without") 276,val:=Value.ref 80 },{ hash:=PyData.keyHash P (Str.ofString "put_in"),key:=Value.str (Str.ofString "put_in") 285,val:=Value.ref 87 },{ hash:=PyData.keyHash P (Str.ofString "value"),key:=Value.str (Str.ofString "value") 296,val:=Value.ref 94 },{ hash:=PyData.keyHash P (Str.ofString "YES"),key:=Value.str (Str.ofString "YES") 300,val:=Value.ref 96 },{ hash:=PyData.keyHash P (Str.ofString "NO"),key:=Value.str (Str.ofString "NO") 302,val:=Value.ref 98 },{ hash:=PyData.keyHash P (Str.ofString "gcd"),key:=Value.str (Str.ofString "gcd") 311,val:=Value.ref 105 },{ hash:=PyData.keyHash P (Str.ofString "lcm"),key:=Value.str (Str.ofString "lcm") 319,val:=Value.ref 112 },{ hash:=PyData.keyHash P (Str.ofString "common_of"),key:=Value.str (Str.ofString "common_of") 329,val:=Value.ref 119 },{ hash:=PyData.keyHash P (Str.ofString "divided"),key:=Value.str (Str.ofString "divided") 335,val:=Value.ref 124 },{ hash:=PyData.keyHash P (Str.ofString "turned"),key:=Value.str (Str.ofString "turned") 342,val:=Value.ref 131 },{ hash:=PyData.keyHash P (Str.ofString "neat_above"),key:=Value.str (Str.ofString "neat_above") 348,val:=Value.ref 136 },{ hash:=PyData.keyHash P (Str.ofString "neat_nought"),key:=Value.str (Str.ofString "neat_nought") 356,val:=Value.ref 143 },{ hash:=PyData.keyHash P (Str.ofString "neat_goes"),key:=Value.str (Str.ofString "neat_goes") 362,val:=Value.ref 148 },{ hash:=PyData.keyHash P (Str.ofString "neat_atom"),key:=Value.str (Str.ofString "neat_atom") 369,val:=Value.ref 155 },{ hash:=PyData.keyHash P (Str.ofString "joined"),key:=Value.str (Str.ofString "joined") 382,val:=Value.ref 162 },{ hash:=PyData.keyHash P (Str.ofString "mapped"),key:=Value.str (Str.ofString "mapped") 388,val:=Value.ref 167 },{ hash:=PyData.keyHash P (Str.ofString "neat"),key:=Value.str (Str.ofString "neat") 395,val:=Value.ref 174 },{ hash:=PyData.keyHash P (Str.ofString "atoms_of"),key:=Value.str (Str.ofString "atoms_of") 404,val:=Value.ref 181 },{ hash:=PyData.keyHash P (Str.ofString "stands"),key:=Value.str (Str.ofString "stands") 410,val:=Value.ref 186 },{ hash:=PyData.keyHash P (Str.ofString "as_above"),key:=Value.str (Str.ofString "as_above") 418,val:=Value.ref 193 },{ hash:=PyData.keyHash P (Str.ofString "pushed"),key:=Value.str (Str.ofString "pushed") 424,val:=Value.ref 198 },{ hash:=PyData.keyHash P (Str.ofString "ATOMS"),key:=Value.str (Str.ofString "ATOMS") 430,val:=Value.ref 199 },{ hash:=PyData.keyHash P (Str.ofString "BINDING"),key:=Value.str (Str.ofString "BINDING") 433,val:=Value.ref 200 },{ hash:=PyData.keyHash P (Str.ofString "inner"),key:=Value.str (Str.ofString "inner") 441,val:=Value.ref 207 },{ hash:=PyData.keyHash P (Str.ofString "is_plain"),key:=Value.str (Str.ofString "is_plain") 449,val:=Value.ref 214 },{ hash:=PyData.keyHash P (Str.ofString "need_plain"),key:=Value.str (Str.ofString "need_plain") 456,val:=Value.ref 221 },{ hash:=PyData.keyHash P (Str.ofString "gather"),key:=Value.str (Str.ofString "gather") 467,val:=Value.ref 228 },{ hash:=PyData.keyHash P (Str.ofString "unknowns"),key:=Value.str (Str.ofString "unknowns") 475,val:=Value.ref 235 },{ hash:=PyData.keyHash P (Str.ofString "need_values"),key:=Value.str (Str.ofString "need_values") 484,val:=Value.ref 242 },{ hash:=PyData.keyHash P (Str.ofString "truth"),key:=Value.str (Str.ofString "truth") 494,val:=Value.ref 249 },{ hash:=PyData.keyHash P (Str.ofString "is_true"),key:=Value.str (Str.ofString "is_true") 502,val:=Value.ref 256 },{ hash:=PyData.keyHash P (Str.ofString "filled"),key:=Value.str (Str.ofString "filled") 508,val:=Value.ref 261 },{ hash:=PyData.keyHash P (Str.ofString "solved"),key:=Value.str (Str.ofString "solved") 522,val:=Value.ref 268 },{ hash:=PyData.keyHash P (Str.ofString "by_nought"),key:=Value.str (Str.ofString "by_nought") 536,val:=Value.ref 275 },{ hash:=PyData.keyHash P (Str.ofString "of_share_one"),key:=Value.str (Str.ofString "of_share_one") 551,val:=Value.ref 282 },{ hash:=PyData.keyHash P (Str.ofString "set_in"),key:=Value.str (Str.ofString "set_in") 557,val:=Value.ref 287 },{ hash:=PyData.keyHash P (Str.ofString "far_atom"),key:=Value.str (Str.ofString "far_atom") 566,val:=Value.ref 294 },{ hash:=PyData.keyHash P (Str.ofString "edges_of"),key:=Value.str (Str.ofString "edges_of") 577,val:=Value.ref 301 },{ hash:=PyData.keyHash P (Str.ofString "gone"),key:=Value.str (Str.ofString "gone") 596,val:=Value.ref 308 },{ hash:=PyData.keyHash P (Str.ofString "away"),key:=Value.str (Str.ofString "away") 602,val:=Value.ref 313 },{ hash:=PyData.keyHash P (Str.ofString "left"),key:=Value.str (Str.ofString "left") 608,val:=Value.ref 318 },{ hash:=PyData.keyHash P (Str.ofString "holds"),key:=Value.str (Str.ofString "holds") 621,val:=Value.ref 325 },{ hash:=PyData.keyHash P (Str.ofString "break_of"),key:=Value.str (Str.ofString "break_of") 630,val:=Value.ref 332 },{ hash:=PyData.keyHash P (Str.ofString "number_for"),key:=Value.str (Str.ofString "number_for") 644,val:=Value.ref 339 },{ hash:=PyData.keyHash P (Str.ofString "told"),key:=Value.str (Str.ofString "told") 650,val:=Value.ref 344 },{ hash:=PyData.keyHash P (Str.ofString "_law_cell_at"),key:=Value.str (Str.ofString "_law_cell_at") 660,val:=Value.ref 351 },{ hash:=PyData.keyHash P (Str.ofString "_law_whole"),key:=Value.str (Str.ofString "_law_whole") 667,val:=Value.ref 358 },{ hash:=PyData.keyHash P (Str.ofString "_law_names_by"),key:=Value.str (Str.ofString "_law_names_by") 673,val:=Value.ref 363 },{ hash:=PyData.keyHash P (Str.ofString "_law_big_by"),key:=Value.str (Str.ofString "_law_big_by") 683,val:=Value.ref 370 },{ hash:=PyData.keyHash P (Str.ofString "_law_value"),key:=Value.str (Str.ofString "_law_value") 693,val:=Value.ref 377 },{ hash:=PyData.keyHash P (Str.ofString "_law_true"),key:=Value.str (Str.ofString "_law_true") 704,val:=Value.ref 384 },{ hash:=PyData.keyHash P (Str.ofString "_law_sum_is"),key:=Value.str (Str.ofString "_law_sum_is") 714,val:=Value.ref 391 },{ hash:=PyData.keyHash P (Str.ofString "_law_plain_is"),key:=Value.str (Str.ofString "_law_plain_is") 724,val:=Value.ref 398 },{ hash:=PyData.keyHash P (Str.ofString "_law_sum"),key:=Value.str (Str.ofString "_law_sum") 730,val:=Value.ref 403 },{ hash:=PyData.keyHash P (Str.ofString "_law_kind"),key:=Value.str (Str.ofString "_law_kind") 749,val:=Value.ref 410 },{ hash:=PyData.keyHash P (Str.ofString "_law_same"),key:=Value.str (Str.ofString "_law_same") 757,val:=Value.ref 417 },{ hash:=PyData.keyHash P (Str.ofString "law"),key:=Value.str (Str.ofString "law") 772,val:=Value.ref 424 }] 73 }),
 (95,{ cls:=Value.type "tuple",data:=Data.seq #[] }),
 (96,{ cls:=Value.type "tuple",data:=Data.seq #[Value.str (Str.ofString "and") 299,Value.ref 95] }),
 (97,{ cls:=Value.type "tuple",data:=Data.seq #[] }),
 (98,{ cls:=Value.type "tuple",data:=Data.seq #[Value.str (Str.ofString "or") 301,Value.ref 97] }),
 (155,{ cls:=Value.type "function",data:=Data.func (docDef (recOf pw 23).name (recOf pw 23).params (recOf pw 23).body (recOf pw 23).scope (Value.str (Str.ofString "somenumber.neats") 297) (Value.ref 154) Value.none) }),
 (199,{ cls:=Value.type "tuple",data:=Data.seq #[Value.str (Str.ofString "above") 427,Value.str (Str.ofString "nought") 428,Value.str (Str.ofString "goes") 429] }),
 (200,{ cls:=Value.type "tuple",data:=Data.seq #[Value.str (Str.ofString "some") 431,Value.str (Str.ofString "all") 432] })]
noncomputable def pickIx (l:List Stmt) (ks:List Nat):List Stmt:=ks.filterMap (l[·]?)
noncomputable def view9:Program:={ pw with main:={ pw.main with body:=pickIx pw.main.body [1,2,3,5,6,7,8,9,10,11,13,14,15,16,17,18,19,20,21,22,23,24,25,26,27,28,29,30,32,33,34,35,36,37,38,39,40,41,42,44,45,46,47,48,49,50,51,52,54,55,56,57,59,60,61,62,63,64,65,66,67,68,69,70] } }
set_option maxHeartbeats 8000000
noncomputable def hk9:Hook:=kHook kf [3,95,96,97,98,155,199,200] (fun _=>by kernel_rfl)
noncomputable def xt9 (s:Shared):Bool:=xlAt view9 [] s&&recOk (RowW.records (OpenRow.toRowW (PySem.Challenge.rw_uf010003_09.row))) s
noncomputable def os9 (s:Shared):=openSeen view9 [] (importedModules PySem.Challenge.rw_uf010003_09.row.prog.main.body) xt9 true s
theorem comb {α A B C D E Y:Type} {o:Option α} {f:α→A×B×C×D×E} {y:α→Y} {A0 B0 C0 D0 E0 Y0} (h1:o.map (fun s=>((f s).1,(f s).2.1,(f s).2.2.2.1))=some (A0,B0,D0)) (h2:o.map (fun s=>((f s).2.2.1,(f s).2.2.2.2,y s))=some (C0,E0,Y0)) :
  o.map (fun s=>(f s,y s))=some ((A0,B0,C0,D0,E0),Y0):=by
 cases o with
 | none=>cases h1
 | some x=>cases h1;cases h2;rfl
theorem lg1 (w:World):(openEnds treeTable PySem.Challenge.rw_uf010003_09.row.prog w 5044).map (fun s=>((os9 s).1,(os9 s).2.1,(os9 s).2.2.2.1))=some (expectedOf view9,bltViewBooted,true):=by kernel_rfl
theorem lg2 (w:World):(openEnds treeTable PySem.Challenge.rw_uf010003_09.row.prog w 5044).map (fun s=>((os9 s).2.2.1,(os9 s).2.2.2.2,hk9.obs s))=some (true,(pinGoodD (drecsOf view9),plainGoodE view9 (looseW view9 []),plainGoodD view9 [],wideGood view9,clsGoodW view9 []),hk9.val w):=by kernel_rfl
theorem left9:LeftO PySem.Challenge.rw_uf010003_09.row.prog view9 [] xt9 hk9.obs hk9.val 5044:=fun w=>comb (lg1 w) (lg2 w)
theorem said9:OpenLaw.wellSaid PySem.Challenge.rw_uf010003_09=true:=by decide +kernel
end Mine
end

section
set_option backward.match.sparseCases false
set_option tactic.hygienic false
namespace Mine
theorem e0_2 {P Q:Prop} {C:Prop} (h:P∧Q) (k:P→Q→C):C:=k h.1 h.2
theorem e0_3 {P Q R:Prop} {C:Prop} (h:P∧Q∧R) (k:P→Q→R→C):C:=e0_2 h.2 (k h.1)
theorem e0_4 {P Q R S:Prop} {C:Prop} (h:P∧Q∧R∧S) (k:P→Q→R→S→C):C:=e0_3 h.2 (k h.1)
theorem e0_5 {P Q R S T:Prop} {C:Prop} (h:P∧Q∧R∧S∧T) (k:P→Q→R→S→T→C):C:=e0_4 h.2 (k h.1)
theorem e0_6 {P Q R S T U:Prop} {C:Prop} (h:P∧Q∧R∧S∧T∧U) (k:P→Q→R→S→T→U→C):C:=e0_5 h.2 (k h.1)
theorem e0_7 {P Q R S T U V:Prop} {C:Prop} (h:P∧Q∧R∧S∧T∧U∧V) (k:P→Q→R→S→T→U→V→C):C:=e0_6 h.2 (k h.1)
theorem e0_8 {P Q R S T U V W:Prop} {C:Prop} (h:P∧Q∧R∧S∧T∧U∧V∧W) (k:P→Q→R→S→T→U→V→W→C):C:=e0_7 h.2 (k h.1)
theorem e0_9 {P Q R S T U V W X:Prop} {C:Prop} (h:P∧Q∧R∧S∧T∧U∧V∧W∧X) (k:P→Q→R→S→T→U→V→W→X→C):C:=e0_8 h.2 (k h.1)
theorem e0_10 {P Q R S T U V W X Y:Prop} {C:Prop} (h:P∧Q∧R∧S∧T∧U∧V∧W∧X∧Y) (k:P→Q→R→S→T→U→V→W→X→Y→C):C:=e0_9 h.2 (k h.1)
theorem e0_11 {P Q R S T U V W X Y Z:Prop} {C:Prop} (h:P∧Q∧R∧S∧T∧U∧V∧W∧X∧Y∧Z) (k:P→Q→R→S→T→U→V→W→X→Y→Z→C):C:=e0_10 h.2 (k h.1)
theorem e0_12 {P Q R S T U V W X Y Z P₁:Prop} {C:Prop} (h:P∧Q∧R∧S∧T∧U∧V∧W∧X∧Y∧Z∧P₁) (k:P→Q→R→S→T→U→V→W→X→Y→Z→P₁→C):C:=e0_11 h.2 (k h.1)
theorem e0_13 {P Q R S T U V W X Y Z P₁ P₂:Prop} {C:Prop} (h:P∧Q∧R∧S∧T∧U∧V∧W∧X∧Y∧Z∧P₁∧P₂) (k:P→Q→R→S→T→U→V→W→X→Y→Z→P₁→P₂→C):C:=e0_12 h.2 (k h.1)
theorem e0_14 {P Q R S T U V W X Y Z P₁ P₂ P₃:Prop} {C:Prop} (h:P∧Q∧R∧S∧T∧U∧V∧W∧X∧Y∧Z∧P₁∧P₂∧P₃) (k:P→Q→R→S→T→U→V→W→X→Y→Z→P₁→P₂→P₃→C):C:=e0_13 h.2 (k h.1)
theorem e1_1.{u1} {α:Sort u1} {P:α→Prop} {C:Prop} (h:∃ a,P a) (k:∀ a,P a→C):C:=h.elim k
theorem e2_1.{u1,u2} {α:Sort u1} {β:Sort u2} {P:α→β→Prop} {C:Prop} (h:∃ a b,P a b) (k:∀ a b,P a b→C):C:=h.elim fun a h=>e1_1 h (k a)
theorem e3_1.{u1,u2,u3} {α:Sort u1} {β:Sort u2} {γ:Sort u3} {P:α→β→γ→Prop} {C:Prop} (h:∃ a b c,P a b c) (k:∀ a b c,P a b c→C):C:=h.elim fun a h=>e2_1 h (k a)
theorem e4_1.{u1,u2,u3,u4} {α:Sort u1} {β:Sort u2} {γ:Sort u3} {δ:Sort u4} {P:α→β→γ→δ→Prop} {C:Prop} (h:∃ a b c d,P a b c d) (k:∀ a b c d,P a b c d→C):C:=h.elim fun a h=>e3_1 h (k a)
theorem e5_1.{u1,u2,u3,u4,u5} {α:Sort u1} {β:Sort u2} {γ:Sort u3} {δ:Sort u4} {ε:Sort u5} {P:α→β→γ→δ→ε→Prop} {C:Prop} (h:∃ a b c d e,P a b c d e) (k:∀ a b c d e,P a b c d e→C):C:=h.elim fun a h=>e4_1 h (k a)
theorem e6_1.{u1,u2,u3,u4,u5,u6} {α:Sort u1} {β:Sort u2} {γ:Sort u3} {δ:Sort u4} {ε:Sort u5} {ζ:Sort u6} {P:α→β→γ→δ→ε→ζ→Prop} {C:Prop} (h:∃ a b c d e f,P a b c d e f) (k:∀ a b c d e f,P a b c d e f→C):C:=h.elim fun a h=>e5_1 h (k a)
theorem e1_2.{u1} {α:Sort u1} {P Q:α→Prop} {C:Prop} (h:∃ a,P a∧Q a) (k:∀ a,P a→Q a→C):C:=e1_1 h fun a h=>e0_2 h (k a)
theorem e1_3.{u1} {α:Sort u1} {P Q R:α→Prop} {C:Prop} (h:∃ a,P a∧Q a∧R a) (k:∀ a,P a→Q a→R a→C):C:=e1_1 h fun a h=>e0_3 h (k a)
theorem e1_4.{u1} {α:Sort u1} {P Q R S:α→Prop} {C:Prop} (h:∃ a,P a∧Q a∧R a∧S a) (k:∀ a,P a→Q a→R a→S a→C):C:=e1_1 h fun a h=>e0_4 h (k a)
theorem e1_5.{u1} {α:Sort u1} {P Q R S T:α→Prop} {C:Prop} (h:∃ a,P a∧Q a∧R a∧S a∧T a) (k:∀ a,P a→Q a→R a→S a→T a→C):C:=e1_1 h fun a h=>e0_5 h (k a)
theorem e1_6.{u1} {α:Sort u1} {P Q R S T U:α→Prop} {C:Prop} (h:∃ a,P a∧Q a∧R a∧S a∧T a∧U a) (k:∀ a,P a→Q a→R a→S a→T a→U a→C):C:=e1_1 h fun a h=>e0_6 h (k a)
theorem e2_2.{u1,u2} {α:Sort u1} {β:Sort u2} {P Q:α→β→Prop} {C:Prop} (h:∃ a b,P a b∧Q a b) (k:∀ a b,P a b→Q a b→C):C:=e2_1 h fun a b h=>e0_2 h (k a b)
theorem e2_3.{u1,u2} {α:Sort u1} {β:Sort u2} {P Q R:α→β→Prop} {C:Prop} (h:∃ a b,P a b∧Q a b∧R a b) (k:∀ a b,P a b→Q a b→R a b→C):C:=e2_1 h fun a b h=>e0_3 h (k a b)
theorem e2_4.{u1,u2} {α:Sort u1} {β:Sort u2} {P Q R S:α→β→Prop} {C:Prop} (h:∃ a b,P a b∧Q a b∧R a b∧S a b) (k:∀ a b,P a b→Q a b→R a b→S a b→C):C:=e2_1 h fun a b h=>e0_4 h (k a b)
theorem e2_5.{u1,u2} {α:Sort u1} {β:Sort u2} {P Q R S T:α→β→Prop} {C:Prop} (h:∃ a b,P a b∧Q a b∧R a b∧S a b∧T a b) (k:∀ a b,P a b→Q a b→R a b→S a b→T a b→C):C:=e2_1 h fun a b h=>e0_5 h (k a b)
theorem e2_6.{u1,u2} {α:Sort u1} {β:Sort u2} {P Q R S T U:α→β→Prop} {C:Prop} (h:∃ a b,P a b∧Q a b∧R a b∧S a b∧T a b∧U a b) (k:∀ a b,P a b→Q a b→R a b→S a b→T a b→U a b→C):C:=e2_1 h fun a b h=>e0_6 h (k a b)
theorem e2_7.{u1,u2} {α:Sort u1} {β:Sort u2} {P Q R S T U V:α→β→Prop} {C:Prop} (h:∃ a b,P a b∧Q a b∧R a b∧S a b∧T a b∧U a b∧V a b) (k:∀ a b,P a b→Q a b→R a b→S a b→T a b→U a b→V a b→C):C:=e2_1 h fun a b h=>e0_7 h (k a b)
theorem e2_8.{u1,u2} {α:Sort u1} {β:Sort u2} {P Q R S T U V W:α→β→Prop} {C:Prop} (h:∃ a b,P a b∧Q a b∧R a b∧S a b∧T a b∧U a b∧V a b∧W a b) (k:∀ a b,P a b→Q a b→R a b→S a b→T a b→U a b→V a b→W a b→C):C:=e2_1 h fun a b h=>e0_8 h (k a b)
theorem e3_2.{u1,u2,u3} {α:Sort u1} {β:Sort u2} {γ:Sort u3} {P Q:α→β→γ→Prop} {C:Prop} (h:∃ a b c,P a b c∧Q a b c) (k:∀ a b c,P a b c→Q a b c→C):C:=e3_1 h fun a b c h=>e0_2 h (k a b c)
theorem e3_3.{u1,u2,u3} {α:Sort u1} {β:Sort u2} {γ:Sort u3} {P Q R:α→β→γ→Prop} {C:Prop} (h:∃ a b c,P a b c∧Q a b c∧R a b c) (k:∀ a b c,P a b c→Q a b c→R a b c→C):C:=e3_1 h fun a b c h=>e0_3 h (k a b c)
theorem e3_4.{u1,u2,u3} {α:Sort u1} {β:Sort u2} {γ:Sort u3} {P Q R S:α→β→γ→Prop} {C:Prop} (h:∃ a b c,P a b c∧Q a b c∧R a b c∧S a b c) (k:∀ a b c,P a b c→Q a b c→R a b c→S a b c→C):C:=e3_1 h fun a b c h=>e0_4 h (k a b c)
theorem e3_5.{u1,u2,u3} {α:Sort u1} {β:Sort u2} {γ:Sort u3} {P Q R S T:α→β→γ→Prop} {C:Prop} (h:∃ a b c,P a b c∧Q a b c∧R a b c∧S a b c∧T a b c) (k:∀ a b c,P a b c→Q a b c→R a b c→S a b c→T a b c→C):C:=e3_1 h fun a b c h=>e0_5 h (k a b c)
theorem e3_6.{u1,u2,u3} {α:Sort u1} {β:Sort u2} {γ:Sort u3} {P Q R S T U:α→β→γ→Prop} {C:Prop} (h:∃ a b c,P a b c∧Q a b c∧R a b c∧S a b c∧T a b c∧U a b c) (k:∀ a b c,P a b c→Q a b c→R a b c→S a b c→T a b c→U a b c→C):C:=e3_1 h fun a b c h=>e0_6 h (k a b c)
theorem e3_9.{u1,u2,u3} {α:Sort u1} {β:Sort u2} {γ:Sort u3} {P Q R S T U V W X:α→β→γ→Prop} {C:Prop} (h:∃ a b c,P a b c∧Q a b c∧R a b c∧S a b c∧T a b c∧U a b c∧V a b c∧W a b c∧X a b c) (k:∀ a b c,P a b c→Q a b c→R a b c→S a b c→T a b c→U a b c→V a b c→W a b c→X a b c→C):C:=e3_1 h fun a b c h=>e0_9 h (k a b c)
theorem e3_10.{u1,u2,u3} {α:Sort u1} {β:Sort u2} {γ:Sort u3} {P Q R S T U V W X Y:α→β→γ→Prop} {C:Prop} (h:∃ a b c,P a b c∧Q a b c∧R a b c∧S a b c∧T a b c∧U a b c∧V a b c∧W a b c∧X a b c∧Y a b c) (k:∀ a b c,P a b c→Q a b c→R a b c→S a b c→T a b c→U a b c→V a b c→W a b c→X a b c→Y a b c→C):C:=e3_1 h fun a b c h=>e0_10 h (k a b c)
theorem e3_14.{u1,u2,u3} {α:Sort u1} {β:Sort u2} {γ:Sort u3} {P Q R S T U V W X Y Z P₁ P₂ P₃:α→β→γ→Prop} {C:Prop} (h:∃ a b c,P a b c∧Q a b c∧R a b c∧S a b c∧T a b c∧U a b c∧V a b c∧W a b c∧X a b c∧Y a b c∧Z a b c∧P₁ a b c∧P₂ a b c∧P₃ a b c) (k:∀ a b c,P a b c→Q a b c→R a b c→S a b c→T a b c→U a b c→V a b c→W a b c→X a b c→Y a b c→Z a b c→P₁ a b c→P₂ a b c→P₃ a b c→C):C:=e3_1 h fun a b c h=>e0_14 h (k a b c)
theorem e4_2.{u1,u2,u3,u4} {α:Sort u1} {β:Sort u2} {γ:Sort u3} {δ:Sort u4} {P Q:α→β→γ→δ→Prop} {C:Prop} (h:∃ a b c d,P a b c d∧Q a b c d) (k:∀ a b c d,P a b c d→Q a b c d→C):C:=e4_1 h fun a b c d h=>e0_2 h (k a b c d)
theorem e4_3.{u1,u2,u3,u4} {α:Sort u1} {β:Sort u2} {γ:Sort u3} {δ:Sort u4} {P Q R:α→β→γ→δ→Prop} {C:Prop} (h:∃ a b c d,P a b c d∧Q a b c d∧R a b c d) (k:∀ a b c d,P a b c d→Q a b c d→R a b c d→C):C:=e4_1 h fun a b c d h=>e0_3 h (k a b c d)
theorem e4_4.{u1,u2,u3,u4} {α:Sort u1} {β:Sort u2} {γ:Sort u3} {δ:Sort u4} {P Q R S:α→β→γ→δ→Prop} {C:Prop} (h:∃ a b c d,P a b c d∧Q a b c d∧R a b c d∧S a b c d) (k:∀ a b c d,P a b c d→Q a b c d→R a b c d→S a b c d→C):C:=e4_1 h fun a b c d h=>e0_4 h (k a b c d)
theorem e4_5.{u1,u2,u3,u4} {α:Sort u1} {β:Sort u2} {γ:Sort u3} {δ:Sort u4} {P Q R S T:α→β→γ→δ→Prop} {C:Prop} (h:∃ a b c d,P a b c d∧Q a b c d∧R a b c d∧S a b c d∧T a b c d) (k:∀ a b c d,P a b c d→Q a b c d→R a b c d→S a b c d→T a b c d→C):C:=e4_1 h fun a b c d h=>e0_5 h (k a b c d)
theorem e4_6.{u1,u2,u3,u4} {α:Sort u1} {β:Sort u2} {γ:Sort u3} {δ:Sort u4} {P Q R S T U:α→β→γ→δ→Prop} {C:Prop} (h:∃ a b c d,P a b c d∧Q a b c d∧R a b c d∧S a b c d∧T a b c d∧U a b c d) (k:∀ a b c d,P a b c d→Q a b c d→R a b c d→S a b c d→T a b c d→U a b c d→C):C:=e4_1 h fun a b c d h=>e0_6 h (k a b c d)
theorem e4_13.{u1,u2,u3,u4} {α:Sort u1} {β:Sort u2} {γ:Sort u3} {δ:Sort u4} {P Q R S T U V W X Y Z P₁ P₂:α→β→γ→δ→Prop} {C:Prop} (h:∃ a b c d,P a b c d∧Q a b c d∧R a b c d∧S a b c d∧T a b c d∧U a b c d∧V a b c d∧W a b c d∧X a b c d∧Y a b c d∧Z a b c d∧P₁ a b c d∧P₂ a b c d) (k:∀ a b c d,P a b c d→Q a b c d→R a b c d→S a b c d→T a b c d→U a b c d→V a b c d→W a b c d→X a b c d→Y a b c d→Z a b c d→P₁ a b c d→P₂ a b c d→C):C:=e4_1 h fun a b c d h=>e0_13 h (k a b c d)
theorem e5_2.{u1,u2,u3,u4,u5} {α:Sort u1} {β:Sort u2} {γ:Sort u3} {δ:Sort u4} {ε:Sort u5} {P Q:α→β→γ→δ→ε→Prop} {C:Prop} (h:∃ a b c d e,P a b c d e∧Q a b c d e) (k:∀ a b c d e,P a b c d e→Q a b c d e→C):C:=e5_1 h fun a b c d e h=>e0_2 h (k a b c d e)
theorem e5_3.{u1,u2,u3,u4,u5} {α:Sort u1} {β:Sort u2} {γ:Sort u3} {δ:Sort u4} {ε:Sort u5} {P Q R:α→β→γ→δ→ε→Prop} {C:Prop} (h:∃ a b c d e,P a b c d e∧Q a b c d e∧R a b c d e) (k:∀ a b c d e,P a b c d e→Q a b c d e→R a b c d e→C):C:=e5_1 h fun a b c d e h=>e0_3 h (k a b c d e)
theorem e5_4.{u1,u2,u3,u4,u5} {α:Sort u1} {β:Sort u2} {γ:Sort u3} {δ:Sort u4} {ε:Sort u5} {P Q R S:α→β→γ→δ→ε→Prop} {C:Prop} (h:∃ a b c d e,P a b c d e∧Q a b c d e∧R a b c d e∧S a b c d e) (k:∀ a b c d e,P a b c d e→Q a b c d e→R a b c d e→S a b c d e→C):C:=e5_1 h fun a b c d e h=>e0_4 h (k a b c d e)
theorem e5_5.{u1,u2,u3,u4,u5} {α:Sort u1} {β:Sort u2} {γ:Sort u3} {δ:Sort u4} {ε:Sort u5} {P Q R S T:α→β→γ→δ→ε→Prop} {C:Prop} (h:∃ a b c d e,P a b c d e∧Q a b c d e∧R a b c d e∧S a b c d e∧T a b c d e) (k:∀ a b c d e,P a b c d e→Q a b c d e→R a b c d e→S a b c d e→T a b c d e→C):C:=e5_1 h fun a b c d e h=>e0_5 h (k a b c d e)
theorem e5_6.{u1,u2,u3,u4,u5} {α:Sort u1} {β:Sort u2} {γ:Sort u3} {δ:Sort u4} {ε:Sort u5} {P Q R S T U:α→β→γ→δ→ε→Prop} {C:Prop} (h:∃ a b c d e,P a b c d e∧Q a b c d e∧R a b c d e∧S a b c d e∧T a b c d e∧U a b c d e) (k:∀ a b c d e,P a b c d e→Q a b c d e→R a b c d e→S a b c d e→T a b c d e→U a b c d e→C):C:=e5_1 h fun a b c d e h=>e0_6 h (k a b c d e)
theorem e5_8.{u1,u2,u3,u4,u5} {α:Sort u1} {β:Sort u2} {γ:Sort u3} {δ:Sort u4} {ε:Sort u5} {P Q R S T U V W:α→β→γ→δ→ε→Prop} {C:Prop} (h:∃ a b c d e,P a b c d e∧Q a b c d e∧R a b c d e∧S a b c d e∧T a b c d e∧U a b c d e∧V a b c d e∧W a b c d e) (k:∀ a b c d e,P a b c d e→Q a b c d e→R a b c d e→S a b c d e→T a b c d e→U a b c d e→V a b c d e→W a b c d e→C):C:=e5_1 h fun a b c d e h=>e0_8 h (k a b c d e)
theorem e6_4.{u1,u2,u3,u4,u5,u6} {α:Sort u1} {β:Sort u2} {γ:Sort u3} {δ:Sort u4} {ε:Sort u5} {ζ:Sort u6} {P Q R S:α→β→γ→δ→ε→ζ→Prop} {C:Prop} (h:∃ a b c d e f,P a b c d e f∧Q a b c d e f∧R a b c d e f∧S a b c d e f) (k:∀ a b c d e f,P a b c d e f→Q a b c d e f→R a b c d e f→S a b c d e f→C):C:=e6_1 h fun a b c d e f h=>e0_4 h (k a b c d e f)
theorem an2 {a b:Bool} {C:Prop} (h:(a&&b)=true) (k:a=true→b=true→C):C:=e0_2 (Bool.and_eq_true_iff.mp h) k
theorem an3 {a b c:Bool} {C:Prop} (h:(a&&b&&c)=true) (k:a=true→b=true→c=true→C):C:=an2 h fun h hz=>an2 h fun ha hb=>k ha hb hz
theorem an4 {a b c d:Bool} {C:Prop} (h:(a&&b&&c&&d)=true) (k:a=true→b=true→c=true→d=true→C):C:=an2 h fun h hz=>an3 h fun ha hb hc=>k ha hb hc hz
theorem an5 {a b c d e:Bool} {C:Prop} (h:(a&&b&&c&&d&&e)=true) (k:a=true→b=true→c=true→d=true→e=true→C):C:=an2 h fun h hz=>an4 h fun ha hb hc hd=>k ha hb hc hd hz
theorem an6 {a b c d e f:Bool} {C:Prop} (h:(a&&b&&c&&d&&e&&f)=true) (k:a=true→b=true→c=true→d=true→e=true→f=true→C):C:=an2 h fun h hz=>an5 h fun ha hb hc hd he=>k ha hb hc hd he hz
theorem an7 {a b c d e f g:Bool} {C:Prop} (h:(a&&b&&c&&d&&e&&f&&g)=true) (k:a=true→b=true→c=true→d=true→e=true→f=true→g=true→C):C:=an2 h fun h hz=>an6 h fun ha hb hc hd he hf=>k ha hb hc hd he hf hz
theorem an8 {a b c d e f g i:Bool} {C:Prop} (h:(a&&b&&c&&d&&e&&f&&g&&i)=true) (k:a=true→b=true→c=true→d=true→e=true→f=true→g=true→i=true→C):C:=an2 h fun h hz=>an7 h fun ha hb hc hd he hf hg=>k ha hb hc hd he hf hg hz
end Mine
end

section
namespace Mine
theorem tn_inj {a b:Int} (ha:0≤a) (hb:0≤b) (e:a.toNat=b.toNat):a=b:=(Int.toNat_of_nonneg ha).symm.trans ((congrArg Int.ofNat e).trans (Int.toNat_of_nonneg hb))
theorem md_sub {q a b m:Int} (e:(q+a) % m=(q+b) % m):(a-b) % m=0:=by
 have:=Int.emod_eq_emod_iff_emod_sub_eq_zero.mp e
 rwa [Int.add_sub_add_left] at this
theorem na_le {i:Int} {k:Nat} (h1 : -(k:Int)≤i) (h2:i≤k):i.natAbs≤k:=by omega
theorem na_pos {i:Int} {k:Nat} (h1:0≤i) (h2:i≤k):i.natAbs≤k:=na_le (Int.le_trans (Int.neg_nonpos_of_nonneg (Int.natCast_nonneg _)) h1) h2
theorem na_lt {i:Int} {k m:Nat} (h:0≤i∧i<(m:Int)) (hk:m≤k):i.natAbs≤k:=na_pos h.1 (Int.le_trans (Int.le_of_lt h.2) (Int.ofNat_le.mpr hk))
theorem na_add {i j:Int} {a b:Nat} (h1:i.natAbs≤a) (h2:j.natAbs≤b):(i+j).natAbs≤a+b:=Nat.le_trans (Int.natAbs_add_le _ _) (Nat.add_le_add h1 h2)
theorem na_ite {p:Prop} [Decidable p] {i:Int} {a:Nat} (h:i.natAbs≤a):(if p then i else 0).natAbs≤a:=by
 by_cases q:p
 ·rw [if_pos q];exact h
 ·rw [if_neg q];exact Nat.zero_le _
theorem na_ne {i:Int} (h:i≠0):0<i.natAbs:=Int.natAbs_pos.mpr h
theorem na_ne' {i:Int} (h:i≠0):0<(i.natAbs:Int):=Int.natCast_pos.mpr (na_ne h)
theorem na_ne0 {i:Int} (h:i≠0):¬ (i.natAbs:Int)=0:=Int.ne_of_gt (na_ne' h)
theorem na_na {i:Int}:((i.natAbs:Int)).natAbs≤i.natAbs:=Nat.le_refl _
theorem tn_lt {i:Int} {m:Nat} (h:0≤i∧i<(m:Int)):i.toNat<m:=(Int.toNat_lt h.1).mpr h.2
theorem tn_lt' {i:Int} {m:Nat} (h1:0≤i) (h:i<(m:Int)):i.toNat<m:=(Int.toNat_lt h1).mpr h
theorem tn_le {i:Int} {m:Nat} (h:i≤(m:Int)):i.toNat≤m:=Int.toNat_le.mpr h
theorem tn_eq {i:Int} (h:0≤i):(i.toNat:Int)=i:=Int.toNat_of_nonneg h
theorem sb0 {a j:Nat} (h:j≤a) (q:a-j=0):j=a:=Nat.le_antisymm h (Nat.sub_eq_zero_iff_le.mp q)
theorem sb1 {a j k:Nat} (q:a-j=k+1):a-(j+1)=k:=by rw [Nat.sub_add_eq,q];rfl
theorem sb2 {a j k:Nat} (q:a-j=k+1):j+1≤a:=Nat.lt_of_sub_pos (q▸Nat.succ_pos k)
theorem sb3 {T:Int} {j:Nat} (h:j+1≤T.toNat):1+(j:Int)≤T:=by
 have:=Int.lt_toNat.mp h
 rw [Int.add_comm];exact this
theorem sb4 {T:Int} {j:Nat} (h:0≤T) (e:j=T.toNat):(j:Int)=T:=e▸Int.toNat_of_nonneg h
theorem mx1 {a b k:Nat} (h:max a b≤k):a≤k:=Nat.le_trans (Nat.le_max_left _ _) h
theorem mx2 {a b k:Nat} (h:max a b≤k):b≤k:=Nat.le_trans (Nat.le_max_right _ _) h
theorem mx3 {u a b k:Nat} (h:u+max a b<k):u+a<k:=Nat.lt_of_le_of_lt (Nat.add_le_add_left (Nat.le_max_left _ _) _) h
theorem mx4 {u a b k:Nat} (h:u+max a b<k):u+b<k:=Nat.lt_of_le_of_lt (Nat.add_le_add_left (Nat.le_max_right _ _) _) h
theorem ul0 {u n c:Nat} (h:u+n<c):u<c:=Nat.lt_of_le_of_lt (Nat.le_add_right _ _) h
theorem ul17 {u n c k:Nat} (h:u+10*n<c) (hn:2≤n) (hk:k≤16):u+1+k<c:=Nat.lt_of_le_of_lt (Nat.le_trans (Nat.add_le_add_left hk _) (Nat.le_trans (Nat.le_of_eq (Nat.add_assoc u 1 16)) (Nat.add_le_add_left (Nat.le_trans (by decide:1+16≤10*2) (Nat.mul_le_mul_left 10 hn)) _))) h
theorem ul10 {u n c:Nat} (h:u+10*n<c) (hn:1≤n):u+1+9<c:=Nat.lt_of_le_of_lt (Nat.le_trans (Nat.le_of_eq (Nat.add_assoc u 1 9)) (Nat.add_le_add_left (Nat.mul_le_mul_left 10 hn) _)) h
theorem ul9 {u k c:Nat} (h:u+9<c) (hk:k≤8):u+k<c:=Nat.lt_of_le_of_lt (Nat.add_le_add_left (Nat.le_succ_of_le hk) u) h
theorem ul3 {u n c:Nat} (h:u+10*(n+1)<c):u+3+10*n<c:=Nat.lt_of_le_of_lt (Nat.le_trans (Nat.add_le_add_right (Nat.add_le_add_left (by decide:3≤10) u) _) (Nat.le_of_eq (by rw [Nat.mul_add,Nat.add_assoc,Nat.add_comm 10]))) h
theorem ul1 {u n c:Nat} (h:u+(n+1)<c):u+1+n<c:=by rw [Nat.add_assoc,Nat.add_comm 1];exact h
theorem nl16 {x d p:Int} (h:x<p) (h0:0≤x) (hd:d<10):x*10+d<p*16:=Int.lt_of_lt_of_le (Int.lt_of_lt_of_le (Int.add_lt_add_left hd _) (by have:=Int.mul_le_mul_of_nonneg_right (show x+1≤p from h) (by decide:(0:Int)≤10);rw [Int.add_mul] at this;exact this:x*10+10≤p*10)) (Int.mul_le_mul_of_nonneg_left (by decide) (Int.le_trans h0 (Int.le_of_lt h)))
theorem na9 {m:Int} (h:0≤m∧m<19):(m-9).natAbs≤20:=na_le (by omega) (by omega)
theorem is01 {i:Int} (h:0≤i∧i<2):i=0∨i=1:=by omega
theorem tn60 {m:Int} (h:0≤m∧m<60):0+(1+m-0).toNat≤60:=by rw [Nat.zero_add,Int.sub_zero];exact tn_le (m:=60) (by omega)
theorem le_up {a b n:Nat} (h:b≤n) (q:a≤b):a≤n:=Nat.le_trans q h
theorem ne_p {a:Int} (h:0<a):a≠0:=Int.ne_of_gt h
end Mine
end

section
open PySem PyProof.Rows PyProof
set_option backward.match.sparseCases false
set_option tactic.hygienic false
namespace Mine
theorem nilAll {α:Type} {P:α→Prop}:∀ x∈([]:List α),P x:=fun _ h=>absurd h List.not_mem_nil
inductive D where
 | none
 | bool (b:Bool)
 | int (i:Int)
 | str (x:Str)
 | tup (l:List D)
mutual
inductive Im (h:Heap):Value→D→Prop
 | none:Im h .none .none
 | bool (b):Im h (.bool b) (.bool b)
 | int (i t):Im h (.int i t) (.int i)
 | str (x t):Im h (.str x t) (.str x)
 | tup {a o vs n l}:h.get? a=some o→o.cls=.type "tuple"→o.data=.seq vs n→Ims h vs.toList l→Im h (.ref a) (.tup l)
inductive Ims (h:Heap):List Value→List D→Prop
 | nil:Ims h [] []
 | cons {v vs d ds}:Im h v d→Ims h vs ds→Ims h (v::vs) (d::ds)
end
noncomputable def Grow (h h':Heap):Prop:=∀ a o vs n,h.get? a=some o→o.cls=.type "tuple"→o.data=.seq vs n→h'.get? a=some o
theorem Im.grow {h h':Heap} (g:Grow h h') {v d} (x:Im h v d):Im h' v d:=by
 refine Im.rec (motive_1:=fun v d _=>Im h' v d) (motive_2:=fun vs ds _=>Ims h' vs ds) ?_ ?_ ?_ ?_ ?_ ?_ ?_ x
 ·exact .none
 ·exact .bool
 ·exact .int
 ·exact .str
 ·intro a o vs n l e c dt _ r
  exact .tup (g _ _ _ _ e c dt) c dt r
 ·exact .nil
 ·intro v vs d ds _ _ a r
  exact .cons a r
theorem Ims.grow {h h':Heap} (g:Grow h h') {vs ds} (x:Ims h vs ds):Ims h' vs ds:=by
 induction ds generalizing vs with
 | nil=>clear g;cases x;exact .nil
 | cons d ds ih=>cases x with | cons a r=>exact .cons (a.grow g) (ih r)
theorem Ims.length {h:Heap} {vs ds} (x:Ims h vs ds):vs.length=ds.length:=by
 induction ds generalizing vs with
 | nil=>cases x;rfl
 | cons d ds ih=>cases x with | cons a r=>rw [List.length_cons,List.length_cons,ih r]
theorem Ims.co {h:Heap} {vs d ds} (x:Ims h vs (d::ds)):∃ v us,vs=v::us∧Im h v d∧Ims h us ds:=by cases x with | cons a r=>exact ⟨_,_,rfl,a,r⟩
theorem Ims.ni {h:Heap} {vs} (x:Ims h vs []):vs=[]:=by cases x;rfl
theorem Ims.two {h:Heap} {vs d e} (x:Ims h vs [d,e]):∃ v w,vs=[v,w]∧Im h v d∧Im h w e:=e2_3 x.co fun v us e1 a r=>e2_3 r.co fun w ws e2 b q=>⟨v,w,by rw [e1,e2,q.ni],a,b⟩
theorem Ims.three {h:Heap} {vs d e f} (x:Ims h vs [d,e,f]):∃ v w u,vs=[v,w,u]∧Im h v d∧Im h w e∧Im h u f:=e2_3 x.co fun v us e1 a r=>e2_3 r.two fun w u e2 b c=>⟨v,w,u,by rw [e1,e2],a,b,c⟩
theorem Im.tupI {h:Heap} {v l} (x:Im h v (.tup l)):∃ a o vs n,v=.ref a∧h.get? a=some o∧o.cls=.type "tuple"∧o.data=.seq vs n∧Ims h vs.toList l:=by cases x with | tup q1 q2 q3 q4=>exact ⟨_,_,_,_,rfl,q1,q2,q3,q4⟩
theorem Im.strI {h:Heap} {v x} (q:Im h v (.str x)):∃ t,v=.str x t:=by cases q;exact ⟨_,rfl⟩
theorem Im.inj {h:Heap} {v d e} (x:Im h v d) (y:Im h v e):d=e:=by
 refine Im.rec (motive_1:=fun v d _=>∀ e,Im h v e→d=e) (motive_2:=fun vs ds _=>∀ es,Ims h vs es→ds=es) ?_ ?_ ?_ ?_ ?_ ?_ ?_ x e y
 ·intro e y;clear x;cases y;rfl
 ·intro b e y;clear x;cases y;rfl
 ·intro i t e y;clear x;cases y;rfl
 ·intro i t e y;clear x;cases y;rfl
 ·intro a o vs n l e c dt _ r e2 y
  cases y with
  | tup e' c' dt' r' =>
   rw [e] at e';cases e'
   rw [dt] at dt';clear a_1 dt;cases dt'
   rw [r _ r']
 ·intro es y;clear x;cases y;rfl
 ·intro v vs d ds _ _ a r es y
  cases y with | cons a' r'=>rw [a _ a',r _ r']
mutual
noncomputable def D.beq:D→D→Bool
 | .none,.none=>true
 | .bool a,.bool b=>a == b
 | .int a,.int b=>a == b
 | .str a,.str b=>a == b
 | .tup a,.tup b=>D.beqL a b
 | _,_=>false
noncomputable def D.beqL:List D→List D→Bool
 | [],[]=>true
 | a::as,b::bs=>D.beq a b&&D.beqL as bs
 | _,_=>false
end
mutual
theorem D.beq_iff:∀ a b:D,D.beq a b=true↔a=b
 | .none,b=>by cases b with
  | none=>exact ⟨fun _=>rfl,fun _=>rfl⟩
  | _=>exact ⟨nofun,nofun⟩
 | .bool a,b=>by cases b with
  | bool b=>exact ⟨fun h=>by rw [eq_of_beq (h:(a == b)=true)],fun h=>by cases h;exact beq_self_eq_true a⟩
  | _=>exact ⟨nofun,nofun⟩
 | .int a,b=>by cases b with
  | int b=>exact ⟨fun h=>by rw [eq_of_beq (h:(a == b)=true)],fun h=>by cases h;exact beq_self_eq_true a⟩
  | _=>exact ⟨nofun,nofun⟩
 | .str a,b=>by cases b with
  | str b=>exact ⟨fun h=>by rw [eq_of_beq (h:(a == b)=true)],fun h=>by cases h;exact beq_self_eq_true a⟩
  | _=>exact ⟨nofun,nofun⟩
 | .tup a,b=>by cases b with
  | tup b=>exact ⟨fun h=>by rw [(D.beqL_iff a b).mp h],fun h=>by cases h;exact (D.beqL_iff a a).mpr rfl⟩
  | _=>exact ⟨nofun,nofun⟩
theorem D.beqL_iff:∀ a b:List D,D.beqL a b=true↔a=b
 | [],b=>by cases b <;> simp [D.beqL]
 | a::as,b=>by
  cases b with
  | nil=>simp [D.beqL]
  | cons b bs=>simp [D.beqL,D.beq_iff a b,D.beqL_iff as bs]
end
noncomputable def dEq:DecidableEq D:=fun a b=>decidable_of_iff _ (D.beq_iff a b)
mutual
noncomputable def D.dep:D→Nat
 | .tup l=>D.depL l+1
 | _=>0
noncomputable def D.depL:List D→Nat
 | []=>0
 | d::l=>max d.dep (D.depL l)
end
mutual
noncomputable def D.ks:D→Bool
 | .bool _=>false
 | .tup l=>D.ksL l
 | _=>true
noncomputable def D.ksL:List D→Bool
 | []=>true
 | d::l=>d.ks&&D.ksL l
end
theorem Ims.isT {h:Heap} {a o vs n} (h1:h.get? a=some o) (h2:o.cls=.type "tuple") (h3:o.data=.seq vs n):h.IsTuple a vs:=⟨o,h1,h2,n,h3⟩
set_option tactic.hygienic true in
open SeqAt in
mutual
theorem Im.eqAt {s:Shared}:∀ (d e:D) {v u:Value} {A:Around},d.ks=true→e.ks=true→Im s.heap v d→Im s.heap u e→A.units+d.dep<cLine→EqAt A s v u (d.beq e)
 | .none,e,v,u,A,hd,he,x,y,hu=>by
  cases x
  cases y with
  | none=>exact .same _
  | bool b=>cases he
  | int i t=>exact EqAt.none_int i t
  | str i t=>exact EqAt.none_str i t
  | tup h1 h2 h3 h4=>exact EqAt.none_tuple (Ims.isT h1 h2 h3) hu
 | .bool b,e,v,u,A,hd,he,x,y,hu=>by clear x;cases hd
 | .int j,e,v,u,A,hd,he,x,y,hu=>by
  cases x
  cases y with
  | none=>exact EqAt.int_none _ _
  | bool b=>cases he
  | int i t=>exact EqAt.int_int _ _ i t
  | str i t=>exact EqAt.int_str _ _ i t
  | tup h1 h2 h3 h4=>exact EqAt.int_tuple _ _ (Ims.isT h1 h2 h3) hu
 | .str j,e,v,u,A,hd,he,x,y,hu=>by
  cases x
  cases y with
  | none=>exact EqAt.str_none _ _
  | bool b=>cases he
  | int i t=>exact EqAt.str_int _ _ i t
  | str i t=>exact EqAt.str_str _ _ i t
  | tup h1 h2 h3 h4=>exact EqAt.str_tuple _ _ (Ims.isT h1 h2 h3) hu
 | .tup l,e,v,u,A,hd,he,x,y,hu=>by
  have hu0:A.units<cLine:=ul0 hu
  cases x with
  | @tup a o vs n _ g1 g2 g3 g4 =>
  cases y with
  | none=>exact EqAt.tuple_none (Ims.isT g1 g2 g3) hu0
  | bool b=>cases he
  | int i t=>exact EqAt.tuple_int i t (Ims.isT g1 g2 g3) hu0
  | str i t=>exact EqAt.tuple_str i t (Ims.isT g1 g2 g3) hu0
  | @tup b o' us m k h1 h2 h3 h4 =>
   by_cases hab:a=b
   ·subst hab
    have:(D.tup l)=.tup k:=Im.inj (.tup g1 g2 g3 g4) (.tup h1 h2 h3 h4)
    rw [(D.beq_iff _ _).mpr this]
    exact .same _
   ·obtain ⟨e,q1,q2⟩:=Ims.eqAt l k (A:=A.in1) hd he g4 h4 (ul1 hu)
    refine .of_refs hab ?_
    show RcAt A s _ _ (D.beqL l k)
    rw [← q2]
    simp only [Array.length_toList]
    exact RcAt.tuples (Ims.isT g1 g2 g3) (Ims.isT h1 h2 h3) hu0 fun j j1 j2=>q1 j _ _ (by simp [j1]) (by simp [j2])
theorem Ims.eqAt {s:Shared}:∀ (ds es:List D) {vs us:List Value} {A:Around},D.ksL ds=true→D.ksL es=true→Ims s.heap vs ds→Ims s.heap us es→A.units+D.depL ds<cLine →
  ∃ e:Nat→Bool,(∀ (j:Nat) v u,vs[j]?=some v→us[j]?=some u→EqAt A s v u (e j))∧((List.range (min vs.length us.length)).all e&&vs.length == us.length)=D.beqL ds es
 | [],es,vs,us,A,hd,he,x,y,hu=>by
  cases x
  refine ⟨fun _=>true,fun j v u q=>by simp at q,?_⟩
  cases y <;> simp [D.beqL]
 | d::ds,es,vs,us,A,hd,he,x,y,hu=>by
  simp only [D.ksL,Bool.and_eq_true] at hd
  cases x with | cons a r =>
  cases y with
  | nil=>exact ⟨fun _=>true,fun j v u q1 q2=>by simp at q2,by simp [D.beqL]⟩
  | cons b r' =>
   rename_i v vs u us e es
   simp only [D.ksL,Bool.and_eq_true] at he
   obtain ⟨f,f1,f2⟩:=Ims.eqAt ds es (A:=A) hd.2 he.2 r r' (mx4 (by simp only [D.depL] at hu;exact hu))
   refine ⟨fun j=>if j=0 then d.beq e else f (j-1),fun j v u q1 q2=>?_,?_⟩
   ·cases j with
    | zero =>
     simp at q1 q2;subst q1;subst q2
     exact Im.eqAt d e hd.1 he.1 a b (mx3 (by simp only [D.depL] at hu;exact hu))
    | succ j=>simpa using f1 j v u (by simpa using q1) (by simpa using q2)
   ·show _=(d.beq e&&D.beqL ds es)
    rw [← f2]
    rw [List.length_cons,List.length_cons,Nat.add_min_add_right,List.range_succ_eq_map]
    simp only [List.all_cons,List.all_map,Function.comp_def]
    simp [Bool.and_assoc]
end
section
variable (prog:Program) (w:World)
mutual
noncomputable def D.hsh:D→Int
 | .int i=>(intKind prog w).hash i
 | .str x=>(strKind prog w).hash x
 | .tup l=>reduceHash (Builtin.Tuple.tupleHashOf (D.hshL l))
 | _=>0
noncomputable def D.hshL:List D→List Int
 | []=>[]
 | d::l=>d.hsh::D.hshL l
end
mutual
noncomputable def D.drw:D→Nat
 | .tup l=>D.drwL l+1
 | _=>1
noncomputable def D.drwL:List D→Nat
 | []=>0
 | d::l=>d.drw+D.drwL l
end
end
mutual
noncomputable def D.kk:D→Bool
 | .bool _=>false
 | .none=>false
 | .tup l=>D.kkL l
 | _=>true
noncomputable def D.kkL:List D→Bool
 | []=>true
 | d::l=>d.kk&&D.kkL l
end
mutual
theorem D.ks_of:∀ d:D,d.kk=true→d.ks=true
 | .none,h=>rfl
 | .bool _,h=>h
 | .int _,h=>rfl
 | .str _,h=>rfl
 | .tup l,h=>D.ksL_of l h
theorem D.ksL_of:∀ l:List D,D.kkL l=true→D.ksL l=true
 | [],h=>rfl
 | d::l,h=>by
  simp only [D.kkL,Bool.and_eq_true] at h
  simp only [D.ksL,Bool.and_eq_true]
  exact ⟨D.ks_of d h.1,D.ksL_of l h.2⟩
end
section
variable {prog:Program} {w:World}
inductive HashAll (A:Around) (h:Heap):List Value→List D→Prop
 | nil:HashAll A h [] []
 | cons {v d vs ds}:(∀ (E:Value→Shared→Prop) (s:Shared) (Q:Int→Shared→Prop),s.heap=h→Q (d.hsh prog w) { s with toks:=s.toks+d.drw }→wpAny (model prog w) A (pyHash v) Q E s)→HashAll A h vs ds→HashAll A h (v::vs) (d::ds)
theorem hash_loop {A:Around} {h:Heap} {E:Value→Shared→Prop} {a:Addr} {o:Obj} {items:Array Value} {n:Nat} {l:List D} {s:Shared} {Q:Int→Shared→Prop} (hu:A.units<cLine) (es:s.heap=h)
  (ho:h.get? a=some o) (hc:o.cls=.type "tuple") (hd:o.data=.seq items n) (hi:HashAll (prog:=prog) (w:=w) A.in1 h items.toList l)
  (hq:Q ((D.tup l).hsh prog w) { s with toks:=s.toks+(D.tup l).drw }):wpAny (model prog w) A (pyHash (.ref a)) Q E s:=by
 subst es
 have hT:s.TypeIs (.ref a) "tuple":=⟨o,ho,hc⟩
 unfold pyHash
 first | unfold pyHashByItsType | skip
 first | refine wpAny_bind (wpAny_cRoomFor_or (.inr hu) ?_) | skip
 refine wpAny_bind (wpAny_specialOf hT F.slot_tuple_hash.lookup ?_)
 show wpAny _ _ (if (some (Value.builtin "tuple.__hash__") == some Value.none)=true then _ else _) Q E s
 rw [if_neg (by rw [beq_builtin_none];exact Bool.false_ne_true)]
 refine wpAny_bind (wpAny_specialOf hT F.slot_tuple_hash.lookup ?_)
 show wpAny _ _ (callSpecialIfBoundUnlessNone? (.ref a) "__hash__" _ >>= _) Q E s
 refine wpAny_bind (wpAny_callSpecialIfBoundUnlessNone?_slot hT F.slot_tuple_hash (wpAny_call_entry F.slot_tuple_hash hT F.entry_tuple_hash ?_ (F.args_tuple_hash_1 _)))
 show wpAny _ _ (Builtin.Tuple.tupleItemsOf (.ref a) >>= _) _ _ s
 refine wpAny_bind (wpAny_tupleItemsOf ho hd ?_)
 refine wpAny_bind ?_
 rw [← Array.forIn_toList]
 refine wpAny_forIn_list _
  (fun rest (b:Array Int) s'=>∃ left k,HashAll (prog:=prog) (w:=w) A.in1 s.heap rest left∧b.toList++D.hshL prog w left=D.hshL prog w l∧k+D.drwL left=D.drwL l∧s'={ s with toks:=s.toks+k })
  _ ?_ ?_ _ _ ⟨l,0,hi,rfl,by simp,rfl⟩
 ·intro x rest b s' rz1
  obtain ⟨left,k,hl,hb,hk,rfl⟩:=rz1
  clear hT hi ho hu;cases hl with
  | @cons _ d _ ds h1 hl' =>
   refine wpAny_bind (h1 _ _ _ rfl ?_)
   have e1:(b.push (d.hsh prog w)).toList++D.hshL prog w ds=D.hshL prog w l:=by rw [← hb];simp [D.hshL]
   have e2:k+d.drw+D.drwL ds=D.drwL l:=by rw [← hk];simp [D.drwL,Nat.add_assoc]
   first
    | exact wpAny_pure ⟨ds,k+d.drw,hl',e1,e2,by simp [Nat.add_assoc]⟩
    | exact wpAny_bind (wpAny_pure (wpAny_pure ⟨ds,k+d.drw,hl',e1,e2,by simp [Nat.add_assoc]⟩))
 ·intro b s' rz2
  obtain ⟨left,k,hl,hb,hk,rfl⟩:=rz2
  clear hT hi ho hu;cases hl
  simp only [D.hshL,List.append_nil] at hb
  simp only [D.drwL,Nat.add_zero] at hk
  show wpAny _ _ (retInt (Builtin.Tuple.tupleHashOf b.toList)) _ _ _
  rw [hb]
  refine wpAny_ret_mkInt ?_
  show wpAny _ _ (if (decide (-(2:Int) ^ 63≤Builtin.Tuple.tupleHashOf (D.hshL prog w l))&&decide (Builtin.Tuple.tupleHashOf (D.hshL prog w l)<2 ^ 63))=true then _ else _) Q E _
  simp only [D.hsh,D.drw] at hq
  unfold reduceHash at hq
  (try clear hb;try clear hi;try clear hq);subst hk
  by_cases hr:(decide (-(2:Int) ^ 63≤Builtin.Tuple.tupleHashOf (D.hshL prog w l))&&decide (Builtin.Tuple.tupleHashOf (D.hshL prog w l)<2 ^ 63))=true
  ·rw [if_pos hr]
   rw [if_pos hr] at hq
   exact wpAny_pure (by simpa [Nat.add_assoc] using hq)
  ·rw [if_neg hr]
   rw [if_neg hr] at hq
   exact wpAny_bind (wpAny_rule (wpAny_pure (by simpa [Nat.add_assoc] using hq)))
mutual
theorem Im.hash {h:Heap}:∀ (d:D) {v:Value} {A:Around},d.kk=true→Im h v d→A.units+d.dep<cLine →
  ∀ (E:Value→Shared→Prop) (s:Shared) (Q:Int→Shared→Prop),s.heap=h→Q (d.hsh prog w) { s with toks:=s.toks+d.drw }→wpAny (model prog w) A (pyHash v) Q E s
 | .none,v,A,hd,x,hu,E,s,Q,es,hq=>by cases hd
 | .bool b,v,A,hd,x,hu,E,s,Q,es,hq=>by clear x;cases hd
 | .int j,v,A,hd,x,hu,E,s,Q,es,hq=>by cases x;exact (intKind prog w).pyHash (intKind_is _ _ _ _) hq
 | .str j,v,A,hd,x,hu,E,s,Q,es,hq=>by cases x;exact (strKind prog w).pyHash (strKind_is _ _ _ _) hq
 | .tup l,v,A,hd,x,hu,E,s,Q,es,hq=>by
  cases x with
  | tup h1 h2 h3 h4 =>
   simp only [D.dep] at hu
   exact hash_loop (ul0 hu) es h1 h2 h3 (Ims.hash l hd h4 (ul1 hu)) hq
theorem Ims.hash {h:Heap}:∀ (ds:List D) {vs:List Value} {A:Around},D.kkL ds=true→Ims h vs ds→A.units+D.depL ds<cLine→HashAll (prog:=prog) (w:=w) A h vs ds
 | [],vs,A,hd,x,hu=>by cases x;exact .nil
 | d::ds,vs,A,hd,x,hu=>by
  simp only [D.kkL,Bool.and_eq_true] at hd
  simp only [D.depL] at hu
  cases x with | cons a r=>exact .cons (Im.hash d hd.1 a (mx3 hu)) (Ims.hash ds hd.2 r (mx4 hu))
end
theorem quiet_loop {s:Shared} {A:Around} {a:Addr} {o:Obj} {vs:Array Value} {n k:Nat} (ho:s.heap.get? a=some o) (hc:o.cls=.type "tuple") (hd:o.data=.seq vs n)
  (all:∀ v∈vs.toList,∀ (E:Value→Shared→Prop) (Q:Bool→Shared→Prop),Q true s→wpAny (model prog w) A (eqIsQuiet k v) Q E s) {E:Value→Shared→Prop} {Q:Bool→Shared→Prop} (hq:Q true s):wpAny (model prog w) A (eqIsQuiet (k+1) (.ref a)) Q E s:=by
 have hT:s.TypeIs (.ref a) "tuple":=⟨o,ho,hc⟩
 unfold eqIsQuiet
 refine wpAny_bind (wpAny_specialOf hT F.slot_tuple_eq.lookup ?_)
 show wpAny _ _ (isInstance (.ref a) (.type "tuple") >>= _) _ _ s
 refine wpAny_bind (wpAny_isInstance hT isSubtype_tuple_tuple ?_)
 rw [if_neg (show ¬ ((!true)=true) from Bool.false_ne_true)]
 refine wpAny_bind (wpAny_seqItems ho hd ?_)
 refine wpAny_bind ?_
 show wpAny _ _ (forIn vs _ _) _ _ s
 rw [← Array.forIn_toList]
 refine wpAny_forIn_list _ (fun rest r s'=>r.1=none∧s'=s∧∀ v∈rest,∀ (E:Value→Shared→Prop) (Q:Bool→Shared→Prop),Q true s→wpAny (model prog w) A (eqIsQuiet k v) Q E s) _ ?_ ?_ _ _ ⟨rfl,rfl,all⟩
 ·intro v rest r s' rz3
  obtain ⟨hr,rfl,hall⟩:=rz3
  refine wpAny_bind (hall v List.mem_cons_self _ _ ?_)
  rw [if_neg (show ¬ ((!true)=true) from Bool.false_ne_true)]
  exact wpAny_pure ⟨rfl,rfl,fun u hu'=>hall u (List.mem_cons_of_mem _ hu')⟩
 ·intro rz4 s' rz5
  obtain ⟨r1,r2⟩:=rz4
  obtain ⟨hr,rfl,_⟩:=rz5
  change r1=none at hr
  subst hr
  exact wpAny_pure hq
mutual
theorem Im.quiet {s:Shared} {A:Around}:∀ (d:D) {v:Value} {k:Nat},Im s.heap v d→d.dep≤k→∀ (E:Value→Shared→Prop) (Q:Bool→Shared→Prop),Q true s→wpAny (model prog w) A (eqIsQuiet k v) Q E s
 | .none,v,k,x,hk,E,Q,hq=>by cases x;rw [eqIsQuiet_byValue k rfl];exact wpAny_pure hq
 | .bool b,v,k,x,hk,E,Q,hq=>by cases x;rw [eqIsQuiet_byValue k rfl];exact wpAny_pure hq
 | .int j,v,k,x,hk,E,Q,hq=>by cases x;rw [eqIsQuiet_byValue k rfl];exact wpAny_pure hq
 | .str j,v,k,x,hk,E,Q,hq=>by cases x;rw [eqIsQuiet_byValue k rfl];exact wpAny_pure hq
 | .tup l,v,0,x,hk,E,Q,hq=>by simp [D.dep] at hk
 | .tup l,v,k+1,x,hk,E,Q,hq=>by
  cases x with
  | tup ho hc hd hi=>exact quiet_loop ho hc hd (Ims.quiet l (k:=k) (A:=A) hi (Nat.le_of_succ_le_succ hk)) hq
theorem Ims.quiet {s:Shared} {A:Around}:∀ (ds:List D) {vs:List Value} {k:Nat},Ims s.heap vs ds→D.depL ds≤k→∀ v∈vs,∀ (E:Value→Shared→Prop) (Q:Bool→Shared→Prop),Q true s→wpAny (model prog w) A (eqIsQuiet k v) Q E s
 | [],vs,k,x,hk,v,hv=>by cases x;cases hv
 | d::ds,vs,k,x,hk,v,hv=>by
  simp only [D.depL] at hk
  cases x with
  | cons a r =>
   rcases List.mem_cons.mp hv with rfl | hv
   ·exact Im.quiet d a (mx1 hk)
   ·exact Ims.quiet ds r (mx2 hk) v hv
end
end
noncomputable def dKind (prog:Program) (w:World):@HeapKind prog w D dEq :=
 letI:=dEq
 {is:=fun h d a=>Im h (.ref a) d∧d.dep≤8∧d.kk=true
  hash:=D.hsh prog w
  draws:=D.drw
  room:=fun A=>A.units+9<cLine
  inj:=fun hx hy=>hx.1.inj hy.1
  keeps:=fun x ho hd hs=>⟨x.1.grow fun b o' vs n e c d'=>(hs.2 b fun q=>by clear hs;subst q;rw [ho] at e;cases e;rw [hd] at d';cases d').trans e,x.2⟩
  pyHash:=fun hu hk h=>Im.hash _ hk.2.2 hk.1 (ul9 hu hk.2.1) _ _ _ rfl h
  eqBool:=fun {A E s x y a b Q} hu hx hy h=>Im.eqAt x y (D.ks_of _ hx.2.2) (D.ks_of _ hy.2.2) hx.1 hy.1 (ul9 hu hx.2.1) prog w E Q (by
   have:x.beq y=@decide (x=y) (dEq x y):=by
    by_cases q:x=y
    ·rw [(D.beq_iff x y).mpr q,decide_eq_true q]
    ·rw [decide_eq_false q]
     cases e:x.beq y with
     | false=>rfl
     | true=>exact absurd ((D.beq_iff x y).mp e) q
   rw [this];exact h)
  quiet:=fun hk h=>Im.quiet _ hk.1 hk.2.1 _ _ h }
noncomputable abbrev DDict (prog:Program) (w:World) (h:Heap) (a:Addr) (xs:List (D×Addr×Value)):Prop:=@Heap.DictOfH prog w D dEq (dKind prog w) h a xs
end Mine
end

section
open PySem PySem.W PyProof.Rows
set_option backward.match.sparseCases false
set_option tactic.hygienic false
namespace Mine
theorem Ims.append {h:Heap}:∀ {vs ds us es},Ims h vs ds→Ims h us es→Ims h (vs++us) (ds++es)
 := by
 intro vs
 induction vs with
 | nil=>intro ds us es j k;cases j;exact k
 | cons v vs ih=>intro ds us es j k;cases j with | cons a r=>exact .cons a (ih r k)
theorem Ims.get {h:Heap}:∀ {vs ds},Ims h vs ds→∀ {i:Nat} {d},ds[i]?=some d→∃ v,vs[i]?=some v∧Im h v d
 := by
 intro vs
 induction vs with
 | nil=>intro ds k i d e;cases k;simp at e
 | cons v vs ih =>
  intro ds k i d e
  cases k with
  | cons a r=>cases i with
   | zero=>simp at e;subst e;exact ⟨_,rfl,a⟩
   | succ i=>simpa using ih r (by simpa using e)
theorem Ims.drop {h:Heap} {vs ds} (k:Ims h vs ds) (n:Nat):Ims h (vs.drop n) (ds.drop n):=by
 induction n generalizing vs ds with
 | zero=>exact k
 | succ n ih=>cases k with
  | nil=>exact .nil
  | cons _ r=>exact ih r
theorem Ims.take {h:Heap} {vs ds} (k:Ims h vs ds) (n:Nat):Ims h (vs.take n) (ds.take n):=by
 induction n generalizing vs ds with
 | zero=>exact .nil
 | succ n ih=>cases k with
  | nil=>exact .nil
  | cons a r=>exact .cons a (ih r)
inductive Cont where
 | lst (l:List D)
 | dct (l:List (Str×D))
 | rng (a b:Int)
 | ddc (l:List D)
 | idc (l:List Int)
 | fn (f:Addr)
structure Bs where
 prog:Program
 w:World
 hB:Heap
 mg:Str→Option Value
 mb:Str→Option Value
 g:hB.Ns mainGlobals mg
 b:hB.Ns builtinsNs mb
 bu:∀ x:Str,x≠"__name__"→mb x=bootBuiltins x
 lim:hB.NoLimit
 quiet:Bool
 tab:Addr→Prop
 qn:Addr→Str
 tabNew:∀ P,tab P→hB.get? P=none
noncomputable def CodeAt (h:Heap) (v:Value) (q:Str):Prop:=∃ c o vs t,v=.ref c∧h.get? c=some o∧o.cls=.type "code"∧o.data=.fields vs∧vs[1]?=some (.str q t)
noncomputable def TabOk (B:Bs) (h:Heap):Prop:=∀ P,B.tab P→∃ ps,h.get? P=some (tabObj ps)∧TriplesOk ps.toList∧∀ pos v,codeAmong pos ps.toList=some v→CodeAt h v (B.qn P)
noncomputable def CodeLike (o:Obj):Prop:=(o.cls=.none∨o.cls=.type "code")∧∃ vs,o.data=.fields vs
theorem TabOk.keeps {B:Bs} {h h':Heap} (x:TabOk B h) (k:∀ b o,h.get? b=some o→CodeLike o→h'.get? b=some o):TabOk B h':=fun P hP=>by
 refine e1_3 (x P hP) ?_
 intro ps h1 h2 h3
 refine ⟨ps,k _ _ h1 ⟨.inl rfl,_,rfl⟩,h2,fun pos v hv=>?_⟩
 refine e4_5 (h3 pos v hv) ?_
 intro c o vs t e1 e2 e3 e4 e5
 exact ⟨c,o,vs,t,e1,k _ _ e2 ⟨.inr e3,_,e4⟩,e3,e4,e5⟩
inductive KVs (h:Heap):List (Str×Value)→List (Str×D)→Prop
 | nil:KVs h [] []
 | cons {k v d kvs l}:Im h v d→KVs h kvs l→KVs h ((k,v)::kvs) ((k,d)::l)
theorem KVs.grow {h h':Heap} (g:Grow h h') {kvs l} (x:KVs h kvs l):KVs h' kvs l:=by
 induction x with
 | nil=>exact .nil
 | cons a r ih=>exact .cons (a.grow g) ih
noncomputable def ContAt (B:Bs) (h:Heap) (a:Addr):Cont→Prop
 | .lst l=>∃ o vs n,h.get? a=some o∧(o.cls=.type "list"∧o.dict=none)∧o.data=.seq vs n∧Ims h vs.toList l
 | .dct l=>(a == sysModules)=false∧∃ kvs,h.DictOf (strKind B.prog B.w) a kvs∧KVs h kvs l
 | .rng x y=>∃ t u v,IsRange h a x y 1 t u v
 | .ddc l=>(a == sysModules)=false∧∃ xs,DDict B.prog B.w h a xs∧xs.map (·.1)=l
 | .idc l=>(a == sysModules)=false∧∃ kvs,h.DictOf (intKind B.prog B.w) a kvs∧kvs.map (·.1)=l
 | .fn f=>a=f∧(B.hB.get? f).isSome=true∧∃ o,h.get? f=some o∧o.cls=.type "function"∧∃ fd,o.data=.func fd
noncomputable def Vw (_h:Heap) (v:Value) (a:Addr) (_c:Cont):Prop:=v=.ref a
theorem Vw.grow {h h':Heap} {v:Value} {a:Addr} {c:Cont} (_g:Grow h h') (x:Vw h v a c):Vw h' v a c:=x
inductive Md where
 | fz
 | fr
 | ow (i:Nat)
inductive AV where
 | im (d:D)
 | ct (m:Md) (c:Cont)
inductive Sl where
 | im (d:D)
 | fz (c:Cont)
 | own (c:Cont) (m:Option Addr:=none)
structure KpW (B:Bs) (W:Addr→Prop) (s s':Shared):Prop where
 keep:∀ b o,s.heap.get? b=some o→¬ W b→((o.cls≠.type "frame"∧o.cls≠.none)∨(B.hB.get? b).isSome=true)→s'.heap.get? b=some o
 data:∀ b o,s.heap.get? b=some o→¬ W b→(∀ vs,o.data≠.fields vs)→∃ sl,s'.heap.get? b=some { o with slots:=sl }
 tups:Grow s.heap s'.heap
 live:∀ b o,s.heap.get? b=some o→∃ o',s'.heap.get? b=some o'∧((∀ vs,o.data≠.fields vs)→∀ vs,o'.data≠.fields vs) ∧
  ((∃ es ep,o.data=.dict es ep)→o'.cls=o.cls∧∃ es ep,o'.data=.dict es ep)
 gens:s'.gens=s.gens
 os:s'.os=s.os
 tabs:TabOk B s.heap→TabOk B s'.heap
noncomputable abbrev Kp (B:Bs) (s s':Shared):Prop:=KpW B (fun _=>False) s s'
theorem KpW.refl {B W} (s:Shared):KpW B W s s:=⟨fun _ _ e _ _=>e,fun _ o e _ _=>⟨o.slots,e⟩,fun _ _ _ _ e _ _=>e,fun _ o e=>⟨o,e,fun x=>x,fun x=>⟨rfl,x⟩⟩,rfl,rfl,fun x=>x⟩
theorem Kp.of {B:Bs} {s:Shared} {h':Heap} {t:Nat} (k:∀ b o,s.heap.get? b=some o→h'.get? b=some o):Kp B s { s with heap:=h',toks:=t } :=
 ⟨fun b o e _ _=>k b o e,fun b o e _ _=>⟨o.slots,k b o e⟩,fun b o _ _ e _ _=>k b o e,fun b o e=>⟨o,k b o e,fun x=>x,fun x=>⟨rfl,x⟩⟩,rfl,rfl,fun x=>x.keeps fun b o e _=>k b o e⟩
theorem Kp.toks {B:Bs} {s:Shared} {t:Nat}:Kp B s { s with toks:=t }:=Kp.of (h':=s.heap) fun _ _ e=>e
theorem KpW.mono {B W W'} {s s':Shared} (k:KpW B W s s') (h:∀ b,W b→W' b):KpW B W' s s' :=
 ⟨fun b o e nw=>k.keep b o e (fun x=>nw (h b x)),fun b o e nw=>k.data b o e (fun x=>nw (h b x)),k.tups,k.live,k.gens,k.os,k.tabs⟩
theorem Kp.toW {B W} {s s':Shared} (k:Kp B s s'):KpW B W s s':=k.mono fun _ x=>x.elim
theorem KpW.trans {B W W'} {s s' s'':Shared} (k:KpW B W s s') (k':KpW B W' s' s'') (h:∀ b,W' b→W b∨s.heap.get? b=none):KpW B W s s'':=by
 refine ⟨fun b o e nw hf=>?_,fun b o e nw nt=>?_,fun b o vs n e c d=>k'.tups b o vs n (k.tups b o vs n e c d) c d,fun b o e=>?_,k'.gens.trans k.gens,k'.os.trans k.os,fun x=>k'.tabs (k.tabs x)⟩
 ·refine k'.keep b o (k.keep b o e nw hf) (fun x=>?_) hf
  rcases h b x with y | y
  ·exact nw y
  ·rw [y] at e;clear hf;cases e
 ·refine e1_1 (k.data b o e nw nt) ?_
  intro sl e1
  obtain ⟨sl',e2⟩:=k'.data b _ e1 (fun x=>by
   rcases h b x with y | y
   ·exact nw y
   ·rw [y] at e;clear e1 nt;cases e) nt
  exact ⟨sl',e2⟩
 ·refine e1_3 (k.live b o e) ?_
  intro o1 e1 d1 c1
  refine e1_3 (k'.live b o1 e1) ?_
  intro o2 e2 d2 c2
  exact ⟨o2,e2,fun x=>d2 (d1 x),fun x=>⟨((c2 (c1 x).2).1).trans (c1 x).1,(c2 (c1 x).2).2⟩⟩
theorem Kp.trans {B} {s s' s'':Shared} (k:Kp B s s') (k':Kp B s' s''):Kp B s s'':=KpW.trans k k' fun _ x=>x.elim
theorem Kp.fresh {B} {s s':Shared} (k:Kp B s s') {a:Addr} (h:s'.heap.get? a=none):s.heap.get? a=none:=by
 cases e:s.heap.get? a with
 | none=>rfl
 | some o=>obtain ⟨o',e',_⟩:=k.live a o e;rw [h] at e';clear right;cases e'
theorem ContAt.of_same {B:Bs} {h h':Heap} {a:Addr} {c:Cont} (x:ContAt B h a c) (e:∀ o,h.get? a=some o→(o.cls≠.type "frame"∧o.cls≠.none)→h'.get? a=some o) (g:Grow h h'):ContAt B h' a c:=by
 cases c with
 | lst l =>
  refine e3_4 x ?_
  clear x
  intro o vs n ho hc hd hi
  exact ⟨o,vs,n,e o ho ⟨by rw [hc.1];decide,by rw [hc.1];nofun⟩,hc,hd,hi.grow g⟩
 | dct l =>
  refine e0_2 x ?_
  clear x
  intro hs ez1
  refine e1_2 ez1 ?_
  clear ez1
  intro kvs ez2 hk
  obtain ⟨o,es,ep,ho,hc,r⟩:=ez2
  exact ⟨hs,kvs,⟨o,es,ep,e o ho ⟨by rw [hc.1];decide,by rw [hc.1];nofun⟩,hc,r⟩,hk.grow g⟩
 | rng x y =>
  refine e3_1 x ?_
  clear x
  intro t u v ho
  exact ⟨t,u,v,e _ ho ⟨by show Value.type "range"≠_;decide,by show Value.type "range"≠_;nofun⟩⟩
 | ddc l =>
  refine e0_2 x ?_
  clear x
  intro hs ez3
  refine e1_2 ez3 ?_
  clear ez3
  intro xs ez4 hk
  obtain ⟨o,es,ep,ho,hc,hd,he,hi,hn⟩:=ez4
  exact ⟨hs,xs,⟨o,es,ep,e o ho ⟨by rw [hc.1];decide,by rw [hc.1];nofun⟩,hc,hd,he,fun y hy=>⟨(hi y hy).1.grow g,(hi y hy).2⟩,hn⟩,hk⟩
 | idc l =>
  refine e0_2 x ?_
  clear x
  intro hs ez5
  refine e1_2 ez5 ?_
  clear ez5
  intro kvs ez6 hk
  obtain ⟨o,es,ep,ho,hc,r⟩:=ez6
  exact ⟨hs,kvs,⟨o,es,ep,e o ho ⟨by rw [hc.1];decide,by rw [hc.1];nofun⟩,hc,r⟩,hk⟩
 | fn f =>
  refine e0_3 x ?_
  clear x
  intro h1 h2 ez7
  refine e1_3 ez7 ?_
  clear ez7
  intro o ho hc hd
  subst h1
  exact ⟨rfl,h2,o,e o ho ⟨by rw [hc];decide,by rw [hc];nofun⟩,hc,hd⟩
theorem ContAt.kp {B:Bs} {W} {s s':Shared} {a:Addr} {c:Cont} (k:KpW B W s s') (nw:¬ W a) (x:ContAt B s.heap a c):ContAt B s'.heap a c :=
 x.of_same (fun o e f=>k.keep a o e nw (.inl f)) k.tups
theorem ContAt.exists {B:Bs} {h:Heap} {a:Addr} {c:Cont} (x:ContAt B h a c):∃ o,h.get? a=some o:=by
 cases c with
 | lst l=>(obtain ⟨o,_,_,ho,_⟩:=x;exact ⟨o,ho⟩)
 | dct l=>(obtain ⟨_,_,⟨o,_,_,ho,_⟩,_⟩:=x;exact ⟨o,ho⟩)
 | rng _ _=>(obtain ⟨_,_,_,ho⟩:=x;exact ⟨_,ho⟩)
 | ddc _=>(obtain ⟨_,_,⟨o,_,_,ho,_⟩,_⟩:=x;exact ⟨o,ho⟩)
 | idc _=>(obtain ⟨_,_,⟨o,_,_,ho,_⟩,_⟩:=x;exact ⟨o,ho⟩)
 | fn f=>(obtain ⟨h1,_,o,ho,_⟩:=x;clear left;subst h1;exact ⟨o,ho⟩)
theorem ContAt.shape {B:Bs} {h:Heap} {a:Addr} {c:Cont} (x:ContAt B h a c):∃ o T,h.get? a=some o∧o.cls=.type T∧T≠"tuple"∧T≠"frame"∧T≠"code"∧(∀ v,o.data≠.cell v)∧((∃ vs,o.data=.fields vs)→T="range"):=by
 cases c with
 | lst l=>(obtain ⟨o,_,_,ho,hc,hd,_⟩:=x;exact ⟨o,_,ho,hc.1,by decide,by decide,by decide,(fun v q=>by rw [hd] at q;clear right hd;cases q),(fun ⟨_,q⟩=>by rw [hd] at q;cases q)⟩)
 | dct l=>(obtain ⟨_,_,⟨o,_,_,ho,hc,hd,_⟩,_⟩:=x;exact ⟨o,_,ho,hc.1,by decide,by decide,by decide,(fun v q=>by rw [hd] at q;clear right_1 hd;cases q),(fun ⟨_,q⟩=>by rw [hd] at q;clear right_1 hd;cases q)⟩)
 | rng _ _=>(obtain ⟨_,_,_,ho⟩:=x;exact ⟨_,_,ho,rfl,by decide,by decide,by decide,(fun v q=>by cases q),(fun _=>rfl)⟩)
 | ddc _=>(obtain ⟨_,_,⟨o,_,_,ho,hc,hd,_⟩,_⟩:=x;exact ⟨o,_,ho,hc.1,by decide,by decide,by decide,(fun v q=>by rw [hd] at q;clear right_1 hd;cases q),(fun ⟨_,q⟩=>by rw [hd] at q;clear right_1 hd;cases q)⟩)
 | idc _=>(obtain ⟨_,_,⟨o,_,_,ho,hc,hd,_⟩,_⟩:=x;exact ⟨o,_,ho,hc.1,by decide,by decide,by decide,(fun v q=>by rw [hd] at q;clear right_1 hd;cases q),(fun ⟨_,q⟩=>by rw [hd] at q;clear right_1 hd;cases q)⟩)
 | fn f=>(obtain ⟨h1,_,o,ho,hc,fd,hd⟩:=x;clear left;subst h1;exact ⟨o,_,ho,hc,by decide,by decide,by decide,(fun v q=>by rw [hd] at q;clear hd;cases q),(fun ⟨_,q⟩=>by rw [hd] at q;clear hd;cases q)⟩)
theorem ContAt.notCode {B:Bs} {h:Heap} {a:Addr} {c:Cont} (x:ContAt B h a c):∀ o,h.get? a=some o→¬ CodeLike o:=by
 intro o ho rz1
 obtain ⟨q,_⟩:=rz1
 refine e2_6 x.shape ?_
 intro o' T ho' hc _ _ hT _
 rw [ho] at ho';clear a_3 right ho;cases ho'
 rw [hc] at q
 rcases q with q | q
 ·(try clear a_3;try clear hc;try clear hT;try clear a_2;try clear a_1);cases q
 ·exact hT (Value.type.inj q)
inductive Kd where
 | loc
 | cel
 | fre
 deriving DecidableEq
noncomputable def Kd.kind:Kd→NameKind
 | .loc=>.local
 | .cel=>.cell
 | .fre=>.free
noncomputable def fiOk (sc:Scope) (vars:List (Str×Kd)):Bool :=
 decide (sc.kind=.function)&&decide (vars.map (·.1)).Nodup&&vars.all fun x=>decide (sc.names.lookup x.1=some x.2.kind) && !(x.1 == ("__debug__":Str)) && !(x.1 == ("__classdict__":Str))
structure Fi where
 scope:Scope
 vars:List (Str×Kd)
 own:Nat
 ok:fiOk scope vars=true
 lam:Bool
theorem Fi.fn (F:Fi):F.scope.kind=.function:=by
 have:=F.ok;simp only [fiOk,Bool.and_eq_true,decide_eq_true_eq] at this;exact this.1.1
theorem Fi.nodup (F:Fi):(F.vars.map (·.1)).Nodup:=by
 have:=F.ok;simp only [fiOk,Bool.and_eq_true,decide_eq_true_eq] at this;exact this.1.2
theorem Fi.at (F:Fi) {i:Nat} {x:Str} {k:Kd} (h:F.vars[i]?=some (x,k)):F.scope.names.lookup x=some k.kind∧(x == ("__debug__":Str))=false∧(x == ("__classdict__":Str))=false:=by
 have:=F.ok
 simp only [fiOk,Bool.and_eq_true,List.all_eq_true] at this
 have:=this.2 _ (List.mem_of_getElem? h)
 simpa [and_assoc] using this
theorem Fi.inj (F:Fi) {i j:Nat} {x:Str} {k k':Kd} (h:F.vars[i]?=some (x,k)) (h':F.vars[j]?=some (x,k')):i=j:=by
 have hi:i<(F.vars.map (·.1)).length:=by rw [List.length_map];exact (List.getElem?_eq_some_iff.mp h).1
 refine (List.getElem?_inj hi F.nodup).mp ?_
 rw [List.getElem?_map,List.getElem?_map,h,h'];rfl
noncomputable def VarAt (env:Env) (h:Heap) (x:Str):Kd→Value→Prop
 | .loc,v=>∃ m,h.Ns env.locals m∧m x=some v
 | _,v=>∃ c,env.cells.lookup x=some c∧h.IsCell c (some v)
noncomputable def Priv (env:Env) (a:Addr):Prop:=a=env.locals∨(env.locals<a∧a∈env.cells.map (·.2))
noncomputable def FW (env:Env) (oa:Nat→Option Addr) (a:Addr):Prop:=Priv env a∨∃ i,oa i=some a
noncomputable def VarV (env:Env) (h:Heap) (x:Str) (k:Kd) (a:Addr) (_c:Cont):Prop:=VarAt env h x k (.ref a)
theorem VarV.get {env:Env} {h:Heap} {x:Str} {k:Kd} {a:Addr} {c:Cont} (y:VarV env h x k a c):∃ v,VarAt env h x k v∧Vw h v a c:=⟨_,y,rfl⟩
theorem VarV.of {env:Env} {h:Heap} {x:Str} {k:Kd} {a:Addr} {c:Cont} {v:Value} (y:VarAt env h x k v) (z:Vw h v a c):VarV env h x k a c:=by
 have z:v=.ref a:=z
 subst z;exact y
noncomputable def SlotOk (B:Bs) (env:Env) (oa:Nat→Option Addr) (h:Heap) (i:Nat) (x:Str) (k:Kd):Sl→Prop
 | .im d=>∃ v,VarAt env h x k v∧Im h v d
 | .fz c=>∃ a,VarV env h x k a c∧ContAt B h a c∧¬ FW env oa a
 | .own c m=>∃ a,VarV env h x k a c∧ContAt B h a c∧oa i=some a∧∀ b,m=some b→b=a
noncomputable def LamEnv (B:Bs) (env:Env):Prop:=∃ c P,B.tab P∧env.code=.ref c∧CodeHd B.hB c P∧env.qual++"<lambda>"=B.qn P∧B.hB.BuiltinsAt B.mg P
structure Rp (B:Bs) (F:Fi) (env:Env) (oa:Nat→Option Addr) (ρ:List (Option Sl)) (s:Shared):Prop where
 base:∀ b o,B.hB.get? b=some o→s.heap.get? b=some o
 scope:env.scope=F.scope
 globals:env.globals=mainGlobals
 builtins:env.builtins=builtinsNs
 code:F.lam=true→LamEnv B env
 ns:∃ m,s.heap.Ns env.locals m
 cells:∀ (i:Nat) x k,F.vars[i]?=some (x,k)→k≠Kd.loc→∃ c v,env.cells.lookup x=some c∧s.heap.IsCell c v∧(i<F.own→env.locals<c)
 apart:∀ x y c,env.cells.lookup x=some c→env.cells.lookup y=some c→x=y
 locCell:∀ x c,(x,c)∈env.cells→c≠env.locals
 cellsLive:∀ x c,(x,c)∈env.cells→∃ v,s.heap.IsCell c v
 privNew:∀ a,Priv env a→B.hB.get? a=none
 slots:∀ (i:Nat) x k sl,F.vars[i]?=some (x,k)→ρ[i]?=some (some sl)→SlotOk B env oa s.heap i x k sl
 oinj:∀ i j a,oa i=some a→oa j=some a→i=j
 opriv:∀ i a,oa i=some a→¬ Priv env a∧B.hB.get? a=none∧∃ o,s.heap.get? a=some o
theorem VarAt.keep {env:Env} {h h':Heap} {x:Str} {k:Kd} {v:Value} (e:∀ b o,h.get? b=some o→(∀ vs,o.data≠.fields vs)→∃ sl,h'.get? b=some { o with slots:=sl }) (y:VarAt env h x k v):VarAt env h' x k v:=by
 have hc:∀ c v,h.IsCell c v→h'.IsCell c v:=fun c v hz1=>by obtain ⟨o,ho,hd⟩:=hz1;(obtain ⟨sl,ho'⟩:=e c o ho (fun vs q=>by rw [hd] at q;clear hd;cases q);exact ⟨_,ho',hd⟩)
 cases k with
 | loc =>
  refine e1_2 y ?_
  clear y
  intro m hn hm
  refine e3_2 hn ?_
  clear hn
  intro o es ep ho r
  obtain ⟨sl,ho'⟩:=e _ o ho (fun vs q=>by rw [r.1] at q;cases q)
  exact ⟨m,⟨_,es,ep,ho',r⟩,hm⟩
 | cel=>(obtain ⟨c,h1,h2⟩:=y;exact ⟨c,h1,hc _ _ h2⟩)
 | fre=>(obtain ⟨c,h1,h2⟩:=y;exact ⟨c,h1,hc _ _ h2⟩)
theorem VarV.map {env env':Env} {h h':Heap} {x x':Str} {k k':Kd} {a:Addr} {c:Cont} (y:VarV env h x k a c) (f:∀ v,VarAt env h x k v→VarAt env' h' x' k' v) (g:Grow h h'):VarV env' h' x' k' a c:=by
 refine e1_2 y.get ?_
 intro v y1 y2
 exact .of (f v y1) (y2.grow g)
theorem VarV.keep {env:Env} {h h':Heap} {x:Str} {k:Kd} {a:Addr} {c:Cont} (e:∀ b o,h.get? b=some o→(∀ vs,o.data≠.fields vs)→∃ sl,h'.get? b=some { o with slots:=sl }) (g:Grow h h') (y:VarV env h x k a c):VarV env h' x k a c:=by
 refine e1_2 y.get ?_
 intro v y1 y2
 exact .of (y1.keep e) (y2.grow g)
theorem SlotOk.kp {B:Bs} {env oa i x k} {s s':Shared} {sl:Sl} (q:Kp B s s') (y:SlotOk B env oa s.heap i x k sl):SlotOk B env oa s'.heap i x k sl:=by
 have e:∀ b o,s.heap.get? b=some o→(∀ vs,o.data≠.fields vs)→∃ sl,s'.heap.get? b=some { o with slots:=sl }:=fun b o h=>q.data b o h (fun x=>x)
 cases sl with
 | im d=>(obtain ⟨v,h1,h2⟩:=y;exact ⟨v,h1.keep e,h2.grow q.tups⟩)
 | fz c=>(obtain ⟨a,h1,h2,h3⟩:=y;exact ⟨a,h1.keep e q.tups,h2.kp q (fun x=>x),h3⟩)
 | own c=>(obtain ⟨a,h1,h2,h3⟩:=y;exact ⟨a,h1.keep e q.tups,h2.kp q (fun x=>x),h3⟩)
theorem Ns.slots {h h':Heap} {L:Addr} {m} (e:∀ b o,h.get? b=some o→(∀ vs,o.data≠.fields vs)→∃ sl,h'.get? b=some { o with slots:=sl }) (y:h.Ns L m):h'.Ns L m:=by
 refine e3_2 y ?_
 clear y
 intro o es ep ho r
 obtain ⟨sl,ho'⟩:=e _ o ho (fun vs q=>by rw [r.1] at q;clear r;cases q)
 exact ⟨_,es,ep,ho',r⟩
theorem Rp.kp {B F env oa ρ} {s s':Shared} (R:Rp B F env oa ρ s) (k:Kp B s s'):Rp B F env oa ρ s':=by
 have e:∀ b o,s.heap.get? b=some o→(∀ vs,o.data≠.fields vs)→∃ sl,s'.heap.get? b=some { o with slots:=sl }:=fun b o h=>k.data b o h (fun x=>x)
 refine ⟨fun b o h=>k.keep b o (R.base b o h) (fun x=>x) (.inr (by rw [h];rfl)),R.scope,R.globals,R.builtins,R.code,?_,?_,R.apart,R.locCell,fun x c h=>?_,R.privNew,fun i x kd sl h1 h2=>(R.slots i x kd sl h1 h2).kp k,R.oinj,?_⟩
 ·(obtain ⟨m,h⟩:=R.ns;exact ⟨m,Ns.slots e h⟩)
 ·intro i x kd h1 h2
  refine e2_3 (R.cells i x kd h1 h2) ?_
  intro c v h3 ez8 hw
  obtain ⟨o,ho,hd⟩:=ez8
  obtain ⟨sl,ho'⟩:=e c o ho (fun vs q=>by rw [hd] at q;clear hd;cases q)
  exact ⟨c,v,h3,⟨_,ho',hd⟩,hw⟩
 ·refine e2_2 (R.cellsLive x c h) ?_
  intro v o ho hd
  obtain ⟨sl,ho'⟩:=e c o ho (fun vs q=>by rw [hd] at q;clear hd;cases q)
  exact ⟨v,_,ho',hd⟩
 ·intro i a h
  refine e0_3 (R.opriv i a h) ?_
  intro h1 h2 ez9
  refine e1_1 ez9 ?_
  clear ez9
  intro o ho
  exact ⟨h1,h2,e1_2 (k.live a o ho) fun o' ho' _=>⟨o',ho'⟩⟩
structure Ar (B:Bs) (A:Around) (n:Nat) (s:Shared):Prop where
 depth:A.depth+n<recursionLimit
 units:A.units+10*n<cLine
 handled:B.quiet=true→A.handled=none
 frames:∃ l,A.frames=some l∧s.heap.FunFrames B.hB l∧∀ L∈l.filterMap (·.frame),∃ o es ep,s.heap.get? L=some o∧o.cls=.type "frame"∧o.data=.dict es ep
 tabs:TabOk B s.heap
theorem FunFrames.kp {B:Bs} {W} {s s':Shared} (k:KpW B W s s'):∀ {l:List Env},s.heap.FunFrames B.hB l→s'.heap.FunFrames B.hB l:=by
 intro l
 induction l with
 | nil=>exact fun _=>trivial
 | cons env rest ih=>exact fun x=>e0_3 x fun hk y hr=>e2_4 y fun L o hf hn ho hd=>e1_3 (k.live L o ho) fun o' ho' hd' _=>⟨hk,⟨L,o',hf,hn,ho',hd' hd⟩,ih hr⟩
theorem Ar.kp {B A n} {s s':Shared} {W} (a:Ar B A n s) (k:KpW B W s s'):Ar B A n s' :=
 ⟨a.depth,a.units,a.handled,e1_3 a.frames fun l h1 h2 h3=>⟨l,h1,FunFrames.kp k h2,fun L hL=>by
  refine e3_3 (h3 L hL) ?_
  intro o es ep ho hc hd
  refine e1_3 (k.live L o ho) ?_
  intro o' ho' _ h4
  refine e0_2 (h4 ⟨es,ep,hd⟩) ?_
  intro hc' ez10
  refine e2_1 ez10 ?_
  clear ez10
  intro es' ep' hd'
  exact ⟨o',es',ep',ho',hc'.trans hc,hd'⟩⟩,k.tabs a.tabs⟩
theorem Ar.le {B A n m} {s:Shared} (a:Ar B A n s) (h:m≤n):Ar B A m s :=
 ⟨by have:=a.depth;lia,by have:=a.units;lia,a.handled,a.frames,a.tabs⟩
theorem Ar.un {B A n} {s:Shared} (a:Ar B A n s):A.units<cLine:=by have:=a.units;lia
noncomputable def EPW (_B:Bs) (_W:Addr→Prop) (_X:Str→Prop) (_s:Shared) (_e:Value) (_s':Shared):Prop:=False
noncomputable abbrev EP (B:Bs) (X:Str→Prop) (s:Shared) (e:Value) (s':Shared):Prop:=EPW B (fun _=>False) X s e s'
theorem EP.back {B X} {s s1:Shared} {e s'} (_k:Kp B s s1) (x:EP B X s1 e s'):EP B X s e s':=x
theorem EP.toW {B W X} {s:Shared} {e s'} (x:EP B X s e s'):EPW B W X s e s':=x
noncomputable def VR (B:Bs) (env:Env) (oa:Nat→Option Addr) (s s':Shared) (v:Value):AV→Prop
 | .im d=>Im s'.heap v d
 | .ct .fz c=>∃ a,Vw s'.heap v a c∧ContAt B s'.heap a c∧¬ FW env oa a
 | .ct .fr c=>∃ a,Vw s'.heap v a c∧ContAt B s'.heap a c∧s.heap.get? a=none
 | .ct (.ow i) c=>∃ a,Vw s'.heap v a c∧ContAt B s'.heap a c∧oa i=some a
theorem VR.kp {B env oa} {s s' s'':Shared} {v:Value} {r:AV} (x:VR B env oa s s' v r) (k:Kp B s' s''):VR B env oa s s'' v r:=by
 cases r with
 | im d=>exact Im.grow k.tups x
 | ct m c=>cases m with
  | fz=>(obtain ⟨a,h1,h2,h3⟩:=x;exact ⟨a,h1.grow k.tups,h2.kp k (fun x=>x),h3⟩)
  | fr=>(obtain ⟨a,h1,h2,h3⟩:=x;exact ⟨a,h1.grow k.tups,h2.kp k (fun x=>x),h3⟩)
  | ow i=>(obtain ⟨a,h1,h2,h3⟩:=x;exact ⟨a,h1.grow k.tups,h2.kp k (fun x=>x),h3⟩)
theorem VR.back {B env oa} {s s1 s':Shared} {v:Value} {r:AV} (k:Kp B s s1) (x:VR B env oa s1 s' v r):VR B env oa s s' v r:=by
 cases r with
 | im d=>exact x
 | ct m c=>cases m with
  | fz=>exact x
  | fr=>(obtain ⟨a,h1,h2,h3⟩:=x;exact ⟨a,h1,h2,k.fresh h3⟩)
  | ow i=>exact x
theorem VR.cont {B env oa} {s s':Shared} {v:Value} {m:Md} {c:Cont} (x:VR B env oa s s' v (.ct m c)):∃ a,Vw s'.heap v a c∧ContAt B s'.heap a c:=by
 cases m with
 | fz=>(obtain ⟨a,h1,h2,_⟩:=x;exact ⟨a,h1,h2⟩)
 | fr=>(obtain ⟨a,h1,h2,_⟩:=x;exact ⟨a,h1,h2⟩)
 | ow i=>(obtain ⟨a,h1,h2,_⟩:=x;exact ⟨a,h1,h2⟩)
structure EW (B:Bs) (F:Fi) (X:Str→Prop) (n:Nat) (ρ:List (Option Sl)) (e:Expr) (Q:AV→Prop):Prop where
 go:∀ env oa A s,Rp B F env oa ρ s→Ar B A n s →
  wpAny (model B.prog B.w) A (eval e env) (fun v s'=>∃ r,Q r∧Kp B s s'∧VR B env oa s s' v r) (EP B X s) s
structure TW (B:Bs) (F:Fi) (X:Str→Prop) (n:Nat) (ρ:List (Option Sl)) (e:Expr) (Q:Bool→Prop):Prop where
 go:∀ env oa A s,Rp B F env oa ρ s→Ar B A n s →
  wpAny (model B.prog B.w) A (isTrue e env (eval e env)) (fun b s'=>Q b∧Kp B s s') (EP B X s) s
section
variable {B:Bs} {F:Fi} {X:Str→Prop} {n:Nat} {ρ:List (Option Sl)}
theorem EW.mono {e:Expr} {Q Q':AV→Prop} (h:EW B F X n ρ e Q) (q:∀ r,Q r→Q' r):EW B F X n ρ e Q' :=
 .mk fun env oa A s R a=>wpAny_mono (h.go env oa A s R a) (fun _ _ hz3=>e1_2 hz3 fun r h1 h2=>⟨r,q r h1,h2⟩) fun _ _ x=>x
end
end Mine
end

section
open PySem PySem.W PyProof.Rows
set_option backward.match.sparseCases false
set_option tactic.hygienic false
namespace Mine
section
variable {B:Bs} {F:Fi} {X:Str→Prop} {n:Nat} {ρ:List (Option Sl)}
theorem Kp.refl (s:Shared):Kp B s s:=KpW.refl s
theorem EW.run {e:Expr} {Q:AV→Prop} (h:EW B F X n ρ e Q) {env oa A s0 s} {P:Value→Shared→Prop} (R:Rp B F env oa ρ s) (a:Ar B A n s) (k0:Kp B s0 s)
  (c:∀ v s' r,Q r→Kp B s s'→VR B env oa s s' v r→P v s'):wpAny (model B.prog B.w) A (eval e env) P (EP B X s0) s :=
 wpAny_mono (h.go env oa A s R a) (fun v s' hz1=>e1_3 hz1 fun r q k x=>c v s' r q k x) fun _ _ x=>x.back k0
theorem TW.run {e:Expr} {Q:Bool→Prop} (h:TW B F X n ρ e Q) {env oa A s0 s} {P:Bool→Shared→Prop} (R:Rp B F env oa ρ s) (a:Ar B A n s) (k0:Kp B s0 s)
  (c:∀ b s',Q b→Kp B s s'→P b s'):wpAny (model B.prog B.w) A (isTrue e env (eval e env)) P (EP B X s0) s :=
 wpAny_mono (h.go env oa A s R a) (fun v s' hz2=>e0_2 hz2 fun q k=>c v s' q k) fun _ _ x=>x.back k0
theorem TW.mono {e:Expr} {Q Q':Bool→Prop} (h:TW B F X n ρ e Q) (q:∀ r,Q r→Q' r):TW B F X n ρ e Q' :=
 .mk fun env oa A s R a=>wpAny_mono (h.go env oa A s R a) (fun _ _ hz3=>e0_2 hz3 fun h1 h2=>⟨q _ h1,h2⟩) fun _ _ x=>x
theorem EW.cint {i:Int} {k pos} {Q:AV→Prop} (h:Q (.im (.int i))):EW B F X n ρ (.Constant (.int i) k pos) Q :=
 .mk fun env oa A s R a=>wpAny_Constant_int ⟨_,h,Kp.toks,.int _ _⟩
theorem EW.cstr {x:Str} {k pos} {Q:AV→Prop} (h:Q (.im (.str x))):EW B F X n ρ (.Constant (.str x) k pos) Q :=
 .mk fun env oa A s R a=>wpAny_Constant_str ⟨_,h,Kp.toks,.str _ _⟩
theorem EW.cbool {b:Bool} {k pos} {Q:AV→Prop} (h:Q (.im (.bool b))):EW B F X n ρ (.Constant (.bool b) k pos) Q :=
 .mk fun env oa A s R a=>wpAny_Constant_bool ⟨_,h,Kp.refl _,.bool _⟩
theorem EW.cnone {k pos} {Q:AV→Prop} (h:Q (.im .none)):EW B F X n ρ (.Constant .none k pos) Q :=
 .mk fun env oa A s R a=>wpAny_Constant_none ⟨_,h,Kp.refl _,.none⟩
noncomputable def Sl.av (i:Nat):Sl→AV
 | .im d=>.im d
 | .fz c=>.ct .fz c
 | .own c _=>.ct (.ow i) c
theorem loadVar {env oa A s x k v} {Q:Value→Shared→Prop} {E} {i:Nat} (R:Rp B F env oa ρ s) (hx:F.vars[i]?=some (x,k)) (hv:VarAt env s.heap x k v) (h:Q v s) {pos} :
  wpAny (model B.prog B.w) A (eval (.Name x pos) env) Q E s:=by
 refine e0_3 (F.at hx) ?_
 intro h1 h2 h3
 have hk:env.scope.kind=.function:=by rw [R.scope];exact F.fn
 have hl:env.kindOf x=some k.kind:=by unfold Env.kindOf;rw [R.scope];exact h1
 refine wpAny_Name ?_ h2
 cases k with
 | loc=>(obtain ⟨m,hn,hm⟩:=hv;exact wpAny_loadName_local hk hl hn hm h)
 | cel=>(obtain ⟨c,hc,hm⟩:=hv;exact wpAny_loadName_cell hk hl hc hm h)
 | fre=>(obtain ⟨c,hc,hm⟩:=hv;exact wpAny_loadName_free hk hl hc hm h h3)
theorem EW.name {x:Str} {pos} {Q:AV→Prop} (i:Nat) {k:Kd} {sl:Sl} (hx:F.vars[i]?=some (x,k)) (hs:ρ[i]?=some (some sl)) (h:Q (sl.av i)):EW B F X n ρ (.Name x pos) Q:=by
 refine .mk ?_
 intro env oa A s R a
 have y:=R.slots i x k sl hx hs
 cases sl with
 | im d=>(obtain ⟨v,h1,h2⟩:=y;exact loadVar R hx h1 ⟨_,h,Kp.refl _,h2⟩)
 | fz c=>(obtain ⟨v,h1,h2,h3⟩:=y;obtain ⟨u,h4,h5⟩:=h1.get;exact loadVar R hx h4 ⟨_,h,Kp.refl _,v,h5,h2,h3⟩)
 | own c=>(obtain ⟨v,h1,h2,h3,_⟩:=y;obtain ⟨u,h4,h5⟩:=h1.get;exact loadVar R hx h4 ⟨_,h,Kp.refl _,v,h5,h2,h3⟩)
noncomputable def Bas (B:Bs) (s:Shared):Prop:=∀ b o,B.hB.get? b=some o→s.heap.get? b=some o
noncomputable def BinS (B:Bs) (n:Nat) (op:Operator) (x y z:AV):Prop :=
 ∀ env oa A s0 s vx vy (E:Value→Shared→Prop),Bas B s→Ar B A n s→VR B env oa s0 s vx x→VR B env oa s0 s vy y →
  wpAny (model B.prog B.w) A (binaryOp op vx vy) (fun v s'=>Kp B s s'∧VR B env oa s s' v z) E s
noncomputable def CmpS (B:Bs) (n:Nat) (op:CmpOp) (x y:AV) (r:Bool):Prop :=
 ∀ env oa A s0 s vx vy (E:Value→Shared→Prop),Bas B s→Ar B A n s→VR B env oa s0 s vx x→VR B env oa s0 s vy y →
  wpAny (model B.prog B.w) A (compareOp op vx vy) (fun v s'=>v=.bool r∧Kp B s s') E s
noncomputable def UnS (B:Bs) (n:Nat) (op:UnaryOp) (x z:AV):Prop :=
 ∀ env oa A s0 s vx (E:Value→Shared→Prop),Bas B s→Ar B A n s→VR B env oa s0 s vx x →
  wpAny (model B.prog B.w) A (unaryOp op vx) (fun v s'=>Kp B s s'∧VR B env oa s s' v z) E s
noncomputable def TruS (B:Bs) (n:Nat) (x:AV) (r:Bool):Prop :=
 ∀ env oa A s0 s vx (E:Value→Shared→Prop),Bas B s→Ar B A n s→VR B env oa s0 s vx x →
  wpAny (model B.prog B.w) A (truthy vx) (fun v s'=>v=r∧Kp B s s') E s
theorem EW.bin {l op r pos} {Q:AV→Prop} (h:EW B F X n ρ l fun x=>EW B F X n ρ r fun y=>∃ z,BinS B n op x y z∧Q z):EW B F X n ρ (.BinOp l op r pos) Q :=
 .mk fun env oa A s R a=>wpAny_BinOp (h.run R a (Kp.refl _) fun vx s1 rx qx k1 x1=>qx.run (R.kp k1) (a.kp k1) k1 fun vy s2 ry hz9 k2 x2=>e1_2 hz9 fun z hz q =>
  wpAny_mono (hz env oa A s s2 vx vy _ ((R.kp k1).kp k2).base ((a.kp k1).kp k2) (x1.kp k2) (x2.back k1)) (fun v s3 hz5=>e0_2 hz5 fun k3 x3=>⟨z,q,(k1.trans k2).trans k3,x3.back (k1.trans k2)⟩) fun _ _ x=>x)
theorem EW.cmp {l op r pos} {Q:AV→Prop} (h:EW B F X n ρ l fun x=>EW B F X n ρ r fun y=>∃ z,CmpS B n op x y z∧Q (.im (.bool z))) (hm:behindInMarks op r=false:=by with_unfolding_all rfl):EW B F X n ρ (.Compare l [op] [r] pos) Q :=
 .mk fun env oa A s R a=>wpAny_Compare1 (h.run R a (Kp.refl _) fun vx s1 rx qx k1 x1=>qx.run (R.kp k1) (a.kp k1) k1 fun vy s2 ry hz9 k2 x2=>e1_2 hz9 fun z hz q =>
  wpAny_mono (hz env oa A s s2 vx vy _ ((R.kp k1).kp k2).base ((a.kp k1).kp k2) (x1.kp k2) (x2.back k1)) (fun v s3 hz7=>e0_2 hz7 fun e k3=>⟨_,q,(k1.trans k2).trans k3,by clear hz7 q hz;subst e;exact .bool _⟩) fun _ _ x=>x) hm
theorem EW.un {op x pos} {Q:AV→Prop} (h:EW B F X n ρ x fun x=>∃ z,UnS B n op x z∧Q z):EW B F X n ρ (.UnaryOp op x pos) Q :=
 .mk fun env oa A s R a=>wpAny_UnaryOp (h.run R a (Kp.refl _) fun vx s1 rx hz9 k1 x1=>e1_2 hz9 fun z hz q =>
  wpAny_mono (hz env oa A s s1 vx _ (R.kp k1).base (a.kp k1) x1) (fun v s3 hz9=>e0_2 hz9 fun k3 x3=>⟨z,q,k1.trans k3,x3.back k1⟩) fun _ _ x=>x)
theorem TW.val {e:Expr} {Q:Bool→Prop} (h:EW B F X n ρ e fun x=>∃ b,TruS B n x b∧Q b)
  (he:∀ env whole,isTrue e env whole=(do let v ← whole;standAt e.pos;holding [v] (truthy v)):=by intros;rfl):TW B F X n ρ e Q :=
 .mk fun env oa A s R a=>wpAny_isTrue_value (h.run R a (Kp.refl _) fun vx s1 rx hz9 k1 x1=>e1_2 hz9 fun b hb q =>
  wpAny_mono (hb env oa A s s1 vx _ (R.kp k1).base (a.kp k1) x1) (fun v s3 hz11=>by obtain ⟨e,k3⟩:=hz11;clear hb;subst e;exact ⟨q,k1.trans k3⟩) fun _ _ x=>x) (he env _)
theorem TW.not {x pos} {Q:Bool→Prop} (h:TW B F X n ρ x fun b=>Q (!b)):TW B F X n ρ (.UnaryOp .Not x pos) Q :=
 .mk fun env oa A s R a=>wpAny_isTrue_Not (h.go env oa A s R a)
theorem TW.cmp {l op r pos} {Q:Bool→Prop} (h:EW B F X n ρ l fun x=>EW B F X n ρ r fun y=>∃ z,CmpS B n op x y z∧Q z) (hm:behindInMarks op r=false:=by with_unfolding_all rfl):TW B F X n ρ (.Compare l [op] [r] pos) Q :=
 .mk fun env oa A s R a=>wpAny_isTrue_Compare1 (h.run R a (Kp.refl _) fun vx s1 rx qx k1 x1=>qx.run (R.kp k1) (a.kp k1) k1 fun vy s2 ry hz9 k2 x2=>e1_2 hz9 fun z hz q =>
  wpAny_mono (hz env oa A s s2 vx vy _ ((R.kp k1).kp k2).base ((a.kp k1).kp k2) (x1.kp k2) (x2.back k1)) (fun v s3 hz13=>by obtain ⟨e,k3⟩:=hz13;clear hz;subst e;exact wpAny_truthy_bool ⟨q,(k1.trans k2).trans k3⟩) fun _ _ x=>x) hm
structure AW (B:Bs) (F:Fi) (X:Str→Prop) (n:Nat) (ρ:List (Option Sl)) (op:BoolOp) (es:List Expr) (Q:Bool→Prop):Prop where
 go:∀ env oa A s,Rp B F env oa ρ s→Ar B A n s→wpAny (model B.prog B.w) A (allTrue op es env) (fun b s'=>Q b∧Kp B s s') (EP B X s) s
theorem AW.andNil {Q:Bool→Prop} (h:Q true):AW B F X n ρ .And [] Q:=.mk fun env oa A s R a=>wpAny_allTrue_And_nil ⟨h,Kp.refl _⟩
theorem AW.orNil {Q:Bool→Prop} (h:Q false):AW B F X n ρ .Or [] Q:=.mk fun env oa A s R a=>wpAny_allTrue_Or_nil ⟨h,Kp.refl _⟩
theorem AW.andCons {x rest} {Q:Bool→Prop} (h:TW B F X n ρ x fun b=>if b=true then AW B F X n ρ .And rest Q else Q false):AW B F X n ρ .And (x::rest) Q :=
 .mk fun env oa A s R a=>wpAny_allTrue_And_cons (h.run R a (Kp.refl _) fun b s1 q k1=>by
  cases b with
  | false=>exact ⟨by simpa using q,k1⟩
  | true =>
   have q':AW B F X n ρ .And rest Q:=by simpa using q
   exact wpAny_mono (q'.go env oa A s1 (R.kp k1) (a.kp k1)) (fun b s2 hz14=>e0_2 hz14 fun h1 h2=>⟨h1,k1.trans h2⟩) fun _ _ x=>x.back k1)
theorem AW.orCons {x rest} {Q:Bool→Prop} (h:TW B F X n ρ x fun b=>if b=true then Q true else AW B F X n ρ .Or rest Q):AW B F X n ρ .Or (x::rest) Q :=
 .mk fun env oa A s R a=>wpAny_allTrue_Or_cons (h.run R a (Kp.refl _) fun b s1 q k1=>by
  cases b with
  | true=>exact ⟨by simpa using q,k1⟩
  | false =>
   have q':AW B F X n ρ .Or rest Q:=by simpa using q
   exact wpAny_mono (q'.go env oa A s1 (R.kp k1) (a.kp k1)) (fun b s2 hz15=>e0_2 hz15 fun h1 h2=>⟨h1,k1.trans h2⟩) fun _ _ x=>x.back k1)
theorem TW.bool {op es pos} {Q:Bool→Prop} (h:AW B F X n ρ op es Q):TW B F X n ρ (.BoolOp op es pos) Q :=
 .mk fun env oa A s R a=>wpAny_isTrue_BoolOp (h.go env oa A s R a)
theorem EW.ife {t b o pos} {Q:AV→Prop} (h:TW B F X n ρ t fun c=>if c=true then EW B F X n ρ b Q else EW B F X n ρ o Q):EW B F X n ρ (.IfExp t b o pos) Q :=
 .mk fun env oa A s R a=>wpAny_IfExp (h.run R a (Kp.refl _) fun c s1 q k1=>by
  cases c with
  | true =>
   have q':EW B F X n ρ b Q:=by simpa using q
   exact q'.run (R.kp k1) (a.kp k1) k1 fun v s2 r h1 h2 h3=>⟨r,h1,k1.trans h2,h3.back k1⟩
  | false =>
   have q':EW B F X n ρ o Q:=by simpa using q
   exact q'.run (R.kp k1) (a.kp k1) k1 fun v s2 r h1 h2 h3=>⟨r,h1,k1.trans h2,h3.back k1⟩)
theorem EW.and2 {x y pos} {Q:AV→Prop} (h:EW B F X n ρ x fun r=>∃ b,TruS B n r b∧if b=true then EW B F X n ρ y Q else Q r):EW B F X n ρ (.BoolOp .And [x,y] pos) Q :=
 .mk fun env oa A s R a=>wpAny_And2 (h.run R a (Kp.refl _) fun vx s1 rx hz9 k1 x1=>e1_2 hz9 fun b hb q =>
  wpAny_mono (hb env oa A s s1 vx _ (R.kp k1).base (a.kp k1) x1) (fun v s3 hz17=>by
   refine e0_2 hz17 ?_
   clear hz17
   intro e k3
   clear hb;subst e
   cases v with
   | true =>
    have q':EW B F X n ρ y Q:=by simpa using q
    exact q'.run ((R.kp k1).kp k3) ((a.kp k1).kp k3) (k1.trans k3) fun v s2 r h1 h2 h3=>⟨r,h1,(k1.trans k3).trans h2,h3.back (k1.trans k3)⟩
   | false=>exact ⟨rx,by simpa using q,k1.trans k3,x1.kp k3⟩) fun _ _ x=>x)
theorem EW.or2 {x y pos} {Q:AV→Prop} (h:EW B F X n ρ x fun r=>∃ b,TruS B n r b∧if b=true then Q r else EW B F X n ρ y Q):EW B F X n ρ (.BoolOp .Or [x,y] pos) Q :=
 .mk fun env oa A s R a=>wpAny_Or2 (h.run R a (Kp.refl _) fun vx s1 rx hz9 k1 x1=>e1_2 hz9 fun b hb q =>
  wpAny_mono (hb env oa A s s1 vx _ (R.kp k1).base (a.kp k1) x1) (fun v s3 hz19=>by
   refine e0_2 hz19 ?_
   clear hz19
   intro e k3
   clear hb;subst e
   cases v with
   | false =>
    have q':EW B F X n ρ y Q:=by simpa using q
    exact q'.run ((R.kp k1).kp k3) ((a.kp k1).kp k3) (k1.trans k3) fun v s2 r h1 h2 h3=>⟨r,h1,(k1.trans k3).trans h2,h3.back (k1.trans k3)⟩
   | true=>exact ⟨rx,by simpa using q,k1.trans k3,x1.kp k3⟩) fun _ _ x=>x)
structure LW (B:Bs) (F:Fi) (X:Str→Prop) (n:Nat) (ρ:List (Option Sl)) (es:List Expr) (Q:List AV→Prop):Prop where
 go:∀ env oa A s pos,Rp B F env oa ρ s→Ar B A n s→wpAny (model B.prog B.w) A (spliced (backTo pos (starEach es env)))
  (fun vs s'=>∃ rs,Q rs∧Kp B s s'∧vs.length=rs.length∧∀ (i:Nat) v r,vs[i]?=some v→rs[i]?=some r→VR B env oa s s' v r) (EP B X s) s
theorem LW.nil {Q:List AV→Prop} (h:Q []):LW B F X n ρ [] Q :=
 .mk fun env oa A s pos R a=>wpAny_items_nil ⟨[],h,Kp.refl _,rfl,fun i v r e=>by simp at e⟩
theorem LW.cons {e rest} {Q:List AV→Prop} (h:EW B F X n ρ e fun r=>LW B F X n ρ rest fun rs=>Q (r::rs))
  (he:∀ env,starEach (e::rest) env=(false,eval e env)::starEach rest env:=by intro _;rfl):LW B F X n ρ (e::rest) Q :=
 .mk fun env oa A s pos R a=>wpAny_items_cons (h.run R a (Kp.refl _) fun v s1 r q k1 x1 =>
  wpAny_mono (q.go env oa A s1 pos (R.kp k1) (a.kp k1)) (fun vs s2 hz20=>e1_4 hz20 fun rs h1 h2 h3 h4=>⟨r::rs,h1,k1.trans h2,by simp [h3],fun i v' r' e1 e2=>by
   cases i with
   | zero=>simp at e1 e2;subst e1;subst e2;exact x1.kp h2
   | succ i=>exact (h4 i v' r' (by simpa using e1) (by simpa using e2)).back k1⟩) fun _ _ x=>x.back k1) (he env)
theorem LW.mono {es} {Q Q':List AV→Prop} (h:LW B F X n ρ es Q) (q:∀ r,Q r→Q' r):LW B F X n ρ es Q' :=
 .mk fun env oa A s pos R a=>wpAny_mono (h.go env oa A s pos R a) (fun _ _ hz21=>e1_2 hz21 fun r h1 h2=>⟨r,q _ h1,h2⟩) fun _ _ x=>x
inductive Dats:List AV→List D→Prop
 | nil:Dats [] []
 | cons {d rs ds}:Dats rs ds→Dats (.im d::rs) (d::ds)
theorem Dats.ims {env oa s s'}:∀ {rs ds},Dats rs ds→∀ {vs:List Value},vs.length=rs.length→(∀ (i:Nat) v r,vs[i]?=some v→rs[i]?=some r→VR B env oa s s' v r)→Ims s'.heap vs ds
 := by
 intro rs ds k
 induction k with
 | nil=>intro vs h _;cases vs with | nil=>exact .nil | cons _ _=>simp at h
 | cons k ih =>
  intro vs h hv
  cases vs with
  | nil=>simp at h
  | cons v vs=>exact .cons (hv 0 v _ rfl rfl) (ih (by simpa using h) fun i v' r' e1 e2=>hv (i+1) v' r' (by simpa using e1) (by simpa using e2))
theorem push_kp {s:Shared} (o:Obj) {t:Nat}:Kp B s { s with heap:=s.heap.push o,toks:=t }:=Kp.of fun b o' e=>Heap.get?_push_of_some _ e
theorem fresh_size (s:Shared):s.heap.get? s.heap.objs.size=none:=by
 cases e:s.heap.get? s.heap.objs.size with
 | none=>rfl
 | some o=>exact absurd (Heap.lt_size e) (Nat.lt_irrefl _)
theorem Dats.length {rs ds} (x:Dats rs ds):rs.length=ds.length:=by
 induction x with
 | nil=>rfl
 | cons k ih=>rw [List.length_cons,List.length_cons,ih]
theorem EW.tuple {es k pos} {Q:AV→Prop} (h:LW B F X n ρ es fun rs=>∃ ds,Dats rs ds∧ds.length≤sizeLine∧Q (.im (.tup ds))):EW B F X n ρ (.Tuple es k pos) Q :=
 .mk fun env oa A s R a=>wpAny_Tuple (wpAny_mono (h.go env oa A s pos R a) (fun vs s1 hz9=>e1_4 hz9 fun rs hz8 k1 e hv=>e1_3 hz8 fun ds hd hl q =>
  ⟨by rw [e,hd.length];exact hl,_,q,k1.trans (push_kp _),.tup (Heap.get?_push_size _ rfl) rfl rfl (by simpa using (hd.ims e hv).grow (push_kp (B:=B) _ (t:=s1.toks)).tups)⟩) fun _ _ x=>x)
theorem EW.list {es pos} {Q:AV→Prop} (h:LW B F X n ρ es fun rs=>∃ ds,Dats rs ds∧ds.length≤sizeLine∧Q (.ct .fr (.lst ds))):EW B F X n ρ (.List es pos) Q :=
 .mk fun env oa A s R a=>wpAny_List (wpAny_mono (h.go env oa A s pos R a) (fun vs s1 hz9=>e1_4 hz9 fun rs hz8 k1 e hv=>e1_3 hz8 fun ds hd hl q =>
  ⟨by rw [e,hd.length];exact hl,_,q,k1.trans (push_kp _),_,rfl,⟨_,_,_,Heap.get?_push_size _ rfl,⟨rfl,rfl⟩,rfl,by simpa using (hd.ims e hv).grow (push_kp (B:=B) _ (t:=s1.toks)).tups⟩,k1.fresh (fresh_size s1)⟩) fun _ _ x=>x)
end
end Mine
end

section
open PySem PySem.W PyProof.Rows
set_option backward.match.sparseCases false
set_option tactic.hygienic false
namespace Mine
theorem Ns.unique {h:Heap} {a:Addr} {m m':Str→Option Value} (x:h.Ns a m) (y:h.Ns a m'):m=m':=by
 refine e3_4 x ?_
 clear x
 intro o es ep ho hd _ hf
 refine e3_4 y ?_
 clear y
 intro o' es' ep' ho' hd' _ hf'
 rw [ho] at ho';clear ho;cases ho'
 rw [hd] at hd';clear a_2 a_1;cases hd'
 funext n;rw [← hf n,← hf' n]
theorem putName_cls (name:Str) (h:Int) (key v:Value) (o:Obj):(Obj.putName name h key v o).cls=o.cls:=by
 obtain ⟨c,d,dt,sl⟩:=o
 cases dt <;> simp [Obj.putName,Obj.modName] <;> (try split) <;> rfl
theorem putName_free {name:Str} {h:Int} {key v:Value} {o:Obj} {es ep} (hd:o.data=.dict es ep):(Obj.putName name h key v o).isFreed=false:=by
 obtain ⟨c,d,dt,sl⟩:=o
 subst hd
 simp [Obj.putName] <;> (try split) <;> rfl
open Sem in
theorem nsSet_cls {M:Model} {A:Around} {E:Value→Shared→Prop} {s:Shared} {a:Addr} {m:Str→Option Value} {name:Str} {v:Value} {o:Obj} {Q:Unit→Shared→Prop} (hn:s.heap.Ns a m) (ho:s.heap.get? a=some o)
  (h:∀ h' o',h'.Ns a (fun x=>if x=name then some v else m x)→Heap.SameBut a s.heap h'→h'.get? a=some o'→o'.cls=o.cls→Q () { s with heap:=h',toks:=s.toks+1 }) :
  wpAny M A (nsSet a name v) Q E s:=by
 intro Γ p hΓ
 have h1:=Sem.wp_nsSet M Γ (fun e _ s'=>E e s') p s hn name v (fun _ _ s'=>∃ h',h'.Ns a (fun x=>if x=name then some v else m x)∧Heap.SameBut a s.heap h'∧s'={ s with heap:=h',toks:=s.toks+1 }) (fun h' x y=>⟨h',x,y,rfl⟩)
 refine e3_4 (id hn) ?_
 intro o1 es ep ho1 hd hk hm
 obtain rfl:o1=o:=Option.some.inj (ho1.symm.trans ho)
 have hany:aRefKeyMayBeTheName name es=false:=by
  rw [aRefKeyMayBeTheName_eq,aRefKeyMayBeTheNameByArray]
  have:es.any (·.refKey)=false:=by
   rw [Array.any_eq_false'];intro e he;obtain ⟨n,t,h⟩:=hk e he;simp [DictEntry.refKey,h]
  simp [this]
 simp only [nsSet,strHash,wp_bind',wp_cmd_ask,wp_pure',wp_cmd_mkText] at h1 ⊢
 rw [wp_loadPart_of M Γ _ p { s with toks:=s.toks+1 } (o:=o1) _ ho] at h1 ⊢
 simp only [hd,hany,Bool.false_eq_true,if_false,wp_cmd_updatePart] at h1 ⊢
 refine ⟨h1.1,?_⟩
 refine e1_3 h1.2 ?_
 intro h' x y e
 have e':s.heap.update a (Obj.putName name (if name.cps.isEmpty=true then 0 else reduceHash (M.w.params.strHash name.cps)) (.str name s.toks) v)=h':=congrArg Shared.heap e
 refine e3_3 (id x) ?_
 intro o2 es2 ep2 ho2 hd2 r
 refine e▸h h' o2 x y ho2 ?_
 have:=Heap.get?_update_self (Obj.putName name (if name.cps.isEmpty=true then 0 else reduceHash (M.w.params.strHash name.cps)) (.str name s.toks) v) ho (putName_free hd)
 rw [e',ho2] at this
 clear r hd2 ho2 e' e y x h1 hany h ho hd ho1 hn;cases this
 exact putName_cls ..
inductive Fl where
 | next
 | brk
 | cont
 | ret (r:AV)
section
variable {B:Bs} {F:Fi} {X:Str→Prop} {n:Nat} {ρ:List (Option Sl)}
noncomputable def FlR (B:Bs) (env:Env) (oa:Nat→Option Addr) (s s':Shared):Flow→Fl→Prop
 | .next,.next=>True
 | .brk,.brk=>True
 | .cont,.cont=>True
 | .ret v,.ret r=>VR B env oa s s' v r
 | _,_=>False
noncomputable def OwnFrom (s:Shared) (oa oa':Nat→Option Addr):Prop:=∀ i a,oa' i=some a→(∃ j,oa j=some a)∨s.heap.get? a=none
theorem OwnFrom.refl (s:Shared) (oa):OwnFrom s oa oa:=fun i a h=>.inl ⟨i,h⟩
noncomputable def Po (B:Bs) (F:Fi) (env:Env) (oa:Nat→Option Addr) (s:Shared) (Q:Fl→List (Option Sl)→Prop) (f:Flow) (s':Shared):Prop :=
 ∃ fl ρ' oa',Q fl ρ'∧FlR B env oa' s s' f fl∧Rp B F env oa' ρ' s'∧KpW B (FW env oa) s s'∧OwnFrom s oa oa'
noncomputable def Hd (A:Around) (env:Env):Prop:=(∃ l,A.frames=some (env::l))∧env.frame=some env.locals
structure SW (B:Bs) (F:Fi) (X:Str→Prop) (n:Nat) (ρ:List (Option Sl)) (st:Stmt) (Q:Fl→List (Option Sl)→Prop):Prop where
 go:∀ env oa A s,Hd A env→Rp B F env oa ρ s→Ar B A n s→wpAny (model B.prog B.w) A (exec st env) (Po B F env oa s Q) (EPW B (FW env oa) X s) s
structure SWs (B:Bs) (F:Fi) (X:Str→Prop) (n:Nat) (ρ:List (Option Sl)) (st:List Stmt) (Q:Fl→List (Option Sl)→Prop):Prop where
 go:∀ env oa A s,Hd A env→Rp B F env oa ρ s→Ar B A n s→wpAny (model B.prog B.w) A (execs st env) (Po B F env oa s Q) (EPW B (FW env oa) X s) s
theorem FW.from {env:Env} {s:Shared} {oa oa':Nat→Option Addr} (h:OwnFrom s oa oa'):∀ b,FW env oa' b→FW env oa b∨s.heap.get? b=none:=by
 rintro b (x | ⟨i,x⟩)
 ·exact .inl (.inl x)
 ·exact (h i b x).imp .inr fun y=>y
theorem KpW.fresh {W} {s s':Shared} (k:KpW B W s s') {a:Addr} (h:s'.heap.get? a=none):s.heap.get? a=none:=by
 cases e:s.heap.get? a with
 | none=>rfl
 | some o=>obtain ⟨o',e',_⟩:=k.live a o e;rw [h] at e';clear right;cases e'
theorem OwnFrom.trans {W} {s s':Shared} {oa oa' oa'':Nat→Option Addr} (h:OwnFrom s oa oa') (k:KpW B W s s') (h':OwnFrom s' oa' oa''):OwnFrom s oa oa'':=by
 intro i a e
 rcases h' i a e with ⟨j,x⟩ | x
 ·exact h j a x
 ·exact .inr (k.fresh x)
set_option tactic.hygienic true in
theorem FlR.back {W env oa} {s s1 s':Shared} {f:Flow} {fl:Fl} (k:KpW B W s s1) (x:FlR B env oa s1 s' f fl):FlR B env oa s s' f fl:=by
 cases f <;> cases fl <;> first | exact x | skip
 rename_i v r
 cases r with
 | im d=>exact x
 | ct m c=>cases m with
  | fz=>exact x
  | fr=>(obtain ⟨a,h1,h2,h3⟩:=x;exact ⟨a,h1,h2,k.fresh h3⟩)
  | ow i=>exact x
theorem Po.back {env oa oa1} {s s1:Shared} {Q:Fl→List (Option Sl)→Prop} {f s'} (k:KpW B (FW env oa) s s1) (o:OwnFrom s oa oa1) (x:Po B F env oa1 s1 Q f s'):Po B F env oa s Q f s' :=
 e3_5 x fun fl ρ' oa' h1 h2 h3 h4 h5=>⟨fl,ρ',oa',h1,h2.back k,h3,k.trans h4 (FW.from o),o.trans k h5⟩
theorem EPW.back {env oa oa1} {s s1:Shared} {e s'} (_k:KpW B (FW env oa) s s1) (_o:OwnFrom s oa oa1) (x:EPW B (FW env oa1) X s1 e s'):EPW B (FW env oa) X s e s':=x
theorem SWs.run {sts:List Stmt} {Q:Fl→List (Option Sl)→Prop} (h:SWs B F X n ρ sts Q) {env oa oa0 A s0 s} (hd:Hd A env) (R:Rp B F env oa ρ s) (a:Ar B A n s) (k0:KpW B (FW env oa0) s0 s) (o:OwnFrom s0 oa0 oa) :
  wpAny (model B.prog B.w) A (execs sts env) (Po B F env oa0 s0 Q) (EPW B (FW env oa0) X s0) s :=
 wpAny_mono (h.go env oa A s hd R a) (fun f s' x=>x.back k0 o) fun _ _ x=>x.back k0 o
theorem SWs.nil {Q:Fl→List (Option Sl)→Prop} (h:Q .next ρ):SWs B F X n ρ [] Q :=
 .mk fun env oa A s hd R a=>wpAny_execs_nil ⟨.next,ρ,oa,h,trivial,R,KpW.refl _,OwnFrom.refl _ _⟩
theorem SWs.cons {st rest} {Q:Fl→List (Option Sl)→Prop} (h:SW B F X n ρ st fun fl ρ'=>match fl with | .next=>SWs B F X n ρ' rest Q | fl=>Q fl ρ'):SWs B F X n ρ (st::rest) Q:=by
 refine .mk ?_
 intro env oa A s hd R a
 refine wpAny_execs_cons (wpAny_mono (h.go env oa A s hd R a) (fun f s' x=>?_) fun _ _ x=>x)
 refine e3_5 x ?_
 clear x
 intro fl ρ' oa' h1 h2 h3 h4 h5
 cases f with
 | next=>cases fl with
  | next=>exact SWs.run h1 hd h3 (a.kp h4) h4 h5
  | _=>exact h2.elim
 | brk=>cases fl with
  | brk=>exact ⟨_,ρ',oa',h1,h2,h3,h4,h5⟩
  | _=>exact h2.elim
 | cont=>cases fl with
  | cont=>exact ⟨_,ρ',oa',h1,h2,h3,h4,h5⟩
  | _=>exact h2.elim
 | ret v=>cases fl with
  | ret r=>exact ⟨_,ρ',oa',h1,h2,h3,h4,h5⟩
  | _=>exact h2.elim
theorem SWs.mono {sts} {Q Q':Fl→List (Option Sl)→Prop} (h:SWs B F X n ρ sts Q) (q:∀ f r,Q f r→Q' f r):SWs B F X n ρ sts Q' :=
 .mk fun env oa A s hd R a=>wpAny_mono (h.go env oa A s hd R a) (fun _ _ hz1=>e3_2 hz1 fun fl ρ' oa' h1 h2=>⟨fl,ρ',oa',q _ _ h1,h2⟩) fun _ _ x=>x
theorem SW.mono {st} {Q Q':Fl→List (Option Sl)→Prop} (h:SW B F X n ρ st Q) (q:∀ f r,Q f r→Q' f r):SW B F X n ρ st Q' :=
 .mk fun env oa A s hd R a=>wpAny_mono (h.go env oa A s hd R a) (fun _ _ hz2=>e3_2 hz2 fun fl ρ' oa' h1 h2=>⟨fl,ρ',oa',q _ _ h1,h2⟩) fun _ _ x=>x
theorem SW.ret {e pos} {Q:Fl→List (Option Sl)→Prop} (h:EW B F X n ρ e fun r=>Q (.ret r) ρ):SW B F X n ρ (.Return (some e) pos) Q :=
 .mk fun env oa A s hd R a=>wpAny_Return_some (wpAny_mono (h.go env oa A s R a) (fun v s' hz3=>e1_3 hz3 fun r q k x=>⟨_,ρ,oa,q,x,R.kp k,k.toW,OwnFrom.refl _ _⟩) fun _ _ x=>x.toW)
theorem SW.ife {t b o pos} {Q:Fl→List (Option Sl)→Prop} (h:TW B F X n ρ t fun c=>if c=true then SWs B F X n ρ b Q else SWs B F X n ρ o Q):SW B F X n ρ (.If t b o pos) Q :=
 .mk fun env oa A s hd R a=>wpAny_If (wpAny_mono (h.go env oa A s R a) (fun c s1 hz4=>by
  refine e0_2 hz4 ?_
  clear hz4
  intro q k1
  cases c with
  | true =>
   have q':SWs B F X n ρ b Q:=by simpa using q
   exact q'.run hd (R.kp k1) (a.kp k1) k1.toW (OwnFrom.refl _ _)
  | false =>
   have q':SWs B F X n ρ o Q:=by simpa using q
   exact q'.run hd (R.kp k1) (a.kp k1) k1.toW (OwnFrom.refl _ _)) fun _ _ x=>x.toW)
theorem SW.expr {e pos} {Q:Fl→List (Option Sl)→Prop} (h:EW B F X n ρ e fun _=>Q .next ρ)
  (hs:∀ env,swapsWith e none pos.line env=pure false:=by intro _;rfl):SW B F X n ρ (.Expr e pos) Q :=
 .mk fun env oa A s hd R a=>wpAny_Expr_any (wpAny_mono (h.go env oa A s R a) (fun v s' hz5=>e1_3 hz5 fun r q k x=>⟨.next,ρ,oa,q,trivial,R.kp k,k.toW,OwnFrom.refl _ _⟩) fun _ _ x=>x.toW)
  (by unfold interactive;rw [R.scope,F.fn];rfl) (hs env)
noncomputable def AV.sl:AV→Option Sl
 | .im d=>some (.im d)
 | .ct .fz c=>some (.fz c)
 | .ct .fr c=>some (.own c)
 | .ct (.ow _) _=>none
noncomputable def shown (_h:Heap) (v:Value) (_c:Cont):Option Addr:=match v with | .ref a=>some a | _=>none
theorem Vw.shown {h:Heap} {v:Value} {a:Addr} {c:Cont} (x:Vw h v a c):shown h v c=some a:=by
 have x:v=.ref a:=x
 subst x;rfl
theorem Vw.unique {h:Heap} {v:Value} {a a':Addr} {c:Cont} (x:Vw h v a c) (y:Vw h v a' c):a=a':=by
 have:=x.shown.symm.trans y.shown;clear y x;cases this;rfl
noncomputable def oaSet (oa:Nat→Option Addr) (i:Nat) (h:Heap) (v:Value):AV→Nat→Option Addr
 | .ct .fr c,j=>if j=i then shown h v c else oa j
 | _,j=>if j=i then none else oa j
theorem VarAt.unique {env:Env} {h:Heap} {x:Str} {k:Kd} {v v':Value} (a:VarAt env h x k v) (b:VarAt env h x k v'):v=v':=by
 have cel:∀ {v v'},(∃ c,env.cells.lookup x=some c∧h.IsCell c (some v))→(∃ c,env.cells.lookup x=some c∧h.IsCell c (some v'))→v=v':=fun hz6 hz7=>by
  refine e1_2 hz6 ?_
  clear hz6
  intro c h1 ez1
  refine e1_2 ez1 ?_
  clear ez1
  intro o h2 h3
  refine e1_2 hz7 ?_
  clear hz7
  intro c' h4 ez2
  refine e1_2 ez2 ?_
  clear ez2
  intro o' h5 h6
  rw [h1] at h4;clear h1;cases h4;rw [h2] at h5;cases h5;rw [h3] at h6;cases h6;rfl
 cases k with
 | loc=>obtain ⟨m,h1,h2⟩:=a;obtain ⟨m',h3,h4⟩:=b;obtain rfl:=Ns.unique h1 h3;rw [h2] at h4;cases h4;rfl
 | cel=>exact cel a b
 | fre=>exact cel a b
noncomputable def FzOld (F:Fi) (env:Env) (ρ:List (Option Sl)) (i:Nat) (s0:Shared) (h:Heap):Prop :=
 ∀ (j:Nat) y k' c a,j≠i→F.vars[j]?=some (y,k')→ρ[j]?=some (some (.fz c))→VarV env h y k' a c→∃ o,s0.heap.get? a=some o
theorem VarV.unique {env:Env} {h:Heap} {x:Str} {k:Kd} {a a':Addr} {c:Cont} (p:VarV env h x k a c) (q:VarV env h x k a' c):a=a':=by
 refine e1_2 p.get ?_
 intro v p1 p2
 refine e1_2 q.get ?_
 intro u q1 q2
 have:=VarAt.unique p1 q1
 clear q1 p1;subst this
 exact p2.unique q2
theorem Rp.stored {env oa} {s0 s s':Shared} {i:Nat} {x:Str} {k:Kd} {v:Value} {r:AV} {sl:Sl} {W:Addr}
  (R0:Rp B F env oa ρ s0) (hx:F.vars[i]?=some (x,k)) (hsl:r.sl=some sl)
  (hr:VR B env oa s0 s v r) (hk0:Kp B s0 s) (Rz:∀ a,s0.heap.get? a=none→¬ FW env oa a∧B.hB.get? a=none)
  (hW:Priv env W) (hWb:B.hB.get? W=none) (hs:Heap.SameBut W s.heap s'.heap)
  (hgens:s'.gens=s.gens) (hos:s'.os=s.os) (hL:∃ m,s'.heap.Ns env.locals m)
  (hcells:∀ (j:Nat) y k',F.vars[j]?=some (y,k')→k'≠Kd.loc→∃ c v,env.cells.lookup y=some c∧s'.heap.IsCell c v∧(j<F.own→env.locals<c))
  (hcl2:∀ y c,(y,c)∈env.cells→∃ v,s'.heap.IsCell c v)
  (hnew:VarAt env s'.heap x k v) (hold:∀ (j:Nat) y k' u,F.vars[j]?=some (y,k')→j≠i→VarAt env s.heap y k' u→VarAt env s'.heap y k' u)
  (hWo:∃ o o',s.heap.get? W=some o∧s'.heap.get? W=some o'∧(∀ vs n,o.data≠.seq vs n)∧(∀ vs,o.data≠.fields vs)∧(∀ vs,o'.data≠.fields vs)∧((∃ es ep,o.data=.dict es ep)→o'.cls=o.cls∧∃ es ep,o'.data=.dict es ep)) :
  Rp B F env (oaSet oa i s.heap v r) (ρ.set i (some sl)) s'∧KpW B (Priv env) s s'∧OwnFrom s0 oa (oaSet oa i s.heap v r)∧FzOld F env ρ i s0 s'.heap∧VarAt env s'.heap x k v∧∀ (j:Nat) y k' u,F.vars[j]?=some (y,k')→j≠i→VarAt env s.heap y k' u→VarAt env s'.heap y k' u:=by
 have R:Rp B F env oa ρ s:=R0.kp hk0
 refine e2_6 hWo ?_
 clear hWo
 intro oW oW' hoW hoW' hns hnf0 hnf hcl
 have oth:∀ b,b≠W→s'.heap.get? b=s.heap.get? b:=fun b hb=>hs.2 b hb
 have k:KpW B (Priv env) s s':=by
  refine ⟨fun b o e nw _=>?_,fun b o e nw _=>?_,fun b o vs m e c d=>?_,fun b o e=>?_,hgens,hos,fun x=>x.keeps fun b o e cl=>?_⟩
  ·rw [oth b (fun q=>nw (q▸hW))];exact e
  ·exact ⟨o.slots,by rw [oth b (fun q=>nw (q▸hW))];exact e⟩
  ·rw [oth b (fun q=>by clear oth hs hW;subst q;rw [hoW] at e;cases e;exact hns _ _ d)];exact e
  ·by_cases q:b=W
   ·clear oth hs hW;subst q;rw [hoW] at e;clear hnf0 hns;cases e;exact ⟨oW',hoW',fun _=>hnf,hcl⟩
   ·exact ⟨o,by rw [oth b q];exact e,fun x=>x,fun x=>⟨rfl,x⟩⟩
  ·rw [oth b fun q=>by clear oth hoW' hs hW;subst q;rw [hoW] at e;cases e;obtain ⟨_,vs,q⟩:=cl;exact hnf0 vs q];exact e
 have nW:∀ j a,oa j=some a→a≠W:=fun j a h q=>(R.opriv j a h).1 (q▸hW)
 have cont:∀ a c,a≠W→ContAt B s.heap a c→ContAt B s'.heap a c:=fun a c ne y=>y.of_same (fun o e _=>by rw [oth a ne];exact e) k.tups
 have oaOther:∀ j,j≠i→oaSet oa i s.heap v r j=oa j:=fun j hj=>by
  cases r with
  | im d=>simp [oaSet,hj]
  | ct m c=>cases m <;> simp [oaSet,hj]
 have oaNew:∀ a,oaSet oa i s.heap v r i=some a→s0.heap.get? a=none∧∃ c,ContAt B s.heap a c:=fun a h=>by
  cases r with
  | im d=>simp [oaSet] at h
  | ct m c=>cases m with
   | fz=>simp [oaSet] at h
   | ow _=>simp [oaSet] at h
   | fr =>
    refine e1_3 hr ?_
    clear hr
    intro b hv hc hf
    simp [oaSet,hv.shown] at h;clear hv;subst h
    exact ⟨hf,c,hc⟩
 have notFW:∀ a,¬ FW env oa a→(∀ b,oaSet oa i s.heap v r i=some b→a≠b)→¬ FW env (oaSet oa i s.heap v r) a:=by
  rintro a h1 h2 (q | ⟨j,q⟩)
  ·exact h1 (.inl q)
  ·by_cases e:j=i
   ·clear hold;subst e;exact h2 a q rfl
   ·rw [oaOther j e] at q;exact h1 (.inr ⟨j,q⟩)
 refine ⟨⟨fun b o h=>?_,R.scope,R.globals,R.builtins,R.code,hL,hcells,R.apart,R.locCell,hcl2,R.privNew,?_,?_,?_⟩,k,?_,?_,hnew,hold⟩
 ·rw [oth b (fun q=>by clear cont nW oth hoW' hoW hs hW;subst q;rw [hWb] at h;cases h)];exact R.base b o h
 ·intro j y k' sl' hy hρ
  by_cases e:j=i
  ·clear hold;subst e
   rw [hx] at hy;cases hy
   have hlt:j<ρ.length:=by
    by_cases q:j<ρ.length
    ·exact q
    ·rw [List.set_eq_of_length_le (Nat.le_of_not_lt q)] at hρ
     rw [List.getElem?_eq_none (Nat.le_of_not_lt q)] at hρ;cases hρ
   rw [List.getElem?_set_self hlt] at hρ
   cases hρ
   cases r with
   | im d =>
    simp [AV.sl] at hsl;subst hsl
    exact ⟨v,hnew,hr.grow k.tups⟩
   | ct m c=>cases m with
    | ow _=>simp [AV.sl] at hsl
    | fz =>
     simp [AV.sl] at hsl;subst hsl
     refine e1_3 hr ?_
     clear hr
     intro a hv hc hf
     exact ⟨a,.of hnew (hv.grow k.tups),cont a c (fun q=>hf (q▸.inl hW)) hc,notFW a hf fun b hb=>by simp [oaSet] at hb⟩
    | fr =>
     simp [AV.sl] at hsl;clear notFW;subst hsl
     refine e1_3 hr ?_
     clear hr
     intro a hv hc hf
     exact ⟨a,.of hnew (hv.grow k.tups),cont a c (fun q=>(Rz a hf).1 (q▸.inl hW)) hc,by simp [oaSet,hv.shown],fun _ q=>by cases q⟩
  ·rw [List.getElem?_set_ne (Ne.symm e)] at hρ
   have old:=R.slots j y k' sl' hy hρ
   cases sl' with
   | im d=>(obtain ⟨u,h1,h2⟩:=old;exact ⟨u,hold j y k' u hy e h1,h2.grow k.tups⟩)
   | fz c =>
    refine e1_3 (R0.slots j y k' _ hy hρ) ?_
    intro a h1 h2 h3
    refine e1_2 ((h1.keep (fun b o h=>hk0.data b o h (fun x=>x)) hk0.tups).get) ?_
    intro u h1a h1b
    refine ⟨a,.of (hold j y k' _ hy e h1a) (h1b.grow k.tups),cont a c (fun q=>h3 (q▸.inl hW)) (h2.kp hk0 (fun x=>x)),notFW a h3 fun b hb q=>?_⟩
    clear h1b h3;subst q
    refine e1_1 h2.exists ?_
    intro o ho
    rw [(oaNew a hb).1] at ho;cases ho
   | own c =>
    refine e1_4 old ?_
    clear old
    intro a h1 h2 h3 h4
    refine e1_2 h1.get ?_
    intro u h1a h1b
    exact ⟨a,.of (hold j y k' _ hy e h1a) (h1b.grow k.tups),cont a c (nW j a h3) h2,by rw [oaOther j e];exact h3,h4⟩
 ·intro j j' a h1 h2
  by_cases e:j=i <;> by_cases e':j'=i
  ·rw [e,e']
  ·exfalso;clear notFW hold hx;subst e;rw [oaOther j' e'] at h2;exact (Rz a (oaNew a h1).1).1 (.inr ⟨j',h2⟩)
  ·exfalso;clear notFW hold hx;subst e';rw [oaOther j e] at h1;exact (Rz a (oaNew a h2).1).1 (.inr ⟨j,h1⟩)
  ·rw [oaOther j e] at h1;rw [oaOther j' e'] at h2;exact R.oinj j j' a h1 h2
 ·intro j a h
  by_cases e:j=i
  ·clear notFW oaOther hold hx;subst e
   refine e0_2 (oaNew a h) ?_
   intro hn ez3
   refine e1_1 ez3 ?_
   clear ez3
   intro c hc
   refine e1_1 hc.exists ?_
   intro o ho
   have:=Rz a hn
   exact ⟨fun q=>this.1 (.inl q),this.2,o,by rw [oth a (fun q=>this.1 (q▸.inl hW))];exact ho⟩
  ·rw [oaOther j e] at h
   refine e0_3 (R.opriv j a h) ?_
   intro h1 h2 ez4
   refine e1_1 ez4 ?_
   clear ez4
   intro o ho
   exact ⟨h1,h2,e1_2 (k.live a o ho) fun o' ho' _=>⟨o',ho'⟩⟩
 ·intro j a h
  by_cases e:j=i
  ·clear notFW oaOther hold hx;subst e;exact .inr (oaNew a h).1
  ·rw [oaOther j e] at h;exact .inl ⟨j,h⟩
 ·intro j y k' c a hj hy hρ hv
  refine e1_3 (R0.slots j y k' _ hy hρ) ?_
  intro a0 h1 h2 h3
  refine e1_2 ((h1.keep (fun b o h=>hk0.data b o h (fun x=>x)) hk0.tups).get) ?_
  intro u h1a h1b
  have:=VarV.unique hv (.of (hold j y k' _ hy hj h1a) (h1b.grow k.tups))
  clear h1b h3 h1 hv;subst this
  exact h2.exists
theorem Rp.new {env oa} {s:Shared} (R:Rp B F env oa ρ s) {a:Addr} (h:s.heap.get? a=none):¬ FW env oa a∧B.hB.get? a=none:=by
 refine ⟨?_,?_⟩
 ·rintro (q | ⟨i,q⟩)
  ·rcases q with q | q
   ·refine e4_2 R.ns ?_
    intro m o es ep ho _
    rw [q,ho] at h;clear a_1 ho;cases h
   ·refine e1_2 (List.mem_map.mp q.2) ?_
    intro p hp ez5
    clear q;subst ez5
    refine e2_2 (R.cellsLive p.1 p.2 hp) ?_
    intro v o ho _
    rw [ho] at h;clear a ho;cases h
  ·refine e0_3 (R.opriv i a q) ?_
   intro _ _ ez6
   refine e1_1 ez6 ?_
   clear ez6
   intro o ho
   rw [ho] at h;clear ho;cases h
 ·cases e:B.hB.get? a with
  | none=>rfl
  | some o=>rw [R.base a o e] at h;clear e;cases h
theorem storeVar {env oa A} {s0 s:Shared} {i:Nat} {x:Str} {k:Kd} {v:Value} {r:AV} {sl:Sl} {E:Value→Shared→Prop}
  (R0:Rp B F env oa ρ s0) (hk0:Kp B s0 s) (hr:VR B env oa s0 s v r) (hx:F.vars[i]?=some (x,k)) (hsl:r.sl=some sl) (hkd:k≠.fre) (hi:i<F.own) :
  wpAny (model B.prog B.w) A (storeName env x v) (fun _ s'=>Rp B F env (oaSet oa i s.heap v r) (ρ.set i (some sl)) s'∧KpW B (Priv env) s s'∧OwnFrom s0 oa (oaSet oa i s.heap v r)∧FzOld F env ρ i s0 s'.heap∧VarAt env s'.heap x k v∧∀ (j:Nat) y k' u,F.vars[j]?=some (y,k')→j≠i→VarAt env s.heap y k' u→VarAt env s'.heap y k' u) E s:=by
 have R:=R0.kp hk0
 refine e0_3 (F.at hx) ?_
 intro h1 h2 h3
 have hk:env.scope.kind=.function:=by rw [R.scope];exact F.fn
 have hl:env.kindOf x=some k.kind:=by unfold Env.kindOf;rw [R.scope];exact h1
 cases k with
 | fre=>exact (hkd rfl).elim
 | loc =>
  refine e1_1 R.ns ?_
  intro m hn
  obtain ⟨oL,hoL⟩:∃ o,s.heap.get? env.locals=some o:=e3_2 hn fun o _ _ ho _=>⟨o,ho⟩
  rw [storeName_local hl (by rw [hk];rfl)]
  refine nsSet_cls hn hoL fun h' oL' hn' hs' hoL' hcL=>?_
  refine R0.stored hx hsl hr hk0 (fun a h=>R0.new h) (.inl rfl) (R.privNew _ (.inl rfl)) hs' rfl rfl ⟨_,hn'⟩ ?_ (fun y c hm=>e1_1 (R.cellsLive y c hm) fun u hu=>⟨u,hu.sameBut hs' (R.locCell y c hm)⟩) ⟨_,hn',if_pos rfl⟩ ?_ ?_
  ·intro j y k' hy hne
   refine e2_3 (R.cells j y k' hy hne) ?_
   intro c u hc hcell hw
   exact ⟨c,u,hc,hcell.sameBut hs' (R.locCell y c (mem_of_lookup hc)),hw⟩
  ·intro j y k' u hy hne hv
   cases k' with
   | loc =>
    refine e1_2 hv ?_
    clear hv
    intro m1 hn1 hm1
    obtain rfl:=Ns.unique hn hn1
    refine ⟨_,hn',?_⟩
    rw [if_neg (fun q=>hne (F.inj hy (q▸hx)))];exact hm1
   | cel=>obtain ⟨c,hc,hcell⟩:=hv;exact ⟨c,hc,hcell.sameBut hs' (R.locCell y c (mem_of_lookup hc))⟩
   | fre=>obtain ⟨c,hc,hcell⟩:=hv;exact ⟨c,hc,hcell.sameBut hs' (R.locCell y c (mem_of_lookup hc))⟩
  ·refine e3_3 hn ?_
   clear hn
   intro o es ep ho hd _
   refine e3_3 hn' ?_
   clear hn'
   intro o' es' ep' ho' hd' _
   rw [hoL] at ho;cases ho
   rw [hoL'] at ho';cases ho'
   exact ⟨_,_,hoL,hoL',(fun vs m q=>by rw [hd] at q;clear a;cases q),(fun vs q=>by rw [hd] at q;clear a;cases q),(fun vs q=>by rw [hd'] at q;cases q),fun _=>⟨hcL,_,_,hd'⟩⟩
 | cel =>
  refine e2_3 (R.cells i x .cel hx (by decide)) ?_
  intro c u hc hcell hcw
  have hmem:=mem_of_lookup hc
  refine wpAny_storeName_cell hk hl hc hcell fun h' hc' hs'=>?_
  refine R0.stored hx hsl hr hk0 (fun a h=>R0.new h) (.inr ⟨hcw hi,List.mem_map.mpr ⟨(x,c),hmem,rfl⟩⟩) (R.privNew _ (.inr ⟨hcw hi,List.mem_map.mpr ⟨(x,c),hmem,rfl⟩⟩)) hs' rfl rfl ?_ ?_ ?_ ⟨c,hc,hc'⟩ ?_ ?_
  ·obtain ⟨m,hn⟩:=R.ns;exact ⟨m,hn.sameBut hs' (Ne.symm (R.locCell x c hmem))⟩
  ·intro j y k' hy hne
   refine e2_3 (R.cells j y k' hy hne) ?_
   intro c' u' hc2 hcell2 hw2
   by_cases q:c'=c
   ·clear hcell2 hs' hmem hcw hcell hc;subst q;exact ⟨c',_,hc2,hc',hw2⟩
   ·exact ⟨c',u',hc2,hcell2.sameBut hs' q,hw2⟩
  ·intro y c' hm
   by_cases q:c'=c
   ·clear hm hs' hmem hcw hcell hc;subst q;exact ⟨_,hc'⟩
   ·obtain ⟨u',hu⟩:=R.cellsLive y c' hm;exact ⟨u',hu.sameBut hs' q⟩
  ·intro j y k' u' hy hne hv
   cases k' with
   | loc=>obtain ⟨m1,hn1,hm1⟩:=hv;exact ⟨m1,hn1.sameBut hs' (Ne.symm (R.locCell x c hmem)),hm1⟩
   | cel =>
    refine e1_2 hv ?_
    clear hv
    intro c2 hc2 hcell2
    exact ⟨c2,hc2,hcell2.sameBut hs' fun q=>hne (F.inj hy ((R.apart y x c (q▸hc2) hc)▸hx))⟩
   | fre =>
    refine e1_2 hv ?_
    clear hv
    intro c2 hc2 hcell2
    exact ⟨c2,hc2,hcell2.sameBut hs' fun q=>hne (F.inj hy ((R.apart y x c (q▸hc2) hc)▸hx))⟩
  ·refine e1_2 hcell ?_
   clear hcell
   intro o ho hd
   refine e1_2 hc' ?_
   clear hc'
   intro o' ho' hd'
   exact ⟨o,o',ho,ho',(fun vs m q=>by rw [hd] at q;clear hd;cases q),(fun vs q=>by rw [hd] at q;clear hd;cases q),(fun vs q=>by rw [hd'] at q;clear hd' hr;cases q),fun hz8=>by obtain ⟨es,ep,q⟩:=hz8;rw [hd] at q;clear hd;cases q⟩
theorem SW.assign {x pos' value pos} {Q:Fl→List (Option Sl)→Prop} (i:Nat) {k:Kd} (hx:F.vars[i]?=some (x,k)) (hkd:k≠.fre) (hi:i<F.own)
  (h:EW B F X n ρ value fun r=>∃ sl,r.sl=some sl∧Q .next (ρ.set i (some sl)))
  (hs:∀ env,swapsWith value (some (.Name x pos')) pos.line env=pure false:=by intro _;rfl):SW B F X n ρ (.Assign [.Name x pos'] value pos) Q :=
 .mk fun env oa A s hd R a=>wpAny_Assign_Name (wpAny_mono (h.go env oa A s R a) (fun v s1 hz9=>e1_3 hz9 fun r hz8 k1 x1=>e1_2 hz8 fun sl hsl q =>
  wpAny_mono (storeVar R k1 x1 hx hsl hkd hi) (fun _ s2 hz10=>e0_4 hz10 fun h1 h2 h3 _=>⟨.next,_,_,q,trivial,h1,(Kp.toW k1).trans (h2.mono fun _ x=>.inl x) (fun _ x=>.inl x),h3⟩) fun _ _ x=>x) fun _ _ x=>x.toW) (hs env)
end
end Mine
end

section
open PySem PySem.W PyProof.Rows PySem.Calls
set_option backward.match.sparseCases false
set_option tactic.hygienic false
namespace Mine
structure InF (s₀:Shared) (L:Addr) (m:Str→Option Value) (cs:List (Str×Addr)) (cm:Str→Option Value) (s:Shared):Prop where
 c:InCallC s₀ L m cs cm s
 f:∃ o,s.heap.get? L=some o∧o.cls=.type "frame"
section
variable {M:Model} {A:Around} {E:Value→Shared→Prop} {s₀ s:Shared} {m cm:Str→Option Value} {env:Env}
theorem InF.loc {n:Str} {v:Value} {Q:Unit→Shared→Prop} (x:InF s₀ env.locals m env.cells cm s) (hk:env.scope.kind=.function) (hl:env.kindOf n=some .local)
  (h:∀ s',InF s₀ env.locals (fun y=>if y=n then some v else m y) env.cells cm s'→Q () s'):wpAny M A (storeName env n v) Q E s:=by
 refine e1_2 x.f ?_
 intro o ho hc
 have y:=x.c
 rw [storeName_local hl (by rw [hk];rfl)]
 refine nsSet_cls y.toInCall.ns ho fun h' o' hn' hs' ho' hc'=>h _ ⟨⟨⟨?_,hn',fun b ob e=>?_,y.toInCall.fresh⟩,fun k c hq=>?_,y.apart,y.above⟩,o',ho',hc'.trans hc⟩
 ·obtain ⟨h₁,tk,rfl⟩:=y.toInCall.same;exact ⟨h',_,rfl⟩
 ·exact hs'.extBut b ob (Nat.ne_of_lt (Nat.lt_of_lt_of_le (Heap.lt_size e) y.toInCall.fresh)) (y.toInCall.keep b ob e)
 ·exact (y.cell k c hq).sameBut hs' (Nat.ne_of_gt (y.above k c (mem_of_lookup hq)))
theorem InF.cel {n:Str} {c:Addr} {v:Value} {Q:Unit→Shared→Prop} (x:InF s₀ env.locals m env.cells cm s) (hk:env.scope.kind=.function) (hl:env.kindOf n=some .cell)
  (hc:env.cells.lookup n=some c) (h:∀ s',InF s₀ env.locals m env.cells (fun y=>if y=n then some v else cm y) s'→Q () s'):wpAny M A (storeName env n v) Q E s:=by
 refine e1_2 x.f ?_
 intro o ho ho2
 have y:=x.c
 have hLc:=y.above n c (mem_of_lookup hc)
 refine wpAny_storeName_cell hk hl hc (y.cell n c hc) fun h' hc' hs'=>h _ ⟨⟨⟨?_,y.toInCall.ns.sameBut hs' (Nat.ne_of_lt hLc),fun b ob e=>?_,y.toInCall.fresh⟩,fun k c' hk'=>?_,y.apart,y.above⟩,o,(hs'.2 _ (Nat.ne_of_lt hLc)).trans ho,ho2⟩
 ·obtain ⟨h₁,tk,rfl⟩:=y.toInCall.same;exact ⟨h',_,rfl⟩
 ·exact hs'.extBut b ob (Nat.ne_of_lt (Nat.lt_trans (Nat.lt_of_lt_of_le (Heap.lt_size e) y.toInCall.fresh) hLc)) (y.toInCall.keep b ob e)
 ·by_cases hkn:k=n
  ·clear h hl;subst hkn
   rw [hc] at hk';clear hs' hLc;cases hk'
   simpa using hc'
  ·rw [if_neg hkn]
   exact (y.cell k c' hk').sameBut hs' fun e=>hkn (name_of_addr y.apart (mem_of_lookup hk') (e▸mem_of_lookup hc))
theorem InF.binds (f:Str×Value→PUnit→Sem (ForInStep PUnit)) (hf:∀ n v u,f (n,v) u=(do storeName env n v;pure (.yield ⟨⟩))) (hk:env.scope.kind=.function) :
  ∀ (bs:List (Str×Value)) (m cm:Str→Option Value) (s:Shared) (Q:PUnit→Shared→Prop),InF s₀ env.locals m env.cells cm s →
   (∀ x∈bs,env.kindOf x.1=some .local∨(env.kindOf x.1=some .cell∧(env.cells.lookup x.1).isSome=true)) →
   (∀ s',InF s₀ env.locals (bindL env.kindOf bs m) env.cells (bindC env.kindOf bs cm) s'→Q ⟨⟩ s')→wpAny M A (forIn bs ⟨⟩ f) Q E s:=by
 intro bs
 induction bs with
 | nil=>intro m cm s Q x _ h;rw [List.forIn_nil];exact wpAny_pure (h s x)
 | cons p r ih =>
  intro m cm s Q x hkind h
  obtain ⟨n,v⟩:=p
  rw [List.forIn_cons,hf]
  have hr:∀ y∈r,env.kindOf y.1=some .local∨(env.kindOf y.1=some .cell∧(env.cells.lookup y.1).isSome=true):=fun y hy=>hkind y (List.mem_cons_of_mem _ hy)
  rcases hkind (n,v) List.mem_cons_self with hl | ⟨hl,hc⟩
  ·refine wpAny_bind (wpAny_bind (x.loc hk hl fun s' x'=>wpAny_pure (ih _ _ s' Q x' hr fun s'' x''=>h s'' ?_)))
   simpa only [bindL,bindC,if_pos hl] using x''
  ·refine e1_1 (Option.isSome_iff_exists.mp hc) ?_
   intro c hc
   have hnl:¬ env.kindOf n=some .local:=by rw [hl];decide
   refine wpAny_bind (wpAny_bind (x.cel hk hl hc fun s' x'=>wpAny_pure (ih _ _ s' Q x' hr fun s'' x''=>h s'' ?_)))
   simpa only [bindL,bindC,if_neg hnl] using x''
theorem newEnvF {scope:Scope} {globals:Addr} {bs:List (Str×Value)} {qual:Str} {func:Option Addr} {code:Value} {builtins:Addr} {Q:Env→Shared→Prop}
  (hk:scope.kind=.function)
  (hkind:∀ x∈bs,scope.names.lookup x.1=some .local∨(scope.names.lookup x.1=some .cell∧((cellsFrom (s.heap.objs.size+1) scope.names []).lookup x.1).isSome=true))
  (hQ:∀ env,env=newEnv scope s.heap.objs.size globals (cellsFrom (s.heap.objs.size+1) scope.names []) qual func code none builtins →
   ∀ s',InF s env.locals (bindL env.kindOf bs fun _=>none) env.cells (bindC env.kindOf bs fun _=>none) s'→Q env s') :
  wpAny M A (newFunctionEnv scope globals [] bs qual func code none builtins) Q E s:=by
 simp only [newFunctionEnv,Option.isSome_none,Bool.false_eq_true,if_false]
 refine wpAny_bind (wpAny_alloc ?_)
 refine wpAny_bind (wpAny_layCells _ (fun name kind cells=>by cases hkc:kind == NameKind.cell <;> simp [hkc]) _ _ _ _ ?_)
 have ok:=cellsFrom_ok scope.names (s.heap.push { cls:=.type "frame",data:=.dict #[] }) (s.heap.objs.size+1) [] ⟨fun _ _ hm=>(nomatch hm),List.Pairwise.nil⟩ (by rw [Heap.size_push];exact Nat.le_refl _)
 rw [Heap.size_push] at ok
 rw [show ({ s with heap:=s.heap.push { cls:=.type "frame",data:=.dict #[] } }:Shared).heap.objs.size=s.heap.objs.size+1 from Heap.size_push ..]
 have hL:(pushCells (s.heap.push { cls:=.type "frame",data:=.dict #[] }) scope.names).get? s.heap.objs.size=some { cls:=.type "frame",data:=.dict #[] }:=pushCells_keeps _ _ _ _ (Heap.get?_push_size _ rfl)
 refine wpAny_bind (InF.binds (s₀:=s) (env:=newEnv scope s.heap.objs.size globals (cellsFrom (s.heap.objs.size+1) scope.names []) qual func code none builtins)
  _ (fun _ _ _=>rfl) hk bs (fun _=>none) (fun _=>none) _ _
  ⟨⟨⟨⟨_,_,rfl⟩,(Heap.Ns.new s.heap (.type "frame")).keeps (pushCells_keeps _ _),fun b o e=>pushCells_keeps _ _ b o (Heap.get?_push_of_some _ e),Nat.le_refl _⟩,
   fun n c hn=>(ok.empty n c (mem_of_lookup hn)).1,ok.apart,fun n c hm=>(ok.empty n c hm).2⟩,_,hL,rfl⟩ hkind fun s' x=>wpAny_pure (hQ _ rfl s' x))
end
inductive Ag where
 | im (d:D)
 | ct (c:Cont)
inductive Rs where
 | im (d:D)
 | fr (c:Cont)
noncomputable def Ag.sl:Ag→Sl
 | .im d=>.im d
 | .ct c=>.fz c
noncomputable def AV.ag:AV→Ag
 | .im d=>.im d
 | .ct _ c=>.ct c
noncomputable def Rs.av:Rs→AV
 | .im d=>.im d
 | .fr c=>.ct .fr c
section
variable {B:Bs} {F:Fi} {X:Str→Prop} {n:Nat} {ρ:List (Option Sl)}
noncomputable def AgR (B:Bs) (h:Heap) (v:Value):Ag→Prop
 | .im d=>Im h v d
 | .ct c=>∃ a,Vw h v a c∧ContAt B h a c
theorem VR.ag {env oa} {s s':Shared} {v:Value} {r:AV} (x:VR B env oa s s' v r):AgR B s'.heap v r.ag:=by
 cases r with
 | im d=>exact x
 | ct m c=>exact x.cont
noncomputable def RsR (B:Bs) (s s':Shared) (v:Value):Rs→Prop
 | .im d=>Im s'.heap v d
 | .fr c=>∃ a,Vw s'.heap v a c∧ContAt B s'.heap a c∧s.heap.get? a=none
theorem RsR.vr {env oa} {s s':Shared} {v:Value} {q:Rs} (x:RsR B s s' v q):VR B env oa s s' v q.av:=by
 cases q <;> exact x
noncomputable def CallPo (B:Bs) (X:Str→Prop) (Q:Rs→Prop) (s:Shared):Result→Shared→Prop
 | .ok (.ret v),s'=>∃ q,Q q∧Kp B s s'∧RsR B s s' v q
 | .ok _,_=>False
 | .error e,s'=>EP B X s e s'
noncomputable def Spec (B:Bs) (f:Str) (X:Str→Prop) (n:Nat) (ags:List Ag) (Q:Rs→Prop):Prop :=
 ∃ fa o fd,B.mg f=some (.ref fa)∧B.hB.get? fa=some o∧o.data=.func fd ∧
  ∀ A s vs,Bas B s→Ar B A n s→vs.length=ags.length→(∀ (i:Nat) v g,vs[i]?=some v→ags[i]?=some g→AgR B s.heap v g) →
   codeAny (model B.prog B.w) A (.call (.ref fa) ⟨vs,[]⟩) (CallPo B X Q s) s
theorem Spec.mono {f ags} {X':Str→Prop} {m:Nat} {Q Q':Rs→Prop} (h:Spec B f X n ags Q) (hm:n≤m) (q:∀ r,Q r→Q' r) (hX:∀ c,X c→X' c):Spec B f X' m ags Q':=by
 refine e3_4 h ?_
 clear h
 intro fa o fd h1 h2 h3 h4
 refine ⟨fa,o,fd,h1,h2,h3,fun A s vs b a hl hv=>codeAny_mono (h4 A s vs b (a.le hm) hl hv) fun r s' x=>?_⟩
 cases r with
 | error e=>exact x
 | ok r=>cases r with
  | ret v=>obtain ⟨r,h5,h6⟩:=x;exact ⟨r,q r h5,h6⟩
  | next=>exact x.elim
  | brk=>exact x.elim
  | cont=>exact x.elim
theorem EW.call {f:Str} {p1:Pos} {e:Expr} {rest:List Expr} {pos:Pos} {Q:AV→Prop} (hk:F.scope.names.lookup f=some .globalImplicit)
  (h:LW B F X n ρ (e::rest) fun rs=>Spec B f X n (rs.map AV.ag) fun q=>Q q.av)
  (hf0:∃ fa o fd,B.mg f=some (.ref fa)∧B.hB.get? fa=some o∧o.data=.func fd)
  (he:∀ env,starEach (e::rest) env=(false,eval e env)::starEach rest env:=by intro _;rfl) (hd:(f == ("__debug__":Str))=false:=by decide) :
  EW B F X n ρ (.Call (.Name f p1) (e::rest) [] pos) Q:=by
 refine .mk ?_
 intro env oa A s R a
 refine e3_3 hf0 ?_
 clear hf0
 intro fa o fd h1 h2 h3
 have hkf:env.scope.kind=.function:=by rw [R.scope];exact F.fn
 have hx:env.kindOf f=some .globalImplicit:=by unfold Env.kindOf;rw [R.scope];exact hk
 have ks:∀ {s':Shared},(∀ b o,B.hB.get? b=some o→s'.heap.get? b=some o)→s'.heap.Ns env.globals B.mg:=fun q=>by rw [R.globals];exact B.g.keeps q
 refine wpAny_Call_ofName (Name_function_global hkf hx (loadGlobal_global (ks R.base) h1 ?_) hd)
 show wpAny _ _ (callWith pos (.ref fa) [] (backTo pos (starEach (e::rest) env)) []) _ _ s
 refine callWith_def h3 (wpAny_mono (h.go env oa A s pos R a) (fun vs s1 hz1=>?_) fun _ _ x=>x) (he env)
 refine e1_4 hz1 ?_
 clear hz1
 intro rs sp k1 hl hv
 have R1:=R.kp k1
 refine e3_4 sp ?_
 clear sp
 intro fa' o' fd' g1 g2 g3 g4
 rw [h1] at g1;clear g2 h1;cases g1
 refine ⟨R1.base _ _ h2,wpAny_call (codeAny_mono (g4 A s1 vs R1.base (a.kp k1) (by simp [hl]) fun i v g q1 q2=>?_) fun r s2 x=>?_)⟩
 ·rw [List.getElem?_map] at q2
  cases hq:rs[i]? with
  | none=>rw [hq] at q2;cases q2
  | some r=>rw [hq] at q2;cases q2;exact (hv i v r q1 hq).ag
 ·cases r with
  | ok f=>cases f with
   | ret v=>exact e1_3 x fun r h5 h6 h7=>⟨r.av,h5,k1.trans h6,(RsR.vr h7).back k1⟩
   | _=>exact x.elim
  | error e=>exact EP.back k1 x
end
noncomputable def RetOk (Q:Rs→Prop):Fl→List (Option Sl)→Prop
 | .ret (.im d),_=>Q (.im d)
 | .ret (.ct .fr c),_=>Q (.fr c)
 | .ret (.ct (.ow _) c),_=>Q (.fr c)
 | .ret (.ct .fz _),_=>False
 | .next,_=>Q (.im .none)
 | _,_=>False
structure FnAt (B:Bs) (f:Str) (names:List Str) (body:List Stmt) (scope:Scope):Prop where
 ex:∃ fa o fd,B.mg f=some (.ref fa)∧B.hB.get? fa=some o∧o.data=.func fd∧fd.body=.stmts body∧fd.scope=scope∧fd.globals=mainGlobals∧fd.closure=[]∧fd.builtins=builtinsNs ∧
  B.hB.CodeRec fd.code fd.qualname∧∀ vs,vs.length=names.length→bindArgs fd ⟨vs,[]⟩=pure (names.zip vs)
 co:scope.isCoroutine=false
 gen:scope.isGenerator=false
 cells:((cellsFrom 0 scope.names []).map (·.1)).Nodup
theorem bindL_lookup {kindOf:Str→Option NameKind} {x:Str} (hx:kindOf x=some .local):∀ (names:List Str) (vs:List Value) (m:Str→Option Value),names.Nodup→vs.length=names.length →
  ∀ (j:Nat),names[j]?=some x→∀ v,vs[j]?=some v→bindL kindOf (names.zip vs) m x=some v
 | [],_,_,_,_,j,h,_,_=>by simp at h
 | y::ys,[],_,_,hl,_,_,_,_=>by simp at hl
 | y::ys,u::us,m,nd,hl,0,h,v,hv=>by
  simp at h hv;(try clear hl);subst h;(try clear hl);subst hv
  simp only [List.zip_cons_cons,bindL,hx,if_true]
  have:∀ (names:List Str) (vs:List Value) (m:Str→Option Value),y∉names→bindL kindOf (names.zip vs) m y=m y:=by
   intro names
   induction names with
   | nil=>intro vs m _;rfl
   | cons z zs ih =>
    intro vs m hn
    simp only [List.mem_cons,not_or] at hn
    cases vs with
    | nil=>rfl
    | cons w ws =>
     dsimp only [List.zip_cons_cons,bindL]
     rw [ih ws _ hn.2]
     split
     ·simp [hn.1]
     ·rfl
  rw [this ys us _ (List.nodup_cons.mp nd).1];simp
 | y::ys,u::us,m,nd,hl,j+1,h,v,hv=>by
  dsimp only [List.zip_cons_cons,bindL]
  exact bindL_lookup hx ys us _ (List.nodup_cons.mp nd).2 (by simpa using hl) j (by simpa using h) v (by simpa using hv)
theorem bindC_lookup {kindOf:Str→Option NameKind} {x:Str} (hx:kindOf x≠some .local):∀ (names:List Str) (vs:List Value) (m:Str→Option Value),names.Nodup→vs.length=names.length →
  ∀ (j:Nat),names[j]?=some x→∀ v,vs[j]?=some v→bindC kindOf (names.zip vs) m x=some v
 | [],_,_,_,_,j,h,_,_=>by simp at h
 | y::ys,[],_,_,hl,_,_,_,_=>by simp at hl
 | y::ys,u::us,m,nd,hl,0,h,v,hv=>by
  simp at h hv;(try clear hl);subst h;(try clear hl);subst hv
  simp only [List.zip_cons_cons,bindC,if_neg hx]
  have:∀ (names:List Str) (vs:List Value) (m:Str→Option Value),y∉names→bindC kindOf (names.zip vs) m y=m y:=by
   intro names
   induction names with
   | nil=>intro vs m _;rfl
   | cons z zs ih =>
    intro vs m hn
    simp only [List.mem_cons,not_or] at hn
    cases vs with
    | nil=>rfl
    | cons w ws =>
     dsimp only [List.zip_cons_cons,bindC]
     rw [ih ws _ hn.2]
     split
     ·rfl
     ·simp [hn.1]
  rw [this ys us _ (List.nodup_cons.mp nd).1];simp
 | y::ys,u::us,m,nd,hl,j+1,h,v,hv=>by
  dsimp only [List.zip_cons_cons,bindC]
  exact bindC_lookup hx ys us _ (List.nodup_cons.mp nd).2 (by simpa using hl) j (by simpa using h) v (by simpa using hv)
noncomputable def LamAt (B:Bs) (f:Str):Prop:=∃ fa o fd c P,B.mg f=some (.ref fa)∧B.hB.get? fa=some o∧o.data=.func fd∧B.tab P∧fd.code=.ref c∧CodeHd B.hB c P∧(fd.qualname++".<locals>.")++"<lambda>"=B.qn P∧B.hB.BuiltinsAt B.mg P
theorem LamAt.env {B:Bs} {f:Str} {fa:Addr} {o:Obj} {fd:FuncData} (x:LamAt B f) (h1:B.mg f=some (.ref fa)) (h2:B.hB.get? fa=some o) (h3:o.data=.func fd):∀ env:Env,env.code=fd.code→env.qual=fd.qualname++".<locals>."→LamEnv B env:=fun env e1 e2=>by
 refine e5_8 x ?_
 clear x
 intro fa' o' fd' c P g1 g2 g3 g4 g5 g6 g7 g8
 rw [h1] at g1;clear h1;cases g1
 rw [h2] at g2;cases g2
 rw [h3] at g3;cases g3
 exact ⟨c,P,g4,e1.trans g5,g6,by rw [e2];exact g7,g8⟩
noncomputable def start (F:Fi) (ags:List Ag):List (Option Sl):=(ags.map fun g=>some g.sl)++List.replicate (F.vars.length-ags.length) none
theorem bodyCore {B:Bs} {F:Fi} {X:Str→Prop} {n:Nat} {names:List Str} {body:List Stmt} {fa:Addr} {o:Obj} {fd} {ρ0:List (Option Sl)} {oa0:Nat→Option Addr} {Q:Fl→List (Option Sl)→Prop} {A:Around} {s:Shared} {vs:List Value} {P:Result→Shared→Prop}
  (h2:B.hB.get? fa=some o) (h3:o.data=.func fd) (hb:fd.body=.stmts body) (hs:fd.scope=F.scope) (hg:fd.globals=mainGlobals) (hc:fd.closure=[]) (hbu:fd.builtins=builtinsNs)
  (hcd:B.hB.CodeRec fd.code fd.qualname) (hbind:∀ vs,vs.length=names.length→bindArgs fd ⟨vs,[]⟩=pure (names.zip vs)) (co:F.scope.isCoroutine=false) (gen:F.scope.isGenerator=false) (cells:((cellsFrom 0 F.scope.names []).map (·.1)).Nodup)
  (hv:(F.vars.map (·.1)).take names.length=names) (hnf:(F.vars.all fun x=>decide (x.2≠.fre))=true) (hlam:F.lam=true→∀ env:Env,env.code=fd.code→env.qual=fd.qualname++".<locals>."→LamEnv B env)
  (bas:Bas B s) (ar:Ar B A (n+1) s) (hlen':vs.length=names.length)
  (hoa:∀ i a,oa0 i=some a→B.hB.get? a=none∧∃ o,s.heap.get? a=some o) (hinj:∀ i j a,oa0 i=some a→oa0 j=some a→i=j)
  (hslots:∀ (env:Env) (h':Heap),Grow s.heap h'→(∀ b o,s.heap.get? b=some o→h'.get? b=some o)→(∀ b,Priv env b→s.heap.get? b=none)→(∀ (j:Nat) x k v,F.vars[j]?=some (x,k)→vs[j]?=some v→VarAt env h' x k v) →
   ∀ (j:Nat) x k sl,F.vars[j]?=some (x,k)→ρ0[j]?=some (some sl)→SlotOk B env oa0 h' j x k sl)
  (h:SWs B F X n ρ0 body Q)
  (hret:∀ env oa' ρ' fl v s',Q fl ρ'→Rp B F env oa' ρ' s'→KpW B (fun b=>∃ i,oa0 i=some b) s s'→OwnFrom s oa0 oa'→((fl=.next∧v=.none)∨∃ r,fl=.ret r∧VR B env oa' s s' v r)→P (.ok (.ret v)) s')
  (hbad:∀ ρ',¬ Q .brk ρ'∧¬ Q .cont ρ') (herr:∀ e s',EPW B (fun b=>∃ i,oa0 i=some b) X s e s'→P (.error e) s') :
  codeAny (model B.prog B.w) A (.call (.ref fa) ⟨vs,[]⟩) P s:=by
 have hk:fd.scope.kind=.function:=by rw [hs];exact F.fn
 refine codeAny_call_function (ul0 ar.depth) (bas _ _ h2) h3 (hs▸co) (hs▸gen) hb (hcd.keeps bas) ?_
 rw [hbind vs hlen']
 refine wpAny_pure ?_
 rw [hc]
 have nd:names.Nodup:=by rw [← hv];exact List.Sublist.nodup (List.take_sublist _ _) F.nodup
 have place:∀ (j:Nat) x,names[j]?=some x→∃ k,F.vars[j]?=some (x,k):=fun j x hj=>by
  rw [← hv,List.getElem?_take] at hj
  split at hj
  ·rw [List.getElem?_map] at hj
   cases hq:F.vars[j]? with
   | none=>rw [hq] at hj;cases hj
   | some p=>rw [hq] at hj;obtain ⟨y,k⟩:=p;cases hj;exact ⟨k,rfl⟩
  ·cases hj
 have nofre:∀ (j:Nat) x k,F.vars[j]?=some (x,k)→k≠.fre:=fun j x k hj=>by
  have:=List.all_eq_true.mp hnf _ (List.mem_of_getElem? hj);simpa using this
 have cellAt:∀ (m j:Nat) x,F.vars[j]?=some (x,.cel)→((cellsFrom m fd.scope.names []).lookup x).isSome=true:=fun m j x hj =>
  cellsFrom_some _ _ _ (.inl (by rw [hs];exact (F.at hj).1))
 refine newEnvF hk (fun p hp=>?_) fun env he s1 xf=>?_
 ·refine e1_1 (List.mem_iff_getElem?.mp hp) ?_
  intro j hj
  rw [List.getElem?_zip_eq_some] at hj
  refine e1_1 (place j p.1 hj.1) ?_
  intro k hk'
  cases k with
  | loc=>exact .inl (by rw [hs];exact (F.at hk').1)
  | cel=>exact .inr ⟨by rw [hs];exact (F.at hk').1,cellAt _ j p.1 hk'⟩
  | fre=>exact (nofre j p.1 _ hk' rfl).elim
 have x:=xf.c
 have kk:=x.toInCall.keep
 refine ⟨(B.lim.keeps bas).keeps kk,codeAny_func ?_⟩
 refine e2_2 x.done ?_
 intro h' tk ez1 _
 clear a herr;subst ez1
 have hloc:env.locals=s.heap.objs.size:=by rw [he];rfl
 have hfr:env.frame=some env.locals:=by rw [he];rfl
 have hsc:env.scope=F.scope:=by rw [he];exact hs
 have hgl:env.globals=mainGlobals:=by rw [he];exact hg
 have hbt:env.builtins=builtinsNs:=by rw [he];exact hbu
 have hcl:env.cells=cellsFrom (s.heap.objs.size+1) fd.scope.names []:=by rw [he];rfl
 have k01:Kp B s { s with heap:=h',toks:=tk }:=Kp.of kk
 have newAt:∀ a,s.heap.objs.size≤a→s.heap.get? a=none:=fun a ha=>by
  cases e:s.heap.get? a with
  | none=>rfl
  | some o=>exact absurd (Heap.lt_size e) (Nat.not_lt.mpr ha)
 have newB:∀ a,s.heap.get? a=none→B.hB.get? a=none:=fun a ha=>by
  cases e:B.hB.get? a with
  | none=>rfl
  | some o=>rw [bas a o e] at ha;clear e;cases ha
 have privS:∀ a,Priv env a→s.heap.get? a=none:=by
  rintro a (q | q)
  ·exact newAt a (by rw [q,hloc];exact Nat.le_refl _)
  ·refine e1_2 (List.mem_map.mp q.2) ?_
   intro p hp ez2
   subst ez2
   have:=x.above p.1 p.2 hp
   rw [hloc] at this
   exact newAt _ (Nat.le_of_lt this)
 have cnames:(env.cells.map (·.1)).Nodup:=by rw [hcl];exact cellsFrom_names fd.scope.names 0 (s.heap.objs.size+1) [] [] rfl▸(hs▸cells)
 have R:Rp B F env oa0 ρ0 { s with heap:=h',toks:=tk }:=by
  refine ⟨fun b o e=>kk b o (bas b o e),hsc,hgl,hbt,(fun q=>hlam q env (by rw [he];rfl) (by rw [he];rfl)),⟨_,x.toInCall.ns⟩,fun j y k hj hne=>?_,fun y z c hy hz=>?_,fun y c hm=>?_,fun y c hm=>?_,?_,hslots env h' k01.tups kk privS ?_,hinj,fun i a q=>?_⟩
  ·cases k with
   | loc=>exact (hne rfl).elim
   | fre=>exact (nofre j y _ hj rfl).elim
   | cel =>
    refine e1_1 (Option.isSome_iff_exists.mp (cellAt (s.heap.objs.size+1) j y hj)) ?_
    intro c hc'
    rw [← hcl] at hc'
    exact ⟨c,_,hc',x.cell y c hc',fun _=>x.above y c (mem_of_lookup hc')⟩
  ·exact name_of_addr x.apart (mem_of_lookup hy) (mem_of_lookup hz)
  ·exact Nat.ne_of_gt (x.above y c hm)
  ·exact ⟨_,x.cell y c (lookup_of_mem_nodup cnames hm)⟩
  ·exact fun a q=>newB a (privS a q)
  ·-- a parameter
   intro j y k v hj hvj
   have hjl:j<names.length:=by
    have:=(List.getElem?_eq_some_iff.mp hvj).1
    lia
   obtain ⟨z,hz⟩:∃ z,names[j]?=some z:=⟨names[j]'hjl,List.getElem?_eq_getElem hjl⟩
   refine e1_1 (place j z hz) ?_
   intro k2 hk2
   rw [hk2] at hj;cases hj
   have hkind:env.kindOf y=some k.kind:=by unfold Env.kindOf;rw [hsc];exact (F.at hk2).1
   cases k with
   | loc=>exact ⟨_,x.toInCall.ns,bindL_lookup hkind names vs _ nd hlen' j hz v hvj⟩
   | fre=>exact (nofre j y _ hk2 rfl).elim
   | cel =>
    refine e1_1 (Option.isSome_iff_exists.mp (cellAt (s.heap.objs.size+1) j y hk2)) ?_
    intro c hc'
    rw [← hcl] at hc'
    have:=x.cell y c hc'
    rw [bindC_lookup (by rw [hkind];decide) names vs _ nd hlen' j hz v hvj] at this
    exact ⟨c,hc',this⟩
  ·refine e0_2 (hoa i a q) ?_
   intro h5 ez3
   refine e1_1 ez3 ?_
   clear ez3
   intro o5 h6
   refine ⟨fun q'=>?_,h5,o5,kk _ _ h6⟩
   rw [privS a q'] at h6;cases h6
 have hLo:∃ o es ep,h'.get? env.locals=some o∧o.cls=.type "frame"∧o.data=.dict es ep:=by
  refine e1_2 xf.f ?_
  intro o ho hcl'
  refine e3_3 x.toInCall.ns ?_
  intro o' es ep ho' hd _
  rw [ho] at ho';cases ho'
  exact ⟨o,es,ep,ho,hcl',hd⟩
 have ar':Ar B (A.deeper env) n { s with heap:=h',toks:=tk }:=by
  refine e1_3 ar.frames ?_
  intro l f1 f2 f3
  have f2':=FunFrames.kp k01 f2
  refine ⟨ul1 ar.depth,ul3 ar.units,ar.handled,⟨env::l,by show A.frames.map (env::·)=_;rw [f1];rfl,?_,?_⟩,k01.tabs ar.tabs⟩
  ·refine e3_3 hLo ?_
   clear hLo
   intro o es ep ho _ hd
   exact ⟨by rw [hsc,F.fn];decide,⟨env.locals,o,hfr,newB _ (privS _ (.inl rfl)),ho,fun vs q=>by rw [hd] at q;clear hd;cases q⟩,f2'⟩
  ·intro L hL
   rw [List.filterMap_cons,hfr] at hL
   rcases List.mem_cons.mp hL with rfl | hL
   ·exact hLo
   ·refine e3_2 (f3 L hL) ?_
    intro o es ep ho q
    exact ⟨o,es,ep,kk _ _ ho,q⟩
 have fw:∀ b,FW env oa0 b→((∃ i,oa0 i=some b)∨s.heap.get? b=none):=by
  rintro b (q | ⟨i,q⟩)
  ·exact .inr (privS b q)
  ·exact .inl ⟨i,q⟩
 have hdd:Hd (A.deeper env) env:=by
  refine e1_2 ar.frames ?_
  intro l f1 _
  exact ⟨⟨l,by show A.frames.map (env::·)=some (env::l);rw [f1];rfl⟩,hfr⟩
 refine wpAny_mono (h.go env oa0 (A.deeper env) _ hdd R ar') (fun fl s' hp=>?_) fun e s' he'=>?_
 ·refine e3_5 hp ?_
  clear hp
  intro fl' ρ' oa' q1 q2 q3 q4 q5
  have k:KpW B (fun b=>∃ i,oa0 i=some b) s s':=KpW.trans (Kp.toW k01) q4 fw
  have o5:OwnFrom s oa0 oa':=fun i a q=>(q5 i a q).imp (fun x=>x) fun y=>k01.fresh y
  cases fl with
  | next=>cases fl' with
   | next=>exact hret env oa' ρ' _ _ s' q1 q3 k o5 (.inl ⟨rfl,rfl⟩)
   | _=>exact q2.elim
  | brk=>cases fl' with
   | brk=>exact ((hbad ρ').1 q1).elim
   | _=>exact q2.elim
  | cont=>cases fl' with
   | cont=>exact ((hbad ρ').2 q1).elim
   | _=>exact q2.elim
  | ret v=>cases fl' with
   | ret r=>exact hret env oa' ρ' _ _ s' q1 q3 k o5 (.inr ⟨r,rfl,VR.back k01 q2⟩)
   | _=>exact q2.elim
 ·exact he'.elim
theorem Spec.of_body {B:Bs} {F:Fi} {X:Str→Prop} {n:Nat} {f:Str} {names:List Str} {body:List Stmt} {ags:List Ag} {Q:Rs→Prop}
  (hf:FnAt B f names body F.scope) (hv:(F.vars.map (·.1)).take names.length=names) (hnf:(F.vars.all fun x=>decide (x.2≠.fre))=true) (hl:ags.length=names.length)
  (h:SWs B F X n (start F ags) body (RetOk Q)) (hlam:F.lam=true→LamAt B f:=by intro q;cases q):Spec B f X (n+1) ags Q:=by
 refine e3_10 hf.ex ?_
 intro fa o fd h1 h2 h3 hb hs hg hc hbu hcd hbind
 refine ⟨fa,o,fd,h1,h2,h3,fun A s vs bas ar hlen hargs=>?_⟩
 have kp:∀ {s'},KpW B (fun b=>∃ i:Nat,(none:Option Addr)=some b) s s'→Kp B s s':=fun k=>k.mono fun b q=>by obtain ⟨_,q⟩:=q;cases q
 refine bodyCore (oa0:=fun _=>none) h2 h3 hb hs hg hc hbu hcd hbind hf.co hf.gen hf.cells hv hnf (fun q=>(hlam q).env h1 h2 h3) bas ar (hlen.trans hl) (fun _ _ q=>by cases q) (fun _ _ _ q=>by cases q) (fun env h' g01 kk privS hvar j y k sl hj hρ=>?_) h (fun env oa' ρ' fl v s' q1 q3 k q5 hr=>?_) (fun _=>⟨fun q=>q,fun q=>q⟩) (fun e s' x=>?_)
 ·have hj':j<ags.length:=by
   by_cases q:j<ags.length
   ·exact q
   ·unfold start at hρ
    rw [List.getElem?_append_right (by simpa using Nat.le_of_not_lt q),List.getElem?_replicate] at hρ
    split at hρ <;> cases hρ
  unfold start at hρ
  rw [List.getElem?_append_left (by simpa using hj'),List.getElem?_map] at hρ
  obtain ⟨g,hg'⟩:∃ g,ags[j]?=some g:=⟨ags[j],List.getElem?_eq_getElem hj'⟩
  rw [hg'] at hρ;cases hρ
  obtain ⟨v,hvj⟩:∃ v,vs[j]?=some v:=⟨vs[j]'(by lia),List.getElem?_eq_getElem (by lia)⟩
  have har:=hargs j v g hvj hg'
  cases g with
  | im d=>exact ⟨v,hvar j y k v hj hvj,Im.grow g01 har⟩
  | ct c =>
   refine e1_2 har ?_
   clear har
   intro a hva hca
   refine ⟨a,.of (hvar j y k _ hj hvj) (hva.grow g01),hca.of_same (fun o e _=>kk _ _ e) g01,?_⟩
   rintro (q | ⟨_,q⟩)
   ·refine e1_1 hca.exists ?_
    intro o ho
    rw [privS a q] at ho;cases ho
   ·clear hca hva;cases q
 ·rcases hr with ⟨rfl,rfl⟩ | ⟨r,rfl,hr⟩
  ·exact ⟨.im .none,q1,kp k,.none⟩
  ·cases r with
   | im d=>exact ⟨.im d,q1,kp k,hr⟩
   | ct m c=>cases m with
    | fz=>exact q1.elim
    | fr=>exact ⟨.fr c,q1,kp k,hr⟩
    | ow i =>
     refine e1_3 hr ?_
     clear hr
     intro a e1 e2 e3
     rcases q5 i a e3 with ⟨_,q⟩ | q
     ·clear e3 e2 e1;cases q
     ·exact ⟨.fr c,q1,kp k,a,e1,e2,q⟩
 ·exact x
end Mine
end

section
open PySem PySem.W PyProof.Rows PySem.Calls
set_option backward.match.sparseCases false
set_option tactic.hygienic false
namespace Mine
section
variable {B:Bs} {n:Nat}
theorem VR.int {env oa} {s s':Shared} {v:Value} {i:Int} (x:VR B env oa s s' v (.im (.int i))):∃ t,v=.int i t:=by cases x;exact ⟨_,rfl⟩
theorem VR.str {env oa} {s s':Shared} {v:Value} {i:Str} (x:VR B env oa s s' v (.im (.str i))):∃ t,v=.str i t:=by cases x;exact ⟨_,rfl⟩
theorem VR.bool {env oa} {s s':Shared} {v:Value} {i:Bool} (x:VR B env oa s s' v (.im (.bool i))):v=.bool i:=by cases x;rfl
theorem VR.none {env oa} {s s':Shared} {v:Value} (x:VR B env oa s s' v (.im .none)):v=.none:=by cases x;rfl
theorem VR.tup {env oa} {s s':Shared} {v:Value} {l:List D} (x:VR B env oa s s' v (.im (.tup l))):∃ a o vs m,v=.ref a∧s'.heap.get? a=some o∧o.cls=.type "tuple"∧o.data=.seq vs m∧Ims s'.heap vs.toList l:=by
 cases x with
 | tup h1 h2 h3 h4=>exact ⟨_,_,_,_,rfl,h1,h2,h3,h4⟩
theorem BinS.add (a b:Int):BinS B n .Add (.im (.int a)) (.im (.int b)) (.im (.int (a+b))):=fun env oa A s0 s vx vy E bs ar x y=>by
 obtain ⟨t,rfl⟩:=x.int;obtain ⟨u,rfl⟩:=y.int
 exact PyProof.Rows.add_int ⟨Kp.toks,Im.int _ _⟩
theorem BinS.sub (a b:Int):BinS B n .Sub (.im (.int a)) (.im (.int b)) (.im (.int (a-b))):=fun env oa A s0 s vx vy E bs ar x y=>by
 obtain ⟨t,rfl⟩:=x.int;obtain ⟨u,rfl⟩:=y.int
 exact PyProof.Rows.sub_int ⟨Kp.toks,Im.int _ _⟩
theorem BinS.mul {a b:Int} (hm:IntMulOk a b):BinS B n .Mult (.im (.int a)) (.im (.int b)) (.im (.int (a*b))):=fun env oa A s0 s vx vy E bs ar x y=>by
 obtain ⟨t,rfl⟩:=x.int;obtain ⟨u,rfl⟩:=y.int
 exact PyProof.Rows.mul_int ⟨Kp.toks,Im.int _ _⟩ hm
theorem BinS.mod {a b:Int} (hb:b≠0):BinS B n .Mod (.im (.int a)) (.im (.int b)) (.im (.int (a.fmod b))):=fun env oa A s0 s vx vy E bs ar x y=>by
 obtain ⟨t,rfl⟩:=x.int;obtain ⟨u,rfl⟩:=y.int
 exact PyProof.Rows.mod_int hb ⟨Kp.toks,Im.int _ _⟩
theorem BinS.fdiv {a b:Int} (hb:b≠0) (hp:b.natAbs.log2<9000):BinS B n .FloorDiv (.im (.int a)) (.im (.int b)) (.im (.int (a.fdiv b))):=fun env oa A s0 s vx vy E bs ar x y=>by
 obtain ⟨t,rfl⟩:=x.int;obtain ⟨u,rfl⟩:=y.int
 exact PyProof.Rows.floordiv_int hb ⟨Kp.toks,Im.int _ _⟩ (.inl (PyProof.noPylong_of_log2 hp))
theorem UnS.neg (a:Int):UnS B n .USub (.im (.int a)) (.im (.int (-a))):=fun env oa A s0 s vx E bs ar x=>by
 refine e1_1 x.int ?_
 intro t ez1
 clear x;subst ez1
 exact PyProof.Rows.neg_int ⟨Kp.toks,Im.int _ _⟩
theorem CmpS.eqI (a b:Int):CmpS B n .Eq (.im (.int a)) (.im (.int b)) (a == b):=fun env oa A s0 s vx vy E bs ar x y=>by
 obtain ⟨t,rfl⟩:=x.int;obtain ⟨u,rfl⟩:=y.int
 exact PyProof.Rows.eq_int ⟨rfl,Kp.refl _⟩
theorem CmpS.neI (a b:Int):CmpS B n .NotEq (.im (.int a)) (.im (.int b)) (a != b):=fun env oa A s0 s vx vy E bs ar x y=>by
 obtain ⟨t,rfl⟩:=x.int;obtain ⟨u,rfl⟩:=y.int
 exact PyProof.Rows.ne_int ⟨rfl,Kp.refl _⟩
theorem CmpS.ltI (a b:Int):CmpS B n .Lt (.im (.int a)) (.im (.int b)) (decide (a<b)):=fun env oa A s0 s vx vy E bs ar x y=>by
 obtain ⟨t,rfl⟩:=x.int;obtain ⟨u,rfl⟩:=y.int
 exact PyProof.Rows.lt_int ⟨rfl,Kp.refl _⟩
theorem CmpS.gtI (a b:Int):CmpS B n .Gt (.im (.int a)) (.im (.int b)) (decide (b<a)):=fun env oa A s0 s vx vy E bs ar x y=>by
 obtain ⟨t,rfl⟩:=x.int;obtain ⟨u,rfl⟩:=y.int
 exact PyProof.Rows.gt_int ⟨rfl,Kp.refl _⟩
theorem CmpS.leI (a b:Int):CmpS B n .LtE (.im (.int a)) (.im (.int b)) (decide (a≤b)):=fun env oa A s0 s vx vy E bs ar x y=>by
 obtain ⟨t,rfl⟩:=x.int;obtain ⟨u,rfl⟩:=y.int
 exact PyProof.Rows.le_int ⟨rfl,Kp.refl _⟩
theorem CmpS.geI (a b:Int):CmpS B n .GtE (.im (.int a)) (.im (.int b)) (decide (b≤a)):=fun env oa A s0 s vx vy E bs ar x y=>by
 obtain ⟨t,rfl⟩:=x.int;obtain ⟨u,rfl⟩:=y.int
 exact PyProof.Rows.ge_int ⟨rfl,Kp.refl _⟩
theorem TruS.bool (b:Bool):TruS B n (.im (.bool b)) b:=fun env oa A s0 s vx E bs ar x=>by
 rw [x.bool];exact wpAny_truthy_bool ⟨rfl,Kp.refl _⟩
theorem TruS.int (a:Int):TruS B n (.im (.int a)) (a != 0):=fun env oa A s0 s vx E bs ar x=>by
 refine e1_1 x.int ?_
 intro t ez2
 clear x;subst ez2
 exact PyProof.Rows.truthy_int ⟨rfl,Kp.refl _⟩
theorem UnS.not {x:AV} {b:Bool} (h:TruS B n x b):UnS B n .Not x (.im (.bool (!b))):=fun env oa A s0 s vx E bs ar x' =>
 PyProof.Rows.not_of (wpAny_mono (h env oa A s0 s vx E bs ar x') (fun v s' hz1=>by obtain ⟨e,k⟩:=hz1;clear h;subst e;exact ⟨k,Im.bool _⟩) fun _ _ x=>x)
theorem CmpS.eqS (a b:Str):CmpS B n .Eq (.im (.str a)) (.im (.str b)) (a == b):=fun env oa A s0 s vx vy E bs ar x y=>by
 obtain ⟨t,rfl⟩:=x.str;obtain ⟨u,rfl⟩:=y.str
 exact PyProof.Rows.eq_str ⟨rfl,Kp.refl _⟩
theorem CmpS.neS (a b:Str):CmpS B n .NotEq (.im (.str a)) (.im (.str b)) (a != b):=fun env oa A s0 s vx vy E bs ar x y=>by
 obtain ⟨t,rfl⟩:=x.str;obtain ⟨u,rfl⟩:=y.str
 exact PyProof.Rows.ne_str ⟨rfl,Kp.refl _⟩
theorem BinS.addS {a b:Str} (h:a.length+b.length≤sizeLine):BinS B n .Add (.im (.str a)) (.im (.str b)) (.im (.str (a++b))):=fun env oa A s0 s vx vy E bs ar x y=>by
 obtain ⟨t,rfl⟩:=x.str;obtain ⟨u,rfl⟩:=y.str
 exact PyProof.Rows.add_str (fun t' tk=>⟨Kp.toks,Im.str _ _⟩) h
end
end Mine
end

section
open PySem PySem.W PyProof.Rows PySem.Calls
set_option backward.match.sparseCases false
set_option tactic.hygienic false
namespace Mine
section
variable {B:Bs} {F:Fi} {X:Str→Prop} {n:Nat} {ρ:List (Option Sl)}
theorem loadBuiltin {env oa A s} {f:Str} {fv:Value} {Q:Value→Shared→Prop} {E} (R:Rp B F env oa ρ s) (hk:F.scope.names.lookup f=some .globalImplicit) (hm:B.mg f=none) (hb:bootBuiltins f=some fv)
  (h:Q fv s) {pos} (hn:f≠"__name__":=by decide) (hd:(f == ("__debug__":Str))=false:=by decide):wpAny (model B.prog B.w) A (eval (.Name f pos) env) Q E s:=by
 have hkf:env.scope.kind=.function:=by rw [R.scope];exact F.fn
 have hx:env.kindOf f=some .globalImplicit:=by unfold Env.kindOf;rw [R.scope];exact hk
 exact Name_function_global hkf hx (loadGlobal_builtin (by rw [R.globals];exact B.g.keeps R.base) hm (by rw [R.builtins];exact B.b.keeps R.base) ((B.bu f hn).trans hb) h) hd
theorem EW.glob {x:Str} {pos} {Q:AV→Prop} {v:Value} {d:D} (hk:F.scope.names.lookup x=some .globalImplicit) (hm:B.mg x=some v) (hv:Im B.hB v d) (h:Q (.im d)) (hd:(x == ("__debug__":Str))=false:=by decide) :
  EW B F X n ρ (.Name x pos) Q:=by
 refine .mk ?_
 intro env oa A s R a
 have hkf:env.scope.kind=.function:=by rw [R.scope];exact F.fn
 have hx:env.kindOf x=some .globalImplicit:=by unfold Env.kindOf;rw [R.scope];exact hk
 exact Name_function_global hkf hx (loadGlobal_global (by rw [R.globals];exact B.g.keeps R.base) hm ⟨_,h,Kp.refl _,hv.grow fun b o _ _ e _ _=>R.base b o e⟩) hd
noncomputable def BuiS (B:Bs) (n:Nat) (fv:Value) (xs:List AV) (z:AV):Prop :=
 ∀ env oa A s0 s vs (E:Value→Shared→Prop),Bas B s→Ar B A n s→vs.length=xs.length→(∀ (i:Nat) v r,vs[i]?=some v→xs[i]?=some r→VR B env oa s0 s v r) →
  wpAny (model B.prog B.w) A (PySem.call fv vs) (fun v s'=>Kp B s s'∧VR B env oa s s' v z) E s
noncomputable def IsCallee:Value→Prop
 | .builtin _=>True
 | .type _=>True
 | _=>False
theorem EW.bcall {f:Str} {p1:Pos} {e:Expr} {rest:List Expr} {pos:Pos} {Q:AV→Prop} {fv:Value} (hk:F.scope.names.lookup f=some .globalImplicit) (hm:B.mg f=none) (hb:bootBuiltins f=some fv) (hc:IsCallee fv)
  (h:LW B F X n ρ (e::rest) fun rs=>∃ z,BuiS B n fv rs z∧Q z)
  (he:∀ env,starEach (e::rest) env=(false,eval e env)::starEach rest env:=by intro _;rfl) (hp:∀ env,(backTo pos (starEach rest env)).any (·.1)=false:=by intro _;rfl)
  (hn:f≠"__name__":=by decide) (hd:(f == ("__debug__":Str))=false:=by decide) :
  EW B F X n ρ (.Call (.Name f p1) (e::rest) [] pos) Q:=by
 refine .mk ?_
 intro env oa A s R a
 refine wpAny_Call_ofName (loadBuiltin R hk hm hb ?_ hn hd)
 have go:wpAny (model B.prog B.w) A (spliced (backTo pos (starEach (e::rest) env))) (fun vs s₁=>wpAny (model B.prog B.w) A (PySem.call fv vs) (fun v s'=>∃ r,Q r∧Kp B s s'∧VR B env oa s s' v r) (EP B X s) s₁) (EP B X s) s :=
  wpAny_mono (h.go env oa A s pos R a) (fun vs s1 hz9=>e1_4 hz9 fun rs hz8 k1 hl hv=>e1_2 hz8 fun z hz q =>
   wpAny_mono (hz env oa A s s1 vs _ (R.kp k1).base (a.kp k1) hl hv) (fun v s2 hz2=>e0_2 hz2 fun k2 x2=>⟨z,q,k1.trans k2,x2.back k1⟩) fun _ _ x=>x) fun _ _ x=>x
 cases fv with
 | builtin id=>exact callWith_builtin1 go (he env) (hp env)
 | type T=>exact PyProof.Rows.callWith_type1 go (he env) (hp env)
 | _=>exact hc.elim
theorem len1 {α:Type} {l:List α} (h:l.length=1):∃ a,l=[a]:=List.length_eq_one_iff.mp h
theorem lenS' {α:Type} {n:Nat} {l:List α} (h:l.length=n+1):∃ a r,l=a::r∧r.length=n:=by
 cases l with
 | nil=>cases h
 | cons a r=>exact ⟨a,r,rfl,Nat.succ.inj h⟩
theorem len2 {α:Type} {l:List α} (h:l.length=2):∃ a b,l=[a,b]:=by obtain ⟨a,_,e,h⟩:=lenS' h;obtain ⟨b,e'⟩:=len1 h;exact ⟨a,b,e'▸ e⟩
theorem len3 {α:Type} {l:List α} (h:l.length=3):∃ a b c,l=[a,b,c]:=by obtain ⟨a,_,e,h⟩:=lenS' h;obtain ⟨b,c,e'⟩:=len2 h;exact ⟨a,b,c,e'▸e⟩
theorem len4 {α:Type} {l:List α} (h:l.length=4):∃ a b c d,l=[a,b,c,d]:=by obtain ⟨a,_,e,h⟩:=lenS' h;obtain ⟨b,c,d,e'⟩:=len3 h;exact ⟨a,b,c,d,e'▸e⟩
theorem BuiS.one {fv:Value} {x z:AV} (h:∀ env oa A s0 s v (E:Value→Shared→Prop),Bas B s→Ar B A n s→VR B env oa s0 s v x→wpAny (model B.prog B.w) A (PySem.call fv [v]) (fun v s'=>Kp B s s'∧VR B env oa s s' v z) E s):BuiS B n fv [x] z :=
 fun env oa A s0 s vs E b a hl hv=>by
  refine e1_1 (len1 hl) ?_
  intro v ez1
  clear hl;subst ez1
  exact h env oa A s0 s v E b a (hv 0 v x rfl rfl)
theorem BuiS.two {fv:Value} {x y z:AV} (h:∀ env oa A s0 s v u (E:Value→Shared→Prop),Bas B s→Ar B A n s→VR B env oa s0 s v x→VR B env oa s0 s u y→wpAny (model B.prog B.w) A (PySem.call fv [v,u]) (fun v s'=>Kp B s s'∧VR B env oa s s' v z) E s):BuiS B n fv [x,y] z :=
 fun env oa A s0 s vs E b a hl hv=>by
  refine e2_1 (len2 hl) ?_
  intro v u ez2
  subst ez2
  exact h env oa A s0 s v u E b a (hv 0 v x rfl rfl) (hv 1 u y rfl rfl)
theorem VR.lst {env oa} {s s':Shared} {v:Value} {m:Md} {l:List D} (x:VR B env oa s s' v (.ct m (.lst l))):∃ a vs,v=.ref a∧s'.heap.IsList a vs∧Ims s'.heap vs.toList l:=by
 refine e1_2 x.cont ?_
 intro a ez3 ez4
 clear x;subst ez3
 refine e3_4 ez4 ?_
 clear ez4
 intro o vs k h1 ez5 h3 h4
 obtain ⟨h2,_⟩:=ez5
 exact ⟨a,vs,rfl,⟨o,h1,h2,k,h3⟩,h4⟩
theorem VR.isTup {env oa} {s s':Shared} {v:Value} {l:List D} (x:VR B env oa s s' v (.im (.tup l))):∃ a vs,v=.ref a∧IsTup s'.heap a vs∧Ims s'.heap vs.toList l:=by
 refine e4_5 x.tup ?_
 intro a o vs k ez6 h1 h2 h3 h4
 clear x;subst ez6
 exact ⟨a,vs,rfl,⟨o,h1,h2,k,h3⟩,h4⟩
theorem BuiS.lenL {m:Md} {l:List D} (h:l.length<2 ^ 63):BuiS B n (.builtin "len") [.ct m (.lst l)] (.im (.int l.length)):=.one fun env oa A s0 s v E b a x=>by
 refine e2_3 x.lst ?_
 intro a vs ez7 h1 h2
 clear x;subst ez7
 have e:vs.size=l.length:=by rw [← Array.length_toList];exact h2.length
 exact PyProof.Rows.len_list h1 (by rw [e];exact_mod_cast h) (by rw [e];exact ⟨Kp.toks,Im.int _ _⟩)
theorem BuiS.lenT {l:List D} (h:l.length<2 ^ 63):BuiS B n (.builtin "len") [.im (.tup l)] (.im (.int l.length)):=.one fun env oa A s0 s v E b a x=>by
 refine e2_3 x.isTup ?_
 intro a vs ez8 h1 h2
 clear x;subst ez8
 have e:vs.size=l.length:=by rw [← Array.length_toList];exact h2.length
 exact PyProof.Rows.len_tuple h1 (by rw [e];exact_mod_cast h) (by rw [e];exact ⟨Kp.toks,Im.int _ _⟩)
noncomputable def IsiS (B:Bs) (n:Nat) (x:AV) (T:String) (r:Bool):Prop :=
 ∀ env oa A s0 s v (E:Value→Shared→Prop),Bas B s→Ar B A n s→VR B env oa s0 s v x→wpAny (model B.prog B.w) A (PySem.call (.builtin "isinstance") [v,.type T]) (fun v s'=>v=.bool r∧Kp B s s') E s
theorem EW.isi {p1 p2:Pos} {e:Expr} {t:Str} {pos:Pos} {Q:AV→Prop} {T:String} (hk:F.scope.names.lookup (Str.ofString "isinstance")=some .globalImplicit) (hm:B.mg (Str.ofString "isinstance")=none)
  (hk2:F.scope.names.lookup t=some .globalImplicit) (hm2:B.mg t=none) (hb2:bootBuiltins t=some (.type T))
  (h:EW B F X n ρ e fun x=>∃ r,IsiS B n x T r∧Q (.im (.bool r))) (hb:bootBuiltins "isinstance"=some (.builtin "isinstance"):=by decide +kernel)
  (he:∀ env,starEach (e::[.Name t p2]) env=(false,eval e env)::starEach [.Name t p2] env:=by intro _;rfl) (hn2:t≠"__name__":=by decide) (hd2:(t == ("__debug__":Str))=false:=by decide) :
  EW B F X n ρ (.Call (.Name "isinstance" p1) [e,.Name t p2] [] pos) Q:=by
 refine .mk ?_
 intro env oa A s R a
 refine wpAny_Call_ofName (loadBuiltin R hk hm hb ?_)
 refine callWith_builtin1 ?_ (he env)
 refine wpAny_items_cons (h.run R a (Kp.refl _) fun v s1 r hz3 k1 x1=>?_) (he env)
 refine e1_2 hz3 ?_
 clear hz3
 intro b hi q
 refine wpAny_items_cons (loadBuiltin (R.kp k1) hk2 hm2 hb2 (wpAny_items_nil ?_) hn2 hd2)
 exact wpAny_mono (hi env oa A s s1 v _ (R.kp k1).base (a.kp k1) x1) (fun v s2 hz4=>by obtain ⟨e,k2⟩:=hz4;subst e;exact ⟨_,q,k1.trans k2,Im.bool _⟩) fun _ _ x=>x
open IsiPair in
theorem IsiS.int_ (i:Int):IsiS B n (.im (.int i)) "int" true∧IsiS B n (.im (.int i)) "bool" false∧IsiS B n (.im (.int i)) "str" false∧IsiS B n (.im (.int i)) "tuple" false∧IsiS B n (.im (.int i)) "list" false:=by
 refine ⟨?_,?_,?_,?_,?_⟩ <;> (intro env oa A s0 s v E b a x;obtain ⟨t,rfl⟩:=x.int)
 ·exact int_int ⟨rfl,Kp.refl _⟩
 ·exact int_bool ⟨rfl,Kp.toks⟩
 ·exact int_str ⟨rfl,Kp.toks⟩
 ·exact int_tuple ⟨rfl,Kp.toks⟩
 ·exact int_list ⟨rfl,Kp.toks⟩
open IsiPair in
theorem IsiS.str_ (i:Str):IsiS B n (.im (.str i)) "int" false∧IsiS B n (.im (.str i)) "bool" false∧IsiS B n (.im (.str i)) "str" true∧IsiS B n (.im (.str i)) "tuple" false∧IsiS B n (.im (.str i)) "list" false:=by
 refine ⟨?_,?_,?_,?_,?_⟩ <;> (intro env oa A s0 s v E b a x;obtain ⟨t,rfl⟩:=x.str)
 ·exact str_int ⟨rfl,Kp.toks⟩
 ·exact str_bool ⟨rfl,Kp.toks⟩
 ·exact str_str ⟨rfl,Kp.refl _⟩
 ·exact str_tuple ⟨rfl,Kp.toks⟩
 ·exact str_list ⟨rfl,Kp.toks⟩
open IsiPair in
theorem IsiS.bool_ (i:Bool):IsiS B n (.im (.bool i)) "int" true∧IsiS B n (.im (.bool i)) "bool" true∧IsiS B n (.im (.bool i)) "str" false∧IsiS B n (.im (.bool i)) "tuple" false∧IsiS B n (.im (.bool i)) "list" false:=by
 refine ⟨?_,?_,?_,?_,?_⟩ <;> (intro env oa A s0 s v E b a x;obtain rfl:=x.bool)
 ·exact bool_int ⟨rfl,Kp.toks⟩
 ·exact bool_bool ⟨rfl,Kp.refl _⟩
 ·exact bool_str ⟨rfl,Kp.toks⟩
 ·exact bool_tuple ⟨rfl,Kp.toks⟩
 ·exact bool_list ⟨rfl,Kp.toks⟩
open IsiPair in
theorem IsiS.tup_ (l:List D):IsiS B n (.im (.tup l)) "int" false∧IsiS B n (.im (.tup l)) "bool" false∧IsiS B n (.im (.tup l)) "str" false∧IsiS B n (.im (.tup l)) "tuple" true∧IsiS B n (.im (.tup l)) "list" false:=by
 refine ⟨?_,?_,?_,?_,?_⟩ <;> (intro env oa A s0 s v E b a x;obtain ⟨a,o,vs,k,rfl,h1,h2,h3,h4⟩:=x.tup)
 ·exact tuple_int h1 h2 ⟨rfl,Kp.toks⟩
 ·exact tuple_bool h1 h2 ⟨rfl,Kp.toks⟩
 ·exact tuple_str h1 h2 ⟨rfl,Kp.toks⟩
 ·exact tuple_tuple h1 h2 ⟨rfl,Kp.refl _⟩
 ·exact tuple_list h1 h2 ⟨rfl,Kp.toks⟩
open IsiPair in
theorem IsiS.none_:IsiS B n (.im .none) "int" false∧IsiS B n (.im .none) "bool" false∧IsiS B n (.im .none) "str" false∧IsiS B n (.im .none) "tuple" false∧IsiS B n (.im .none) "list" false:=by
 refine ⟨?_,?_,?_,?_,?_⟩ <;> (intro env oa A s0 s v E b a x;obtain rfl:=x.none)
 ·exact NoneType_int ⟨rfl,Kp.toks⟩
 ·exact NoneType_bool ⟨rfl,Kp.toks⟩
 ·exact NoneType_str ⟨rfl,Kp.toks⟩
 ·exact NoneType_tuple ⟨rfl,Kp.toks⟩
 ·exact NoneType_list ⟨rfl,Kp.toks⟩
end
end Mine
end

section
open PySem PySem.W PyProof.Rows PySem.Calls PyProof
set_option backward.match.sparseCases false
set_option tactic.hygienic false
namespace Mine
section
variable {B:Bs} {F:Fi} {X:Str→Prop} {n:Nat} {ρ:List (Option Sl)}
noncomputable def SubS (B:Bs) (n:Nat) (x i z:AV):Prop :=
 ∀ env oa A s0 s vx vi value slice (E:Value→Shared→Prop),Bas B s→Ar B A n s→VR B env oa s0 s vx x→VR B env oa s0 s vi i→subscripted slice false vx vi=operate [vx,vi] (getItem vx vi) →
  wpAny (model B.prog B.w) A (subscriptTail value slice vx vi) (fun v s'=>Kp B s s'∧VR B env oa s s' v z) E s
theorem EW.sub {value slice pos} {Q:AV→Prop} (h:EW B F X n ρ value fun x=>EW B F X n ρ slice fun i=>∃ z,SubS B n x i z∧Q z)
  (hs:∀ o i,subscripted slice false o i=operate [o,i] (getItem o i):=by intros;rfl):EW B F X n ρ (.Subscript value slice pos) Q :=
 .mk fun env oa A s R a=>Subscript_ (h.run R a (Kp.refl _) fun vx s1 rx qx k1 x1=>qx.run (R.kp k1) (a.kp k1) k1 fun vi s2 ri hz9 k2 x2=>e1_2 hz9 fun z hz q =>
  wpAny_mono (hz env oa A s s2 vx vi value slice _ ((R.kp k1).kp k2).base ((a.kp k1).kp k2) (x1.kp k2) (x2.back k1) (hs _ _)) (fun v s3 hz2=>e0_2 hz2 fun k3 x3=>⟨z,q,(k1.trans k2).trans k3,x3.back (k1.trans k2)⟩) fun _ _ x=>x)
theorem SubS.list {m:Md} {l:List D} {k:Int} {d:D} (h0:0≤k) (hk:k<2 ^ 63) (hd:l[k.toNat]?=some d):SubS B n (.ct m (.lst l)) (.im (.int k)) (.im d):=fun env oa A s0 s vx vi value slice E b a x i hs=>by
 refine e2_3 x.lst ?_
 intro a vs ez1 h1 h2
 clear x;subst ez1
 refine e1_1 i.int ?_
 intro t ez2
 subst ez2
 refine e1_2 (h2.get hd) ?_
 intro v hv hi
 exact tail_any h1.typeIs slot_list_getitem.lookup (wpAny_getItem_list h1 h0 hk (by simpa using hv) ⟨Kp.refl _,hi⟩) hs
theorem SubS.tup {l:List D} {k:Int} {d:D} {j:Nat} (hlo : -(2 ^ 63)≤k) (hk:k<2 ^ 63) (hj:seqIndex? k l.length=some j) (hd:l[j]?=some d):SubS B n (.im (.tup l)) (.im (.int k)) (.im d):=fun env oa A s0 s vx vi value slice E b a x i hs=>by
 refine e2_3 x.isTup ?_
 intro a vs ez3 h1 h2
 clear x;subst ez3
 refine e1_1 i.int ?_
 intro t ez4
 subst ez4
 refine e1_2 (h2.get hd) ?_
 intro v hv hi
 have e:vs.size=l.length:=by rw [← Array.length_toList];exact h2.length
 exact tail_any h1.typeIs slot_tuple_getitem.lookup (PyProof.Rows.getItem_tuple h1 hlo hk (by rw [e];exact hj) (by simpa using hv) ⟨Kp.refl _,hi⟩) hs
theorem SubS.str {x:Str} {k:Int} {c j:Nat} (hlo : -(2 ^ 63)≤k) (hk:k<2 ^ 63) (hj:seqIndex? k x.length=some j) (hc:x.cps[j]?=some c):SubS B n (.im (.str x)) (.im (.int k)) (.im (.str ⟨#[c]⟩)):=fun env oa A s0 s vx vi value slice E b a y i hs=>by
 refine e1_1 y.str ?_
 intro t ez5
 clear y;subst ez5
 refine e1_1 i.int ?_
 intro u ez6
 subst ez6
 refine tail_any (typeIs_str s x t) slot_str_getitem.lookup (PyProof.Rows.getItem_str ?_ ?_ ⟨Kp.toks,Im.str _ _⟩) hs
 ·simp;lia
 ·rw [hj];exact hc
structure PW (B:Bs) (F:Fi) (X:Str→Prop) (n:Nat) (ρ:List (Option Sl)) (e:Option Expr) (Q:Option Int→Prop):Prop where
 go:∀ env oa A s,Rp B F env oa ρ s→Ar B A n s→wpAny (model B.prog B.w) A (evalPart e env) (fun v s'=>∃ i,Q i∧Kp B s s'∧IsPart v i) (EP B X s) s
theorem PW.none {Q:Option Int→Prop} (h:Q none):PW B F X n ρ none Q:=.mk fun env oa A s R a=>by
 rw [evalPart_none];exact wpAny_pure ⟨_,h,Kp.refl _,.none⟩
theorem PW.some {e} {Q:Option Int→Prop} (h:EW B F X n ρ e fun r=>∃ i,r=.im (.int i)∧Q (some i)):PW B F X n ρ (some e) Q:=.mk fun env oa A s R a=>by
 rw [evalPart_some]
 exact wpAny_mono (h.go env oa A s R a) (fun v s' hz3=>by obtain ⟨r,⟨i,e,q⟩,k,x⟩:=hz3;subst e;obtain ⟨t,rfl⟩:=x.int;exact ⟨_,q,k,.int _ _⟩) fun _ _ x=>x
noncomputable def SlcS (B:Bs) (n:Nat) (x:AV) (l u:Option Int) (z:AV):Prop :=
 ∀ env oa A s0 s vx vl vu value slice (E:Value→Shared→Prop),Bas B s→Ar B A n s→VR B env oa s0 s vx x→IsPart vl l→IsPart vu u →
  (∀ i,subscripted slice false vx i=operate [i,vx] (getItem vx i)) →
  wpAny (model B.prog B.w) A (subscriptTail value slice vx (.ref s.heap.objs.size)) (fun v s'=>Kp B s s'∧VR B env oa s s' v z) E { s with heap:=s.heap.push { cls:=.type "slice",data:=.fields #[vl,vu,.none] } }
theorem EW.slice {value lo hi p pos} {Q:AV→Prop} (h:EW B F X n ρ value fun x=>PW B F X n ρ lo fun l=>PW B F X n ρ hi fun u=>∃ z,SlcS B n x l u z∧Q z) :
  EW B F X n ρ (.Subscript value (.Slice lo hi none p) pos) Q :=
 .mk fun env oa A s R a=>Subscript_ (h.run R a (Kp.refl _) fun vx s1 rx qx k1 x1=>wpAny_Slice
  (wpAny_mono (qx.go env oa A s1 (R.kp k1) (a.kp k1)) (fun vl s2 hz9=>e1_3 hz9 fun l ql k2 pl =>
   wpAny_mono (ql.go env oa A s2 ((R.kp k1).kp k2) ((a.kp k1).kp k2)) (fun vu s3 hz5=>by
    refine e1_3 hz5 ?_
    clear hz5
    intro u ez7 k3 pu
    obtain ⟨z,hz,q⟩:=ez7
    rw [evalPart_none]
    refine wpAny_pure ?_
    have k13:=(k1.trans k2).trans k3
    exact wpAny_mono (hz env oa A s s3 vx vl vu value _ _ (R.kp k13).base (a.kp k13) ((x1.kp k2).kp k3) pl pu (fun _=>rfl)) (fun v s4 hz6=>e0_2 hz6 fun k4 x4=>⟨z,q,k13.trans k4,x4.back k13⟩) fun _ _ x=>x)
    fun _ _ x=>x.back (k1.trans k2)) fun _ _ x=>x.back k1))
theorem Ims.filterMap {h:Heap} {vs:Array Value} {l:List D} (hi:Ims h vs.toList l):∀ is:List Nat,Ims h (is.filterMap (vs[·]?)) (is.filterMap (l[·]?))
 | []=>.nil
 | i::is=>by
  simp only [List.filterMap_cons]
  have e:vs.size=l.length:=by rw [← Array.length_toList];exact hi.length
  by_cases hlt:i<l.length
  ·refine e1_2 (hi.get (List.getElem?_eq_getElem hlt)) ?_
   intro v hv hi'
   rw [List.getElem?_eq_getElem hlt,show vs[i]?=some v by simpa using hv]
   exact .cons hi' (hi.filterMap is)
  ·rw [List.getElem?_eq_none (Nat.le_of_not_lt hlt),Array.getElem?_eq_none (by lia)]
   exact hi.filterMap is
noncomputable def pick (l:List D) (lo hi:Option Int):List D :=
 (sliceRange (sliceBounds lo hi none l.length).1 (sliceBounds lo hi none l.length).2.1 (sliceBounds lo hi none l.length).2.2).filterMap (l[·]?)
theorem SlcS.list {m:Md} {l:List D} {lo hi:Option Int} (h:l.length≤sizeLine):SlcS B n (.ct m (.lst l)) lo hi (.ct .fr (.lst (pick l lo hi))):=fun env oa A s0 s vx vl vu value slice E b a x pl pu hs=>by
 refine e2_3 x.lst ?_
 intro a vs ez8 h1 h2
 clear x;subst ez8
 have e:vs.size=l.length:=by rw [← Array.length_toList];exact h2.length
 have h1':=h1.push { cls:=.type "slice",data:=.fields #[vl,vu,.none] }
 have k1:Kp B s { s with heap:=s.heap.push { cls:=.type "slice",data:=.fields #[vl,vu,.none] } }:=push_kp _
 refine tail_any (s:={ s with heap:=s.heap.push { cls:=.type "slice",data:=.fields #[vl,vu,.none] } }) h1'.typeIs slot_list_getitem.lookup (wpAny_getItem_list_slice h1' (Heap.IsSliceOf.new ..) pl pu .none (by simp) ?_ (by rw [e];exact h)) (hs _)
 refine ⟨k1.trans (push_kp _),_,rfl,⟨_,_,_,Heap.get?_push_size _ rfl,⟨rfl,rfl⟩,rfl,?_⟩,k1.fresh (fresh_size _)⟩
 have g:Grow s.heap ((s.heap.push { cls:=.type "slice",data:=.fields #[vl,vu,.none] }).push { cls:=.type "list",data:=.seq (slicePick vs lo hi none) }):=(k1.trans (push_kp (B:=B) _ (t:=s.toks))).tups
 have:=(h2.filterMap (sliceRange (sliceBounds lo hi none vs.size).1 (sliceBounds lo hi none vs.size).2.1 (sliceBounds lo hi none vs.size).2.2)).grow g
 simpa [slicePick,pick,e] using this
theorem SlcS.str {x:Str} {lo hi:Option Int} (h:x.length≤sizeLine):SlcS B n (.im (.str x)) lo hi (.im (.str (Txt.slice x lo hi))):=fun env oa A s0 s vx vl vu value slice E b a y pl pu hs=>by
 refine e1_1 y.str ?_
 intro t ez9
 subst ez9
 have k1:∀ tk,Kp B s { s with heap:=s.heap.push { cls:=.type "slice",data:=.fields #[vl,vu,.none] },toks:=tk }:=fun tk=>push_kp _
 have go:∀ (l u:Option (Int×Tok)),vl=partValue l→vu=partValue u→wpAny (model B.prog B.w) A (subscriptTail value slice (.str x t) (.ref s.heap.objs.size)) (fun v s'=>Kp B s s'∧VR B env oa s s' v (.im (.str (Txt.slice x (l.map (·.1)) (u.map (·.1)))))) E { s with heap:=s.heap.push { cls:=.type "slice",data:=.fields #[vl,vu,.none] } }:=fun l u el eu=>by
  refine tail_any (typeIs_str _ x t) slot_str_getitem.lookup (wpAny_getItem_str_slice (l:=l) (u:=u) (st:=none) ⟨_,Heap.get?_push_size _ rfl,rfl,by rw [el,eu];rfl⟩ rfl ?_) (hs _)
  exact post_val_or_str ⟨Nat.le_trans (Txt.slice_le x _ _) h,fun t' k=>⟨k1 k,Im.str _ _⟩⟩
 clear k1;cases pl with
 | none=>(try clear k1);cases pu with
  | none=>exact go none none rfl rfl
  | int j u=>exact go none (.some (j,u)) rfl rfl
 | int i ti=>(try clear k1);cases pu with
  | none=>exact go (.some (i,ti)) none rfl rfl
  | int j u=>exact go (.some (i,ti)) (.some (j,u)) rfl rfl
end
end Mine
end

section
open PySem PySem.W PyProof.Rows PySem.Calls PyProof
set_option tactic.hygienic false
namespace Mine
noncomputable def intsFrom (a:Int):Nat→List D
 | 0=>[]
 | k+1=>.int a::intsFrom (a+1) k
noncomputable def signsD (x:Str):List D:=x.cps.toList.map fun c=>.str ⟨#[c]⟩
inductive Itr (h:Heap) (it:Addr):Option Addr→List D→Prop
 | list {l i vs ds}:h.IsListIter it l i→h.IsList l vs→Ims h (vs.toList.drop i) ds→Itr h it (some l) ds
 | tup {t i vs ds}:h.IsTupleIter it t i→h.IsTuple t vs→Ims h (vs.toList.drop i) ds→Itr h it none ds
 | rng {x:Int} {k:Nat}:IsRangeIter h it x k 1→Itr h it none (intsFrom x k)
 | asc {x:Str} {t i}:h.IsStrIter it "str_ascii_iterator" x t i→Itr h it none ((signsD x).drop i)
 | wid {x:Str} {t i}:h.IsStrIter it "str_iterator" x t i→Itr h it none ((signsD x).drop i)
section
variable {B:Bs} {F:Fi} {X:Str→Prop} {n:Nat} {ρ:List (Option Sl)}
theorem Itr.kp {W} {s s':Shared} {it:Addr} {dep:Option Addr} {ds:List D} (x:Itr s.heap it dep ds) (k:KpW B W s s') (h1:¬ W it) (h2:∀ l,dep=some l→¬ W l):Itr s'.heap it dep ds:=by
 have kk:∀ o T,s.heap.get? it=some o→o.cls=.type T→T≠"frame"→s'.heap.get? it=some o:=fun o T e c f=>k.keep it o e h1 (.inl ⟨by rw [c];intro q;exact f (Value.type.inj q),by rw [c];nofun⟩)
 cases x with
 | list a b c =>
  refine e1_3 a ?_
  clear a
  intro o ho hc hd
  refine e1_3 b ?_
  clear b
  intro o2 ho2 hc2 ez1
  refine e1_1 ez1 ?_
  clear ez1
  intro m hd2
  exact .list ⟨o,kk o _ ho hc (by decide),hc,hd⟩ ⟨o2,k.keep _ o2 ho2 (h2 _ rfl) (.inl ⟨by rw [hc2];decide,by rw [hc2];nofun⟩),hc2,m,hd2⟩ (c.grow k.tups)
 | tup a b c =>
  refine e1_3 a ?_
  clear a
  intro o ho hc hd
  refine e1_3 b ?_
  clear b
  intro o2 ho2 hc2 ez2
  refine e1_1 ez2 ?_
  clear ez2
  intro m hd2
  exact .tup ⟨o,kk o _ ho hc (by decide),hc,hd⟩ ⟨o2,k.tups _ _ _ _ ho2 hc2 hd2,hc2,m,hd2⟩ (c.grow k.tups)
 | rng a=>exact .rng (kk _ _ a rfl (by decide))
 | asc a=>obtain ⟨o,ho,hc,hd⟩:=a;exact .asc ⟨o,kk o _ ho hc (by decide),hc,hd⟩
 | wid a=>obtain ⟨o,ho,hc,hd⟩:=a;exact .wid ⟨o,kk o _ ho hc (by decide),hc,hd⟩
theorem Itr.cls {h:Heap} {it:Addr} {dep:Option Addr} {ds:List D} (x:Itr h it dep ds):∃ o T,h.get? it=some o∧o.cls=.type T∧(∃ vs,o.data=.fields vs) ∧
  (["enumerate","zip","dict_itemiterator","dict_reverseitemiterator","odict_iterator","itertools.zip_longest","itertools.pairwise"].contains T)=false∧T≠"code":=by
 cases x with
 | list a b c=>obtain ⟨o,ho,hc,hd⟩:=a;exact ⟨o,_,ho,hc,⟨_,hd⟩,by decide,by decide⟩
 | tup a b c=>obtain ⟨o,ho,hc,hd⟩:=a;exact ⟨o,_,ho,hc,⟨_,hd⟩,by decide,by decide⟩
 | rng a=>exact ⟨_,_,a,rfl,⟨_,rfl⟩,by decide,by decide⟩
 | asc a=>obtain ⟨o,ho,hc,hd⟩:=a;exact ⟨o,_,ho,hc,⟨_,hd⟩,by decide,by decide⟩
 | wid a=>obtain ⟨o,ho,hc,hd⟩:=a;exact ⟨o,_,ho,hc,⟨_,hd⟩,by decide,by decide⟩
theorem Itr.letGo {A:Around} {s:Shared} {it:Addr} {dep ds} {target:Expr} {v:Value} {Q:Unit→Shared→Prop} {E} (x:Itr s.heap it dep ds) (h:Q () s):wpAny (model B.prog B.w) A (letOwnedTupleGo target (.ref it) v) Q E s:=by
 refine e2_5 x.cls ?_
 intro o T ho hc ez3 hT _
 obtain ⟨vs,hd⟩:=ez3
 have go:wpAny (model B.prog B.w) A (do
   let (.ref r,.ref a):=(Value.ref it,v) | return
   let o ← load r
   match o.cls,o.data with
   | .type n,.fields vs =>
    if ["enumerate","zip","dict_itemiterator","dict_reverseitemiterator","odict_iterator","itertools.zip_longest","itertools.pairwise"].contains n&&vs[0]? == some (rawInt a) then
     rule "for.unpacks-the-owned-tuple"
     updateField r 0 .none
   | _,_=>pure ()) Q E s:=by
  cases v with
  | ref a =>
   refine wpAny_bind (wpAny_load ho ?_)
   rw [hc,hd]
   simp only [hT,Bool.false_and,Bool.false_eq_true,if_false]
   exact wpAny_pure h
  | _=>exact wpAny_pure h
 cases target <;> first | exact go | exact wpAny_pure h
theorem KpW.ext {W} {s0 s:Shared} (k:KpW B W s0 s) {it:Addr} (hb:s0.heap.get? it=none) {h':Heap} {t:Nat} (x:Heap.ExtBut it s.heap h') (hcl:∀ o,s.heap.get? it=some o→¬ CodeLike o):KpW B W s0 { s with heap:=h',toks:=t }:=by
 have ne:∀ c o,s0.heap.get? c=some o→c≠it:=fun c o e q=>by subst q;rw [hb] at e;cases e
 refine ⟨fun c o e nw hf=>x c o (ne c o e) (k.keep c o e nw hf),fun c o e nw nt=>?_,fun c o vs n e c' d=>x c o (ne c o e) (k.tups c o vs n e c' d),fun c o e=>?_,k.gens,k.os,fun y=>(k.tabs y).keeps fun b o e cl=>x b o (fun q=>by subst q;exact hcl o e cl) e⟩
 ·obtain ⟨sl,q⟩:=k.data c o e nw nt;exact ⟨sl,x c _ (ne c o e) q⟩
 ·obtain ⟨o',q,r⟩:=k.live c o e;exact ⟨o',x c _ (ne c o e) q,r⟩
theorem growBut {h h':Heap} {it:Addr} {o:Obj} (ho:h.get? it=some o) (hc:o.cls≠.type "tuple") (x:Heap.ExtBut it h h'):Grow h h':=fun a oa vs n e c d =>
 x a oa (fun q=>by subst q;rw [ho] at e;cases e;exact hc c) e
theorem Itr.notCode {h:Heap} {it:Addr} {dep:Option Addr} {ds:List D} (x:Itr h it dep ds):∀ o,h.get? it=some o→¬ CodeLike o:=by
 intro o ho rz1
 obtain ⟨q,_⟩:=rz1
 refine e2_5 x.cls ?_
 intro o' T ho' hc _ _ hT
 rw [ho] at ho';cases ho'
 rw [hc] at q
 rcases q with q | q
 ·cases q
 ·exact hT (Value.type.inj q)
theorem Itr.next {W} {A:Around} {s0 s:Shared} {it:Addr} {dep:Option Addr} {d:D} {ds:List D} {E} (x:Itr s.heap it dep (d::ds)) (hdep:dep≠some it) (k:KpW B W s0 s) (h0:s0.heap.get? it=none) :
  wpAny (model B.prog B.w) A (pyNext (.ref it)) (fun r s'=>∃ v,r=some v∧Im s'.heap v d∧Itr s'.heap it dep ds∧KpW B W s0 s'∧∃ h' t,s'={ s with heap:=h',toks:=t }∧Heap.SameBut it s.heap h') E s:=by
 have nc:=x.notCode
 generalize hl:d::ds=L at x
 cases x with
 | @list l i vs L a b c =>
  obtain ⟨v,hv,hi⟩:=c.get (i:=0) (d:=d) (by rw [← hl];rfl)
  rw [List.getElem?_drop,Nat.add_zero] at hv
  refine e1_3 (id a) ?_
  intro o ho hc hd
  refine wpAny_pyNext_list_item a b (by simpa using hv) fun h' a' hs=>?_
  have g:=growBut ho (by rw [hc];decide) hs.extBut
  have ne:l≠it:=fun q=>hdep (by rw [q])
  refine ⟨v,rfl,hi.grow g,.list a' (b.extBut hs.extBut ne) ?_,k.ext h0 hs.extBut nc,h',s.toks,rfl,hs⟩
  have:=(c.drop 1).grow g
  rw [← hl,List.drop_drop] at this
  exact this
 | @tup l i vs L a b c =>
  obtain ⟨v,hv,hi⟩:=c.get (i:=0) (d:=d) (by rw [← hl];rfl)
  rw [List.getElem?_drop,Nat.add_zero] at hv
  refine e1_3 (id a) ?_
  intro o ho hc hd
  refine e1_3 (id b) ?_
  intro o2 ho2 hc2 ez4
  refine e1_1 ez4 ?_
  clear ez4
  intro m hd2
  refine wpAny_pyNext_tuple_item a b (by simpa using hv) fun h' a' hs=>?_
  have g:=growBut ho (by rw [hc];decide) hs.extBut
  refine ⟨v,rfl,hi.grow g,.tup a' ⟨o2,g _ _ _ _ ho2 hc2 hd2,hc2,m,hd2⟩ ?_,k.ext h0 hs.extBut nc,h',s.toks,rfl,hs⟩
  have:=(c.drop 1).grow g
  rw [← hl,List.drop_drop] at this
  exact this
 | @rng x m a =>
  cases m with
  | zero=>cases hl
  | succ m =>
   cases hl
   refine wpAny_pyNext_range_item a (by lia) fun h' a' hs=>?_
   exact ⟨_,rfl,.int _ _,.rng (by simpa using a'),k.ext h0 hs.extBut nc,h',_,rfl,hs⟩
 | @asc x t i a =>
  have hx:x.cps[i]?=some (x.cps.toList.getD i 0)∧d=.str ⟨#[x.cps.toList.getD i 0]⟩∧ds=(signsD x).drop (i+1):=by
   have h1:((signsD x).drop i)[0]?=some d:=by rw [← hl];rfl
   have h2:((signsD x).drop i).drop 1=ds:=by rw [← hl];rfl
   rw [List.getElem?_drop,Nat.add_zero,signsD,List.getElem?_map] at h1
   rw [List.drop_drop] at h2
   cases e:x.cps.toList[i]? with
   | none=>rw [e] at h1;cases h1
   | some c=>rw [e] at h1;cases h1;rw [List.getD_eq_getElem?_getD,e];exact ⟨by rw [← Array.getElem?_toList];exact e,rfl,h2.symm⟩
  refine wpAny_pyNext_ascii_item a hx.1 fun h' a' hs=>?_
  rw [hx.2.1,hx.2.2]
  exact ⟨_,rfl,.str _ _,.asc a',k.ext h0 hs.extBut nc,h',_,rfl,hs⟩
 | @wid x t i a =>
  have hx:x.cps[i]?=some (x.cps.toList.getD i 0)∧d=.str ⟨#[x.cps.toList.getD i 0]⟩∧ds=(signsD x).drop (i+1):=by
   have h1:((signsD x).drop i)[0]?=some d:=by rw [← hl];rfl
   have h2:((signsD x).drop i).drop 1=ds:=by rw [← hl];rfl
   rw [List.getElem?_drop,Nat.add_zero,signsD,List.getElem?_map] at h1
   rw [List.drop_drop] at h2
   cases e:x.cps.toList[i]? with
   | none=>rw [e] at h1;cases h1
   | some c=>rw [e] at h1;cases h1;rw [List.getD_eq_getElem?_getD,e];exact ⟨by rw [← Array.getElem?_toList];exact e,rfl,h2.symm⟩
  refine wpAny_pyNext_wide_item a hx.1 fun h' a' hs=>?_
  rw [hx.2.1,hx.2.2]
  exact ⟨_,rfl,.str _ _,.wid a',k.ext h0 hs.extBut nc,h',_,rfl,hs⟩
theorem Itr.fin {W} {A:Around} {s0 s:Shared} {it:Addr} {dep:Option Addr} {E} (x:Itr s.heap it dep []) (hh:A.handled=none) (k:KpW B W s0 s) (h0:s0.heap.get? it=none) :
  wpAny (model B.prog B.w) A (pyNext (.ref it)) (fun r s'=>r=none∧KpW B W s0 s'∧∃ h',s'={ s with heap:=h' }∧Heap.ExtBut it s.heap h'∧Grow s.heap h') E s:=by
 have nc:=x.notCode
 generalize hl:([]:List D)=L at x
 have nil:∀ {vs:Array Value} {i:Nat},Ims s.heap (vs.toList.drop i) []→vs[i]?=none:=fun {vs i} c=>by
  have:=c.length
  simp at this
  exact Array.getElem?_eq_none (by lia)
 have snil:∀ {x:Str} {i:Nat},[]=(signsD x).drop i→x.cps[i]?=none:=fun {x i} e=>by
  have:=congrArg List.length e
  simp [signsD] at this
  exact Array.getElem?_eq_none (by lia)
 have done:∀ h',Heap.ExtBut it s.heap h'→(none:Option Value)=none∧KpW B W s0 { s with heap:=h' }∧∃ h'',({ s with heap:=h' }:Shared)={ s with heap:=h'' }∧Heap.ExtBut it s.heap h''∧Grow s.heap h'':=by
  intro h' hs
  have hc:∃ o,s.heap.get? it=some o∧o.cls≠.type "tuple":=by
   cases x with
   | list a b c=>obtain ⟨o,ho,hc,hd⟩:=a;exact ⟨o,ho,by rw [hc];decide⟩
   | tup a b c=>obtain ⟨o,ho,hc,hd⟩:=a;exact ⟨o,ho,by rw [hc];decide⟩
   | rng a=>exact ⟨_,a,by show Value.type _≠_;decide⟩
   | asc a=>obtain ⟨o,ho,hc,hd⟩:=a;exact ⟨o,ho,by rw [hc];decide⟩
   | wid a=>obtain ⟨o,ho,hc,hd⟩:=a;exact ⟨o,ho,by rw [hc];decide⟩
  refine e1_2 hc ?_
  clear hc
  intro o ho hc
  exact ⟨rfl,k.ext h0 hs nc (t:=s.toks),h',rfl,hs,growBut ho hc hs⟩
 cases x with
 | list a b c=>exact wpAny_pyNext_list_end hh a b (nil (hl▸c)) done
 | tup a b c=>exact wpAny_pyNext_tuple_end hh a b (nil (hl▸c)) done
 | @rng x m a =>
  cases m with
  | zero=>exact wpAny_pyNext_range_end hh a (by simp) done
  | succ m=>cases hl
 | asc a=>exact wpAny_pyNext_ascii_end hh a (snil hl) done
 | wid a=>exact wpAny_pyNext_wide_end hh a (snil hl) done
noncomputable def IterS (B:Bs) (n:Nat) (r:AV) (ds:List D):Prop :=
 ∀ env oa A s0 s v (E:Value→Shared→Prop),Bas B s→Ar B A n s→VR B env oa s0 s v r→(∀ a,s0.heap.get? a=none→¬ FW env oa a) →
  wpAny (model B.prog B.w) A (pyIter v) (fun it s'=>∃ a dep,it=.ref a∧Itr s'.heap a dep ds∧s.heap.get? a=none∧dep≠some a∧(∀ l,dep=some l→¬ FW env oa l∧∃ o,s.heap.get? l=some o)∧Kp B s s') E s
theorem IterS.list {m:Md} {l:List D} (hm:∀ i,m≠.ow i):IterS B n (.ct m (.lst l)) l:=fun env oa A s0 s v E b a x hz=>by
 refine e2_3 x.lst ?_
 intro a vs ez5 h1 h2
 subst ez5
 have hf:¬ FW env oa a:=by
  cases m with
  | fz=>obtain ⟨a',e,_,h⟩:=x;cases e;exact h
  | fr=>obtain ⟨a',e,_,h⟩:=x;cases e;exact hz a h
  | ow i=>exact (hm i rfl).elim
 refine e1_3 (id h1) ?_
 intro o ho hc md
 refine wpAny_pyIter_list h1 ⟨s.heap.objs.size,some a,rfl,.list ⟨_,Heap.get?_push_size _ rfl,rfl,rfl⟩ (h1.push _) (by simpa using h2.grow (push_kp (B:=B) (s:=s) _ (t:=s.toks)).tups),fresh_size s,?_,?_,push_kp _⟩
 ·intro q;cases q;rw [fresh_size s] at ho;cases ho
 ·intro l' q;cases q;exact ⟨hf,o,ho⟩
theorem IterS.tup {l:List D}:IterS B n (.im (.tup l)) l:=fun env oa A s0 s v E b a x hz=>by
 refine e2_3 x.isTup ?_
 intro a vs ez6 h1 h2
 subst ez6
 refine e1_3 (id h1) ?_
 intro o ho hc ez7
 refine e1_1 ez7 ?_
 clear ez7
 intro md hd
 refine wpAny_pyIter_tuple h1 ⟨s.heap.objs.size,none,rfl,.tup ⟨_,Heap.get?_push_size _ rfl,rfl,rfl⟩ ⟨o,Heap.get?_push_of_some _ ho,hc,md,hd⟩ (by simpa using h2.grow (push_kp (B:=B) (s:=s) _ (t:=s.toks)).tups),fresh_size s,by simp,by simp,push_kp _⟩
end
end Mine
end

section
open PySem PySem.W PyProof.Rows PySem.Calls PyProof
set_option backward.match.sparseCases false
set_option tactic.hygienic false
namespace Mine
section
variable {B:Bs} {F:Fi} {X:Str→Prop} {n:Nat} {ρ:List (Option Sl)}
theorem BuiS.range1 (k:Int):BuiS B n (.type "range") [.im (.int k)] (.ct .fr (.rng 0 k)):=.one fun env oa A s0 s v E b a x=>by
 refine e1_1 x.int ?_
 intro t ez1
 clear x;subst ez1
 exact call_range_1 ⟨push_kp _,_,rfl,⟨_,_,_,IsRange.new ..⟩,fresh_size s⟩
theorem BuiS.range2 (j k:Int):BuiS B n (.type "range") [.im (.int j),.im (.int k)] (.ct .fr (.rng j k)):=.two fun env oa A s0 s v u E b a x y=>by
 refine e1_1 x.int ?_
 intro t ez2
 clear x;subst ez2
 refine e1_1 y.int ?_
 intro t' ez3
 clear y;subst ez3
 exact call_range_2 ⟨push_kp _,_,rfl,⟨_,_,_,IsRange.new ..⟩,fresh_size s⟩
theorem IterS.rng {m:Md} {j k:Int} (h1 : -(2 ^ 62)≤j) (h2:j<2 ^ 62) (h3 : -(2 ^ 62)≤k) (h4:k<2 ^ 62):IterS B n (.ct m (.rng j k)) (intsFrom j (k-j).toNat):=fun env oa A s0 s v E b a x hz=>by
 refine e1_2 x.cont ?_
 intro a ez4 ez5
 clear x b;subst ez4
 refine e3_1 ez5 ?_
 clear ez5
 intro t u w hr
 refine wpAny_pyIter_range hr (small_one h1 h2 h3 h4) ⟨s.heap.objs.size,none,rfl,.rng ?_,fresh_size s,by simp,by simp,push_kp _⟩
 rw [rangeSize_nat]
 exact Heap.get?_push_size _ rfl
structure AsW (B:Bs) (F:Fi) (n:Nat) (ρ:List (Option Sl)) (target:Expr) (d:D) (Q:List (Option Sl)→Prop):Prop where
 go:∀ env oa A s v (E:Value→Shared→Prop),Rp B F env oa ρ s→Ar B A n s→Im s.heap v d →
  wpAny (model B.prog B.w) A (assign target env v) (fun _ s'=>∃ ρ' oa',Q ρ'∧Rp B F env oa' ρ' s'∧KpW B (Priv env) s s'∧OwnFrom s oa oa'∧∀ K,F.vars.length≤K→oa' K=oa K) E s
theorem oaSet_far {oa:Nat→Option Addr} {i:Nat} {hp:Heap} {v:Value} {d:D} {K:Nat} (h:K≠i):oaSet oa i hp v (.im d) K=oa K:=by simp [oaSet,h]
theorem Fi.lt (F:Fi) {i:Nat} {p:Str×Kd} (h:F.vars[i]?=some p):i<F.vars.length:=(List.getElem?_eq_some_iff.mp h).1
theorem AsW.name {x pos d} {Q:List (Option Sl)→Prop} (i:Nat) {k:Kd} (hx:F.vars[i]?=some (x,k)) (hkd:k≠.fre) (hi:i<F.own) (h:Q (ρ.set i (some (.im d)))):AsW B F n ρ (.Name x pos) d Q :=
 .mk fun env oa A s v E R a hv=>wpAny_assign_Name (wpAny_mono (storeVar R (Kp.refl _) (r:=.im d) hv hx rfl hkd hi) (fun _ s' hz1=>e0_4 hz1 fun h1 h2 h3 _=>⟨_,_,h,h1,h2,h3,fun K hK=>oaSet_far (by have:=F.lt hx;(clear hi;lia))⟩) fun _ _ x=>x)
theorem assignEach_name {x p es env}:assignEach (.Name x p::es) env=(false,assign (.Name x p) env)::assignEach es env:=rfl
theorem AsW.two {x y px py k pos d e} {Q:List (Option Sl)→Prop} (i j:Nat) {kx ky:Kd} (hx:F.vars[i]?=some (x,kx)) (hy:F.vars[j]?=some (y,ky)) (hkx:kx≠.fre) (hky:ky≠.fre) (hi:i<F.own) (hj:j<F.own)
  (h:Q ((ρ.set i (some (.im d))).set j (some (.im e)))) (hq:B.quiet=true:=by assumption):AsW B F n ρ (.Tuple [.Name x px,.Name y py] k pos) (.tup [d,e]) Q:=by
 refine .mk ?_
 intro env oa A s v E R a hv
 refine e4_5 hv.tupI ?_
 clear hv
 intro b o vs m ez h1 h2 h3 h4
 subst ez
 refine e2_3 h4.two ?_
 clear h4
 intro v1 v2 hvs m1 m2
 have he:assignEach [.Name x px,.Name y py] env=[(false,assign (.Name x px) env),(false,assign (.Name y py) env)]:=by rw [assignEach_name,assignEach_name];rfl
 refine wpAny_assign_Tuple (a.handled hq) ⟨o,h1,h2,m,h3⟩ (by rw [he,← Array.length_toList,hvs];rfl) (by rw [he];rfl) fun h' hs=>?_
 rw [he,hvs]
 have k0:Kp B s { s with heap:=h' }:=by
  have hne:∀ c ob,s.heap.get? c=some ob→c≠s.heap.objs.size:=fun c ob q=>Nat.ne_of_lt (Heap.lt_size q)
  exact Kp.of (t:=s.toks) fun c ob q=>hs c ob (hne c ob q) q
 show wpAny _ _ (do holding [v2] (assign (.Name x px) env v1);assignInOrder [assign (.Name y py) env] [v2]) _ _ _
 refine wpAny_bind (wpAny_holding (wpAny_assign_Name (wpAny_mono (storeVar R k0 (r:=.im d) (m1.grow k0.tups) hx rfl hkx hi) (fun _ s1 hz2=>?_) fun _ _ x=>x)))
 refine e0_4 hz2 ?_
 clear hz2
 intro R1 k1' o1 _
 have k1:KpW B (Priv env) s s1:=(Kp.toW k0).trans k1' fun _ x=>.inl x
 show wpAny _ _ (do holding [] (assign (.Name y py) env v2);assignInOrder [] []) _ _ _
 refine wpAny_bind (wpAny_holding (wpAny_assign_Name (wpAny_mono (storeVar R1 (Kp.refl _) (r:=.im e) (m2.grow k1.tups) hy rfl hky hj) (fun _ s2 hz3=>?_) fun _ _ x=>x)))
 refine e0_4 hz3 ?_
 clear hz3
 intro R2 k2 o2 _
 exact wpAny_pure ⟨_,_,h,R2,k1.trans k2 (fun _ x=>.inl x),o1.trans k1 o2,fun K hK=>(oaSet_far (by have:=F.lt hy;(clear hj hi;lia))).trans (oaSet_far (by have:=F.lt hx;(clear hj hi;lia)))⟩
theorem notFW {env:Env} {oa oa':Nat→Option Addr} {s:Shared} {a:Addr} (h:¬ FW env oa a) (o:OwnFrom s oa oa') (hl:∃ ob,s.heap.get? a=some ob):¬ FW env oa' a:=by
 intro q
 rcases FW.from o a q with y | y
 ·exact h y
 ·obtain ⟨ob,hb⟩:=hl;rw [y] at hb;cases hb
noncomputable def ItCls (o:Obj):Prop:=(∃ vs,o.data=.fields vs)∧∃ T,o.cls=.type T∧T≠"range"∧T≠"tuple"∧T≠"frame"∧T≠"code"∧T≠"function"
theorem ItCls.notCode {o:Obj} (h:ItCls o):¬ CodeLike o:=by
 intro rz1
 obtain ⟨q,_⟩:=rz1
 refine e0_2 h ?_
 clear h
 intro _ ez6
 refine e1_6 ez6 ?_
 clear ez6
 intro T hT _ _ _ h4 _
 rw [hT] at q
 rcases q with q | q
 ·clear a_4 h4 a_3 a_2 a_1 hT;cases q
 ·exact h4 (Value.type.inj q)
theorem Itr.itCls {h:Heap} {it:Addr} {dep ds} (x:Itr h it dep ds):∃ o,h.get? it=some o∧ItCls o:=by
 cases x with
 | list a b c=>obtain ⟨o,ho,hc,hd⟩:=a;exact ⟨o,ho,⟨_,hd⟩,_,hc,by decide,by decide,by decide,by decide,by decide⟩
 | tup a b c=>obtain ⟨o,ho,hc,hd⟩:=a;exact ⟨o,ho,⟨_,hd⟩,_,hc,by decide,by decide,by decide,by decide,by decide⟩
 | rng a=>exact ⟨_,a,⟨_,rfl⟩,_,rfl,by decide,by decide,by decide,by decide,by decide⟩
 | asc a=>obtain ⟨o,ho,hc,hd⟩:=a;exact ⟨o,ho,⟨_,hd⟩,_,hc,by decide,by decide,by decide,by decide,by decide⟩
 | wid a=>obtain ⟨o,ho,hc,hd⟩:=a;exact ⟨o,ho,⟨_,hd⟩,_,hc,by decide,by decide,by decide,by decide,by decide⟩
theorem ContAt.ne {h:Heap} {a it:Addr} {c:Cont} {o:Obj} (x:ContAt B h a c) (ho:h.get? it=some o) (hc:ItCls o):a≠it:=by
 intro q;subst q
 refine e0_2 hc ?_
 clear hc
 intro hd ez7
 refine e1_3 ez7 ?_
 clear ez7
 intro T hT h1 _
 refine e2_7 x.shape ?_
 intro o' T' ho' hc' _ _ _ _ hr
 rw [ho] at ho';clear a_5;cases ho'
 rw [hT] at hc';clear a_4 a_3 a_2 a_1;cases hc'
 exact h1 (hr hd)
theorem Rp.ext {env oa} {s:Shared} {it:Addr} {o:Obj} {h':Heap} {t:Nat} (R:Rp B F env oa ρ s) (ho:s.heap.get? it=some o) (hc:ItCls o) (hb:B.hB.get? it=none) (hf:¬ FW env oa it) (x:Heap.ExtBut it s.heap h') (g:Grow s.heap h') :
  Rp B F env oa ρ { s with heap:=h',toks:=t }:=by
 have hL:env.locals≠it:=fun q=>hf (.inl (.inl q.symm))
 have hC:∀ y c,(y,c)∈env.cells→c≠it:=fun y c hm q=>by
  refine e2_2 (R.cellsLive y c hm) ?_
  intro v oc h1 h2
  refine e0_2 hc ?_
  clear hc
  intro ez8 _
  obtain ⟨vs,hd⟩:=ez8
  clear hm hL x hf;subst q;rw [ho] at h1;clear a;cases h1;rw [hd] at h2;cases h2
 have cell:∀ {y c v},env.cells.lookup y=some c→s.heap.IsCell c v→h'.IsCell c v:=fun {y c v} hl hz4=>e1_2 hz4 fun oc h1 h2=>⟨oc,x c oc (hC y c (mem_of_lookup hl)) h1,h2⟩
 have ns:∀ {m},s.heap.Ns env.locals m→h'.Ns env.locals m:=fun hz5=>e3_2 hz5 fun oL es ep h1 r=>⟨oL,es,ep,x _ _ hL h1,r⟩
 have var:∀ {y k v},VarAt env s.heap y k v→VarAt env h' y k v:=fun {y k v} hv=>by
  cases k with
  | loc=>(obtain ⟨m,h1,h2⟩:=hv;exact ⟨m,ns h1,h2⟩)
  | cel=>(obtain ⟨c,h1,h2⟩:=hv;exact ⟨c,h1,cell h1 h2⟩)
  | fre=>(obtain ⟨c,h1,h2⟩:=hv;exact ⟨c,h1,cell h1 h2⟩)
 have cont:∀ {a c},ContAt B s.heap a c→ContAt B h' a c:=fun {a c} y=>y.of_same (fun ob e _=>x a ob (y.ne ho hc) e) g
 refine ⟨fun b ob e=>x b ob (fun q=>by clear hC hL x hf ho;subst q;rw [hb] at e;cases e) (R.base b ob e),R.scope,R.globals,R.builtins,R.code,?_,?_,R.apart,R.locCell,?_,R.privNew,?_,R.oinj,?_⟩
 ·(obtain ⟨m,h⟩:=R.ns;exact ⟨m,ns h⟩)
 ·intro i y k h1 h2
  refine e2_3 (R.cells i y k h1 h2) ?_
  intro c v h3 h4 h5
  exact ⟨c,v,h3,cell h3 h4,h5⟩
 ·intro y c hm
  refine e2_2 (R.cellsLive y c hm) ?_
  intro v ob h1 h2
  exact ⟨v,ob,x c ob (hC y c hm) h1,h2⟩
 ·intro i y k sl h1 h2
  have z:=R.slots i y k sl h1 h2
  clear h2;cases sl with
  | im d=>(obtain ⟨v,h3,h4⟩:=z;exact ⟨v,var h3,h4.grow g⟩)
  | fz c=>(obtain ⟨a,h3,h4,h5⟩:=z;exact ⟨a,h3.map (fun _=>var) g,cont h4,h5⟩)
  | own c=>(obtain ⟨a,h3,h4,h5⟩:=z;exact ⟨a,h3.map (fun _=>var) g,cont h4,h5⟩)
 ·intro i a h
  refine e0_3 (R.opriv i a h) ?_
  intro h1 h2 ez9
  refine e1_1 ez9 ?_
  clear ez9
  intro ob h3
  exact ⟨h1,h2,ob,x a ob (fun q=>hf (.inr ⟨i,q▸h⟩)) h3⟩
theorem Ar.ext {A:Around} {s:Shared} {it:Addr} {o:Obj} {h':Heap} {t:Nat} (a:Ar B A n s) (ho:s.heap.get? it=some o) (hc:ItCls o) (x:Heap.ExtBut it s.heap h'):Ar B A n { s with heap:=h',toks:=t }:=by
 refine e1_3 a.frames ?_
 intro l f1 f2 f3
 have hnc:=hc.notCode
 refine e0_2 hc ?_
 clear hc
 intro ez10 ez11
 obtain ⟨vs,hd⟩:=ez10
 refine e1_4 ez11 ?_
 clear ez11
 intro T hT _ _ h3
 refine ⟨a.depth,a.units,a.handled,⟨l,f1,f2.of_keeps fun b ob e hnf=>⟨ob,x b ob (fun q=>by clear x;subst q;rw [ho] at e;cases e;exact hnf _ hd) e,rfl⟩,fun L hL=>?_⟩,a.tabs.keeps fun b ob e cl=>x b ob (fun q=>by subst q;rw [ho] at e;cases e;exact hnc cl) e⟩
 refine e3_3 (f3 L hL) ?_
 intro oL es ep q1 q2 q3
 exact ⟨oL,es,ep,x L oL (fun q=>by clear hL x;subst q;rw [ho] at q1;clear q2 hT hnc;cases q1;rw [hd] at q3;cases q3) q1,q2,q3⟩
theorem Ar.epw {A:Around} {W:Addr→Prop} {s s':Shared} {e:Value} (_a:Ar B A n s) (x:EPW B W X s e s'):Ar B A n s':=x.elim
theorem notedFly {A:Around} {env:Env} {W:Addr→Prop} {s0 s:Shared} {e:Value} (_hd:Hd A env) (_a:Ar B A n s) (x:EPW B W X s0 e s) :
  notedBy (model B.prog B.w) A env (fun e s'=>cameBackBy (model B.prog B.w) A env (EPW B W X s0) e s') e s:=x.elim
noncomputable def ForInv (B:Bs) (F:Fi) (n:Nat) (env:Env) (oa:Nat→Option Addr) (A:Around) (s:Shared) (I:List D→List (Option Sl)→Prop) (it:Addr) (dep:Option Addr) (m:Nat) (t:Shared):Prop :=
 ∃ ds ρ' oa',ds.length=m∧I ds ρ'∧Rp B F env oa' ρ' t∧Ar B A n t∧KpW B (FW env oa) s t∧OwnFrom s oa oa'∧Itr t.heap it dep ds∧¬ FW env oa' it∧(∀ l,dep=some l→¬ FW env oa' l)
theorem SW.for_ {target iter:Expr} {body orelse:List Stmt} {pos:Pos} {Q:Fl→List (Option Sl)→Prop}
  (h:EW B F X n ρ iter fun r=>∃ ds,IterS B n r ds∧∃ I:List D→List (Option Sl)→Prop,I ds ρ ∧
   (∀ d rest ρ',I (d::rest) ρ'→AsW B F n ρ' target d fun ρ2=>SWs B F X n ρ2 body fun fl ρ3=>match fl with | .next=>I rest ρ3 | .cont=>I rest ρ3 | .brk=>Q .next ρ3 | .ret r=>Q (.ret r) ρ3) ∧
   (∀ ρ',I [] ρ'→SWs B F X n ρ' orelse Q))
  (hs:∀ env x,foldedSetIterable iter env x=pure x:=by intros;rfl) (hq:B.quiet=true:=by assumption):SW B F X n ρ (.For target iter body orelse pos) Q:=by
 refine .mk ?_
 intro env oa A s hd R a
 refine wpAny_For (wpAny_mono (h.go env oa A s R a) (fun v s1 hz8=>?_) fun _ _ x=>x.toW) (hs env)
 refine e1_3 hz8 ?_
 clear hz8
 intro r ez12 k1 x1
 obtain ⟨ds,hi,I,hI,hturn,hend⟩:=ez12
 refine wpAny_mono (hi env oa A s s1 v _ (R.kp k1).base (a.kp k1) x1 fun b hb=>(R.new hb).1) (fun itv s2 hz9=>?_) fun _ _ x=>x
 refine e2_6 hz9 ?_
 clear hz9
 intro it dep e hit hn hne hdep k2
 subst e
 have k12:=k1.trans k2
 have hn0:s.heap.get? it=none:=k1.fresh hn
 refine codeAny_loop' rfl (ForInv B F n env oa A s I it dep)
  (fun m t ht=>?_) ds.length ⟨ds,ρ,oa,rfl,hI,R.kp k12,a.kp k12,k12.toW,OwnFrom.refl _ _,hit,(R.new hn0).1,fun l hl=>(hdep l hl).1⟩
 refine e3_9 ht ?_
 clear ht
 intro ds' ρ' oa' ez13 hI' R' a' kt ot hit' hf1 hf2
 subst ez13
 show wpAny _ _ ((forTurn target (.ref it) body orelse env).onRaise (fun x=>do noteFrame x env;theTreesLotGoes x)) _ _ t
 refine wpAny_noted ?_
 unfold forTurn
 have hb:B.hB.get? it=none:=(R.new hn0).2
 have under:A.under (.forLoop target (.ref it) body orelse env)=A:=Around.under_of_weight rfl
 refine e1_2 hit'.itCls ?_
 intro oi hoi hci
 cases ds' with
 | nil =>
  refine wpAny_bind (wpAny_standAt (wpAny_bind (wpAny_onRaise (wpAny_mono (hit'.fin (a'.handled hq) kt hn0 (E:=fun _ _=>False)) (fun r t1 hz10=>?_) fun _ _ x=>x.elim))))
  refine e0_3 hz10 ?_
  clear hz10
  intro e kt1 ez14
  refine e1_3 ez14 ?_
  clear ez14
  intro h' e' hx hg
  subst e;clear kt;subst e'
  refine wpAny_pure (.inr ⟨rfl,codeAny_block ?_⟩)
  have R1:=R'.ext hoi hci hb hf1 hx hg (t:=t.toks)
  have a1:=a'.ext hoi hci hx (t:=t.toks)
  exact wpAny_mono ((hend ρ' hI').run hd R1 a1 kt1 ot) (fun f s3 x=>x) fun e s3 x=>notedFly hd (a.epw x) x
 | cons d ds' =>
  refine wpAny_bind (wpAny_standAt (wpAny_bind (wpAny_onRaise (wpAny_mono (hit'.next hne kt hn0 (E:=fun _ _=>False)) (fun r t1 hz11=>?_) fun _ _ x=>x.elim))))
  refine e1_5 hz11 ?_
  clear hz11
  intro v e hv hit1 kt1 ez15
  refine e2_2 ez15 ?_
  clear ez15
  intro h' tk e' hx
  subst e;subst e'
  have hg:=growBut hoi (by obtain ⟨_,T,hT,_,h2,_⟩:=hci;rw [hT];intro q;cases q;exact h2 rfl) hx.extBut
  have R1:=R'.ext hoi hci hb hf1 hx.extBut hg (t:=tk)
  have a1:=a'.ext hoi hci hx.extBut (t:=tk)
  refine wpAny_bind (hit1.letGo ?_)
  refine wpAny_bind (wpAny_mono ((hturn d ds' ρ' hI').go env oa' A _ v _ R1 a1 hv) (fun _ t2 hz12=>?_) fun _ _ x=>x)
  refine e2_5 hz12 ?_
  clear hz12
  intro ρ2 oa2 q2 R2 kp2 o2 _
  have k2':KpW B (FW env oa') _ t2:=kp2.mono fun _ x=>.inl x
  have lit:∃ o,h'.get? it=some o:=e1_2 hit1.itCls fun o ho _=>⟨o,ho⟩
  have hf12:=notFW hf1 o2 lit
  have kt2:=kt1.trans k2' (FW.from ot)
  have ot2:=ot.trans kt1 o2
  have hdl:∀ l,dep=some l→∃ o,h'.get? l=some o:=fun l hl=>by
   subst hl
   cases hit1 with | list a b c=>(obtain ⟨o,ho,_⟩:=b;exact ⟨o,ho⟩)
  have hf22:∀ l,dep=some l→¬ FW env oa2 l:=fun l hl=>notFW (hf2 l hl) o2 (hdl l hl)
  have hit2:=hit1.kp k2' hf1 hf2
  refine wpAny_bind (wpAny_mono (q2.go env oa2 A t2 hd R2 (a1.kp k2')) (fun f t3 x=>?_) fun e t3 x=>notedFly hd (a.epw (x.back kt2 ot2)) (x.back kt2 ot2))
  refine e3_5 x ?_
  clear x
  intro fl ρ3 oa3 q3 r3 R3 k3 o3
  have kt3:=kt2.trans k3 (FW.from ot2)
  have ot3:=ot2.trans kt2 o3
  have lit2:∃ o,t2.heap.get? it=some o:=e1_2 hit2.itCls fun o ho _=>⟨o,ho⟩
  have hdl2:∀ l,dep=some l→∃ o,t2.heap.get? l=some o:=fun l hl=>by
   clear hf22 hdl hit1 hit' hf2 hdep hne hit;subst hl
   cases hit2 with | list a b c=>(obtain ⟨o,ho,_⟩:=b;exact ⟨o,ho⟩)
  have again:I ds' ρ3→∃ m,m<(d::ds').length∧ForInv B F n env oa A s I it dep m t3:=fun hI3 =>
   ⟨ds'.length,by simp,ds',ρ3,oa3,rfl,hI3,R3,(a1.kp k2').kp k3,kt3,ot3,hit2.kp k3 hf12 hf22,notFW hf12 o3 lit2,fun l hl=>notFW (hf22 l hl) o3 (hdl2 l hl)⟩
  cases f with
  | next=>cases fl with
   | next=>exact wpAny_pure (.inl ⟨rfl,again q3⟩)
   | _=>exact r3.elim
  | cont=>cases fl with
   | cont=>exact wpAny_pure (.inl ⟨rfl,again q3⟩)
   | _=>exact r3.elim
  | brk=>cases fl with
   | brk=>exact wpAny_pure ⟨.next,ρ3,oa3,q3,trivial,R3,kt3,ot3⟩
   | _=>exact r3.elim
  | ret v=>cases fl with
   | ret r=>exact wpAny_pure ⟨.ret r,ρ3,oa3,q3,FlR.back (f:=.ret v) (fl:=.ret r) kt2 r3,R3,kt3,ot3⟩
   | _=>exact r3.elim
end
end Mine
end

section
open PySem PySem.W PyProof.Rows PySem.Calls PyProof
set_option backward.match.sparseCases false
set_option tactic.hygienic false
namespace Mine
theorem closureFor_lookup {scope:Scope} {env:Env} (h:∀ x∈scope.names,x.2=.free→∃ c,env.cells.lookup x.1=some c) :
  ∃ cl,closureFor scope env=pure cl∧(∀ p∈cl,env.cells.lookup p.1=some p.2∧(p.1,NameKind.free)∈scope.names)∧∀ x∈scope.names,x.2=.free→(cl.lookup x.1).isSome=true:=by
 unfold closureFor
 have go:∀ (l:List (Str×NameKind)) (acc:List (Str×Addr)),(∀ x∈l,x∈scope.names∧(x.2=.free→∃ c,env.cells.lookup x.1=some c))→(∀ p∈acc,env.cells.lookup p.1=some p.2∧(p.1,NameKind.free)∈scope.names) →
   ∃ cl,(forIn l acc fun (x:Str×NameKind) (r:List (Str×Addr))=>(if (x.2 == .free)=true then (do let c ← cellOf env x.1;pure (.yield ((x.1,c)::r))) else pure (.yield r):Sem (ForInStep (List (Str×Addr)))))=pure cl ∧
    (∀ p∈cl,env.cells.lookup p.1=some p.2∧(p.1,NameKind.free)∈scope.names)∧(∀ x∈l,x.2=.free→(cl.lookup x.1).isSome=true)∧∀ y,(acc.lookup y).isSome=true→(cl.lookup y).isSome=true:=by
  intro l
  induction l with
  | nil=>intro acc _ ha;exact ⟨acc,rfl,ha,fun x hx=>(nomatch hx),fun y hy=>hy⟩
  | cons p r ih =>
   intro acc hl ha
   obtain ⟨x,k⟩:=p
   rw [List.forIn_cons]
   by_cases hk:(k == .free)=true
   ·have hk':k=.free:=by simpa using hk
    refine e1_1 ((hl (x,k) List.mem_cons_self).2 hk') ?_
    intro c hc
    have hc':env.cells.lookup x=some c:=hc
    obtain ⟨cl,h1,h2,h3,h4⟩:=ih ((x,c)::acc) (fun y hy=>hl y (List.mem_cons_of_mem _ hy)) (fun p hp=>by
     rcases List.mem_cons.mp hp with rfl | hp
     ·exact ⟨hc',hk'▸(hl (x,k) List.mem_cons_self).1⟩
     ·exact ha p hp)
    refine ⟨cl,?_,h2,fun y hy hyf=>?_,fun y hy=>h4 y ?_⟩
    ·simp only [if_pos hk]
     rw [show cellOf env x=pure c from by unfold cellOf;rw [hc']]
     exact h1
    ·rcases List.mem_cons.mp hy with rfl | hy
     ·exact h4 _ (by simp)
     ·exact h3 y hy hyf
    ·rw [List.lookup_cons];split
     ·rfl
     ·exact hy
   ·refine e1_4 (ih acc (fun y hy=>hl y (List.mem_cons_of_mem _ hy)) ha) ?_
    intro cl h1 h2 h3 h4
    refine ⟨cl,?_,h2,fun y hy hyf=>?_,h4⟩
    ·simp only [if_neg hk];exact h1
    ·rcases List.mem_cons.mp hy with rfl | hy
     ·exact absurd (by simpa using hyf) hk
     ·exact h3 y hy hyf
 refine e1_4 (go scope.names [] (fun x hx=>⟨hx,h x hx⟩) (fun p hp=>(nomatch hp))) ?_
 intro cl h1 h2 h3 _
 refine ⟨cl,?_,h2,h3⟩
 show ((forIn scope.names ([]:List (Str×Addr)) fun (x:Str×NameKind) (r:List (Str×Addr))=>(if (x.2 == .free)=true then (do let c ← cellOf env x.1;pure (.yield ((x.1,c)::r))) else pure (.yield r):Sem (ForInStep (List (Str×Addr))))) >>= fun r=>pure r)=pure cl
 rw [h1];rfl
noncomputable def relabelS (scope outer:Scope):Scope :=
 {scope with names:=scope.names.map fun (n,k)=>if (k == .free&&outer.kind == .function&&outer.names.lookup n == some .cell) then (n,.cell) else (n,k) }
theorem relabel_eq {scope:Scope} {env:Env} {sc:Scope} (h:env.scope=sc):relabel scope env=relabelS scope sc:=by
 unfold relabel relabelS Env.kindOf;rw [h]
noncomputable def NoX:Str→Prop:=fun _=>False
theorem EP.no {B:Bs} {s:Shared} {e s'} (x:EP B NoX s e s'):False:=x
noncomputable def capSlot:Option (Option Sl)→Option Sl
 | some (some (.own c _))=>some (.fz c)
 | some x=>x
 | none=>none
structure CompOk (F Fc:Fi) (scope:Scope) (m:Nat) (caps:List Nat):Prop where
 sc:Fc.scope=relabelS scope F.scope
 nodup:(scope.names.map (·.1)).Nodup
 own:Fc.own=m
 lam:Fc.lam=false
 kind:scope.kind=.function
 names:∀ x∈scope.names,x.2=.local→scope.names.lookup x.1=some .local
 free:∀ x∈scope.names,x.2=.free→∃ (i:Nat) (k:Kd),F.vars[i]?=some (x.1,k)∧k≠.loc
 targets:∀ (i:Nat) x k,i<m→Fc.vars[i]?=some (x,k)→scope.names.lookup x=some k.kind∧k≠.fre
 outer:∀ (i:Nat) x k,m≤i→Fc.vars[i]?=some (x,k)→scope.names.lookup x=some .free∧∃ (j:Nat) (k':Kd),caps[i-m]?=some j∧F.vars[j]?=some (x,k')∧k'≠.loc
theorem cellsFrom_lookup {x:Str}:∀ (names:List (Str×NameKind)) (n:Nat) (acc:List (Str×Addr)),(∀ p∈names,p.1=x→p.2≠.cell)→(cellsFrom n names acc).lookup x=acc.lookup x
 | [],_,_,_=>rfl
 | (y,k)::r,n,acc,h=>by
  unfold cellsFrom
  split
  ·rename_i hk
   rw [cellsFrom_lookup r (n+1) _ fun p hp=>h p (List.mem_cons_of_mem _ hp),List.lookup_cons]
   have:(x == y)=false:=by
    cases q:x == y with
    | false=>rfl
    | true=>exact absurd (by simpa using hk) (h (y,k) List.mem_cons_self (beq_iff_eq.mp q).symm)
   rw [this]
  ·exact cellsFrom_lookup r n acc fun p hp=>h p (List.mem_cons_of_mem _ hp)
end Mine
end

section
open PySem PySem.W PyProof.Rows PySem.Calls PyProof
set_option backward.match.sparseCases false
set_option tactic.hygienic false
namespace Mine
theorem cellsFrom_new:∀ (names:List (Str×NameKind)) (h:Heap) (acc:List (Str×Addr)) (p:Str×Addr),p∈cellsFrom h.objs.size names acc→p∈acc∨((pushCells h names).IsCell p.2 none∧h.objs.size≤p.2)
 | [],_,_,_,hp=>.inl hp
 | (y,k)::r,h,acc,p,hp=>by
  unfold cellsFrom at hp
  unfold pushCells
  split at hp
  ·rename_i hk
   rw [if_pos hk]
   have:=cellsFrom_new r (h.push { cls:=.type "cell",data:=.cell none }) ((y,h.objs.size)::acc) p (by rw [Heap.size_push];exact hp)
   rcases this with q | q
   ·rcases List.mem_cons.mp q with rfl | q
    ·exact .inr ⟨⟨_,pushCells_keeps _ _ _ _ (Heap.get?_push_size _ rfl),rfl⟩,Nat.le_refl _⟩
    ·exact .inl q
   ·rw [Heap.size_push] at q;exact .inr ⟨q.1,by lia⟩
  ·rename_i hk
   rw [if_neg hk]
   exact cellsFrom_new r h acc p hp
theorem cellsFrom_inj:∀ (names:List (Str×NameKind)) (n:Nat) (acc:List (Str×Addr)),(∀ p∈acc,∀ q∈acc,p.2=q.2→p.1=q.1)→(∀ p∈acc,p.2<n) →
  ∀ p∈cellsFrom n names acc,∀ q∈cellsFrom n names acc,p.2=q.2→p.1=q.1
 | [],_,_,h,_=>h
 | (y,k)::r,n,acc,h,hl=>by
  unfold cellsFrom
  split
  ·refine cellsFrom_inj r (n+1) _ (fun p hp q hq e=>?_) fun p hp=>?_
   ·rcases List.mem_cons.mp hp with rfl | hp <;> rcases List.mem_cons.mp hq with rfl | hq
    ·rfl
    ·exact absurd (hl q hq) (by rw [← e];exact Nat.lt_irrefl _)
    ·exact absurd (hl p hp) (by rw [e];exact Nat.lt_irrefl _)
    ·exact h p hp q hq e
   ·rcases List.mem_cons.mp hp with rfl | hp
    ·exact Nat.lt_succ_self _
    ·exact Nat.lt_succ_of_lt (hl p hp)
  ·exact cellsFrom_inj r n acc h hl
theorem lookup_of_mem_nd {α:Type}:∀ {l:List (Str×α)},(l.map (·.1)).Nodup→∀ {x:Str} {k:α},(x,k)∈l→l.lookup x=some k
 | (y,k')::r,nd,x,k,h=>by
  rw [List.map_cons,List.nodup_cons] at nd
  rw [List.lookup_cons]
  rcases List.mem_cons.mp h with e | h
  ·clear h nd;cases e;simp
  ·have:(x == y)=false:=by
    cases q:x == y with
    | false=>rfl
    | true=>exact absurd (List.mem_map.mpr ⟨_,h,(beq_iff_eq.mp q)⟩) nd.1
   rw [this];exact lookup_of_mem_nd nd.2 h
theorem newEnvComp {M:Model} {A:Around} {E:Value→Shared→Prop} {s:Shared} {scope:Scope} {globals:Addr} {cl:List (Str×Addr)} {qual:Str} {env:Env} {Q:Env→Shared→Prop}
  (h:Q { scope,locals:=s.heap.objs.size,globals,cells:=cellsFrom (s.heap.objs.size+1) scope.names cl,qual,func:=none,code:=env.code,frame:=env.frame,builtins:=env.builtins }
   {s with heap:=pushCells (s.heap.push { cls:=.type "dict",data:=.dict #[] }) scope.names }) :
  wpAny M A (newFunctionEnv scope globals cl [] qual none .none (some env)) Q E s:=by
 simp only [newFunctionEnv,Option.isSome_some,if_true]
 refine wpAny_bind (wpAny_alloc ?_)
 refine wpAny_bind (wpAny_layCells _ (fun name kind cells=>by cases hkc:kind == NameKind.cell <;> simp [hkc]) _ _ _ _ ?_)
 rw [show ({ s with heap:=s.heap.push { cls:=.type "dict",data:=.dict #[] } }:Shared).heap.objs.size=s.heap.objs.size+1 from Heap.size_push ..]
 rw [List.forIn_nil]
 exact wpAny_bind (wpAny_pure (wpAny_pure h))
section
variable {B:Bs} {F:Fi} {X:Str→Prop} {n:Nat} {ρ:List (Option Sl)}
noncomputable def compStart0 (m:Nat) (ρ:List (Option Sl)) (caps:List Nat):List (Option Sl):=List.replicate m none++caps.map fun j=>capSlot ρ[j]?
theorem relabelS_free {scope outer:Scope} {x:Str} (h:scope.names.lookup x=some .free):(relabelS scope outer).names.lookup x≠some .local:=by
 unfold relabelS
 intro q
 have go:∀ l:List (Str×NameKind),l.lookup x=some .free→(l.map fun (n,k)=>if (k == NameKind.free&&outer.kind == .function&&outer.names.lookup n == some .cell) then (n,NameKind.cell) else (n,k)).lookup x≠some .local:=by
  intro l
  induction l with
  | nil=>intro e;clear q h;cases e
  | cons p r ih =>
   obtain ⟨y,k⟩:=p
   intro e
   rw [List.lookup_cons] at e
   rw [List.map_cons]
   cases hx:x == y with
   | true =>
    rw [hx] at e;clear ih q h;cases e
    simp only
    split <;> (rw [List.lookup_cons,hx];intro q;cases q)
   | false =>
    rw [hx] at e
    simp only
    split <;> (rw [List.lookup_cons,hx];exact ih e)
 exact go _ h q
theorem compRp {env:Env} {oa:Nat→Option Addr} {s0 s:Shared} {Fc:Fi} {scope:Scope} {m K:Nat} {acc:Addr} {caps:List Nat} {cl:List (Str×Addr)} (R0:Rp B F env oa ρ s0) (k0:Kp B s0 s) (hacc0:s0.heap.get? acc=none) (hacc:∃ o,s.heap.get? acc=some o) (ok:CompOk F Fc scope m caps)
  (h1':∀ p∈cl,env.cells.lookup p.1=some p.2∧(p.1,NameKind.free)∈scope.names) (h2:∀ x∈scope.names,x.2=.free→(cl.lookup x.1).isSome=true) :
  Rp B Fc { scope:=relabel scope env,locals:=s.heap.objs.size,globals:=env.globals,cells:=cellsFrom (s.heap.objs.size+1) scope.names cl,qual:=env.qual,func:=none,code:=env.code,frame:=env.frame,builtins:=env.builtins }
   (fun j=>if j=K then some acc else none) (compStart0 m ρ caps) { s with heap:=pushCells (s.heap.push { cls:=.type "dict",data:=.dict #[] }) scope.names } ∧
  Kp B s { s with heap:=pushCells (s.heap.push { cls:=.type "dict",data:=.dict #[] }) scope.names }:=by
 have R:=R0.kp k0
 have h1:∀ p∈cl,env.cells.lookup p.1=some p.2:=fun p hp=>(h1' p hp).1
 have kk:∀ b o,s.heap.get? b=some o→(pushCells (s.heap.push { cls:=.type "dict",data:=.dict #[] }) scope.names).get? b=some o:=fun b o e=>pushCells_keeps _ _ b o (Heap.get?_push_of_some _ e)
 have k:Kp B s { s with heap:=pushCells (s.heap.push { cls:=.type "dict",data:=.dict #[] }) scope.names }:=Kp.of (t:=s.toks) kk
 refine ⟨?_,k⟩
 have hLn:(pushCells (s.heap.push { cls:=.type "dict",data:=.dict #[] }) scope.names).Ns s.heap.objs.size fun _=>none:=(Heap.Ns.new s.heap (.type "dict")).keeps (pushCells_keeps _ _)
 have cnew:=cellsFrom_new scope.names (s.heap.push { cls:=.type "dict",data:=.dict #[] }) cl
 rw [Heap.size_push] at cnew
 have clIn:∀ p∈cl,p∈env.cells:=fun p hp=>mem_of_lookup (h1 p hp)
 have clLive:∀ p∈cl,∃ o,s.heap.get? p.2=some o:=fun p hp=>by
  obtain ⟨v,o,ho,_⟩:=R.cellsLive p.1 p.2 (clIn p hp);exact ⟨o,ho⟩
 have clLt:∀ p∈cl,p.2<s.heap.objs.size:=fun p hp=>e1_1 (clLive p hp) fun o ho=>Heap.lt_size ho
 have newB:∀ a,s.heap.objs.size≤a→B.hB.get? a=none:=fun a ha=>by
  cases e:B.hB.get? a with
  | none=>rfl
  | some o=>exact absurd (Heap.lt_size (R.base a o e)) (Nat.not_lt.mpr ha)
 have capLook:∀ x,scope.names.lookup x=some .free→∃ c,(cellsFrom (s.heap.objs.size+1) scope.names cl).lookup x=some c∧env.cells.lookup x=some c:=fun x hx=>by
  rw [cellsFrom_lookup scope.names _ cl fun p hp hpx=>by
   have:=lookup_of_mem_nd ok.nodup (show (p.1,p.2)∈scope.names from hp)
   rw [hpx,hx] at this;intro q;rw [q] at this;cases this]
  refine e1_1 (Option.isSome_iff_exists.mp (h2 (x,.free) (mem_of_lookup hx) rfl)) ?_
  intro c hc
  exact ⟨c,hc,h1 _ (mem_of_lookup hc)⟩
 have priv:∀ a,Priv { scope:=relabel scope env,locals:=s.heap.objs.size,globals:=env.globals,cells:=cellsFrom (s.heap.objs.size+1) scope.names cl,qual:=env.qual,func:=none,code:=env.code,frame:=env.frame,builtins:=env.builtins } a →
   s.heap.get? a=none:=by
  rintro a (q | q)
  ·rw [q];exact fresh_size s
  ·cases e:s.heap.get? a with
   | none=>rfl
   | some o=>exact absurd (Heap.lt_size e) (Nat.not_lt.mpr (Nat.le_of_lt q.1))
 refine ⟨fun b o e=>kk b o (R.base b o e),?_,R.globals,R.builtins,(fun q=>by rw [ok.lam] at q;cases q),⟨_,hLn⟩,?_,?_,?_,?_,?_,?_,(fun i j a q q'=>by split at q <;> split at q' <;> simp_all),(fun i a q=>?_)⟩
 ·show relabel scope env=_;rw [ok.sc];exact relabel_eq R.scope
 ·intro i x kd hi hne
  by_cases hm:i<m
  ·refine e0_2 (ok.targets i x kd hm hi) ?_
   intro hl hnf
   cases kd with
   | loc=>exact (hne rfl).elim
   | fre=>exact (hnf rfl).elim
   | cel =>
    refine e1_1 (Option.isSome_iff_exists.mp (cellsFrom_some scope.names (s.heap.objs.size+1) cl (.inl hl))) ?_
    intro c hc
    have:(pushCells (s.heap.push { cls:=.type "dict",data:=.dict #[] }) scope.names).IsCell c none∧s.heap.objs.size+1≤c:=?_
    ·exact ⟨c,none,hc,this.1,fun _=>this.2⟩
    rcases cnew _ (mem_of_lookup hc) with q | q
    ·-- a name of its own is none of the closure
     exfalso
     have:=lookup_of_mem_nd ok.nodup (h1' _ q).2
     rw [hl] at this;cases this
    ·exact q
  ·refine e0_2 (ok.outer i x kd (Nat.le_of_not_lt hm) hi) ?_
   intro hl _
   refine e1_2 (capLook x hl) ?_
   intro c hc hc'
   refine e2_2 (ok.free (x,.free) (mem_of_lookup hl) rfl) ?_
   intro j k' hj hjne
   refine e2_3 (R.cells j x k' hj hjne) ?_
   intro c2 v h3 h4 _
   rw [hc'] at h3;clear a_1 hc';cases h3
   exact ⟨c,v,hc,h4.keeps kk,fun q=>absurd q (by rw [ok.own];exact hm)⟩
 ·intro x y c hx hy
  exact cellsFrom_inj scope.names _ cl (fun p hp q hq e=>R.apart p.1 q.1 p.2 (h1 p hp) (e▸h1 q hq)) (fun p hp=>Nat.lt_succ_of_lt (clLt p hp)) _ (mem_of_lookup hx) _ (mem_of_lookup hy) rfl
 ·intro x c hm q
  rcases cnew _ hm with r | r
  ·have:=clLt _ r;rw [q] at this;exact absurd this (Nat.lt_irrefl _)
  ·exact absurd r.2 (by show ¬ _≤c;rw [q];exact Nat.not_succ_le_self _)
 ·intro x c hm
  rcases cnew _ hm with r | r
  ·refine e1_1 (R.cellsLive _ _ (clIn _ r)) ?_
   intro v hv
   exact ⟨v,hv.keeps kk⟩
  ·exact ⟨_,r.1⟩
 ·exact fun a q=>by
   cases e:B.hB.get? a with
   | none=>rfl
   | some o=>have:=R.base a o e;rw [priv a q] at this;cases this
 ·intro i x kd sl hi hρ
  have hm:m≤i:=by
   by_cases q:i<m
   ·unfold compStart0 at hρ
    rw [List.getElem?_append_left (by simpa using q),List.getElem?_replicate] at hρ
    split at hρ <;> cases hρ
   ·exact Nat.le_of_not_lt q
  unfold compStart0 at hρ
  rw [List.getElem?_append_right (by simpa using hm),List.length_replicate,List.getElem?_map] at hρ
  refine e0_2 (ok.outer i x kd hm hi) ?_
  intro hl ez1
  refine e2_3 ez1 ?_
  clear ez1
  intro j k' hj hjv hjne
  rw [hj] at hρ
  refine e1_2 (capLook x hl) ?_
  intro c hc hc'
  have hkd:kd≠.loc:=fun q=>by
   subst q
   have hx:=(Fc.at hi).1
   rw [ok.sc] at hx
   exact absurd hx (relabelS_free hl)
  rw [Option.map_some] at hρ
  cases hρj:ρ[j]? with
  | none=>rw [hρj] at hρ;cases hρ
  | some o=>cases o with
   | none=>rw [hρj] at hρ;cases hρ
   | some sl0 =>
    rw [hρj] at hρ
    have old0:=R0.slots j x k' sl0 hjv hρj
    have old:=SlotOk.kp k0 old0
    have var:∀ v,VarAt env s.heap x k' v→VarAt { scope:=relabel scope env,locals:=s.heap.objs.size,globals:=env.globals,cells:=cellsFrom (s.heap.objs.size+1) scope.names cl,qual:=env.qual,func:=none,code:=env.code,frame:=env.frame,builtins:=env.builtins } (pushCells (s.heap.push { cls:=.type "dict",data:=.dict #[] }) scope.names) x kd v:=fun v hv=>by
     have:s.heap.IsCell c (some v):=by
      clear hjv;cases k' with
      | loc=>exact (hjne rfl).elim
      | cel=>obtain ⟨c2,h3,h4⟩:=hv;rw [hc'] at h3;cases h3;exact h4
      | fre=>obtain ⟨c2,h3,h4⟩:=hv;rw [hc'] at h3;clear hc' hc;cases h3;exact h4
     clear hi;cases kd with
     | loc=>exact (hkd rfl).elim
     | cel=>exact ⟨c,hc,this.keeps kk⟩
     | fre=>exact ⟨c,hc,this.keeps kk⟩
    have nfw:∀ a c',ContAt B s0.heap a c'→¬ Priv env a→¬ FW { scope:=relabel scope env,locals:=s.heap.objs.size,globals:=env.globals,cells:=cellsFrom (s.heap.objs.size+1) scope.names cl,qual:=env.qual,func:=none,code:=env.code,frame:=env.frame,builtins:=env.builtins } (fun j=>if j=K then some acc else none) a:=by
     rintro a c' hca hnp (q | ⟨j',q⟩)
     ·obtain ⟨o,ho⟩:=(hca.kp k0 (fun x=>x)).exists;rw [priv a q] at ho;cases ho
     ·dsimp only at q
      split at q
      ·clear hnp;cases q;obtain ⟨o,ho⟩:=hca.exists;rw [hacc0] at ho;cases ho
      ·clear hnp hca;cases q
    clear hρj;cases sl0 with
    | im d=>cases hρ;(obtain ⟨v,h3,h4⟩:=old;exact ⟨v,var v h3,h4.grow k.tups⟩)
    | fz c0 =>
     (try clear old;try clear hρj);cases hρ
     refine e1_3 old0 ?_
     clear old0
     intro a h3 h4 h5
     exact ⟨a,(h3.keep (fun b o h=>k0.data b o h (fun x=>x)) k0.tups).map var k.tups,(h4.kp k0 (fun x=>x)).kp k (fun x=>x),nfw a c0 h4 fun q=>h5 (.inl q)⟩
    | own c0 =>
     (try clear old;try clear hρj);cases hρ
     refine e1_4 old0 ?_
     clear old0
     intro a h3 h4 h5 _
     exact ⟨a,(h3.keep (fun b o h=>k0.data b o h (fun x=>x)) k0.tups).map var k.tups,(h4.kp k0 (fun x=>x)).kp k (fun x=>x),nfw a c0 h4 (R0.opriv j a h5).1⟩
 ·split at q
  ·cases q
   refine e1_1 hacc ?_
   clear hacc
   intro o ho
   refine ⟨fun q=>?_,(R0.new hacc0).2,o,kk _ _ ho⟩
   rw [priv acc q] at ho;cases ho
  ·cases q
end
end Mine
end

section
open PySem PySem.W PyProof.Rows PySem.Calls PyProof
set_option backward.match.sparseCases false
set_option tactic.hygienic false
namespace Mine
section
variable {B:Bs} {F:Fi} {X:Str→Prop} {n:Nat} {ρ:List (Option Sl)}
theorem Itr.again {A:Around} {s:Shared} {it:Addr} {dep ds} {Q:Value→Shared→Prop} {E} (x:Itr s.heap it dep ds) (h:Q (.ref it) s):wpAny (model B.prog B.w) A (pyIter (.ref it)) Q E s:=by
 cases x with
 | list a b c=>exact wpAny_pyIter_listiter a h
 | tup a b c=>exact wpAny_pyIter_tupleiter a h
 | rng a=>exact wpAny_pyIter_rangeiter a h
 | asc a=>exact wpAny_pyIter_striter_ascii a h
 | wid a=>exact wpAny_pyIter_striter_wide a h
structure IfsW (B:Bs) (F:Fi) (n:Nat) (ρ:List (Option Sl)) (ifs:List Expr) (Q:Bool→Prop):Prop where
 go:∀ env oa A s (E:Value→Shared→Prop),Rp B F env oa ρ s→Ar B A n s →
  wpAny (model B.prog B.w) A (forIn ifs true fun c r=>if r=true then do let ok ← isTrue c env (eval c env);pure (ForInStep.yield ok) else pure (ForInStep.yield r)) (fun b s'=>Q b∧Kp B s s') E s
theorem IfsW.nil {Q:Bool→Prop} (h:Q true):IfsW B F n ρ [] Q:=.mk fun env oa A s E R a=>wpAny_tests_nil ⟨h,Kp.refl _⟩
theorem IfsW.one {c:Expr} {Q:Bool→Prop} (h:TW B F NoX n ρ c Q):IfsW B F n ρ [c] Q:=.mk fun env oa A s E R a =>
 wpAny_tests_one (wpAny_mono (h.go env oa A s R a) (fun _ _ x=>x) fun _ _ x=>x.no.elim)
noncomputable def CW (B:Bs) (Fc:Fi) (n:Nat) (m:Nat) (ρc:List (Option Sl)) (target:Expr) (ifs:List Expr) (elt:Expr) (d:D) (K:Option D→Prop):Prop :=
 AsW B Fc n ρc target d fun ρ2=>ρ2.drop m=ρc.drop m∧IfsW B Fc n ρ2 ifs fun b=>if b=true then EW B Fc NoX n ρ2 elt fun r=>∃ e,r=.im e∧K (some e) else K none
noncomputable def CoK (J:List D→List D→Prop) (ds ac:List D):Option D→Prop
 | none=>J ds ac
 | some e=>ac.length≤sizeLine∧J ds (ac++[e])
theorem Rp.forget {env oa} {s:Shared} {ρ':List (Option Sl)} (R:Rp B F env oa ρ s) (h:∀ (i:Nat) sl,ρ'[i]?=some (some sl)→ρ[i]?=some (some sl)):Rp B F env oa ρ' s :=
 ⟨R.base,R.scope,R.globals,R.builtins,R.code,R.ns,R.cells,R.apart,R.locCell,R.cellsLive,R.privNew,fun i x k sl h1 h2=>R.slots i x k sl h1 (h i sl h2),R.oinj,R.opriv⟩
theorem Rp.upd {env oa} {s:Shared} {a:Addr} {j:Nat} {h':Heap} {t:Nat} (R:Rp B F env oa ρ s) (hj:oa j=some a) (hs:Heap.SameBut a s.heap h') (hl:∃ o,h'.get? a=some o) (hc:∃ c,ContAt B s.heap a c)
  (ρ':List (Option Sl)) (hρ:∀ (i:Nat) x k sl,F.vars[i]?=some (x,k)→ρ'[i]?=some (some sl)→(ρ[i]?=some (some sl)∧i≠j)∨(i=j∧∃ c c' m,sl=.own c' m∧ρ[i]?=some (some (.own c m))∧ContAt B h' a c'∧∀ v,Vw h' v a c→Vw h' v a c')) :
  Rp B F env oa ρ' { s with heap:=h',toks:=t }∧Grow s.heap h':=by
 refine e1_1 hc ?_
 clear hc
 intro c0 hc
 have hnt:∀ o,s.heap.get? a=some o→∀ vs n,o.data=.seq vs n→o.cls≠.type "tuple":=fun o ho vs n hd q=>by
  refine e2_4 hc.shape ?_
  intro o' T h1 h2 h3 _
  rw [ho] at h1;clear a_1 hd ho;cases h1;rw [h2] at q;exact h3 (Value.type.inj q)
 have hg:Grow s.heap h':=fun b o vs n e c d=>(hs.2 b (fun q=>by subst q;exact hnt o e vs n d c)).trans e
 refine ⟨?_,hg⟩
 refine e0_3 (R.opriv j a hj) ?_
 intro hp hb ez1
 refine e1_1 ez1 ?_
 clear ez1
 intro o0 ho0
 have hL:env.locals≠a:=fun q=>hp (.inl q.symm)
 have hC:∀ y c,(y,c)∈env.cells→c≠a:=fun y c hm q=>by
  refine e2_2 (R.cellsLive y c hm) ?_
  intro v oc h1 h2
  clear hm hL ho0 hp hnt hρ hs;subst q
  refine e2_7 hc.shape ?_
  intro o' T h3 _ _ _ _ h4 _
  rw [h1] at h3;clear a_4 a;cases h3;exact h4 _ h2
 have cell:∀ {y c v},env.cells.lookup y=some c→s.heap.IsCell c v→h'.IsCell c v:=fun {y c v} hl hz1=>e1_2 hz1 fun oc h1 h2=>⟨oc,(hs.2 c (hC y c (mem_of_lookup hl))).trans h1,h2⟩
 have ns:∀ {m},s.heap.Ns env.locals m→h'.Ns env.locals m:=fun y=>y.sameBut hs hL
 have var:∀ {y k v},VarAt env s.heap y k v→VarAt env h' y k v:=fun {y k v} hv=>by
  cases k with
  | loc=>(obtain ⟨m,h1,h2⟩:=hv;exact ⟨m,ns h1,h2⟩)
  | cel=>(obtain ⟨c,h1,h2⟩:=hv;exact ⟨c,h1,cell h1 h2⟩)
  | fre=>(obtain ⟨c,h1,h2⟩:=hv;exact ⟨c,h1,cell h1 h2⟩)
 have cont:∀ {b c},b≠a→ContAt B s.heap b c→ContAt B h' b c:=fun {b c} ne y=>y.of_same (fun ob e _=>(hs.2 b ne).trans e) hg
 refine ⟨fun b ob e=>(hs.2 b (fun q=>by subst q;rw [hb] at e;cases e)).trans (R.base b ob e),R.scope,R.globals,R.builtins,R.code,?_,?_,R.apart,R.locCell,?_,R.privNew,?_,R.oinj,?_⟩
 ·(obtain ⟨m,h⟩:=R.ns;exact ⟨m,ns h⟩)
 ·intro i y k h1 h2
  refine e2_3 (R.cells i y k h1 h2) ?_
  intro c v h3 h4 h5
  exact ⟨c,v,h3,cell h3 h4,h5⟩
 ·intro y c hm
  refine e2_2 (R.cellsLive y c hm) ?_
  intro v ob h1 h2
  exact ⟨v,ob,(hs.2 c (hC y c hm)).trans h1,h2⟩
 ·intro i y k sl h1 h2
  rcases hρ i y k sl h1 h2 with ⟨h3,hij⟩ | ⟨hij,c,c',m,rfl,h3,h4,hvw⟩
  ·have z:=R.slots i y k sl h1 h3
   clear h3;cases sl with
   | im d=>(obtain ⟨v,h3,h4⟩:=z;exact ⟨v,var h3,h4.grow hg⟩)
   | fz c=>(obtain ⟨b,h3,h4,h5⟩:=z;exact ⟨b,h3.map (fun _=>var) hg,cont (fun q=>h5 (.inr ⟨j,q▸hj⟩)) h4,h5⟩)
   | own c=>(obtain ⟨b,h3,h4,h5,h6⟩:=z;exact ⟨b,h3.map (fun _=>var) hg,cont (fun q=>hij (R.oinj i j a (q▸h5) hj)) h4,h5,h6⟩)
  ·refine e1_4 (R.slots i y k _ h1 h3) ?_
   intro b h5 h6 h7 h8
   rw [hij,hj] at h7;clear h6 cont hC hL ho0 hb hp hnt hc hρ hs;cases h7
   refine e1_2 ((h5.map (fun _=>var) hg).get) ?_
   intro u h5a h5b
   exact ⟨a,.of h5a (hvw u h5b),h4,hij▸hj,h8⟩
 ·intro i b h
  refine e0_3 (R.opriv i b h) ?_
  intro h1 h2 ez2
  refine e1_1 ez2 ?_
  clear ez2
  intro ob h3
  by_cases q:b=a
  ·clear h3 h cont hC hL ho0 hb hp hnt hc hρ hs hj;subst q;exact ⟨h1,h2,hl⟩
  ·exact ⟨h1,h2,ob,(hs.2 b q).trans h3⟩
theorem Ar.same {A:Around} {s:Shared} {a:Addr} {c:Cont} {h':Heap} {t:Nat} (ar:Ar B A n s) (hc:ContAt B s.heap a c) (hs:Heap.SameBut a s.heap h'):Ar B A n { s with heap:=h',toks:=t }:=by
 refine e1_3 ar.frames ?_
 intro l f1 f2 f3
 have hnf:∀ L∈l.filterMap (·.frame),L≠a:=fun L hL q=>by
  refine e3_3 (f3 L hL) ?_
  intro oL es ep q1 q2 q3
  clear hL hs;subst q
  refine e2_5 hc.shape ?_
  intro o' T h3 h4 _ h5 _
  rw [q1] at h3;clear a_1 q3;cases h3;rw [q2] at h4;exact h5 (Value.type.inj h4).symm
 refine ⟨ar.depth,ar.units,ar.handled,⟨l,f1,?_,fun L hL=>?_⟩,ar.tabs.keeps fun b ob e cl=>(hs.2 b fun q=>by clear hnf hs;subst q;exact hc.notCode ob e cl).trans e⟩
 ·have go:∀ l:List Env,(∀ L∈l.filterMap (·.frame),L≠a)→s.heap.FunFrames B.hB l→Heap.FunFrames h' B.hB l:=by
   intro l
   induction l with
   | nil=>intro _ _;trivial
   | cons e r ih =>
    intro hne rz1
    obtain ⟨hk,⟨L,o,hf,hn,ho,hd⟩,hr⟩:=rz1
    rw [List.filterMap_cons,hf] at hne
    exact ⟨hk,⟨L,o,hf,hn,(hs.2 L (hne L List.mem_cons_self)).trans ho,hd⟩,ih (fun L' hL'=>hne L' (List.mem_cons_of_mem _ hL')) hr⟩
  exact go l hnf f2
 ·refine e3_3 (f3 L hL) ?_
  intro oL es ep q1 q2 q3
  exact ⟨oL,es,ep,(hs.2 L (hnf L hL)).trans q1,q2,q3⟩
noncomputable def CompInv (B:Bs) (Fc:Fi) (n:Nat) (cenv:Env) (ρc:List (Option Sl)) (A:Around) (s:Shared) (J:List D→List D→Prop) (it acc:Addr) (dep:Option Addr) (K k:Nat) (t:Shared):Prop :=
 ∃ pre ds' oa',ds'.length=k∧J ds' pre∧Rp B Fc cenv oa' ρc t∧oa' K=some acc∧Ar B A n t∧Kp B s t∧Itr t.heap it dep ds'∧¬ FW cenv oa' it∧(∀ l,dep=some l→¬ FW cenv oa' l)∧ContAt B t.heap acc (.lst pre)
theorem compLoop {A:Around} {Fc:Fi} {m:Nat} {ρc:List (Option Sl)} {elt target iter:Expr} {ifs:List Expr} {scope:Scope} {pos:Pos} {it acc:Addr} {dep:Option Addr} {cenv:Env} {oa:Nat→Option Addr} {K:Nat} {s s4:Shared} {ds:List D} {J:List D→List D→Prop} {R:Result→Shared→Prop}
  (hbs:Bas B s) (hK:Fc.vars.length≤K) (hoa:oa K=some acc) (R4:Rp B Fc cenv oa ρc s4) (a4:Ar B A n s4) (k4:Kp B s s4) (hit:Itr s4.heap it dep ds) (hit0:s.heap.get? it=none) (hne:dep≠some it) (hacc0:s.heap.get? acc=none)
  (hacc:PlainL s4.heap acc #[]) (hitF:¬ FW cenv oa it) (hdep:∀ l,dep=some l→¬ FW cenv oa l) (hP:∀ b,Priv cenv b→s.heap.get? b=none)
  (hJ:J ds []) (hw:∀ d rest ac,J (d::rest) ac→CW B Fc n m ρc target ifs elt d (CoK J rest ac)) (hρ:∀ (i:Nat) sl,ρc[i]?=some (some sl)→m≤i)
  (hR:∀ s' l,J [] l→(∃ mm,s'.heap.Ns cenv.locals mm)→Kp B s s'→ContAt B s'.heap acc (.lst l)→R (.ok .next) s') (hq:B.quiet=true) :
  codeAny (model B.prog B.w) A (.compLoop (.ListComp elt [⟨target,iter,ifs,0⟩] scope pos) 0 (.ref it) (.ref acc) cenv) R s4:=by
 have hbit:B.hB.get? it=none:=by
  cases e:B.hB.get? it with
  | none=>rfl
  | some o=>rw [hbs it o e] at hit0;clear e;cases hit0
 refine codeAny_loop rfl (CompInv B Fc n cenv ρc A s J it acc dep K) (fun k t ht=>?_) ds.length ⟨[],ds,oa,rfl,hJ,R4,hoa,a4,k4,hit,hitF,hdep,?_⟩
 ·refine e3_10 ht ?_
  clear ht
  intro pre ds' oa' ez3 hds Rt hoat at' kt hitt hif hdf hca
  subst ez3
  show wpAny _ _ ((compTurn (.ListComp elt [⟨target,iter,ifs,0⟩] scope pos) 0 (.ref it) (.ref acc) cenv).onRaise (fun x=>do noteFrame x cenv;theTreesLotGoes x)) _ _ t
  refine wpAny_noted ?_
  rw [compTurn_list]
  refine wpAny_bind (wpAny_standAt ?_)
  refine e1_2 hitt.itCls ?_
  intro oi hoi hci
  have hai:acc≠it:=hca.ne hoi hci
  cases ds' with
  | nil =>
   refine wpAny_bind (wpAny_mono (hitt.fin (at'.handled hq) kt hit0 (E:=fun _ _=>False)) (fun r t1 hz2=>?_) fun _ _ x=>x.elim)
   refine e0_3 hz2 ?_
   clear hz2
   intro e kt1 ez4
   refine e1_3 ez4 ?_
   clear ez4
   intro h' e' hx hg
   subst e;clear kt;subst e'
   refine wpAny_pure (hR _ _ hds (Rt.ext hoi hci hbit hif hx hg (t:=t.toks)).ns kt1 ?_)
   exact hca.of_same (fun o e _=>hx acc o hai e) hg
  | cons d ds' =>
   refine wpAny_bind (wpAny_mono (hitt.next hne kt hit0 (E:=fun _ _=>False)) (fun r t1 hz3=>?_) fun _ _ x=>x.elim)
   refine e1_5 hz3 ?_
   clear hz3
   intro v e hv hit1 kt1 ez5
   refine e2_2 ez5 ?_
   clear ez5
   intro h' tk e' hx
   subst e;clear hitt kt;subst e'
   have hg:=growBut hoi (by obtain ⟨_,T,hT,_,h2,_⟩:=hci;rw [hT];intro q;cases q;exact h2 rfl) hx.extBut
   have R1:=Rt.ext hoi hci hbit hif hx.extBut hg (t:=tk)
   have a1:=at'.ext hoi hci hx.extBut (t:=tk)
   have hca1:ContAt B h' acc (.lst pre):=hca.of_same (fun o e _=>(hx.2 acc hai).trans e) hg
   refine wpAny_bind (hit1.letGo ?_)
   refine wpAny_bind (wpAny_mono ((hw d ds' pre hds).go cenv oa' A _ v _ R1 a1 hv) (fun _ t2 hz4=>?_) fun _ _ x=>x)
   refine e2_5 hz4 ?_
   clear hz4
   intro ρ2 oa2 ez6 R2 kp2 o2 hKK
   obtain ⟨hρ2,q2⟩:=ez6
   have hoa2:oa2 K=some acc:=(hKK K hK).trans hoat
   have lit:∃ o,h'.get? it=some o:=e1_2 hit1.itCls fun o ho _=>⟨o,ho⟩
   have nP:∀ b,(∃ o,s.heap.get? b=some o)→¬ Priv cenv b:=fun b hz5 q=>by obtain ⟨o,ho⟩:=hz5;rw [hP b q] at ho;cases ho
   have kt2:Kp B s t2:=KpW.trans kt1 kp2 fun b q=>.inr (hP b q)
   have hif2:=notFW hif o2 lit
   have hdl:∀ l,dep=some l→∃ o,h'.get? l=some o:=fun l hl=>by
    subst hl
    cases hit1 with | list a b c=>(obtain ⟨o,ho,_⟩:=b;exact ⟨o,ho⟩)
   have hdf2:∀ l,dep=some l→¬ FW cenv oa2 l:=fun l hl=>notFW (hdf l hl) o2 (hdl l hl)
   have hit2:=hit1.kp kp2 (fun q=>hif (.inl q)) (fun l hl q=>hdf l hl (.inl q))
   have hca2:ContAt B t2.heap acc (.lst pre):=hca1.kp kp2 (Rt.opriv K acc hoat).1
   refine wpAny_bind (wpAny_mono (q2.go cenv oa2 A t2 _ R2 (a1.kp kp2)) (fun b t3 hz6=>?_) fun _ _ x=>x)
   refine e0_2 hz6 ?_
   clear hz6
   intro q3 k3
   have R3:=R2.kp k3
   have back:∀ {u:Shared} {ρ':List (Option Sl)},Rp B Fc cenv oa2 ρ' u→ρ'.drop m=ρc.drop m→Rp B Fc cenv oa2 ρc u:=fun {u ρ'} Ru e=>Ru.forget fun i sl hi=>by
    have hm:=hρ i sl hi
    have:(ρc.drop m)[i-m]?=some (some sl):=by rw [List.getElem?_drop,Nat.add_sub_cancel' hm];exact hi
    rw [← e,List.getElem?_drop,Nat.add_sub_cancel' hm] at this
    exact this
   cases b with
   | false =>
    have hfd:CoK J ds' pre none:=by simpa using q3
    refine wpAny_pure ⟨rfl,ds'.length,by simp,pre,ds',oa2,rfl,hfd,back R3 hρ2,hoa2,(a1.kp kp2).kp k3,kt2.trans k3,hit2.kp k3 (fun x=>x) (fun _ _ x=>x),hif2,hdf2,?_⟩
    exact hca2.kp k3 (fun x=>x)
   | true =>
    have q4:EW B Fc NoX n ρ2 elt fun r=>∃ e,r=.im e∧CoK J ds' pre (some e):=by simpa using q3
    dsimp only
    refine wpAny_bind (wpAny_bind (wpAny_mono (q4.go cenv oa2 A t3 R3 ((a1.kp kp2).kp k3)) (fun x t4 hz7=>?_) fun _ _ x=>x.no.elim))
    refine e1_3 hz7 ?_
    clear hz7
    intro r ez7 k5 vx
    obtain ⟨e,hr,hle,hJ'⟩:=ez7
    subst hr
    have hca4:=(hca2.kp k3 (fun x=>x)).kp k5 (fun x=>x)
    refine e3_4 (id hca4) ?_
    intro oa' vs kk ho hc hd hims
    have hlen:vs.size=pre.length:=by rw [← Array.length_toList];exact hims.length
    refine wpAny_bind (list_append_plainL ⟨oa',kk,ho,hc.1,hc.2,hd⟩ (fun h5 hl5 hs5=>?_) (by rw [hlen];exact hle))
    refine e2_4 (id hl5) ?_
    intro o5 kk5 ho5 hc5 hc6 hd5
    have R5:=(R3.kp k5).upd hoa2 hs5 ⟨o5,ho5⟩ ⟨_,hca4⟩ (t:=t4.toks) ρ2 (fun i x k sl h1 h2=>.inl ⟨h2,fun q=>by have:=Fc.lt h1;(clear hle hlen hc hif2 hif hitF;lia)⟩)
    have k45:KpW B (fun b=>b=acc) t4 { t4 with heap:=h5 }:=by
     refine ⟨fun b o e nw _=>(hs5.2 b nw).trans e,fun b o e nw _=>⟨o.slots,(hs5.2 b nw).trans e⟩,R5.2,fun b o e=>?_,rfl,rfl,fun x=>x.keeps fun b o e cl=>(hs5.2 b fun q=>by subst q;exact hca4.notCode o e cl).trans e⟩
     by_cases q:b=acc
     ·subst q
      rw [ho] at e;cases e
      exact ⟨o5,ho5,(fun _ vs q=>by rw [hd5] at q;clear hl5 hd5 hlen hims hd;cases q),(fun hz8=>by obtain ⟨es,ep,q⟩:=hz8;rw [hd] at q;clear hl5 hd5 hlen hims hd;cases q)⟩
     ·exact ⟨o,(hs5.2 b q).trans e,fun x=>x,fun x=>⟨rfl,x⟩⟩
    have kt5:Kp B s { t4 with heap:=h5 }:=KpW.trans ((kt2.trans k3).trans k5) k45 fun b q=>.inr (q▸hacc0)
    have hitn:it≠acc:=hai.symm
    have hdn:∀ l,dep=some l→¬ l=acc:=fun l hl q=>hdf2 l hl (.inr ⟨K,q▸hoa2⟩)
    refine wpAny_pure (wpAny_pure ⟨rfl,ds'.length,by simp,pre++[e],ds',oa2,rfl,hJ',back R5.1 hρ2,hoa2,(((a1.kp kp2).kp k3).kp k5).same hca4 hs5,kt5,
     ((hit2.kp k3 (fun x=>x) (fun _ _ x=>x)).kp k5 (fun x=>x) (fun _ _ x=>x)).kp k45 hitn hdn,hif2,hdf2,?_⟩)
    refine ⟨o5,_,kk5,ho5,⟨hc5,hc6⟩,hd5,?_⟩
    have:=(hims.append (.cons vx .nil)).grow R5.2
    simpa using this
 ·refine e2_4 hacc ?_
  clear hacc
  intro o k h1 h2 h2' h3
  exact ⟨o,#[],k,h1,⟨h2,h2'⟩,h3,.nil⟩
end
end Mine
end

section
open PySem PySem.W PyProof.Rows PySem.Calls PyProof
set_option backward.match.sparseCases false
set_option tactic.hygienic false
namespace Mine
section
variable {B:Bs} {F:Fi} {X:Str→Prop} {n:Nat} {ρ:List (Option Sl)}
theorem compCore {env:Env} {oa:Nat→Option Addr} {A:Around} {s:Shared} {Fc:Fi} {m:Nat} {caps:List Nat} {elt target iter:Expr} {ifs:List Expr} {scope:Scope} {pos p:Pos} {use:Option (Value→Sem Unit)} {Q:Value→Shared→Prop} {QQ:List D→Prop}
  (R:Rp B F env oa ρ s) (a:Ar B A n s) (ok:CompOk F Fc scope m caps)
  (h:EW B F X n ρ iter fun r=>∃ ds,IterS B n r ds∧∃ J:List D→List D→Prop,J ds []∧(∀ d rest ac,J (d::rest) ac→CW B Fc n m (compStart0 m ρ caps) target ifs elt d (CoK J rest ac))∧∀ l,J [] l→QQ l)
  (hs:∀ x,foldedSetIterable iter env x=pure x)
  (hQ:∀ l acc C s',QQ l→Kp B s s'→ContAt B s'.heap acc (.lst l)→s.heap.get? acc=none→s.heap.get? C=none→(∃ mm,s'.heap.Ns C mm)→C≠acc →
   compPost (model B.prog B.w) A (EP B X s) use Q (.ref acc) C (.ok .next) s') (hq:B.quiet=true) :
  wpAny (model B.prog B.w) A (comprehension (.ListComp elt [⟨target,iter,ifs,0⟩] scope pos) scope env p (newList []) false (eval iter env) use) Q (EP B X s) s:=by
 obtain ⟨cl,hcl,hc1,hc2⟩:=closureFor_lookup (scope:=scope) (env:=env) fun x hx hf=>by
  refine e2_2 (ok.free x hx hf) ?_
  intro i k hi hk
  refine e2_2 (R.cells i x.1 k hi hk) ?_
  intro c v h1 _
  exact ⟨c,h1⟩
 refine wpAny_comprehension_free rfl hs hcl ok.kind ok.names ?_
 refine h.run R a (Kp.refl _) fun v s1 r hz1 k1 x1=>?_
 refine e1_2 hz1 ?_
 clear hz1
 intro ds hi ez1
 refine e1_3 ez1 ?_
 clear ez1
 intro J hJ hw q
 refine wpAny_mono (hi env oa A s s1 v _ (R.kp k1).base (a.kp k1) x1 fun b hb=>(R.new hb).1) (fun itv s2 hz2=>?_) fun _ _ x=>x
 refine e2_6 hz2 ?_
 clear hz2
 intro it dep e hit hn hne hdep k2
 subst e
 have k12:=k1.trans k2
 show wpAny _ _ (newObj (.type "list") (.seq ([]:List Value).toArray)) _ _ _
 refine wpAny_newObj_type ?_ (by show (#[]:Array Value).size≤sizeLine;exact Nat.zero_le _)
 have k3:Kp B s2 { s2 with heap:=s2.heap.push { cls:=.type "list",data:=.seq #[] } }:=push_kp _
 have k13:=k12.trans k3
 have hacc0:s.heap.get? s2.heap.objs.size=none:=k12.fresh (fresh_size s2)
 have haccL:(s2.heap.push { cls:=.type "list",data:=.seq #[] }).IsList s2.heap.objs.size #[]:=⟨_,Heap.get?_push_size _ rfl,rfl,0,rfl⟩
 have hit3:=hit.kp k3 (fun x=>x) (fun _ _ x=>x)
 refine newEnvComp ?_
 refine e1_2 hit.itCls ?_
 intro oi hoi hci
 refine e0_2 (compRp (K:=Fc.vars.length) (s:={ s2 with heap:=s2.heap.push { cls:=.type "list",data:=.seq #[] } }) R k13 hacc0 ⟨_,Heap.get?_push_size _ rfl⟩ ok hc1 hc2) ?_
 intro R4 k4
 have k14:=k13.trans k4
 have hit4:=hit3.kp k4 (fun x=>x) (fun _ _ x=>x)
 have hL:s.heap.get? (s2.heap.push { cls:=.type "list",data:=.seq #[] }).objs.size=none:=k13.fresh (fresh_size { s2 with heap:=s2.heap.push { cls:=.type "list",data:=.seq #[] } })
 have hitlt:it<(s2.heap.push { cls:=.type "list",data:=.seq #[] }).objs.size:=Heap.lt_size (Heap.get?_push_of_some _ hoi)
 have hitne:it≠s2.heap.objs.size:=Nat.ne_of_lt (Heap.lt_size hoi)
 have privF:∀ b,b<(s2.heap.push { cls:=.type "list",data:=.seq #[] }).objs.size→b≠s2.heap.objs.size→¬ FW { scope:=relabel scope env,locals:=(s2.heap.push { cls:=.type "list",data:=.seq #[] }).objs.size,globals:=env.globals,cells:=cellsFrom ((s2.heap.push { cls:=.type "list",data:=.seq #[] }).objs.size+1) scope.names cl,qual:=env.qual,func:=none,code:=env.code,frame:=env.frame,builtins:=env.builtins } (fun j=>if j=Fc.vars.length then some s2.heap.objs.size else none) b:=by
  rintro b hb hb2 (q | ⟨j,q⟩)
  ·rcases q with q | q
   ·exact absurd hb (by rw [q];exact Nat.lt_irrefl _)
   ·exact absurd hb (Nat.not_lt.mpr (Nat.le_of_lt q.1))
  ·dsimp only at q
   split at q
   ·clear hb hitne hitlt hL hit4 k14 k4 R4 hoi hit3 haccL hacc0 k13 k3 k12 k2 hit;cases q;exact hb2 rfl
   ·clear hb2 hb;cases q
 have aR4:=(a.kp k13).kp k4
 have main:=compLoop (R:=compPost (model B.prog B.w) A (EP B X s) use Q (.ref s2.heap.objs.size) (s2.heap.push { cls:=.type "list",data:=.seq #[] }).objs.size) (elt:=elt) (target:=target) (iter:=iter) (ifs:=ifs) (scope:=scope) (pos:=pos) (hq:=hq)
  R.base (Nat.le_refl Fc.vars.length) (if_pos rfl) R4 aR4 k14 hit4 (k1.fresh hn) hne hacc0 ⟨_,0,pushCells_keeps _ _ _ _ (Heap.get?_push_of_some _ (Heap.get?_push_size _ rfl)),rfl,rfl,rfl⟩
  (privF it hitlt hitne) (fun l hl=>by
   refine e0_2 (hdep l hl) ?_
   intro _ ez2
   refine e1_1 ez2 ?_
   clear ez2
   intro o ho
   have:∃ o,s2.heap.get? l=some o:=e1_2 (k2.live l o ho) fun o' ho' _=>⟨o',ho'⟩
   refine e1_1 this ?_
   clear this
   intro o2 ho2
   exact privF l (Heap.lt_size (Heap.get?_push_of_some _ ho2)) (Nat.ne_of_lt (Heap.lt_size ho2)))
  (fun b q=>by
   rcases q with q | q
   ·rw [q];exact hL
   ·refine k13.fresh ?_
    cases e:(s2.heap.push { cls:=.type "list",data:=.seq #[] }).get? b with
    | none=>rfl
    | some o=>exact absurd (Heap.lt_size e) (Nat.not_lt.mpr (Nat.le_of_lt q.1)))
  hJ hw (fun i sl hi=>by
   by_cases q:i<m
   ·unfold compStart0 at hi
    rw [List.getElem?_append_left (by simpa using q),List.getElem?_replicate] at hi
    split at hi <;> cases hi
   ·exact Nat.le_of_not_lt q)
  (fun s' l hl hns ks hca=>hQ _ _ _ s' (q l hl) ks hca hacc0 hL hns (by rw [Heap.size_push];exact Nat.ne_of_gt (Nat.lt_succ_self _)))
 exact codeAny_compStart_list main (hit4.again main)
theorem EW.comp {Fc:Fi} {m:Nat} {caps:List Nat} {elt target iter:Expr} {ifs:List Expr} {scope:Scope} {pos:Pos} {Q:AV→Prop} (ok:CompOk F Fc scope m caps)
  (h:EW B F X n ρ iter fun r=>∃ ds,IterS B n r ds∧∃ J:List D→List D→Prop,J ds []∧(∀ d rest ac,J (d::rest) ac→CW B Fc n m (compStart0 m ρ caps) target ifs elt d (CoK J rest ac))∧∀ l,J [] l→Q (.ct .fr (.lst l)))
  (hs:∀ env x,foldedSetIterable iter env x=pure x:=by intros;rfl) (hq:B.quiet=true:=by assumption):EW B F X n ρ (.ListComp elt [⟨target,iter,ifs,0⟩] scope pos) Q:=by
 refine .mk ?_
 intro env oa A s R a
 rw [eval_ListComp]
 refine compCore (QQ:=fun l=>Q (.ct .fr (.lst l))) R a ok h (hs env) (hq:=hq) fun l acc C s' q k hc hacc hC hns hne=>?_
 refine e1_1 hns ?_
 clear hns
 intro mm hm
 refine ⟨mm,hm,fun h' hs'=>⟨_,q,?_,acc,rfl,?_,hacc⟩⟩
 ·exact k.ext (t:=s'.toks) hC hs'.extBut (fun o e cl=>by obtain ⟨oC,es,ep,hoC,hdC,_⟩:=hm;rw [hoC] at e;cases e;obtain ⟨_,_,q⟩:=cl;rw [hdC] at q;cases q)
 ·refine e3_3 hm ?_
  clear hm
  intro oC es ep hoC hdC _
  refine hc.of_same (fun o e _=>(hs'.2 acc hne.symm).trans e) fun b o vs n' e c d=>(hs'.2 b fun q=>?_).trans e
  clear hs' hne hC;subst q;rw [hoC] at e;clear c;cases e;rw [hdC] at d;clear a_1;cases d
theorem SW.assignComp {Fc:Fi} {m:Nat} {caps:List Nat} {x:Str} {pos':Pos} {elt target iter:Expr} {ifs:List Expr} {scope:Scope} {pos cpos:Pos} {Q:Fl→List (Option Sl)→Prop} (i:Nat) (hx:F.vars[i]?=some (x,.loc)) (hi:i<F.own) (ok:CompOk F Fc scope m caps)
  (h:EW B F X n ρ iter fun r=>∃ ds,IterS B n r ds∧∃ J:List D→List D→Prop,J ds []∧(∀ d rest ac,J (d::rest) ac→CW B Fc n m (compStart0 m ρ caps) target ifs elt d (CoK J rest ac))∧∀ l,J [] l→Q .next (ρ.set i (some (.own (.lst l)))))
  (hl:pos'.line=cpos.line) (hn:(scope.names.any fun (y,k)=>y == x&&(k == .local||k == .cell))=false)
  (hs:∀ env x,foldedSetIterable iter env x=pure x:=by intros;rfl) (hq:B.quiet=true:=by assumption):SW B F X n ρ (.Assign [.Name x pos'] (.ListComp elt [⟨target,iter,ifs,0⟩] scope cpos) pos) Q:=by
 refine .mk ?_
 intro env oa A s hd R a
 have hk:env.scope.kind=.function:=by rw [R.scope];exact F.fn
 have hkx:env.kindOf x=some .local:=by unfold Env.kindOf;rw [R.scope];exact (F.at hx).1
 have hsw:swapsWith (.ListComp elt [⟨target,iter,ifs,0⟩] scope cpos) (some (.Name x pos')) pos.line env=pure true:=by
  have e:swapsWith (.ListComp elt [⟨target,iter,ifs,0⟩] scope cpos) (some (.Name x pos')) pos.line env=pure (env.blockKind == .function&&env.kindOf x == some .local&&pos'.line == cpos.line
   && !(scope.names.any fun (n,k)=>n == x&&(k == .local||k == .cell))):=rfl
  rw [e,hn,hkx,hl]
  simp [Env.blockKind,hk,ScopeKind.isAnnotationScope]
 rw [exec_Assign_Name_used _ _ _ _ hsw]
 refine wpAny_bind (wpAny_standAt (wpAny_bind ?_))
 show wpAny _ A (do let _ ← comprehension (.ListComp elt [⟨target,iter,ifs,0⟩] scope cpos) scope env _ (newList []) false (eval iter env) (some (PySem.assign (.Name x pos') env))) _ _ s
 refine wpAny_bind (wpAny_mono (compCore (QQ:=fun l=>Q .next (ρ.set i (some (.own (.lst l))))) (Q:=fun _ s'=>Po B F env oa s Q .next s') R a ok h (hs env) (hq:=hq) fun l acc C s' q k hc hacc hC hns hne=>?_) (fun _ s' x=>wpAny_pure (wpAny_pure x)) fun _ _ x=>x.toW)
 refine e1_1 hns ?_
 clear hns
 intro mm hm
 refine wpAny_assign_Name (wpAny_mono (storeVar R k (r:=.ct .fr (.lst l)) ⟨acc,rfl,hc,hacc⟩ hx rfl (by decide) hi) (fun _ s2 hz3=>?_) fun _ _ x=>x)
 refine e0_5 hz3 ?_
 clear hz3
 intro R2 k2 o2 fz _
 have hCn:¬ Priv env C:=fun q=>(R.new hC).1 (.inl q)
 refine e3_3 hm ?_
 clear hm
 intro oC es ep hoC hdC hr
 obtain ⟨sl,hoC2⟩:=k2.data C oC hoC hCn (fun vs q=>by rw [hdC] at q;clear hr;cases q)
 refine ⟨mm,⟨_,es,ep,hoC2,hdC,hr⟩,fun h' hs'=>?_⟩
 have hg:Grow s2.heap h':=fun b o vs n' e c d=>(hs'.2 b fun q=>by (try clear hs';try clear hoC;try clear hCn;try clear hne);subst q;rw [hoC2] at e;(try clear hoC;try clear d;try clear c);cases e;rw [show oC.data=_ from hdC] at d;cases d).trans e
 have hf2:¬ FW env (oaSet oa i s2.heap (.ref acc) (.ct .fr (.lst l))) C:=by
  rintro (q | ⟨j,q⟩)
  ·exact hCn q
  ·rcases o2 j C q with ⟨j',q'⟩ | _
   ·exact (R.new hC).1 (.inr ⟨j',q'⟩)
   ·by_cases e:j=i
    ·subst e;simp [oaSet,shown] at q;exact hne q.symm
    ·simp [oaSet,e] at q;exact (R.new hC).1 (.inr ⟨j,q⟩)
 have hbC:B.hB.get? C=none:=(R.new hC).2
 have hL:env.locals≠C:=fun q=>hCn (.inl q.symm)
 have hCc:∀ y c,(y,c)∈env.cells→c≠C:=fun y c hm q=>by
  refine e2_2 (R2.cellsLive y c hm) ?_
  intro v oc h1 h2
  (try clear hm;try clear hL;try clear hf2;try clear hs';try clear hoC;try clear hCn;try clear hne);subst q;rw [hoC2] at h1;(try clear hoC);cases h1;rw [show oC.data=_ from hdC] at h2;(try clear hr);cases h2
 have cell:∀ {y c v},env.cells.lookup y=some c→s2.heap.IsCell c v→h'.IsCell c v:=fun {y c v} hl hz4=>e1_2 hz4 fun oc h1 h2=>⟨oc,(hs'.2 c (hCc y c (mem_of_lookup hl))).trans h1,h2⟩
 have var:∀ {y k v},VarAt env s2.heap y k v→VarAt env h' y k v:=fun {y k v} hv=>by
  cases k with
  | loc=>(obtain ⟨m,h1,h2⟩:=hv;exact ⟨m,h1.sameBut hs' hL,h2⟩)
  | cel=>(obtain ⟨c,h1,h2⟩:=hv;exact ⟨c,h1,cell h1 h2⟩)
  | fre=>(obtain ⟨c,h1,h2⟩:=hv;exact ⟨c,h1,cell h1 h2⟩)
 have cont:∀ {b c},b≠C→ContAt B s2.heap b c→ContAt B h' b c:=fun {b c} ne y=>y.of_same (fun ob e _=>(hs'.2 b ne).trans e) hg
 have R3:Rp B F env (oaSet oa i s2.heap (.ref acc) (.ct .fr (.lst l))) (ρ.set i (some (.own (.lst l)))) { s2 with heap:=h' }:=by
  refine ⟨fun b ob e=>(hs'.2 b (fun q=>by clear cont hCc hL hf2 hs' hoC2 hoC hCn hne;subst q;rw [hbC] at e;cases e)).trans (R2.base b ob e),R2.scope,R2.globals,R2.builtins,R2.code,?_,?_,R2.apart,R2.locCell,?_,R2.privNew,?_,R2.oinj,?_⟩
  ·(obtain ⟨m,h⟩:=R2.ns;exact ⟨m,h.sameBut hs' hL⟩)
  ·intro j y k h1 h2
   refine e2_3 (R2.cells j y k h1 h2) ?_
   intro c v h3 h4 h5
   exact ⟨c,v,h3,cell h3 h4,h5⟩
  ·intro y c hm
   refine e2_2 (R2.cellsLive y c hm) ?_
   intro v ob h1 h2
   exact ⟨v,ob,(hs'.2 c (hCc y c hm)).trans h1,h2⟩
  ·intro j y k sl h1 h2
   have z:=R2.slots j y k sl h1 h2
   cases sl with
   | im d=>(obtain ⟨v,h3,h4⟩:=z;exact ⟨v,var h3,h4.grow hg⟩)
   | fz c =>
    refine e1_3 z ?_
    clear z
    intro b h3 h4 h5
    have hji:j≠i:=fun q=>by
     clear h5 h1 hf2 a_1 fz o2 R2 h hi hx;subst q
     by_cases hlt:j<ρ.length
     ·rw [List.getElem?_set_self hlt] at h2;(try clear h5;try clear hf2;try clear o2;try clear R2;try clear q;try clear h4;try clear h3;try clear hc);cases h2
     ·rw [List.set_eq_of_length_le (Nat.le_of_not_lt hlt),List.getElem?_eq_none (Nat.le_of_not_lt hlt)] at h2;clear h4 h3;cases h2
    rw [List.getElem?_set_ne (Ne.symm hji)] at h2
    refine e1_1 (fz j y k c b hji h1 h2 h3) ?_
    intro o ho
    exact ⟨b,h3.map (fun _=>var) hg,cont (fun q=>by subst q;rw [hC] at ho;cases ho) h4,h5⟩
   | own c=>(obtain ⟨b,h3,h4,h5,h6⟩:=z;exact ⟨b,h3.map (fun _=>var) hg,cont (fun q=>hf2 (.inr ⟨j,q▸h5⟩)) h4,h5,h6⟩)
  ·intro j b h
   refine e0_3 (R2.opriv j b h) ?_
   intro h1 h2 ez3
   refine e1_1 ez3 ?_
   clear ez3
   intro ob h3
   exact ⟨h1,h2,ob,(hs'.2 b (fun q=>hf2 (.inr ⟨j,q▸h⟩))).trans h3⟩
 refine ⟨.next,_,_,q,trivial,R3,?_,o2⟩
 have kk:KpW B (FW env oa) s s2:=(Kp.toW k).trans (k2.mono fun _ x=>.inl x) (fun _ x=>.inl x)
 exact kk.ext (t:=s2.toks) hC hs'.extBut (fun o e cl=>by rw [hoC2] at e;clear hoC2 hoC;cases e;obtain ⟨_,_,q⟩:=cl;rw [show oC.data=_ from hdC] at q;clear hr;cases q)
end
end Mine
end

section
open PySem PySem.W PyProof.Rows PySem.Calls PyProof
set_option backward.match.sparseCases false
set_option tactic.hygienic false
namespace Mine
section
variable {B:Bs} {F:Fi} {X:Str→Prop} {n:Nat} {ρ:List (Option Sl)}
noncomputable def Cont.like:Cont→Cont→Prop
 | .lst _,.lst _=>True
 | .dct _,.dct _=>True
 | .ddc _,.ddc _=>True
 | .idc _,.idc _=>True
 | _,_=>False
theorem ownTurn {env oa} {s:Shared} {a:Addr} {i:Nat} {c c':Cont} {h':Heap} {t:Nat} {m:Option Addr} (R:Rp B F env oa ρ s) (hs:ρ[i]?=some (some (.own c m))) (ha:oa i=some a) (hc:ContAt B s.heap a c)
  (hb:Heap.SameBut a s.heap h') (hc':ContAt B h' a c') (hk:c.like c') :
  Rp B F env oa (ρ.set i (some (.own c' m))) { s with heap:=h',toks:=t }∧KpW B (FW env oa) s { s with heap:=h',toks:=t }:=by
 refine e1_1 hc'.exists ?_
 intro o' ho'
 have hlt:i<ρ.length:=(List.getElem?_eq_some_iff.mp hs).1
 have z:=R.upd ha hb ⟨o',ho'⟩ ⟨_,hc⟩ (t:=t) (ρ.set i (some (.own c' m))) (fun j x k sl h1 h2=>by
  by_cases e:j=i
  ·clear h1 ha;subst e
   rw [List.getElem?_set_self hlt] at h2;cases h2
   exact .inr ⟨rfl,c,c',m,rfl,hs,hc',by cases c <;> cases c' <;> first | exact hk.elim | exact fun _ x=>x⟩
  ·rw [List.getElem?_set_ne (Ne.symm e)] at h2
   exact .inl ⟨h2,e⟩)
 refine ⟨z.1,fun b o e nw _=>(hb.2 b fun q=>nw (.inr ⟨i,q▸ha⟩)).trans e,fun b o e nw _=>⟨o.slots,(hb.2 b fun q=>nw (.inr ⟨i,q▸ha⟩)).trans e⟩,z.2,fun b o e=>?_,rfl,rfl,fun x=>x.keeps fun b o e cl=>(hb.2 b fun q=>by clear hb ha;subst q;exact hc.notCode o e cl).trans e⟩
 by_cases q:b=a
 ·clear hb ha;subst q
  refine ⟨o',ho',?_,?_⟩
  ·intro _ vs q
   refine e2_7 hc'.shape ?_
   intro o2 T h1 h2 _ _ _ _ h3
   rw [ho'] at h1;clear a_4;cases h1
   have:=h3 ⟨vs,q⟩
   clear a_3 a_2 a_1;subst this
   clear z;cases c' with
   | lst l=>obtain ⟨o2,_,_,h1,_,h3,_⟩:=hc';rw [ho'] at h1;(try clear left;try clear a_4);cases h1;rw [q] at h3;(try clear right);cases h3
   | dct l=>obtain ⟨_,_,⟨o2,_,_,h1,_,h3,_⟩,_⟩:=hc';rw [ho'] at h1;(try clear left_1;try clear a_4);cases h1;rw [q] at h3;(try clear right_1);cases h3
   | ddc l=>obtain ⟨_,_,⟨o2,_,_,h1,_,h3,_⟩,_⟩:=hc';rw [ho'] at h1;(try clear left_1;try clear a_4);cases h1;rw [q] at h3;(try clear right_1);cases h3
   | idc l=>obtain ⟨_,_,⟨o2,_,_,h1,_,h3,_⟩,_⟩:=hc';rw [ho'] at h1;(try clear left_1;try clear a_4);cases h1;rw [q] at h3;(try clear right_1);cases h3
   | rng x y=>cases c <;> exact hk.elim
   | fn x=>cases c <;> exact hk.elim
  ·intro rz1
   obtain ⟨es,ep,q⟩:=rz1
   have two:∀ {o3:Obj} {es2 ep2},o3.ExactDict→o'.ExactDict→o'.data=.dict es2 ep2→o3=o→o'.cls=o.cls∧∃ es ep,o'.data=.dict es ep:=fun h5 h2 h3 e3=>by
    subst e3;exact ⟨h2.1.trans h5.1.symm,_,_,h3⟩
   clear hs;cases c with
   | lst l=>obtain ⟨o2,_,_,h1,_,h3,_⟩:=hc;rw [e] at h1;clear left;cases h1;rw [q] at h3;cases h3
   | rng x y=>exact hk.elim
   | fn x=>exact hk.elim
   | dct l =>
    clear z;cases c' with
    | dct l' =>
     obtain ⟨_,_,⟨o2,es2,ep2,h1,h2,h3,_⟩,_⟩:=hc';rw [ho'] at h1;clear ho';cases h1
     obtain ⟨_,_,⟨o3,_,_,h4,h5,_⟩,_⟩:=hc;rw [e] at h4;clear right_3 q;cases h4
     exact two h5 h2 h3 rfl
    | _=>exact hk.elim
   | ddc l =>
    clear z;cases c' with
    | ddc l' =>
     obtain ⟨_,_,⟨o2,es2,ep2,h1,h2,h3,_⟩,_⟩:=hc';rw [ho'] at h1;clear ho';cases h1
     obtain ⟨_,_,⟨o3,_,_,h4,h5,_⟩,_⟩:=hc;rw [e] at h4;clear right_3 q;cases h4
     exact two h5 h2 h3 rfl
    | _=>exact hk.elim
   | idc l =>
    clear z;cases c' with
    | idc l' =>
     obtain ⟨_,_,⟨o2,es2,ep2,h1,h2,h3,_⟩,_⟩:=hc';rw [ho'] at h1;clear ho';cases h1
     obtain ⟨_,_,⟨o3,_,_,h4,h5,_⟩,_⟩:=hc;rw [e] at h4;clear right_3 q;cases h4
     exact two h5 h2 h3 rfl
    | _=>exact hk.elim
 ·exact ⟨o,(hb.2 b q).trans e,fun x=>x,fun x=>⟨rfl,x⟩⟩
theorem SW.append {x:Str} {p apos pos spos:Pos} {e:Expr} {Q:Fl→List (Option Sl)→Prop} {l:List D} {mm:Option Addr} (i:Nat) {k:Kd} (hx:F.vars[i]?=some (x,k)) (hs:ρ[i]?=some (some (.own (.lst l) mm)))
  (h:EW B F X n ρ e fun r=>∃ d,r=.im d∧l.length≤sizeLine∧Q .next (ρ.set i (some (.own (.lst (l++[d])) mm))))
  (hline:(apos.endLine == pos.line)=true:=by rfl) (htr:∀ env,backTo pos (starEach [e] env)=[(false,eval e env)]:=by intro _;rfl) :
  SW B F X n ρ (.Expr (.Call (.Attribute (.Name x p) "append" apos) [e] [] pos) spos) Q:=by
 refine .mk ?_
 intro env oa A s hd R a
 refine wpAny_Expr_any ?_ (by unfold interactive;rw [R.scope,F.fn];rfl) rfl
 refine wpAny_Call_append rfl (by rw [htr];rfl) hline (htr env) ?_
 refine e1_4 (R.slots i x k _ hx hs) ?_
 intro b h1 h2 h3 _
 refine loadVar R hx h1 ?_
 refine e3_4 (id h2) ?_
 intro o vs m ho hc hdt hi
 refine ⟨b,vs,rfl,⟨o,m,ho,hc.1,hc.2,hdt⟩,?_⟩
 refine wpAny_mono (h.go env oa A s R a) (fun v s1 hz1=>?_) fun _ _ x=>x.toW
 refine e1_3 hz1 ?_
 clear hz1
 intro r ez1 k1 hv
 obtain ⟨d,hr,hl,q⟩:=ez1
 subst hr
 have R1:=R.kp k1
 have c1:=h2.kp k1 (fun x=>x)
 refine e3_4 (id c1) ?_
 intro o vs m ho hc hdt hi
 have hlen:vs.size=l.length:=by rw [← Array.length_toList];exact hi.length
 refine list_append_plainL ⟨o,m,ho,hc.1,hc.2,hdt⟩ (fun h' hz2 hs'=>?_) (by rw [hlen];exact hl)
 refine e2_4 hz2 ?_
 clear hz2
 intro o' m' g1 g2 g3 g4
 have hg:Grow s1.heap h':=(R1.upd h3 hs' ⟨o',g1⟩ ⟨_,c1⟩ (t:=0) [] (fun _ _ _ _ _ h=>by simp at h)).2
 have c2:ContAt B h' b (.lst (l++[d])):=⟨o',_,m',g1,⟨g2,g3⟩,g4,by simpa using (hi.append (.cons hv .nil)).grow hg⟩
 refine e0_2 (ownTurn R1 hs h3 c1 hs' c2 trivial (t:=s1.toks)) ?_
 intro R2 k2
 exact ⟨.next,_,oa,q,trivial,R2,(Kp.toW k1).trans k2 fun _ x=>.inl x,OwnFrom.refl _ _⟩
end
end Mine
end

section
open PySem PySem.W PyProof.Rows PySem.Calls PyProof
set_option backward.match.sparseCases false
set_option tactic.hygienic false
namespace Mine
noncomputable def dAt (l:List (Str×D)) (k:Str):Option D:=(l.find? fun kv=>kv.1=k).map (·.2)
noncomputable def dSto (l:List (Str×D)) (k:Str) (d:D):List (Str×D) :=
 if l.any (fun kv=>kv.1=k) then l.map (fun kv=>if kv.1=k then (kv.1,d) else kv) else l++[(k,d)]
theorem KVs.length {h:Heap} {kvs l} (x:KVs h kvs l):kvs.length=l.length:=by
 induction x with
 | nil=>rfl
 | cons _ r ih=>rw [List.length_cons,List.length_cons,ih]
theorem KVs.any {h:Heap} {k:Str} {kvs l} (x:KVs h kvs l):kvs.any (fun kv=>kv.1=k)=l.any (fun kv=>kv.1=k):=by
 induction x with
 | nil=>rfl
 | cons _ r ih=>rw [List.any_cons,List.any_cons,ih]
theorem KVs.app {h:Heap} {k:Str} {v d} (hv:Im h v d) {kvs l} (x:KVs h kvs l):KVs h (kvs++[(k,v)]) (l++[(k,d)]):=by
 induction x with
 | nil=>exact .cons hv .nil
 | cons a r ih=>exact .cons a ih
theorem KVs.put {h:Heap} {k:Str} {v d} (hv:Im h v d):∀ {kvs l},KVs h kvs l→KVs h (kvs.map fun kv=>if kv.1=k then (kv.1,v) else kv) (l.map fun kv=>if kv.1=k then (kv.1,d) else kv)
 | _,_,.nil=>.nil
 | _,_,.cons (k:=k') a r=>by
  simp only [List.map_cons]
  by_cases e:k'=k
  ·simp only [e,if_true];exact .cons hv (r.put hv)
  ·simp only [e,if_false];exact .cons a (r.put hv)
theorem KVs.sto {h:Heap} {k:Str} {v d kvs l} (x:KVs h kvs l) (hv:Im h v d):KVs h (stored kvs k v) (dSto l k d):=by
 unfold stored dSto
 rw [x.any]
 split
 ·exact x.put hv
 ·exact x.app hv
theorem KVs.at {h:Heap} {k:Str}:∀ {kvs l},KVs h kvs l→(dAt l k=none→valueAt kvs k=none)∧∀ d,dAt l k=some d→∃ v,valueAt kvs k=some v∧Im h v d
 | _,_,.nil=>⟨fun _=>rfl,fun d e=>by simp [dAt] at e⟩
 | _,_,.cons (k:=k') a r=>by
  have ih:=r.at (k:=k)
  unfold dAt valueAt at *
  by_cases e:k'=k
  ·simp only [List.find?_cons,e,decide_true,Option.map_some]
   exact ⟨(fun q=>by cases q),(fun d q=>by cases q;exact ⟨_,rfl,a⟩)⟩
  ·simp only [List.find?_cons,e,decide_false]
   exact ih
theorem KVs.some {h:Heap} {k:Str} {kvs l} (x:KVs h kvs l):(valueAt kvs k).isSome=(dAt l k).isSome:=by
 cases e:dAt l k with
 | none=>rw [x.at.1 e];rfl
 | some d=>obtain ⟨v,h1,_⟩:=x.at.2 d e;rw [h1];rfl
section
variable {B:Bs} {F:Fi} {X:Str→Prop} {n:Nat} {ρ:List (Option Sl)}
theorem VR.dct {env oa} {s s':Shared} {v:Value} {m:Md} {l:List (Str×D)} (x:VR B env oa s s' v (.ct m (.dct l))):∃ a kvs,v=.ref a∧(a == sysModules)=false∧s'.heap.DictOf (strKind B.prog B.w) a kvs∧KVs s'.heap kvs l:=by
 refine e1_3 x.cont ?_
 intro a ez1 h1 ez2
 clear x;subst ez1
 refine e1_2 ez2 ?_
 clear ez2
 intro kvs h2 h3
 exact ⟨a,kvs,rfl,h1,h2,h3⟩
theorem EW.dict0 {pos} {Q:AV→Prop} (h:Q (.ct .fr (.dct []))):EW B F X n ρ (.Dict [] [] pos) Q:=by
 refine .mk ?_
 intro env oa A s R a
 refine wpAny_Dict_empty ⟨_,h,push_kp _,_,rfl,⟨?_,[],Heap.DictOf.new _,.nil⟩,fresh_size _⟩
 cases q:(s.heap.objs.size == sysModules) with
 | false=>rfl
 | true =>
  exfalso
  have e:s.heap.objs.size=sysModules:=by simpa using q
  refine e3_2 B.g ?_
  intro o es ep h1 _
  have:=Heap.lt_size (R.base _ o h1)
  rw [e] at this
  exact absurd this (by decide)
theorem SubS.dct {m:Md} {l:List (Str×D)} {k:Str} {d:D} (hd:dAt l k=some d):SubS B n (.ct m (.dct l)) (.im (.str k)) (.im d):=fun env oa A s0 s vx vi value slice E b a x i hs=>by
 refine e2_4 x.dct ?_
 intro a kvs ez3 h0 h1 h2
 clear h0 x;subst ez3
 refine e1_1 i.str ?_
 intro t ez4
 subst ez4
 refine e1_2 (h2.at.2 d hd) ?_
 intro v h3 h4
 exact tail_any h1.typeIs slot_dict_getitem.lookup (wpAny_getItem_of (strKind_is _ _ _ _) h1.mapOf h3 ⟨Kp.toks,h4⟩) hs
theorem CmpS.inD {m:Md} {l:List (Str×D)} {k:Str}:CmpS B n .In (.im (.str k)) (.ct m (.dct l)) (dAt l k).isSome:=fun env oa A s0 s vx vy E b a x y=>by
 refine e2_4 y.dct ?_
 intro a kvs ez5 h0 h1 h2
 clear y;subst ez5
 refine e1_1 x.str ?_
 intro t ez6
 clear x;subst ez6
 exact wpAny_in_of (strKind_is _ _ _ _) h0 h1.mapOf ⟨by rw [h2.some],Kp.toks⟩
theorem CmpS.notInD {m:Md} {l:List (Str×D)} {k:Str}:CmpS B n .NotIn (.im (.str k)) (.ct m (.dct l)) (!(dAt l k).isSome):=fun env oa A s0 s vx vy E b a x y=>by
 refine e2_4 y.dct ?_
 intro a kvs ez7 h0 h1 h2
 clear y;subst ez7
 refine e1_1 x.str ?_
 intro t ez8
 clear x;subst ez8
 exact wpAny_notIn_of (strKind_is _ _ _ _) h0 h1.mapOf ⟨by rw [h2.some],Kp.toks⟩
theorem EW.get2 {o e f:Expr} {apos pos:Pos} {Q:AV→Prop}
  (h:EW B F X n ρ o fun x=>∃ m l,x=.ct m (.dct l)∧EW B F X n ρ e fun y=>∃ k,y=.im (.str k)∧EW B F X n ρ f fun z=>∃ d,z=.im d∧Q (.im ((dAt l k).getD d)))
  (hline:(apos.endLine == pos.line)=true:=by rfl) (hb:∀ env,attributeBase o "get" env (eval o env)=eval o env:=by intro _;rfl)
  (htr:∀ env,backTo pos (starEach [e,f] env)=[(false,eval e env),(false,eval f env)]:=by intro _;rfl) :
  EW B F X n ρ (.Call (.Attribute o "get" apos) [e,f] [] pos) Q:=by
 refine .mk ?_
 intro env oa A s R a
 refine wpAny_Call_method2_late (hb env) hline (htr env) (h.run R a (Kp.refl _) fun v0 s0 r hz1 k0 x0=>?_)
 refine e2_2 hz1 ?_
 clear hz1
 intro m l hr he
 subst hr
 refine e2_4 x0.dct ?_
 intro d kvs ez9 h0 h1 h2
 subst ez9
 refine ⟨"dict","dict.get",PySem.F.plainAttrs_dict,PySem.F.slot_dict_get,PySem.F.type_dict_get,h1.typeIs,h1.mapOf.noDict,wpAny_dict_get2 (knd:=strKind B.prog B.w) h0 ?_⟩
 refine he.run (R.kp k0) (a.kp k0) k0 fun v1 s1 r1 hz2 k1 x1=>?_
 refine e1_2 hz2 ?_
 clear hz2
 intro k hr1 hf
 subst hr1
 refine hf.run ((R.kp k0).kp k1) ((a.kp k0).kp k1) (k0.trans k1) fun v2 s2 r2 hz3 k2 x2=>?_
 refine e1_2 hz3 ?_
 clear hz3
 intro dd hr2 q
 subst hr2
 refine e1_1 x1.str ?_
 intro t ez10
 clear x1 hf;subst ez10
 refine e2_4 (((x0.kp k1).kp k2).dct) ?_
 intro d' kvs' e' h0' h1' h2'
 clear h0' x0 h1 h0;cases e'
 refine ⟨k,_,strKind_is _ _ _ _,h1'.mapOf,_,q,((k0.trans k1).trans k2).trans Kp.toks,?_⟩
 cases e:dAt l k with
 | none=>rw [h2'.at.1 e];exact x2
 | some z=>obtain ⟨v,e1,e2⟩:=h2'.at.2 z e;rw [e1];exact e2
theorem SW.dset {x:Str} {p pos' pos:Pos} {ke e:Expr} {Q:Fl→List (Option Sl)→Prop} {l:List (Str×D)} {mm:Option Addr} (i:Nat) {kd:Kd} (hx:F.vars[i]?=some (x,kd)) (hs:ρ[i]?=some (some (.own (.dct l) mm)))
  (h:EW B F X n ρ e fun r=>∃ d,r=.im d∧EW B F X n ρ ke fun r=>∃ k,r=.im (.str k)∧l.length≤sizeLine∧Q .next (ρ.set i (some (.own (.dct (dSto l k d)) mm))))
  (hsw:∀ env,swapsWith e (some (.Subscript (.Name x p) ke pos')) pos.line env=pure false:=by intro _;rfl) :
  SW B F X n ρ (.Assign [.Subscript (.Name x p) ke pos'] e pos) Q:=by
 refine .mk ?_
 intro env oa A s hd R a
 refine wpAny_Assign_Subscript (hs:=hsw env) ?_
 refine wpAny_mono (h.go env oa A s R a) (fun v s1 hz4=>?_) fun _ _ x=>x.toW
 refine e1_3 hz4 ?_
 clear hz4
 intro r ez11 k1 hv
 obtain ⟨d,hr,hk⟩:=ez11
 subst hr
 have R1:=R.kp k1
 refine e1_4 (R1.slots i x kd _ hx hs) ?_
 intro b h1 h2 h3 _
 refine loadVar R1 hx h1 ?_
 refine wpAny_mono (hk.go env oa A s1 R1 (a.kp k1)) (fun kv s2 hz5=>?_) fun _ _ x=>(x.back k1).toW
 refine e1_3 hz5 ?_
 clear hz5
 intro r ez12 k2 hkv
 obtain ⟨k,hr,hl,q⟩:=ez12
 subst hr
 refine e1_1 (VR.str hkv) ?_
 intro t ez13
 clear hkv;subst ez13
 have c2:=h2.kp k2 (fun x=>x)
 refine e0_2 (id c2) ?_
 intro g0 ez14
 refine e1_2 ez14 ?_
 clear ez14
 intro kvs g1 g2
 have R2:=R1.kp k2
 refine wpAny_setItem_pairs (strKind_is _ _ _ _) g1 (fun h' g3 hs'=>?_) (by rw [g2.length];exact hl)
 refine e3_2 (id g3) ?_
 intro o' es' ep' g4 _
 have hg:Grow s2.heap h':=(R2.upd h3 hs' ⟨o',g4⟩ ⟨_,c2⟩ (t:=0) [] (fun _ _ _ _ _ h=>by simp at h)).2
 have c3:ContAt B h' b (.dct (dSto l k d)):=⟨g0,_,g3,(g2.grow hg).sto ((Im.grow k2.tups hv).grow hg)⟩
 refine e0_2 (ownTurn R2 hs h3 c2 hs' c3 trivial (t:=s2.toks+1)) ?_
 intro R3 k3
 exact ⟨.next,_,oa,q,trivial,R3,(Kp.toW (k1.trans k2)).trans k3 fun _ x=>.inl x,OwnFrom.refl _ _⟩
end
end Mine
end

section
open PySem PySem.W PyProof.Rows PySem.Calls PyProof PySem.SeqAt
set_option backward.match.sparseCases false
set_option tactic.hygienic false
namespace Mine
section
variable {B:Bs} {F:Fi} {X:Str→Prop} {n:Nat} {ρ:List (Option Sl)}
theorem BuiS.listL {m:Md} {l:List D} (h:l.length≤sizeLine):BuiS B n (.type "list") [.ct m (.lst l)] (.ct .fr (.lst l)):=.one fun env oa A s0 s v E b a x=>by
 refine e1_2 x.cont ?_
 intro a ez1 ez2
 clear x b;subst ez1
 refine e3_4 ez2 ?_
 clear ez2
 intro o vs k h1 ez3 h3 h4
 obtain ⟨h2,h2'⟩:=ez3
 have e:vs.size=l.length:=by rw [← Array.length_toList];exact h4.length
 refine call_list_seq a (.inl rfl) h1 h2 h3 (fun h' c' hk hn=>?_) (by rw [e];exact h)
 have k:Kp B s { s with heap:=h' }:=Kp.of (t:=s.toks) hk
 exact ⟨k,_,rfl,⟨_,vs,c',hn,⟨rfl,rfl⟩,rfl,h4.grow k.tups⟩,fresh_size s⟩
theorem BuiS.listT {l:List D} (h:l.length≤sizeLine):BuiS B n (.type "list") [.im (.tup l)] (.ct .fr (.lst l)):=.one fun env oa A s0 s v E b a x=>by
 refine e4_5 x.tup ?_
 intro a o vs k ez4 h1 h2 h3 h4
 clear x;subst ez4
 have e:vs.size=l.length:=by rw [← Array.length_toList];exact h4.length
 refine call_list_seq a (.inr rfl) h1 h2 h3 (fun h' c' hk hn=>?_) (by rw [e];exact h)
 have k:Kp B s { s with heap:=h' }:=Kp.of (t:=s.toks) hk
 exact ⟨k,_,rfl,⟨_,vs,c',hn,⟨rfl,rfl⟩,rfl,h4.grow k.tups⟩,fresh_size s⟩
theorem BuiS.tupleL {m:Md} {l:List D} (h:l.length≤sizeLine):BuiS B n (.type "tuple") [.ct m (.lst l)] (.im (.tup l)):=.one fun env oa A s0 s v E b a x=>by
 refine e2_3 x.lst ?_
 intro a vs ez5 h1 h4
 clear x;subst ez5
 have e:vs.size=l.length:=by rw [← Array.length_toList];exact h4.length
 refine call_tuple_list h1 (fun h' hk=>?_) (by rw [e];exact h)
 have k:Kp B s { s with heap:=h'.push { cls:=.type "tuple",data:=.seq vs } }:=Kp.of (t:=s.toks) fun b o q=>Heap.get?_push_of_some _ (hk b o q)
 exact ⟨k,Im.tup (Heap.get?_push_size _ rfl) rfl rfl (h4.grow k.tups)⟩
theorem Ims.ofKeys {h:Heap} {P:Nat→Value→Prop}:∀ {ks:List Str} {vs:List Value} {i:Nat},vs.length=ks.length→(∀ (j:Nat) (v:Value),vs[j]?=some v→∃ k,ks[j]?=some k∧∃ t,v=Value.str k t)→Ims h vs (ks.map D.str)
 := by
 intro ks
 induction ks with
 | nil=>intro vs i hl hv;cases vs with | nil=>exact .nil | cons _ _=>cases hl
 | cons k ks ih =>
  intro vs i hl hv
  cases vs with
  | nil=>cases hl
  | cons v vs =>
   refine e1_2 (hv 0 v rfl) ?_
   intro k' e ez7
   refine e1_1 ez7 ?_
   clear ez7
   intro t e'
   simp at e;subst e;subst e'
   exact .cons (.str _ _) (ih (i:=i) (by simpa using hl) fun j v q=>by simpa using hv (j+1) v (by simpa using q))
theorem KVs.keyAt {h:Heap}:∀ {kvs l},KVs h kvs l→∀ {i:Nat} {k:Str} {v:Value},kvs[i]?=Option.some (k,v)→∃ d,l[i]?=Option.some (k,d)
 := by
 intro kvs l h
 induction h with
 | nil=>intro i k v e;simp at e
 | cons a r ih =>
  intro i k v e
  cases i with
  | zero=>simp at e;obtain ⟨rfl,rfl⟩:=e;exact ⟨_,rfl⟩
  | succ i=>simpa using ih (by simpa using e)
set_option tactic.hygienic true in
theorem BuiS.listD {m:Md} {l:List (Str×D)} (h:l.length≤sizeLine) (hq:B.quiet=true:=by assumption):BuiS B n (.type "list") [.ct m (.dct l)] (.ct .fr (.lst (l.map fun kv=>.str kv.1))):=.one fun env oa A s0 s v E b a x=>by
 refine e2_4 x.dct ?_
 intro d kvs ez8 h0 h1 h2
 clear x;subst ez8
 refine e1_1 h1.dictAt ?_
 intro ep h3
 have hl:kvs.length=l.length:=h2.length
 refine kdl_call (kdl_dict (knd:=strKind B.prog B.w) h0) (a.handled hq) h3 (by lia) fun h' tk acc c hk hn hit=>?_
 have k:Kp B s { s with heap:=h',toks:=tk }:=Kp.of hk
 refine ⟨k,_,rfl,⟨_,acc,c,hn,⟨rfl,rfl⟩,rfl,?_⟩,fresh_size s⟩
 have:=Ims.ofKeys (h:=h') (P:=fun _ _=>True) (ks:=l.map (·.1)) (vs:=acc.toList) (i:=0) (by simp [hit.1];(clear h;lia)) fun j v q=>by
  refine e2_2 (hit.2 j v (by simpa using q)) ?_
  intro k x e1 e2
  refine e1_1 (h2.keyAt e1) ?_
  intro dd e3
  refine ⟨k,by simp [e3],?_⟩
  have e4:Value.isStrOf k v=true:=e2
  unfold Value.isStrOf at e4
  split at e4
  ·rename_i s t;exact ⟨t,by simp at e4;rw [e4]⟩
  ·cases e4
 rw [List.map_map] at this
 exact this
theorem Ims.ints {h:Heap}:∀ {vs:List Value} {is:List Int},Ims h vs (is.map .int)→∃ xs:List (Int×Tok),vs=xs.map (fun p=>.int p.1 p.2)∧xs.map (·.1)=is
 | _,[],q=>by cases q;exact ⟨[],rfl,rfl⟩
 | _,i::is,q=>by
  cases q with
  | cons a r=>cases a with
   | int i t=>obtain ⟨xs,e1,e2⟩:=Ims.ints r;exact ⟨(i,t)::xs,by rw [e1];rfl,by rw [← e2];rfl⟩
noncomputable def sle (a b:Str):Bool := !Spec.ltCps b.cps.toList a.cps.toList
noncomputable def srt (l:List Str):List Str:=l.mergeSort sle
theorem sle_total (a b:Str):(sle a b||sle b a)=true:=by
 unfold sle;rw [ltCps_eq,ltCps_eq]
 rcases Nat.lt_or_ge 0 1 with _ | _
 ·by_cases h:b.cps.toList<a.cps.toList
  ·have:¬ a.cps.toList<b.cps.toList:=List.lt_asymm h
   simp [h,this]
  ·simp [h]
 ·lia
theorem sle_trans (a b c:Str) (h:sle a b=true) (h':sle b c=true):sle a c=true:=by
 unfold sle at *;rw [ltCps_eq] at *
 simp only [Bool.not_eq_true',decide_eq_false_iff_not] at *
 exact fun q=>h (List.lt_of_le_of_lt (List.not_lt.mp h') q)
theorem sle_anti {a b:Str} (h:sle a b=true) (h':sle b a=true):a=b:=by
 unfold sle at *;rw [ltCps_eq] at *
 simp only [Bool.not_eq_true',decide_eq_false_iff_not] at *
 have:a.cps.toList=b.cps.toList:=List.le_antisymm (List.not_lt.mp h) (List.not_lt.mp h')
 (try clear h';try clear h);cases a;(try clear h';try clear h);cases b;simp at this;simp [this]
theorem srt_sorted (l:List Str):(srt l).Pairwise fun a b=>sle a b=true:=List.pairwise_mergeSort sle_trans sle_total l
theorem srt_perm (l:List Str):(srt l).Perm l:=List.mergeSort_perm l _
theorem srt_unique {l m:List Str} (h:m.Perm l) (hs:m.Pairwise fun a b=>sle a b=true):m=srt l :=
 (h.trans (srt_perm l).symm).eq_of_pairwise (fun a b _ _ h1 h2=>sle_anti h1 h2) hs (srt_sorted l)
theorem sortedS_pw:∀ {l:List Str},sortedS l=true→l.Pairwise fun a b=>sle a b=true:=by
 have rise:∀ (r:List Str) (p:Str),risingS p r=true→(p::r).Pairwise fun a b=>sle a b=true:=by
  intro r
  induction r with
  | nil=>intro p _;simp
  | cons x r ih =>
   intro p h
   have h1:sle p x=true∧risingS x r=true:=by
    simp only [risingS] at h
    simpa [sle] using h
   have:=ih x h1.2
   refine List.Pairwise.cons (fun y hy=>?_) this
   rcases List.mem_cons.mp hy with e | e
   ·clear hy this;subst e;exact h1.1
   ·exact sle_trans _ _ _ h1.1 (List.rel_of_pairwise_cons this e)
 intro l h
 cases l with
 | nil=>exact .nil
 | cons x r=>exact rise r x h
theorem Ims.strs {h:Heap} {vs:List Value} {ss:List Str} (q:Ims h vs (ss.map .str)):StrsAre vs ss:=by
 induction ss generalizing vs with
 | nil=>cases q;exact .nil
 | cons i is ih=>cases q with
  | cons a r=>cases a with
   | str i t=>exact .cons _ _ (ih r)
theorem Ims.ofStrs {h:Heap} {vs:List Value} {ss:List Str} (x:StrsAre vs ss):Ims h vs (ss.map .str):=by
 induction x with
 | nil=>exact .nil
 | cons y t r ih=>exact .cons (.str _ _) ih
theorem BuiS.sorted {m:Md} {ss:List Str} (h:ss.length<64):BuiS B n (.builtin "sorted") [.ct m (.lst (ss.map .str))] (.ct .fr (.lst ((srt ss).map .str))):=.one fun env oa A s0 s v E b a x=>by
 refine e2_3 x.lst ?_
 intro l vs ez10 h1 h2
 clear x;subst ez10
 have hl:vs.toList.length=ss.length:=by simpa using h2.length
 refine sorted_strs (vs:=vs.toList) (by simpa using h1) h2.strs (by lia) fun out ss' e1 e2 e3=>?_
 have hk:Kp B s { s with heap:=sortedAll s.heap vs.toList out }:=Kp.of (t:=s.toks) fun b o q=>sortedAll_old q
 refine e1_1 (sortedAll_at s.heap vs.toList out) ?_
 intro e he
 refine ⟨hk,_,rfl,⟨_,out,e,he,⟨rfl,rfl⟩,rfl,?_⟩,?_⟩
 ·rw [← srt_unique e2 (sortedS_pw e3)]
  exact Ims.ofStrs e1
 ·cases q:s.heap.get? (s.heap.objs.size+1) with
  | none=>rfl
  | some o=>exact absurd (Heap.lt_size q) (Nat.not_lt.mpr (Nat.le_succ _))
theorem CmpS.inInts {m:Md} {is:List Int} {i:Int}:CmpS B n .In (.im (.int i)) (.ct m (.lst (is.map .int))) (is.contains i):=fun env oa A s0 s vx vy E b a x y=>by
 refine e2_3 y.lst ?_
 intro l vs ez11 h1 h2
 clear y;subst ez11
 refine e1_1 x.int ?_
 intro t ez12
 clear x;subst ez12
 refine e1_2 h2.ints ?_
 intro xs e1 e2
 refine SeqInW.in_listW (fun v=>match v with | .int j _=>j == i | _=>false) (fun y hy=>?_) h1 ⟨?_,Kp.refl _⟩
 ·have:y∈vs.toList:=by simpa using hy
  rw [e1] at this
  refine e1_2 (List.mem_map.mp this) ?_
  intro p _ ez13
  clear a_1 this hy;subst ez13
  exact PySem.MeetsSeq.EqGives.int _ _ _ _
 ·rw [← Array.any_toList,e1,← e2]
  congr 1
  rw [List.any_map,List.contains_eq_any_beq,List.any_map]
  congr 1;funext p;simp [Bool.beq_comm]
theorem CmpS.inStrs {m:Md} {is:List Str} {i:Str}:CmpS B n .In (.im (.str i)) (.ct m (.lst (is.map .str))) (is.contains i):=fun env oa A s0 s vx vy E b a x y=>by
 refine e2_3 y.lst ?_
 intro l vs ez14 h1 h2
 clear y;subst ez14
 refine e1_1 x.str ?_
 intro t ez15
 clear x;subst ez15
 have hs:=h2.strs
 refine SeqInW.in_listW (fun v=>match v with | .str j _=>j.cps.toList == i.cps.toList | _=>false) (fun y hy=>?_) h1 ⟨?_,Kp.refl _⟩
 ·have hy:y∈vs.toList:=by simpa using hy
  have:∀ {vs:List Value} {ss:List Str},StrsAre vs ss→y∈vs→∃ j t,y=.str j t:=by
   intro vs ss h;induction h with
   | nil=>intro q;clear hy;cases q
   | cons y' t r ih =>
    intro q
    rcases List.mem_cons.mp q with e | q
    ·exact ⟨_,_,e⟩
    ·exact ih q
  refine e2_1 (this hs hy) ?_
  intro j t' ez16
  clear this hy;subst ez16
  exact PySem.SeqRoads2.EqGives.str _ _ _ _
 ·rw [← Array.any_toList]
  congr 1
  have:∀ {vs:List Value} {ss:List Str},StrsAre vs ss→vs.any (fun v=>match v with | .str j _=>j.cps.toList == i.cps.toList | _=>false)=ss.contains i:=by
   intro vs ss h;induction h with
   | nil=>rfl
   | cons y' t r ih =>
    rw [List.any_cons,ih,List.contains_cons]
    congr 1
    rw [Bool.eq_iff_iff];simp only [beq_iff_eq]
    constructor
    ·intro q;(try clear ih;try clear x);cases i;cases y';simp at q;simp [q]
    ·intro q;rw [q]
  exact this hs
theorem BinS.addL {m m':Md} {l l':List D} (h:l.length+l'.length≤sizeLine):BinS B n .Add (.ct m (.lst l)) (.ct m' (.lst l')) (.ct .fr (.lst (l++l'))):=fun env oa A s0 s vx vy E b a x y=>by
 refine e1_2 x.cont ?_
 intro p ez17 ez18
 subst ez17
 refine e3_4 ez18 ?_
 clear ez18
 intro ez19 vs k h1 ez20 h3 h4
 obtain ⟨cls,dd,data,sl⟩:=ez19
 obtain ⟨h2,_⟩:=ez20
 refine e1_2 y.cont ?_
 intro q ez21 ez22
 subst ez21
 refine e3_4 ez22 ?_
 clear ez22
 intro ez23 ws k2 g1 ez24 g3 g4
 obtain ⟨cls2,dd2,data2,sl2⟩:=ez23
 obtain ⟨g2,_⟩:=ez24
 simp only at h2 h3 g2 g3
 subst h2 h3 g2 g3
 have e1:vs.size=l.length:=by rw [← Array.length_toList];exact h4.length
 have e2:ws.size=l'.length:=by rw [← Array.length_toList];exact g4.length
 refine concat_meets ⟨_,h1,rfl⟩ ⟨_,g1,rfl⟩ noFill_list_add seq_list_add PySem.F.slot_list_add PySem.F.entry_list_add (PySem.F.args_list_add_2 _ _) (list_addW p q vs ws k k2 dd dd2 sl sl2 (by lia)) ⟨h1,g1,?_⟩
 have kk:Kp B s { s with heap:=s.heap.push { cls:=.type "list",data:=.seq (vs++ws) } }:=push_kp (t:=s.toks) _
 refine ⟨kk,_,rfl,⟨_,vs++ws,_,Heap.get?_push_size _ rfl,⟨rfl,rfl⟩,rfl,?_⟩,fresh_size s⟩
 rw [Array.toList_append]
 exact (h4.append g4).grow kk.tups
theorem BinS.addT {l l':List D} (h:l.length+l'.length≤sizeLine):BinS B n .Add (.im (.tup l)) (.im (.tup l')) (.im (.tup (l++l'))):=fun env oa A s0 s vx vy E b a x y=>by
 refine e4_5 x.tup ?_
 intro p ez25 vs k ez26 h1 h2 h3 h4
 obtain ⟨cls,dd,data,sl⟩:=ez25
 clear x;subst ez26
 refine e4_5 y.tup ?_
 intro q ez27 ws k2 ez28 g1 g2 g3 g4
 obtain ⟨cls2,dd2,data2,sl2⟩:=ez27
 subst ez28
 simp only at h2 h3 g2 g3
 subst h2 h3 g2 g3
 have e1:vs.size=l.length:=by rw [← Array.length_toList];exact h4.length
 have e2:ws.size=l'.length:=by rw [← Array.length_toList];exact g4.length
 by_cases hv:vs.isEmpty=true
 ·refine concat_meets ⟨_,h1,rfl⟩ ⟨_,g1,rfl⟩ noFill_tuple_add seq_tuple_add PySem.F.slot_tuple_add PySem.F.entry_tuple_add (PySem.F.args_tuple_add_2 _ _) (tuple_addW0 p q vs ws k k2 dd dd2 sl sl2 hv) ⟨h1,g1,Kp.refl _,?_⟩
  have:l=[]:=by rw [Array.isEmpty_iff_size_eq_zero] at hv;exact List.length_eq_zero_iff.mp (by (clear e2 h;lia))
  (try clear e1;try clear x;try clear h4;try clear h);subst this;exact Im.tup g1 rfl rfl g4
 ·by_cases hw:ws.isEmpty=true
  ·refine concat_meets ⟨_,h1,rfl⟩ ⟨_,g1,rfl⟩ noFill_tuple_add seq_tuple_add PySem.F.slot_tuple_add PySem.F.entry_tuple_add (PySem.F.args_tuple_add_2 _ _) (tuple_addW1 p q vs ws k k2 dd dd2 sl sl2 hv hw) ⟨h1,g1,Kp.refl _,?_⟩
   have:l'=[]:=by rw [Array.isEmpty_iff_size_eq_zero] at hw;exact List.length_eq_zero_iff.mp (by (clear hv e1 h;lia))
   clear e2 y g4 h;subst this;rw [List.append_nil];exact Im.tup h1 rfl rfl h4
  ·refine concat_meets ⟨_,h1,rfl⟩ ⟨_,g1,rfl⟩ noFill_tuple_add seq_tuple_add PySem.F.slot_tuple_add PySem.F.entry_tuple_add (PySem.F.args_tuple_add_2 _ _) (tuple_addW2 p q vs ws k k2 dd dd2 sl sl2 hv hw (by (clear hw hv;lia))) ⟨h1,g1,?_⟩
   have kk:Kp B s { s with heap:=s.heap.push { cls:=.type "tuple",data:=.seq (vs++ws) } }:=push_kp (t:=s.toks) _
   refine ⟨kk,Im.tup (Heap.get?_push_size _ rfl) rfl rfl ?_⟩
   rw [Array.toList_append]
   exact (h4.append g4).grow kk.tups
theorem BinS.mulS {x:Str} {k:Int} (h:MulOk x k):BinS B n .Mult (.im (.str x)) (.im (.int k)) (.im (.str (Txt.mul x k))):=fun env oa A s0 s vx vy E b a u y=>by
 refine e1_1 u.str ?_
 intro t ez29
 clear u;subst ez29
 refine e1_1 y.int ?_
 intro t' ez30
 clear y;subst ez30
 exact SB.mul h fun t' k=>⟨Kp.toks,Im.str _ _⟩
noncomputable def D.isNone:D→Bool
 | .none=>true
 | _=>false
theorem CmpS.isNone (d:D):CmpS B n .Is (.im d) (.im .none) d.isNone:=fun env oa A s0 s vx vy E b a x y=>by
 rw [y.none]
 refine PyProof.Rows.is_none_gen ⟨?_,Kp.refl _⟩
 cases x <;> rfl
end
end Mine
end

section
open PySem PySem.W PyProof.Rows PySem.Calls PyProof
set_option backward.match.sparseCases false
set_option tactic.hygienic false
namespace Mine
section
variable {B:Bs} {F:Fi} {X:Str→Prop} {n:Nat} {ρ:List (Option Sl)}
noncomputable def compB (F:Fi) (scope:Scope) (m:Nat) (caps:List Nat) (vars:List (Str×Kd)):Bool :=
 decide (scope.names.map (·.1)).Nodup&&decide (scope.kind=.function)&&(scope.names.all fun x => !decide (x.2=.local)||decide (scope.names.lookup x.1=some .local)) &&
 (scope.names.all fun x => !decide (x.2=.free)||(F.vars.any fun y=>decide (y.1=x.1) && !decide (y.2=.loc))) &&
 ((vars.take m).all fun y=>decide (scope.names.lookup y.1=some y.2.kind) && !decide (y.2=.fre)) &&
 (((vars.drop m).zip caps).all fun p=>decide (scope.names.lookup p.1.1=some .free)&&(F.vars[p.2]?.any fun q=>decide (q.1=p.1.1) && !decide (q.2=.loc))) &&
 decide ((vars.drop m).length=caps.length)
theorem CompOk.of {Fc:Fi} {scope:Scope} {m:Nat} {caps:List Nat} (h1:Fc.scope=relabelS scope F.scope) (h2:Fc.own=m) (h3:Fc.lam=false) (h:compB F scope m caps Fc.vars=true):CompOk F Fc scope m caps:=by
 simp only [compB,Bool.and_eq_true,decide_eq_true_eq,List.all_eq_true,Bool.or_eq_true,Bool.not_eq_true',decide_eq_false_iff_not] at h
 refine e0_2 h ?_
 clear h
 intro ez1 a7
 obtain ⟨⟨⟨⟨⟨a1,a2⟩,a3⟩,a4⟩,a5⟩,a6⟩:=ez1
 refine ⟨h1,a1,h2,h3,a2,fun x hx e=>?_,fun x hx e=>?_,fun i x k hi hx=>?_,fun i x k hi hx=>?_⟩
 ·exact (a3 x hx).resolve_left fun q=>q e
 ·have:=(a4 x hx).resolve_left fun q=>q e
  simp only [List.any_eq_true,Bool.and_eq_true,decide_eq_true_eq,Bool.not_eq_true',decide_eq_false_iff_not] at this
  refine e1_3 this ?_
  clear this
  intro y hy e1 e2
  refine e1_1 (List.mem_iff_getElem?.mp hy) ?_
  intro i hi
  exact ⟨i,y.2,by rw [hi,← e1],e2⟩
 ·have:(x,k)∈Fc.vars.take m:=List.mem_iff_getElem?.mpr ⟨i,by rw [List.getElem?_take_of_lt hi];exact hx⟩
  exact a5 _ this
 ·have hd:(Fc.vars.drop m)[i-m]?=some (x,k):=by rw [List.getElem?_drop,Nat.add_sub_of_le hi];exact hx
  have hlt:i-m<(Fc.vars.drop m).length:=(List.getElem?_eq_some_iff.mp hd).1
  have hc:caps[i-m]?=some caps[i-m]:=List.getElem?_eq_getElem (by (clear hi h2;lia))
  have hz:((x,k),caps[i-m])∈(Fc.vars.drop m).zip caps:=List.mem_iff_getElem?.mpr ⟨i-m,by rw [List.getElem?_zip_eq_some];exact ⟨hd,hc⟩⟩
  refine e0_2 (a6 _ hz) ?_
  intro b1 b2
  refine ⟨b1,caps[i-m],?_⟩
  cases q:F.vars[caps[i-m]]? with
  | none=>rw [q] at b2;simp at b2
  | some y =>
   rw [q] at b2
   simp only [Option.any_some,Bool.and_eq_true,decide_eq_true_eq,Bool.not_eq_true',decide_eq_false_iff_not] at b2
   exact ⟨y.2,hc,by rw [← b2.1],b2.2⟩
noncomputable abbrev Fcm (F:Fi) (scope:Scope) (vars:List (Str×Kd)) (m:Nat) (hok:fiOk (relabelS scope F.scope) vars=true):Fi:=⟨relabelS scope F.scope,vars,m,hok,false⟩
theorem EW.compV {elt target iter:Expr} {ifs:List Expr} {scope:Scope} {pos:Pos} {Q:AV→Prop} (vars:List (Str×Kd)) (m:Nat) (caps:List Nat) (hok:fiOk (relabelS scope F.scope) vars=true) (hc:compB F scope m caps vars=true)
  (h:EW B F X n ρ iter fun r=>∃ ds,IterS B n r ds∧∃ J:List D→List D→Prop,J ds []∧(∀ d rest ac,J (d::rest) ac→CW B (Fcm F scope vars m hok) n m (compStart0 m ρ caps) target ifs elt d (CoK J rest ac))∧∀ l,J [] l→Q (.ct .fr (.lst l)))
  (hs:∀ env x,foldedSetIterable iter env x=pure x:=by intros;rfl) (hq:B.quiet=true:=by assumption):EW B F X n ρ (.ListComp elt [⟨target,iter,ifs,0⟩] scope pos) Q :=
 EW.comp (Fc:=Fcm F scope vars m hok) (m:=m) (caps:=caps) (CompOk.of rfl rfl rfl hc) h hs hq
theorem SW.assignCompV {x:Str} {pos':Pos} {elt target iter:Expr} {ifs:List Expr} {scope:Scope} {pos cpos:Pos} {Q:Fl→List (Option Sl)→Prop} (i:Nat) (vars:List (Str×Kd)) (m:Nat) (caps:List Nat) (hx:F.vars[i]?=some (x,.loc)) (hi:i<F.own)
  (hok:fiOk (relabelS scope F.scope) vars=true) (hc:compB F scope m caps vars=true)
  (h:EW B F X n ρ iter fun r=>∃ ds,IterS B n r ds∧∃ J:List D→List D→Prop,J ds []∧(∀ d rest ac,J (d::rest) ac→CW B (Fcm F scope vars m hok) n m (compStart0 m ρ caps) target ifs elt d (CoK J rest ac))∧∀ l,J [] l→Q .next (ρ.set i (some (.own (.lst l)))))
  (hl:pos'.line=cpos.line) (hn:(scope.names.any fun (y,k)=>y == x&&(k == .local||k == .cell))=false)
  (hs:∀ env x,foldedSetIterable iter env x=pure x:=by intros;rfl) (hq:B.quiet=true:=by assumption):SW B F X n ρ (.Assign [.Name x pos'] (.ListComp elt [⟨target,iter,ifs,0⟩] scope cpos) pos) Q :=
 SW.assignComp (Fc:=Fcm F scope vars m hok) (m:=m) (caps:=caps) i hx hi (CompOk.of rfl rfl rfl hc) h hl hn hs hq
theorem SW.assignCell {x:Str} {pos':Pos} {elt:Expr} {gens:List Comprehension} {scope:Scope} {pos cpos:Pos} {Q:Fl→List (Option Sl)→Prop} (i:Nat) (hx:F.vars[i]?=some (x,.cel)) (hi:i<F.own)
  (h:EW B F X n ρ (.ListComp elt gens scope cpos) fun r=>∃ sl,r.sl=some sl∧Q .next (ρ.set i (some sl))):SW B F X n ρ (.Assign [.Name x pos'] (.ListComp elt gens scope cpos) pos) Q :=
 .mk fun env oa A s hd R a=>by
  have hkx:env.kindOf x=some .cell:=by unfold Env.kindOf;rw [R.scope];exact (F.at hx).1
  have hsw:swapsWith (.ListComp elt gens scope cpos) (some (.Name x pos')) pos.line env=pure false:=by
   have e:swapsWith (.ListComp elt gens scope cpos) (some (.Name x pos')) pos.line env=pure (env.blockKind == .function&&env.kindOf x == some .local&&pos'.line == cpos.line
    && !(scope.names.any fun (n,k)=>n == x&&(k == .local||k == .cell))):=rfl
   rw [e,hkx,show ((some NameKind.cell:Option NameKind) == some NameKind.local)=false from rfl];simp
  exact wpAny_Assign_Name (wpAny_mono (h.go env oa A s R a) (fun v s1 hz9=>e1_3 hz9 fun r hz8 k1 x1=>e1_2 hz8 fun sl hsl q =>
   wpAny_mono (storeVar R k1 x1 hx hsl (by decide) hi) (fun _ s2 hz2=>e0_4 hz2 fun h1 h2 h3 _=>⟨.next,_,_,q,trivial,h1,(Kp.toW k1).trans (h2.mono fun _ x=>.inl x) (fun _ x=>.inl x),h3⟩) fun _ _ x=>x) fun _ _ x=>x.toW) hsw
theorem intsFrom_length (a:Int) (k:Nat):(intsFrom a k).length=k:=by
 induction k generalizing a with
 | zero=>rfl
 | succ k ih=>simp [intsFrom,ih]
noncomputable def bodyOf (p:Program) (i:Nat):List Stmt :=
 match p.main.body[i]? with
 | some (.FunctionDef _ _ b _ _ _ _ _ _ _)=>b
 | _=>[]
noncomputable def scopeOf (p:Program) (i:Nat):Scope :=
 match p.main.body[i]? with
 | some (.FunctionDef _ _ _ _ _ _ s _ _ _)=>s
 | _=>p.main.scope
end
end Mine
end

section
open PySem PySem.W PyProof.Rows PySem.Calls PyProof
set_option tactic.hygienic false
namespace Mine
section
variable {B:Bs} {F:Fi} {X:Str→Prop} {n:Nat} {ρ:List (Option Sl)}
set_option tactic.hygienic true in
end
end Mine
end

section
open PySem PySem.W PyProof.Rows PySem.Calls PyProof
set_option backward.match.sparseCases false
set_option tactic.hygienic false
namespace Mine
section
variable {B:Bs} {F:Fi} {X:Str→Prop} {n:Nat} {ρ:List (Option Sl)}
theorem BuiS.dictD {m:Md} {l:List (Str×D)} (h:l.length≤sizeLine):BuiS B n (.type "dict") [.ct m (.dct l)] (.ct .fr (.dct l)):=.one fun env oa A s0 s v E b a x=>by
 refine e2_4 x.dct ?_
 intro d kvs ez1 h0 h1 h2
 clear x;subst ez1
 refine kt_call_dict (knd:=strKind B.prog B.w) h0 h1 (by rw [h2.length];exact h) fun h' hd hs=>?_
 have k:Kp B s { s with heap:=h' }:=Kp.of (t:=s.toks) fun b o q=>(hs.2 b (Nat.ne_of_lt (Heap.lt_size q))).trans (Heap.get?_push_of_some _ q)
 refine ⟨k,_,rfl,⟨?_,kvs,hd,h2.grow k.tups⟩,fresh_size s⟩
 have hlt:sysModules<s.heap.objs.size:=by
  refine e3_2 B.g ?_
  intro o' es' ep' ho' _
  have h3:=Heap.lt_size (b _ _ ho')
  exact Nat.lt_of_le_of_lt (by decide) h3
 exact beq_eq_false_iff_ne.mpr (fun q=>by rw [q] at hlt;exact Nat.lt_irrefl _ hlt)
theorem CmpS.leS (a b:Str):CmpS B n .LtE (.im (.str a)) (.im (.str b)) (sle a b):=fun env oa A s0 s vx vy E bs ar x y=>by
 obtain ⟨t,rfl⟩:=x.str;obtain ⟨u,rfl⟩:=y.str
 refine PySem.P.le_str ⟨?_,Kp.refl _⟩
 unfold sle
 rw [ltCps_eq]
theorem CmpS.notInStrs {m:Md} {is:List Str} {i:Str}:CmpS B n .NotIn (.im (.str i)) (.ct m (.lst (is.map .str))) (!is.contains i):=fun env oa A s0 s vx vy E b a x y=>by
 refine e2_3 y.lst ?_
 intro l vs ez2 h1 h2
 clear y;subst ez2
 refine e1_1 x.str ?_
 intro t ez3
 clear x;subst ez3
 have hs:=h2.strs
 refine SeqInW.notIn_listW (fun v=>match v with | .str j _=>j.cps.toList == i.cps.toList | _=>false) (fun y hy=>?_) h1 ⟨?_,Kp.refl _⟩
 ·have hy:y∈vs.toList:=by simpa using hy
  have:∀ {vs:List Value} {ss:List Str},StrsAre vs ss→y∈vs→∃ j t,y=.str j t:=by
   intro vs ss h;induction h with
   | nil=>intro q;clear hy;cases q
   | cons y' t r ih =>
    intro q
    rcases List.mem_cons.mp q with e | q
    ·exact ⟨_,_,e⟩
    ·exact ih q
  refine e2_1 (this hs hy) ?_
  intro j t' ez4
  clear this hy;subst ez4
  exact PySem.SeqRoads2.EqGives.str _ _ _ _
 ·rw [← Array.any_toList]
  congr 2
  have:∀ {vs:List Value} {ss:List Str},StrsAre vs ss→vs.any (fun v=>match v with | .str j _=>j.cps.toList == i.cps.toList | _=>false)=ss.contains i:=by
   intro vs ss h;induction h with
   | nil=>rfl
   | cons y' t r ih =>
    rw [List.any_cons,ih,List.contains_cons]
    congr 1
    rw [Bool.eq_iff_iff];simp only [beq_iff_eq]
    constructor
    ·intro q;(try clear ih;try clear x);cases i;cases y';simp at q;simp [q]
    ·intro q;rw [q]
  exact this hs
end
end Mine
end

section
open PySem PySem.W PyProof.Rows PySem.Calls PyProof
set_option backward.match.sparseCases false
set_option tactic.hygienic false
namespace Mine
theorem mgOf {K:Frag} {h:Heap} {mg:Str→Option Value} {x:Str} {r:Option Value} (X:K.In h) (g:h.Ns mainGlobals mg) (e:nsIn K mainGlobals x=some r):mg x=r:=by
 refine e3_4 g ?_
 clear g
 intro o es ep ho hd hk hf
 cases hl:K.lookup mainGlobals with
 | none =>
  rw [nsIn,hl] at e
  cases e
 | some ob =>
  have:=X _ _ hl
  rw [ho] at this
  cases this
  obtain ⟨c0,dd,data,sl⟩:=o
  have hd':data=.dict es ep:=hd
  subst hd'
  rw [nsIn,hl] at e
  rw [← hf x]
  unfold nsFind findBy
  rw [← Array.find?_toList]
  cases he:es.toList.find? (·.key.isStr x) with
  | some en =>
   have e2:(some (some en.val):Option (Option Value))=some r:=by
    have e3:=e
    dsimp only at e3
    rw [he] at e3
    exact e3
   cases e2;rfl
  | none =>
   have e2:(if es.toList.any (·.refKey) then (none:Option (Option Value)) else some none)=some r:=by
    have e3:=e
    dsimp only at e3
    rw [he] at e3
    exact e3
   by_cases q:es.toList.any (·.refKey)=true
   ·rw [if_pos q] at e2;cases e2
   ·rw [if_neg q] at e2;cases e2;rfl
end Mine
end

section
open PySem PySem.W PyProof.Rows PySem.Calls PyProof
set_option backward.match.sparseCases false
set_option tactic.hygienic false
namespace Mine
section
variable {B:Bs} {F:Fi} {X:Str→Prop} {n:Nat} {ρ:List (Option Sl)}
theorem SWs.freeze {sts:List Stmt} {Q:Fl→List (Option Sl)→Prop} (i:Nat) {c:Cont} {mm:Option Addr} (hs:ρ[i]?=some (some (.own c mm))) (h:SWs B F X n (ρ.set i (some (.fz c))) sts Q):SWs B F X n ρ sts Q:=by
 refine .mk ?_
 intro env oa A s hd R a
 have hlt:i<ρ.length:=(List.getElem?_eq_some_iff.mp hs).1
 have sub:∀ j b,(if j=i then none else oa j)=some b→j≠i∧oa j=some b:=fun j b q=>by
  by_cases e:j=i
  ·rw [if_pos e] at q;cases q
  ·rw [if_neg e] at q;exact ⟨e,q⟩
 have fw:∀ b,FW env (fun j=>if j=i then none else oa j) b→FW env oa b:=fun b q=>by
  rcases q with q | ⟨j,q⟩
  ·exact .inl q
  ·exact .inr ⟨j,(sub j b q).2⟩
 have R':Rp B F env (fun j=>if j=i then none else oa j) (ρ.set i (some (.fz c))) s:=by
  refine ⟨R.base,R.scope,R.globals,R.builtins,R.code,R.ns,R.cells,R.apart,R.locCell,R.cellsLive,R.privNew,fun j x k sl h1 h2=>?_,fun j k b q1 q2=>R.oinj j k b (sub j b q1).2 (sub k b q2).2,fun j b q=>R.opriv j b (sub j b q).2⟩
  by_cases e:j=i
  ·subst e
   rw [List.getElem?_set_self hlt] at h2;cases h2
   refine e1_4 (R.slots j x k _ h1 hs) ?_
   intro b g1 g2 g3 _
   refine ⟨b,g1,g2,fun q=>?_⟩
   rcases q with q | ⟨j',q⟩
   ·exact (R.opriv j b g3).1 q
   ·refine e0_2 (sub j' b q) ?_
    intro q1 q2
    exact q1 (R.oinj j' j b q2 g3)
  ·rw [List.getElem?_set_ne (Ne.symm e)] at h2
   have z:=R.slots j x k sl h1 h2
   cases sl with
   | im d=>exact z
   | fz c=>(obtain ⟨b,g1,g2,g3⟩:=z;exact ⟨b,g1,g2,fun q=>g3 (fw b q)⟩)
   | own c=>(obtain ⟨b,g1,g2,g3,g4⟩:=z;exact ⟨b,g1,g2,(if_neg e).trans g3,g4⟩)
 refine wpAny_mono (h.go env _ A s hd R' a) (fun f s' x=>?_) fun e s' x=>?_
 ·refine e3_5 x ?_
  clear x
  intro fl ρ' oa' h1 h2 h3 h4 h5
  exact ⟨fl,ρ',oa',h1,h2,h3,h4.mono fw,fun j b q=>(h5 j b q).imp (fun hz1=>e1_1 hz1 fun j' q'=>⟨j',(sub j' b q').2⟩) (fun x=>x)⟩
 ·exact x
end
end Mine
end

section
open PySem PySem.W PyProof.Rows PySem.Calls PyProof
set_option backward.match.sparseCases false
set_option tactic.hygienic false
namespace Mine
section
variable {B:Bs} {F:Fi} {X:Str→Prop} {n:Nat} {ρ:List (Option Sl)}
noncomputable def SpecM (B:Bs) (f:Str) (n:Nat) (ags:List Ag) (l:List (Str×D)) (Q:List (Str×D)→Prop):Prop :=
 ∃ fa o fd,B.mg f=some (.ref fa)∧B.hB.get? fa=some o∧o.data=.func fd ∧
  ∀ A s vs a,Bas B s→Ar B A n s→vs.length=ags.length→(∀ (i:Nat) v g,vs[i]?=some v→ags[i]?=some g→AgR B s.heap v g)→ContAt B s.heap a (.dct l)→B.hB.get? a=none →
   codeAny (model B.prog B.w) A (.call (.ref fa) ⟨vs++[.ref a],[]⟩) (fun r s'=>match r with
    | .ok (.ret _)=>∃ l',Q l'∧KpW B (fun b=>b=a) s s'∧ContAt B s'.heap a (.dct l')
    | _=>False) s
theorem SpecM.mono {f ags l} {m:Nat} {Q Q':List (Str×D)→Prop} (h:SpecM B f n ags l Q) (hm:n≤m) (q:∀ r,Q r→Q' r):SpecM B f m ags l Q':=by
 refine e3_4 h ?_
 clear h
 intro fa o fd h1 h2 h3 h4
 refine ⟨fa,o,fd,h1,h2,h3,fun A s vs a b ar hl hv hc hn=>codeAny_mono (h4 A s vs a b (ar.le hm) hl hv hc hn) fun r s' x=>?_⟩
 cases r with
 | error e=>exact x
 | ok r=>cases r with
  | ret v=>obtain ⟨r,h5,h6⟩:=x;exact ⟨r,q r h5,h6⟩
  | next=>exact x
  | brk=>exact x
  | cont=>exact x
noncomputable def Ag.plain:Ag→Bool
 | .im _=>true
 | .ct (.lst _)=>true
 | _=>false
noncomputable def startM (F:Fi) (ags:List Ag) (sl:Sl):List (Option Sl):=(ags.map fun g=>some g.sl)++some sl::List.replicate (F.vars.length-ags.length-1) none
theorem ContAt.lst_dct {h:Heap} {a:Addr} {l:List D} {m:List (Str×D)} (x:ContAt B h a (.lst l)) (y:ContAt B h a (.dct m)):False:=by
 refine e3_4 x ?_
 clear x
 intro o vs n h1 h2 h3 _
 refine e0_2 y ?_
 clear y
 intro _ ez1
 refine e1_2 ez1 ?_
 clear ez1
 intro kvs ez2 _
 obtain ⟨o',es,ep,g1,g2,g3,_⟩:=ez2
 rw [h1] at g1;clear g2 h2 h1;cases g1;rw [h3] at g3;clear right a_1;cases g3
theorem SpecM.of_body {f:Str} {names:List Str} {body:List Stmt} {ags:List Ag} {l:List (Str×D)} {Q:List (Str×D)→Prop}
  (hf:FnAt B f names body F.scope) (hv:(F.vars.map (·.1)).take names.length=names) (hnf:(F.vars.all fun x=>decide (x.2≠.fre))=true) (hl:ags.length+1=names.length) (hap:ags.all Ag.plain=true) (hl0:F.lam=false)
  (h:∀ a,SWs B F NoX n (startM F ags (.own (.dct l) (some a))) body fun fl ρ'=>fl=.next∧∃ l',ρ'[ags.length]?=some (some (.own (.dct l') (some a)))∧Q l'):SpecM B f (n+1) ags l Q:=by
 refine e3_10 hf.ex ?_
 intro fa o fd h1 h2 h3 hb hs hg hc hbu hcd hbind
 refine ⟨fa,o,fd,h1,h2,h3,fun A s vs a bas ar hlen hargs hca hna=>?_⟩
 refine e1_1 hca.exists ?_
 intro oa hoa
 have own:∀ i b,(if i=ags.length then some a else none)=some b→i=ags.length∧b=a:=fun i b q=>by
  by_cases e:i=ags.length
  ·rw [if_pos e] at q;cases q;exact ⟨e,rfl⟩
  ·rw [if_neg e] at q;cases q
 have kp:∀ {s'},KpW B (fun b=>∃ i:Nat,(if i=ags.length then some a else none)=some b) s s'→KpW B (fun b=>b=a) s s':=fun k=>k.mono fun b q=>e1_1 q fun i q=>(own i b q).2
 refine bodyCore (oa0:=fun i=>if i=ags.length then some a else none) h2 h3 hb hs hg hc hbu hcd hbind hf.co hf.gen hf.cells hv hnf (fun q=>by rw [hl0] at q;cases q) bas ar (by simp;lia) (fun i b q=>?_) (fun i j b q1 q2=>(own i b q1).1.trans (own j b q2).1.symm) (fun env h' g01 kk privS hvar j y k sl hj hρ=>?_) (h a)
  (fun env oa' ρ' fl v s' q1 q3 k q5 hr=>?_) (fun _=>⟨(fun q=>by cases q.1),(fun q=>by cases q.1)⟩) (fun e s' x=>?_)
 ·rw [(own i b q).2];exact ⟨hna,oa,hoa⟩
 ·have npriv:∀ {b c},ContAt B s.heap b c→¬ Priv env b:=fun {b c} hb q=>by obtain ⟨o,ho⟩:=hb.exists;rw [privS b q] at ho;cases ho
  unfold startM at hρ
  rcases Nat.lt_trichotomy j ags.length with q | q | q
  ·rw [List.getElem?_append_left (by simpa using q),List.getElem?_map] at hρ
   obtain ⟨g,hg'⟩:∃ g,ags[j]?=some g:=⟨ags[j],List.getElem?_eq_getElem q⟩
   rw [hg'] at hρ;cases hρ
   obtain ⟨v,hvj⟩:∃ v,vs[j]?=some v:=⟨vs[j]'(by lia),List.getElem?_eq_getElem (by lia)⟩
   have hvj':(vs++[Value.ref a])[j]?=some v:=by rw [List.getElem?_append_left (by lia)];exact hvj
   have har:=hargs j v g hvj hg'
   have hpl:=List.all_eq_true.mp hap g (List.mem_of_getElem? hg')
   cases g with
   | im d=>exact ⟨v,hvar j y k v hj hvj',Im.grow g01 har⟩
   | ct c =>
    refine e1_2 har ?_
    clear har
    intro b hva hcb
    refine ⟨b,.of (hvar j y k _ hj hvj') (hva.grow g01),hcb.of_same (fun o e _=>kk _ _ e) g01,?_⟩
    rintro (q' | ⟨i,q'⟩)
    ·exact npriv hcb q'
    ·have:=(own i b q').2
     clear q' hva hvj' own hoa hna;subst this
     (try clear hva;try clear hpl;try clear hg');cases c with
     | lst l=>exact hcb.lst_dct hca
     | _=>(try clear hcb;try clear hva;try clear hg');cases hpl
  ·clear own hargs h hap hl;subst q
   rw [List.getElem?_append_right (by simp)] at hρ
   simp at hρ
   (try clear own;try clear hoa;try clear hna;try clear hca;try clear h);subst hρ
   have hvj':(vs++[Value.ref a])[ags.length]?=some (.ref a):=by rw [← hlen,List.getElem?_append_right (Nat.le_refl _)];simp
   exact ⟨a,hvar _ y k _ hj hvj',hca.of_same (fun o e _=>kk _ _ e) g01,if_pos rfl,fun b e=>by (try clear hvj';try clear own;try clear hoa;try clear hna;try clear hca);cases e;rfl⟩
  ·rw [List.getElem?_append_right (by simp;lia),List.length_map,(Nat.sub_add_cancel (Nat.sub_pos_of_lt q)).symm,List.getElem?_cons_succ,List.getElem?_replicate] at hρ
   split at hρ <;> cases hρ
 ·refine e0_2 q1 ?_
  clear q1
  intro ez3 ez4
  clear hr;subst ez3
  refine e1_2 ez4 ?_
  clear ez4
  intro l' e1 e2
  have hlt:ags.length<F.vars.length:=by
   have:=congrArg List.length hv
   rw [List.length_take,List.length_map] at this
   lia
  refine e1_4 (q3.slots ags.length F.vars[ags.length].1 F.vars[ags.length].2 _ (by rw [List.getElem?_eq_getElem hlt]) e1) ?_
  intro b g1 g2 g3 g4
  have:=g4 a rfl
  clear g4 g3 g1 e1 q5 own hoa hna hca;subst this
  exact ⟨l',e2,kp k,g2⟩
 ·exact x
theorem ContAt.notCell {h:Heap} {a:Addr} {c:Cont} {v} (x:ContAt B h a c) (y:h.IsCell a v):False:=by
 refine e1_2 y ?_
 clear y
 intro oc h1 h2
 refine e2_7 x.shape ?_
 intro o' T h3 _ _ _ _ h4 _
 rw [h1] at h3;clear a_5 a_1 h1;cases h3;exact h4 _ h2
theorem Rp.turned {env oa} {s s':Shared} {a:Addr} {i:Nat} {c c':Cont} {m:Option Addr} (R:Rp B F env oa ρ s) (hs:ρ[i]?=some (some (.own c m))) (ha:oa i=some a) (hc:ContAt B s.heap a c)
  (k:KpW B (fun b=>b=a) s s') (hc':ContAt B s'.heap a c') (hvw:∀ v,Vw s'.heap v a c→Vw s'.heap v a c'):Rp B F env oa (ρ.set i (some (.own c' m))) s':=by
 refine e0_3 (R.opriv i a ha) ?_
 intro hp hb ez5
 refine e1_1 ez5 ?_
 clear ez5
 intro o0 ho0
 have hlt:i<ρ.length:=(List.getElem?_eq_some_iff.mp hs).1
 have hL:env.locals≠a:=fun q=>hp (.inl q.symm)
 have cell:∀ {b v},s.heap.IsCell b v→s'.heap.IsCell b v:=fun {b v} y=>by
  refine e1_2 (id y) ?_
  intro o ho hd
  obtain ⟨sl,ho'⟩:=k.data b o ho (fun q=>by clear ho hL ho0 hp;subst q;exact hc.notCell y) (fun vs q=>by rw [hd] at q;cases q)
  exact ⟨_,ho',hd⟩
 have ns:∀ {m},s.heap.Ns env.locals m→s'.heap.Ns env.locals m:=fun y=>by
  refine e3_2 y ?_
  clear y
  intro o es ep ho r
  obtain ⟨sl,ho'⟩:=k.data _ o ho hL (fun vs q=>by rw [r.1] at q;cases q)
  exact ⟨_,es,ep,ho',r⟩
 have var:∀ {y k v},VarAt env s.heap y k v→VarAt env s'.heap y k v:=fun {y k v} hv=>by
  cases k with
  | loc=>(obtain ⟨m,h1,h2⟩:=hv;exact ⟨m,ns h1,h2⟩)
  | cel=>(obtain ⟨c,h1,h2⟩:=hv;exact ⟨c,h1,cell h2⟩)
  | fre=>(obtain ⟨c,h1,h2⟩:=hv;exact ⟨c,h1,cell h2⟩)
 refine ⟨fun b o h=>k.keep b o (R.base b o h) (fun q=>by clear hL ho0 hp hc;subst q;rw [hb] at h;cases h) (.inr (by rw [h];rfl)),R.scope,R.globals,R.builtins,R.code,?_,?_,R.apart,R.locCell,fun x c h=>?_,R.privNew,fun j x kd sl h1 h2=>?_,R.oinj,fun j b h=>?_⟩
 ·(obtain ⟨m,h⟩:=R.ns;exact ⟨m,ns h⟩)
 ·intro j y kd h1 h2
  refine e2_3 (R.cells j y kd h1 h2) ?_
  intro c v h3 h4 h5
  exact ⟨c,v,h3,cell h4,h5⟩
 ·obtain ⟨v,h1⟩:=R.cellsLive x c h;exact ⟨v,cell h1⟩
 ·by_cases e:j=i
  ·subst e
   rw [List.getElem?_set_self hlt] at h2;cases h2
   refine e1_4 (R.slots j x kd _ h1 hs) ?_
   intro b g1 g2 g3 g4
   rw [ha] at g3;clear g2 hL ho0 hb hp hc;cases g3
   refine e1_2 ((g1.map (fun _=>var) k.tups).get) ?_
   intro u g1a g1b
   exact ⟨a,.of g1a (hvw u g1b),hc',ha,g4⟩
  ·rw [List.getElem?_set_ne (Ne.symm e)] at h2
   have z:=R.slots j x kd sl h1 h2
   clear h2;cases sl with
   | im d=>(obtain ⟨v,g1,g2⟩:=z;exact ⟨v,var g1,g2.grow k.tups⟩)
   | fz c=>(obtain ⟨b,g1,g2,g3⟩:=z;exact ⟨b,g1.map (fun _=>var) k.tups,g2.kp k (fun q=>g3 (.inr ⟨i,q▸ha⟩)),g3⟩)
   | own c=>(obtain ⟨b,g1,g2,g3,g4⟩:=z;exact ⟨b,g1.map (fun _=>var) k.tups,g2.kp k (fun q=>e (R.oinj j i a (q▸g3) ha)),g3,g4⟩)
 ·refine e0_3 (R.opriv j b h) ?_
  intro h1 h2 ez6
  refine e1_1 ez6 ?_
  clear ez6
  intro o ho
  exact ⟨h1,h2,e1_2 (k.live b o ho) fun o' ho' _=>⟨o',ho'⟩⟩
theorem list_snoc3 {α β:Type} {l:List α} {r:List β} {z:β} (h:l.length=(r++[z]).length):∃ l' u,l=l'++[u]∧l'.length=r.length:=by
 have hne:l≠[]:=fun q=>by rw [q] at h;simp at h
 exact ⟨l.dropLast,l.getLast hne,(List.dropLast_concat_getLast hne).symm,by rw [List.length_dropLast,h];simp⟩
theorem SW.callM {f:Str} {p1:Pos} {e:Expr} {rest:List Expr} {pos spos:Pos} {Q:Fl→List (Option Sl)→Prop} {l:List (Str×D)} {m:Option Addr} (i:Nat) (hs:ρ[i]?=some (some (.own (.dct l) m)))
  (hk:F.scope.names.lookup f=some .globalImplicit)
  (h:LW B F X n ρ (e::rest) fun rs=>∃ rs',rs=rs'++[.ct (.ow i) (.dct l)]∧SpecM B f n (rs'.map AV.ag) l fun l'=>Q .next (ρ.set i (some (.own (.dct l') m))))
  (hf0:∃ fa o fd,B.mg f=some (.ref fa)∧B.hB.get? fa=some o∧o.data=.func fd)
  (he:∀ env,starEach (e::rest) env=(false,eval e env)::starEach rest env:=by intro _;rfl) (hd:(f == ("__debug__":Str))=false:=by decide) :
  SW B F X n ρ (.Expr (.Call (.Name f p1) (e::rest) [] pos) spos) Q:=by
 refine .mk ?_
 intro env oa A s hdd R a
 refine e3_3 hf0 ?_
 clear hf0
 intro fa o fd h1 h2 h3
 have hkf:env.scope.kind=.function:=by rw [R.scope];exact F.fn
 have hx:env.kindOf f=some .globalImplicit:=by unfold Env.kindOf;rw [R.scope];exact hk
 have ks:∀ {s':Shared},(∀ b o,B.hB.get? b=some o→s'.heap.get? b=some o)→s'.heap.Ns env.globals B.mg:=fun q=>by rw [R.globals];exact B.g.keeps q
 refine wpAny_Expr_any ?_ (by unfold interactive;rw [R.scope,F.fn];rfl) rfl
 refine wpAny_Call_ofName (Name_function_global hkf hx (loadGlobal_global (ks R.base) h1 ?_) hd)
 show wpAny _ _ (callWith pos (.ref fa) [] (backTo pos (starEach (e::rest) env)) []) _ _ s
 refine callWith_def h3 (wpAny_mono (h.go env oa A s pos R a) (fun vs s1 hz1=>?_) fun _ _ x=>x.toW) (he env)
 refine e1_4 hz1 ?_
 clear hz1
 intro rs ez7 k1 hl hv
 obtain ⟨rs',rfl,sp⟩:=ez7
 have R1:=R.kp k1
 refine e2_2 (list_snoc3 hl) ?_
 intro vs' u ez8 hl'
 subst ez8
 obtain ⟨ad,rfl,hca,hoa⟩:VR B env oa s s1 u (.ct (.ow i) (.dct l)):=hv rs'.length u _ (by rw [← hl'];simp) (by simp)
 refine e3_4 sp ?_
 clear sp
 intro fa' o' fd' g1 g2 g3 g4
 rw [h1] at g1;clear g2 h1;cases g1
 refine ⟨R1.base _ _ h2,wpAny_call (codeAny_mono (g4 A s1 vs' ad R1.base (a.kp k1) (by simp [hl']) (fun j v g q1 q2=>?_) hca (R.opriv i ad hoa).2.1) fun r s2 x=>?_)⟩
 ·rw [List.getElem?_map] at q2
  cases hq:rs'[j]? with
  | none=>rw [hq] at q2;cases q2
  | some r =>
   rw [hq] at q2;cases q2
   have hj1:=(List.getElem?_eq_some_iff.mp q1).1
   have hj2:=(List.getElem?_eq_some_iff.mp hq).1
   exact (hv j v r (by rw [List.getElem?_append_left hj1];exact q1) (by rw [List.getElem?_append_left hj2];exact hq)).ag
 ·cases r with
  | ok f=>cases f with
   | ret v =>
   refine e1_3 x ?_
   intro l' h5 h6 h7
   have R2:=R1.turned hs hoa hca h6 h7 (fun _ x=>x)
   exact ⟨.next,_,oa,h5,trivial,R2,(Kp.toW k1).trans (h6.mono fun b q=>.inr ⟨i,q▸hoa⟩) (fun _ x=>.inl x),OwnFrom.refl _ _⟩
   | _=>exact x.elim
  | error e=>exact x.elim
end
end Mine
end

section
open PySem PySem.W PyProof.Rows PySem.Calls PyProof PySem.SeqAt
set_option tactic.hygienic false
namespace Mine
section
variable {B:Bs} {F:Fi} {X:Str→Prop} {n:Nat} {ρ:List (Option Sl)}
theorem CmpS.inTS {ss:List Str} {x:Str}:CmpS B n .In (.im (.str x)) (.im (.tup (ss.map .str))) (ss.contains x):=fun env oa A s0 s vx vy E b a u y=>by
 refine e1_1 u.str ?_
 intro t ez1
 clear u;subst ez1
 refine e2_3 y.isTup ?_
 intro l vs ez2 h1 h2
 clear y;subst ez2
 have hs:=h2.strs
 refine in_tupleAt (fun v=>match v with | .str j _=>j == x | _=>false) h1 (fun y hy=>?_) ⟨?_,Kp.refl _⟩
 ·have hy:y∈vs.toList:=by simpa using hy
  refine e2_1 (hs.all y hy) ?_
  intro j t' ez3
  clear hy;subst ez3
  exact EqAt.str_str _ _ _ _
 ·rw [← Array.any_toList]
  congr 1
  have:∀ {vs:List Value} {ss:List Str},StrsAre vs ss→vs.any (fun v=>match v with | .str j _=>j == x | _=>false)=ss.contains x:=by
   intro vs ss h;induction h with
   | nil=>rfl
   | cons y' t r ih=>rw [List.any_cons,ih,List.contains_cons];congr 1;exact Bool.beq_comm
  exact this hs
theorem CmpS.eqB (a b:Bool):CmpS B n .Eq (.im (.bool a)) (.im (.bool b)) (a == b):=fun env oa A s0 s vx vy E bs ar x y=>by
 rw [x.bool,y.bool];exact PyProof.Rows.eq_bool ⟨rfl,Kp.refl _⟩
theorem CmpS.neB (a b:Bool):CmpS B n .NotEq (.im (.bool a)) (.im (.bool b)) (a != b):=fun env oa A s0 s vx vy E bs ar x y=>by
 rw [x.bool,y.bool];exact PyProof.Rows.ne_bool ⟨rfl,Kp.refl _⟩
theorem EW.dictSS {a b c d:Str} {k1 k2 k3 k4} {p1 p2 p3 p4 pos:Pos} {Q:AV→Prop} (hne:(a == c)=false) (h:Q (.ct .fr (.dct [(a,.str b),(c,.str d)]))) :
  EW B F X n ρ (.Dict [some (.Constant (.str a) k1 p1),some (.Constant (.str c) k2 p2)] [.Constant (.str b) k3 p3,.Constant (.str d) k4 p4] pos) Q:=by
 refine .mk ?_
 intro env oa A s R ar
 refine wpAny_Dict_pairs (knd:=strKind B.prog B.w) (pairs:=[(eval (.Constant (.str a) k1 p1) env,do let x ← eval (.Constant (.str b) k3 p3) env;standAt pos;pure x),(eval (.Constant (.str c) k2 p2) env,do let x ← eval (.Constant (.str d) k4 p4) env;standAt pos;pure x)]) rfl (by simp) (by simp) ?_
 refine evalPairs_cons (wpAny_Constant_str (wpAny_bind (wpAny_Constant_str (wpAny_bind (wpAny_standAt (wpAny_pure ?_))))))
 refine evalPairs_cons (wpAny_Constant_str (wpAny_bind (wpAny_Constant_str (wpAny_bind (wpAny_standAt (wpAny_pure (evalPairs_nil ?_)))))))
 have hne':¬ a=c:=by simpa using hne
 refine ⟨[(a,_),(c,_)],⟨strKind_is _ _ _ _,rfl,strKind_is _ _ _ _,rfl,trivial⟩,Heap.DictOf.new _,fun h' hd hs=>?_⟩
 have k0:Kp B s { s with heap:=h',toks:=s.toks+1+1+1+1+2 }:=Kp.of fun b o q=>(hs.2 b (Nat.ne_of_lt (Heap.lt_size q))).trans (Heap.get?_push_of_some _ q)
 refine ⟨_,h,k0,_,rfl,⟨?_,_,hd,?_⟩,fresh_size s⟩
 ·have hlt:sysModules<s.heap.objs.size:=by
   refine e3_2 B.g ?_
   intro o' es' ep' ho' _
   have h3:=Heap.lt_size (R.base _ _ ho')
   exact Nat.lt_of_le_of_lt (by decide) h3
  exact beq_eq_false_iff_ne.mpr (fun q=>by rw [q] at hlt;exact Nat.lt_irrefl _ hlt)
 ·have e:∀ v w:Value,merged ([]:List (Str×Value)) [(a,v),(c,w)]=[(a,v),(c,w)]:=fun v w=>by simp [merged,stored,hne']
  rw [e]
  exact .cons (.str _ _) (.cons (.str _ _) .nil)
theorem EW.and3 {x y z pos} {Q:AV→Prop} (h:EW B F X n ρ x fun r=>∃ b,TruS B n r b∧if b=true then EW B F X n ρ (.BoolOp .And [y,z] pos) Q else Q r):EW B F X n ρ (.BoolOp .And [x,y,z] pos) Q :=
 .mk fun env oa A s R a=>by
  show wpAny _ A (do
   let v ← eval x env
   standAt pos
   let t ← holding [v] (truthy v)
   match BoolOp.And,t with
   | .And,false | .Or,true=>pure v
   | _,_=>eval (.BoolOp .And [y,z] pos) env) _ _ s
  refine wpAny_bind (h.run R a (Kp.refl _) fun vx s1 rx hz k1 x1=>wpAny_bind (wpAny_standAt (wpAny_bind (wpAny_holding ?_))))
  refine e1_2 hz ?_
  clear hz
  intro b hb q
  refine wpAny_mono (hb env oa A s s1 vx _ (R.kp k1).base (a.kp k1) x1) (fun v s3 hz17=>?_) fun _ _ x=>x
  refine e0_2 hz17 ?_
  clear hz17
  intro e k3
  clear hb;subst e
  cases v with
  | true =>
   have q':EW B F X n ρ (.BoolOp .And [y,z] pos) Q:=by simpa using q
   exact q'.run ((R.kp k1).kp k3) ((a.kp k1).kp k3) (k1.trans k3) fun v s2 r h1 h2 h3=>⟨r,h1,(k1.trans k3).trans h2,h3.back (k1.trans k3)⟩
  | false=>exact wpAny_pure ⟨rx,by simpa using q,k1.trans k3,x1.kp k3⟩
end
end Mine
end

section
open PySem PySem.W PyProof.Rows PySem.Calls PyProof PySem.Spec
set_option backward.match.sparseCases false
set_option tactic.hygienic false
namespace Mine
section
variable {prog:Program} {w:World} {A:Around} {E:Value→Shared→Prop} {s:Shared}
theorem appliedInit {sl:Addr} {n:Nat} {u:Tok} {Q:Int×Int×Nat→Shared→Prop} (hs:s.heap.IsSliceOf sl .none (.int (-1) u) .none) (h:Q (0,1,n) s) :
  wpAny (model prog w) A (Builtin.Slice.sliceApplied (.ref sl) (pure ((n+1:Nat):Int))) Q E s:=by
 refine e1_3 (id hs) ?_
 intro os hos hcs hds
 unfold Builtin.Slice.sliceApplied Builtin.Slice.sliceFields
 refine wpAny_bind (wpAny_bind (wpAny_field hos hds (x:=.none) rfl (wpAny_bind (wpAny_field hos hds (x:=.int (-1) u) rfl (wpAny_bind (wpAny_field hos hds (x:=.none) rfl (wpAny_pure ?_)))))))
 refine wpAny_bind (slicePart_none ?_)
 show wpAny _ _ (if ((1:Int) == 0)=true then _ else _) _ _ s
 rw [if_neg (by decide)]
 refine wpAny_bind (slicePart_none (wpAny_bind (slicePart_int (wpAny_bind (wpAny_pure ?_)))))
 have e1:Builtin.Slice.sliceAdjust none (some (-1)) 1 ((n+1:Nat):Int)=(0,(n:Int)):=by
  unfold Builtin.Slice.sliceAdjust
  dsimp only
  congr 1
  show max (-1+((n:Int)+1)) 0=n
  rw [Int.add_comm (n:Int),← Int.add_assoc];show max (0+(n:Int)) 0=n
  rw [Int.zero_add];exact Int.max_eq_left (Int.natCast_nonneg _)
 have e2:Builtin.Slice.slicePlaces 0 (n:Int) 1=n:=by
  unfold Builtin.Slice.slicePlaces
  simp only [show (1:Int)>0 by omega,if_true,Int.ediv_one]
  split <;> omega
 show wpAny _ _ (match Builtin.Slice.sliceAdjust none (some (-1)) 1 ((n+1:Nat):Int) with | (lo,hi)=>pure (lo,(1:Int),Builtin.Slice.slicePlaces lo hi 1)) _ _ s
 rw [e1]
 show wpAny _ _ (pure ((0:Int),(1:Int),Builtin.Slice.slicePlaces 0 (n:Int) 1)) _ _ s
 rw [e2]
 exact wpAny_pure h
theorem pickInit (xs:Array Value) (n:Nat) (hn:n≤xs.size):((List.range n).filterMap fun (k:Nat)=>xs[((0:Int)+(k:Int)*1).toNat]?).toArray=(xs.toList.take n).toArray:=by
 have e:(fun (k:Nat)=>xs[((0:Int)+(k:Int)*1).toNat]?)=fun k=>xs[k]?:=by
  funext k
  have:((0:Int)+(k:Int)*1).toNat=k:=by rw [Int.mul_one,Int.zero_add];rfl
  rw [this]
 rw [e]
 congr 1
 induction n with
 | zero=>simp
 | succ n ih =>
  rw [List.range_succ,List.filterMap_append,ih (Nat.le_of_succ_le hn),List.take_add_one,Array.getElem?_toList]
  congr 1
theorem getItemInit {t sl:Addr} {items:Array Value} {n:Nat} {u:Tok} {Q:Value→Shared→Prop} (ht:IsTup s.heap t items) (hs:s.heap.IsSliceOf sl .none (.int (-1) u) .none) (hn:items.size=n+1)
  (h:Q (.ref s.heap.objs.size) { s with heap:=s.heap.push { cls:=.type "tuple",data:=.seq (items.toList.take n).toArray } })
  (hsz:items.size≤sizeLine):wpAny (model prog w) A (getItem (.ref t) (.ref sl)) Q E s:=by
 have htake:sizeOk (.seq (items.toList.take n).toArray):=by
  show (items.toList.take n).toArray.size≤sizeLine
  rw [List.size_toArray,List.length_take,Array.length_toList]
  exact Nat.le_trans (Nat.min_le_right _ _) hsz
 refine e1_3 (id hs) ?_
 intro os hos hcs hds
 have hTs:s.TypeIs (.ref sl) "slice":=⟨os,hos,hcs⟩
 unfold getItem
 try with_reducible refine wpAny_holding ?_
 first | refine wpAny_bind (wpAny_pure ?_) | skip
 refine wpAny_bind (wpAny_sequenceKey ht.typeIs (by decide) ?_)
 refine wpAny_bind (wpAny_callSpecial?_slot (name:=Str.ofString "__getitem__") ht.typeIs slot_tuple_getitem
  (wpAny_call_entry slot_tuple_getitem ht.typeIs entry_tuple_getitem ?_ (args_tuple_getitem _ _)))
 show wpAny _ _ (Builtin.Tuple.tupleItemsOf (.ref t) >>= _) _ _ s
 refine wpAny_bind (tupleItemsOf_ ht ?_)
 refine wpAny_bind (wpAny_typeOf hTs ?_)
 rw [if_pos (by decide)]
 rw [hn]
 refine wpAny_bind (appliedInit hs ?_)
 show wpAny _ _ (if ((0:Int) == 0&&(1:Int) == 1&&n == n+1)=true then _ else _) _ _ s
 rw [if_neg (by simp),pickInit items n (hn▸Nat.le_succ n)]
 first
  | exact wpAny_bind (m:=Builtin.Tuple.tupleExact _) (wpAny_newObj_type (wpAny_pure ⟨_,rfl,wpAny_pure h⟩) htake)
  | exact wpAny_bind (m:=Builtin.Tuple.tupleExact _) (wpAny_newObj_type (wpAny_bind (wpAny_pure (wpAny_pure ⟨_,rfl,wpAny_pure h⟩))) htake)
  | exact wpAny_bind (wpAny_bind (m:=Builtin.Tuple.tupleExact _) (wpAny_newObj_type (wpAny_pure (wpAny_pure ⟨_,rfl,wpAny_pure h⟩)) htake))
  | exact wpAny_bind (wpAny_bind (m:=Builtin.Tuple.tupleExact _) (wpAny_newObj_type (wpAny_pure ⟨_,rfl,wpAny_pure h⟩) htake))
end
section
variable {B:Bs} {F:Fi} {X:Str→Prop} {n:Nat} {ρ:List (Option Sl)}
set_option tactic.hygienic true in
theorem SlcS.init {l:List D} {d:D} (h:l.length+1≤sizeLine):SlcS B n (.im (.tup (l++[d]))) none (some (-1)) (.im (.tup l)):=fun env oa A s0 s vx vl vu value slice E b a x pl pu hs=>by
 refine e2_3 x.isTup ?_
 intro a vs ez1 h1 h2
 clear x;subst ez1
 cases pl
 cases pu
 rename_i u
 have e:vs.size=l.length+1:=by rw [← Array.length_toList,h2.length];simp
 have h1':IsTup (s.heap.push { cls:=.type "slice",data:=.fields #[.none,.int (-1) u,.none] }) a vs:=h1.keeps fun _ _ e=>Heap.get?_push_of_some _ e
 have k1:Kp B s { s with heap:=s.heap.push { cls:=.type "slice",data:=.fields #[.none,.int (-1) u,.none] } }:=push_kp _
 refine tail_any (s:={ s with heap:=s.heap.push { cls:=.type "slice",data:=.fields #[.none,.int (-1) u,.none] } }) h1'.typeIs slot_tuple_getitem.lookup (getItemInit h1' (Heap.IsSliceOf.new ..) e ?_ (by rw [e];exact h)) (hs _)
 have g:Grow s.heap ((s.heap.push { cls:=.type "slice",data:=.fields #[.none,.int (-1) u,.none] }).push { cls:=.type "tuple",data:=.seq (vs.toList.take l.length).toArray }):=(k1.trans (push_kp (B:=B) _ (t:=s.toks))).tups
 have h3:=(h2.take l.length).grow g
 rw [List.take_left'  rfl] at h3
 exact ⟨k1.trans (push_kp _),Im.tup (Heap.get?_push_size _ rfl) rfl rfl (by simpa using h3)⟩
end
end Mine
end

section
open PySem PySem.W PyProof.Rows PySem.Calls PyProof
set_option backward.match.sparseCases false
set_option tactic.hygienic false
namespace Mine
section
variable {B:Bs} {F:Fi} {X:Str→Prop} {n:Nat} {ρ:List (Option Sl)}
noncomputable def WhInv (B:Bs) (F:Fi) (n:Nat) (env:Env) (oa:Nat→Option Addr) (A:Around) (s:Shared) (I:Nat→List (Option Sl)→Prop) (m:Nat) (t:Shared):Prop :=
 ∃ ρ' oa',I m ρ'∧Rp B F env oa' ρ' t∧Ar B A n t∧KpW B (FW env oa) s t∧OwnFrom s oa oa'
theorem SW.while_ {test:Expr} {body orelse:List Stmt} {pos:Pos} {Q:Fl→List (Option Sl)→Prop} (I:Nat→List (Option Sl)→Prop) (m0:Nat) (h0:I m0 ρ)
  (h:∀ m ρ',I m ρ'→TW B F X n ρ' test fun b=>if b=true then SWs B F X n ρ' body (fun fl ρ3=>match fl with | .next=>∃ m',m'<m∧I m' ρ3 | .cont=>∃ m',m'<m∧I m' ρ3 | .brk=>Q .next ρ3 | .ret r=>Q (.ret r) ρ3) else SWs B F X n ρ' orelse Q) :
  SW B F X n ρ (.While test body orelse pos) Q:=by
 refine .mk ?_
 intro env oa A s hd R a
 refine wpAny_While (codeAny_whileLoop (WhInv B F n env oa A s I) ?_ m0 ⟨ρ,oa,h0,R,a,KpW.refl _,OwnFrom.refl _ _⟩)
 intro m t rz1
 obtain ⟨ρ',oa',hI,R',a',kt,ot⟩:=rz1
 refine wpAny_mono ((h m ρ' hI).go env oa' A t R' a') (fun b t1 hz=>?_) (fun e t1 x=>notedFly hd (a.epw (EPW.back (oa1:=oa') kt ot (EP.toW x))) (EPW.back (oa1:=oa') kt ot (EP.toW x)))
 refine e0_2 hz ?_
 clear hz
 intro q k1
 have kt1:=kt.trans (W':=FW env oa') k1.toW (FW.from ot)
 cases b with
 | false =>
  simp only [Bool.false_eq_true,if_false] at q ⊢
  exact wpAny_mono (q.run hd (R'.kp k1) (a'.kp k1) kt1 ot) (fun f s3 x=>x) fun e s3 x=>notedFly hd (a.epw x) x
 | true =>
  simp only [if_true] at q ⊢
  refine wpAny_mono (q.run hd (R'.kp k1) (a'.kp k1) kt1 ot) (fun f t3 x=>?_) fun e s3 x=>notedFly hd (a.epw x) x
  refine e3_5 x ?_
  clear x
  intro fl ρ3 oa3 q3 r3 R3 k3 o3
  cases f with
  | next=>cases fl with
   | next=>obtain ⟨m',hm,hI'⟩:=q3;exact ⟨m',hm,ρ3,oa3,hI',R3,a.kp k3,k3,o3⟩
   | _=>exact r3.elim
  | cont=>cases fl with
   | cont=>obtain ⟨m',hm,hI'⟩:=q3;exact ⟨m',hm,ρ3,oa3,hI',R3,a.kp k3,k3,o3⟩
   | _=>exact r3.elim
  | brk=>cases fl with
   | brk=>exact ⟨.next,ρ3,oa3,q3,trivial,R3,k3,o3⟩
   | _=>exact r3.elim
  | ret v=>cases fl with
   | ret r=>exact ⟨.ret r,ρ3,oa3,q3,r3,R3,k3,o3⟩
   | _=>exact r3.elim
end
end Mine
end

section
open PySem PySem.W PyProof.Rows PySem.Calls PyProof
set_option backward.match.sparseCases false
set_option tactic.hygienic false
namespace Mine
section
variable {B:Bs} {F:Fi} {X:Str→Prop} {n:Nat} {ρ:List (Option Sl)}
theorem SW.assignT {es k tpos value pos} {Q:Fl→List (Option Sl)→Prop} (h:EW B F X n ρ value fun r=>∃ d,r=.im d∧AsW B F n ρ (.Tuple es k tpos) d fun ρ2=>Q .next ρ2)
  (hs:∀ env,swapsWithSole [.Tuple es k tpos] value pos.line env=pure false:=by intro _;rfl) (hw:∀ env,swappedStores [.Tuple es k tpos] value env=pure none:=by intro _;rfl):SW B F X n ρ (.Assign [.Tuple es k tpos] value pos) Q :=
 .mk fun env oa A s hd R a=>wpAny_Assign_stores (wpAny_mono (h.go env oa A s R a) (fun v s1 hz=>by
  refine e1_3 hz ?_
  clear hz
  intro r ez1 k1 x1
  obtain ⟨d,rfl,q⟩:=ez1
  show wpAny _ _ (PySem.assign (.Tuple es k tpos) env v) _ _ _
  refine wpAny_mono (q.go env oa A s1 v _ (R.kp k1) (a.kp k1) x1) (fun _ s2 hz2=>?_) fun _ _ x=>x
  refine e2_5 hz2 ?_
  clear hz2
  intro ρ2 oa2 q2 R2 k2 o2 _
  exact ⟨.next,ρ2,oa2,q2,trivial,R2,(Kp.toW k1).trans (k2.mono fun _ x=>.inl x) (fun _ x=>.inl x),(OwnFrom.refl s oa).trans k1 o2⟩) fun _ _ x=>x.toW) (hs env) (hw env)
end
end Mine
end

section
open PySem PySem.W PyProof.Rows PySem.Calls PyProof
set_option backward.match.sparseCases false
set_option tactic.hygienic false
namespace Mine
section
variable {B:Bs} {F:Fi} {X:Str→Prop} {n:Nat} {ρ:List (Option Sl)}
noncomputable def SpecA (B:Bs) (fa:Addr) (X:Str→Prop) (n:Nat) (ags:List Ag) (Q:Rs→Prop):Prop :=
 ∃ o fd,B.hB.get? fa=some o∧o.data=.func fd ∧
  ∀ A s vs,Bas B s→Ar B A n s→vs.length=ags.length→(∀ (i:Nat) v g,vs[i]?=some v→ags[i]?=some g→AgR B s.heap v g) →
   codeAny (model B.prog B.w) A (.call (.ref fa) ⟨vs,[]⟩) (CallPo B X Q s) s
theorem Spec.toA {f:Str} {fa:Addr} {ags:List Ag} {Q:Rs→Prop} (h:Spec B f X n ags Q) (e:B.mg f=some (.ref fa)):SpecA B fa X n ags Q:=by
 refine e3_4 h ?_
 clear h
 intro fa' o fd h1 h2 h3 h4
 rw [e] at h1;clear e;cases h1
 exact ⟨o,fd,h2,h3,h4⟩
theorem Rp.notFW {env oa} {s:Shared} (R:Rp B F env oa ρ s) {b:Addr} {o:Obj} (h:B.hB.get? b=some o):¬ FW env oa b:=by
 rintro (q | ⟨i,q⟩)
 ·rw [R.privNew b q] at h;cases h
 ·rw [(R.opriv i b q).2.1] at h;cases h
theorem EW.gfn {x:Str} {pos} {Q:AV→Prop} (hk:F.scope.names.lookup x=some .globalImplicit) (hf:∃ fa o fd,B.mg x=some (.ref fa)∧B.hB.get? fa=some o∧o.cls=.type "function"∧o.data=.func fd)
  (h:∀ fa,B.mg x=some (.ref fa)→Q (.ct .fz (.fn fa))) (hd:(x == ("__debug__":Str))=false):EW B F X n ρ (.Name x pos) Q:=by
 refine .mk ?_
 intro env oa A s R a
 refine e3_4 hf ?_
 clear hf
 intro fa o fd h1 h2 h3 h4
 have hkf:env.scope.kind=.function:=by rw [R.scope];exact F.fn
 have hx:env.kindOf x=some .globalImplicit:=by unfold Env.kindOf;rw [R.scope];exact hk
 exact Name_function_global hkf hx (loadGlobal_global (by rw [R.globals];exact B.g.keeps R.base) h1 ⟨_,h fa h1,Kp.refl _,fa,rfl,⟨rfl,by rw [h2];rfl,o,R.base _ _ h2,h3,fd,h4⟩,R.notFW h2⟩) hd
theorem EW.callV {x:Str} {p1:Pos} {e:Expr} {rest:List Expr} {pos:Pos} {Q:AV→Prop} (i:Nat) {k:Kd} {fa:Addr} (hx:F.vars[i]?=some (x,k)) (hs:ρ[i]?=some (some (.fz (.fn fa))))
  (h:LW B F X n ρ (e::rest) fun rs=>SpecA B fa X n (rs.map AV.ag) fun q=>Q q.av)
  (he:∀ env,starEach (e::rest) env=(false,eval e env)::starEach rest env):EW B F X n ρ (.Call (.Name x p1) (e::rest) [] pos) Q:=by
 refine .mk ?_
 intro env oa A s R a
 refine e1_3 (R.slots i x k _ hx hs) ?_
 intro a1 hv ez1 hf
 obtain ⟨rfl,hB,o,ho,hc,fd,h3⟩:=ez1
 have h2:B.hB.get? a1=some o:=by
  cases e:B.hB.get? a1 with
  | none=>rw [e] at hB;cases hB
  | some o'=>have:=R.base _ _ e;rw [ho] at this;clear h3 hc ho e;cases this;rfl
 refine wpAny_Call_ofName (loadVar R hx hv ?_)
 show wpAny _ _ (callWith pos (.ref a1) [] (backTo pos (starEach (e::rest) env)) []) _ _ s
 refine callWith_def h3 (wpAny_mono (h.go env oa A s pos R a) (fun vs s1 hz1=>?_) fun _ _ x=>x) (he env)
 refine e1_4 hz1 ?_
 clear hz1
 intro rs sp k1 hl hv
 have R1:=R.kp k1
 refine e2_3 sp ?_
 clear sp
 intro o' fd' g2 g3 g4
 refine ⟨R1.base _ _ h2,wpAny_call (codeAny_mono (g4 A s1 vs R1.base (a.kp k1) (by simp [hl]) fun i v g q1 q2=>?_) fun r s2 x=>?_)⟩
 ·rw [List.getElem?_map] at q2
  cases hq:rs[i]? with
  | none=>rw [hq] at q2;cases q2
  | some r=>rw [hq] at q2;cases q2;exact (hv i v r q1 hq).ag
 ·cases r with
  | ok f=>cases f with
   | ret v=>exact e1_3 x fun r h5 h6 h7=>⟨r.av,h5,k1.trans h6,(RsR.vr h7).back k1⟩
   | _=>exact x.elim
  | error e=>exact EP.back k1 x
noncomputable def Bs.wide (B:Bs) (h:Heap) (hk:∀ b o,B.hB.get? b=some o→h.get? b=some o) (ht:∀ P,B.tab P→h.get? P=none):Bs :=
 {B with hB:=h,g:=B.g.keeps hk,b:=B.b.keeps hk,lim:=B.lim.keeps hk,tabNew:=ht }
theorem KpW.unwide {h:Heap} {hk ht} {W} {s s':Shared} (k:KpW (B.wide h hk ht) W s s'):KpW B W s s' :=
 ⟨fun b o e nw hf=>k.keep b o e nw (hf.imp (fun x=>x) fun q=>by
  cases e:B.hB.get? b with
  | none=>rw [e] at q;cases q
  | some o'=>show (h.get? b).isSome=true;rw [hk b o' e];rfl),k.data,k.tups,k.live,k.gens,k.os,k.tabs⟩
theorem FnAt.wide {h:Heap} {hk ht} {f names body scope} (x:FnAt B f names body scope):FnAt (B.wide h hk ht) f names body scope:=by
 refine e3_10 x.ex ?_
 intro fa o fd h1 h2 h3 h4 h5 h6 h7 h8 h9 h10
 exact ⟨⟨fa,o,fd,h1,hk _ _ h2,h3,h4,h5,h6,h7,h8,h9.keeps hk,h10⟩,x.co,x.gen,x.cells⟩
end
end Mine
end

section
open PySem PySem.W PyProof.Rows PySem.Calls PyProof
set_option backward.match.sparseCases false
set_option tactic.hygienic false
namespace Mine
theorem triples_snoc {a b:Int} {t u:Tok} {c:Value}:∀ l:List Value,TriplesOk l→TriplesOk (l++[.int a t,.int b u,c]):=by
 intro l h
 fun_induction TriplesOk l with
 | case1=>trivial
 | case2 _ _ _ _ _ rest ih=>exact ih h
 | case3=>exact h.elim
theorem among_snoc {a b:Int} {t u:Tok} {c v:Value} {pos:Pos}:∀ l:List Value,TriplesOk l→codeAmong pos (l++[.int a t,.int b u,c])=some v→codeAmong pos l=some v∨v=c:=by
 intro l h e
 fun_induction TriplesOk l with
 | case1 =>
  dsimp only [List.nil_append,codeAmong] at e
  split at e
  ·cases e;exact .inr rfl
  ·cases e
 | case2 _ _ _ _ _ rest ih =>
  dsimp only [List.cons_append,codeAmong] at e ⊢
  split at e
  ·rename_i q;rw [if_pos q];exact .inl e
  ·rename_i q;rw [if_neg q];exact ih h e
 | case3=>exact h.elim
theorem CodeAt.keeps {h h':Heap} {v:Value} {q:Str} (x:CodeAt h v q) {P:Addr} {ps:Array Value} (hP:h.get? P=some (tabObj ps)) (k:Heap.ExtBut P h h'):CodeAt h' v q:=by
 refine e4_4 x ?_
 clear x
 intro c o vs t e1 e2 e3 e4
 refine ⟨c,o,vs,t,e1,k _ _ (fun y=>?_) e2,e3,e4⟩
 clear e1 k;subst y;rw [hP] at e2;clear e4;cases e2;cases e3
section
variable {M:Model} {A:Around} {E:Value→Shared→Prop} {s:Shared} {name qual:Str} {params:Arguments} {body:Expr} {scope:Scope} {env:Env} {c P:Addr} {ps:Array Value} {pos:Pos} {firstLine:Nat} {mg:Str→Option Value}
 {clos:List (Str×Addr)} {Q:Value→Shared→Prop}
theorem makeLam (hcl:closureFor scope env=pure clos) (hge0:env.globals=mainGlobals) (hg:s.heap.Ns mainGlobals mg) (hcode:env.code=.ref c) (C:CodeHd s.heap c P) (hP:s.heap.get? P=some (tabObj ps)) (ht:TriplesOk ps.toList)
  (hcs:∀ pos v,codeAmong pos ps.toList=some v→CodeAt s.heap v qual) (hgP:mainGlobals≠P) (hb:s.heap.BuiltinsAt mg P)
  (h:∀ cv ctv h' tk ps',Heap.ExtBut P s.heap h'→CodeAt h' cv qual→h'.get? P=some (tabObj ps')→TriplesOk ps'.toList→(∀ pos v,codeAmong pos ps'.toList=some v→CodeAt h' v qual) →
   Q (.ref h'.objs.size) { s with heap:=h'.push { cls:=.type "function",data:=.func (kla_fn name qual params body scope clos ((mg "__name__").getD .none) cv ctv) },toks:=tk }) :
  wpAny M A (makeFunction name qual params (.expr body) scope env [] [] [] pos firstLine) Q E s:=by
 cases hf:codeAmong pos ps.toList with
 | some cv =>
  refine kla_makeFunctionHit hcl hge0 hg hcode C hP ht hf hb fun ctv h' tk hk hsz=>?_
  have hx:Heap.ExtBut P s.heap h':=fun b o _ e=>hk b o e
  exact h cv ctv h' tk ps hx ((hcs _ _ hf).keeps hP hx) (hk _ _ hP) ht fun pos v e=>(hcs _ _ e).keeps hP hx
 | none =>
  rw [makeFunction_eq]
  simp only [List.zip_nil_right,List.filterMap_nil,List.isEmpty_nil,if_true,pure_bind]
  refine e2_8 hb ?_
  clear hb
  intro bm ob hbm hne0 _ hneP hbo hcls hdict hdata
  unfold makeTail
  rw [hcl,hge0]
  refine wpAny_bind (wpAny_pure ?_)
  have rest:∀ (s1:Shared) (ctv:Value),(∀ b o,s.heap.get? b=some o→s1.heap.get? b=some o)→(∃ h1,s1={ s with heap:=h1 }) →
    wpAny M A (do
     let code ← functionCode env pos firstLine name qual params scope (.expr body)
     let builtins ← builtinsFor mainGlobals env.builtins
     let nm ← nsGet mainGlobals "__name__"
     let doc ← (pure .none:Sem Value)
     newObj (.type "function") (.func { name,qualname:=qual,params,body:=.expr body,scope,globals:=mainGlobals,closure:=clos,closureTuple:=ctv,code:=code,builtins:=builtins,defaults:=.none,kwdefaults:=.none,annotations:=none,pyModule:=nm.getD .none,doc:=doc })) Q E s1:=by
   intro s1 ctv k rz1
   obtain ⟨h1,rfl⟩:=rz1
   have C1:=C.keeps k
   have hP1:=k _ _ hP
   refine wpAny_bind (wpAny_functionCodeX hcode (C1.code hP1 ht) (C1.tab hP1) hf fun c' h' tk hx hge hlt _ hrec htb hnew=>?_)
   refine e1_3 hnew ?_
   clear hnew
   intro P' _ _ ez1
   obtain ⟨⟨oc,vc,k1,k2,k3,_⟩,_⟩:=ez1
   have hx':Heap.ExtBut P s.heap h':=fun b o hb' e=>hx b o hb' (k b o e)
   have hca:CodeAt h' (.ref c') qual:=by
    refine e4_4 hrec ?_
    clear hrec
    intro c2 o2 vs t e1 e2 e3 e4
    clear a_2 htb hlt hge;cases e1
    rw [k1] at e2;clear k3;cases e2
    exact ⟨c',oc,vs,t,rfl,k1,k2,e3,e4⟩
   have hg':=(hg.keeps k).extBut hx hgP
   refine wpAny_bind (wpAny_builtinsFor hg' hbm hne0 (hx' _ _ hneP hbo) hcls hdict hdata ?_)
   refine wpAny_bind (wpAny_nsGet hg' ?_)
   refine wpAny_bind (wpAny_pure (wpAny_newObj_type (h (.ref c') ctv h' tk _ hx' hca htb.2 ?_ ?_) (by size_fits)))
   ·rw [Array.toList_append];exact triples_snoc _ ht
   ·intro pos' v e
    rw [Array.toList_append] at e
    rcases among_snoc _ ht e with q | q
    ·exact (hcs _ _ q).keeps hP hx'
    ·clear e k1 a_2 htb hrec hlt hge;subst q;exact hca
  cases clos with
  | nil =>
   skip
   exact wpAny_bind (wpAny_pure (rest s .none (fun _ _ e=>e) ⟨_,rfl⟩))
  | cons q r =>
   skip
   refine wpAny_bind (wpAny_newTextTuple ?_)
   exact rest _ _ (fun b o e=>Heap.get?_push_of_some _ e) ⟨_,rfl⟩
theorem newEnvLam {globals:Addr} {p:Str} {v:Value} {func:Option Addr} {code:Value} {builtins:Addr} {Q:Env→Shared→Prop} (hk:scope.kind=.function) (hc:∀ x∈scope.names,x.2≠.cell) (hp:scope.names.lookup p=some .local)
  (hQ:∀ h' o,h'.Ns s.heap.objs.size (fun x=>if x=p then some v else none)→Heap.SameBut s.heap.objs.size (s.heap.push { cls:=.type "frame",data:=.dict #[] }) h'→h'.get? s.heap.objs.size=some o→o.cls=.type "frame" →
   Q (newEnv scope s.heap.objs.size globals clos qual func code none builtins) { s with heap:=h',toks:=s.toks+1 }) :
  wpAny M A (newFunctionEnv scope globals clos [(p,v)] qual func code none builtins) Q E s:=by
 dsimp only [newFunctionEnv,Option.isSome_none,Bool.false_eq_true,if_false]
 refine wpAny_bind (wpAny_alloc ?_)
 rw [forIn_yield_id clos (fun x hx c=>by
  obtain ⟨name,kind⟩:=x
  have:(kind == NameKind.cell)=false:=by simpa using hc _ hx
  simp only [this,Bool.false_eq_true,if_false])]
 refine wpAny_bind (wpAny_pure (wpAny_bind ?_))
 rw [List.forIn_cons]
 have hk':Env.kindOf { scope,locals:=s.heap.objs.size,globals,cells:=clos,qual,func,code,frame:=some s.heap.objs.size,builtins } p=some .local:=hp
 refine wpAny_bind (wpAny_bind ?_)
 rw [storeName_local hk' (by show (scope.kind == .class||(scope.kind == .module&&_))=false;rw [hk];rfl)]
 refine nsSet_cls (Heap.Ns.new s.heap (.type "frame")) (Heap.get?_push_size _ rfl) fun h' o' hn hs ho' hc'=>?_
 refine wpAny_pure ?_
 show wpAny _ _ (forIn [] _ _) _ _ _
 rw [List.forIn_nil]
 exact wpAny_pure (wpAny_pure (hQ h' o' hn hs ho' hc'))
end
structure CloAt (B:Bs) (g:Addr) (p:Str) (names:List Str) (Pb:Scope→Expr→Prop) (ds:List D):Prop where
 ex:∃ o fd body,B.hB.get? g=some o∧o.cls=.type "function"∧o.data=.func fd∧fd.body=.expr body∧Pb fd.scope body∧fd.globals=mainGlobals∧fd.builtins=builtinsNs∧B.hB.CodeRec fd.code fd.qualname ∧
  (∀ v,bindArgs fd ⟨[v],[]⟩=pure [(p,v)])∧fd.scope.kind=.function∧fd.scope.isCoroutine=false∧fd.scope.isGenerator=false∧(∀ x∈fd.scope.names,x.2≠.cell)∧fd.scope.names.lookup p=some .local ∧
  (∀ x c,(x,c)∈fd.closure→∃ v,B.hB.IsCell c v)∧(∀ x y c,(x,c)∈fd.closure→(y,c)∈fd.closure→x=y) ∧
  (∀ (i:Nat) x,names[i]?=some x→∃ d c v,ds[i]?=some d∧fd.closure.lookup x=some c∧B.hB.IsCell c (some v)∧Im B.hB v d)
noncomputable def lamVars (p:Str) (names:List Str):List (Str×Kd):=(p,.loc)::names.map fun x=>(x,.fre)
section
variable {B:Bs} {F:Fi} {X:Str→Prop} {n:Nat} {ρ:List (Option Sl)}
theorem SpecA.of_clo {g:Addr} {p:Str} {names:List Str} {Pb:Scope→Expr→Prop} {ds:List D} {d:D} {Q:Rs→Prop} (x:CloAt B g p names Pb ds) (hl:ds.length=names.length)
  (hP:∀ sc body,Pb sc body→∃ hok:fiOk sc (lamVars p names)=true,EW B ⟨sc,lamVars p names,1,hok,false⟩ NoX n (some (.im d)::ds.map fun e=>some (.im e)) body fun r=>∃ e,r=.im e∧Q (.im e)) :
  SpecA B g NoX (n+1) [.im d] Q:=by
 refine e3_14 x.ex ?_
 intro o fd body h1 h2 h3 hb hPb hg hbu hcd hbind hk hco hgen hcel ez2
 obtain ⟨hp,hlive,hap,hnm⟩:=ez2
 refine e1_1 (hP _ _ hPb) ?_
 intro hok hE
 refine ⟨o,fd,h1,h3,fun A s vs bas ar hlen hargs=>?_⟩
 refine e1_1 (len1 hlen) ?_
 intro v ez3
 clear hlen;subst ez3
 have hv:Im s.heap v d:=hargs 0 v _ rfl rfl
 refine kla_callFunE (by have:=ar.depth;lia) (bas _ _ h1) h3 hco hgen hb (hcd.keeps bas) ?_
 rw [hbind]
 refine wpAny_pure (newEnvLam hk hcel hp fun h' oL hns hsb hoL hcL=>?_)
 have kk:∀ b o,s.heap.get? b=some o→h'.get? b=some o:=fun b o e=>(hsb.2 b (Nat.ne_of_lt (Heap.lt_size e))).trans (Heap.get?_push_of_some _ e)
 refine ⟨(B.lim.keeps bas).keeps kk,?_⟩
 have k01:Kp B s { s with heap:=h',toks:=s.toks+1 }:=Kp.of kk
 have newB:∀ a,s.heap.get? a=none→B.hB.get? a=none:=fun a ha=>by
  cases e:B.hB.get? a with
  | none=>rfl
  | some o=>rw [bas a o e] at ha;cases ha
 have hL0:s.heap.get? s.heap.objs.size=none:=fresh_size s
 have cellLt:∀ x c,(x,c)∈fd.closure→c<s.heap.objs.size:=fun x c hm=>by
  obtain ⟨u,oc,q,_⟩:=hlive x c hm;exact Heap.lt_size (bas _ _ q)
 have privL:∀ a,Priv (newEnv fd.scope s.heap.objs.size fd.globals fd.closure (fd.qualname++".<locals>.") (some g) fd.code none fd.builtins) a→a=s.heap.objs.size:=by
  rintro a (q | ⟨q1,q2⟩)
  ·exact q
  ·refine e1_2 (List.mem_map.mp q2) ?_
   intro ez4 hm ez5
   obtain ⟨y,c⟩:=ez4
   clear q2;subst ez5
   exact absurd (cellLt y c hm) (Nat.not_lt.mpr (Nat.le_of_lt q1))
 have cellAt:∀ c u,B.hB.IsCell c u→h'.IsCell c u:=fun c u q=>e1_2 q fun oc q1 q2=>⟨oc,kk _ _ (bas _ _ q1),q2⟩
 have R:Rp B ⟨fd.scope,lamVars p names,1,hok,false⟩ (newEnv fd.scope s.heap.objs.size fd.globals fd.closure (fd.qualname++".<locals>.") (some g) fd.code none fd.builtins) (fun _=>none) (some (.im d)::ds.map fun e=>some (.im e)) { s with heap:=h',toks:=s.toks+1 }:=by
  refine ⟨fun b o e=>kk b o (bas b o e),rfl,hg,hbu,(fun q=>by (try clear privL;try clear cellLt;try clear hE;try clear hok;try clear hnm;try clear hap;try clear hlive;try clear hp;try clear hcel;try clear hgen;try clear hco;try clear hk;try clear hbind;try clear hcd;try clear hbu;try clear hg;try clear hPb;try clear hb;try clear h3;try clear hP;try clear hl;try clear x);cases q),⟨_,hns⟩,?_,?_,?_,?_,?_,?_,(fun _ _ _ q=>by cases q),(fun _ _ q=>by cases q)⟩
  ·intro i y k hi hne
   cases i with
   | zero=>cases hi;exact (hne rfl).elim
   | succ i =>
    have hi':(names.map fun x=>(x,Kd.fre))[i]?=some (y,k):=hi
    rw [List.getElem?_map] at hi'
    cases e:names[i]? with
    | none=>rw [e] at hi';clear hne;cases hi'
    | some z =>
     rw [e] at hi';clear hne;cases hi'
     refine e3_4 (hnm i _ e) ?_
     intro d' c u _ q1 q2 _
     exact ⟨c,_,q1,cellAt _ _ q2,fun q=>absurd q (by show ¬ (i+1<1);omega)⟩
  ·exact fun y z c hy hz=>hap y z c (mem_of_lookup hy) (mem_of_lookup hz)
  ·exact fun y c hm=>Nat.ne_of_lt (cellLt y c hm)
  ·exact fun y c hm=>e1_1 (hlive y c hm) fun u q=>⟨u,cellAt _ _ q⟩
  ·exact fun a q=>newB a (by rw [privL a q];exact hL0)
  ·intro i y k sl hi hρ
   cases i with
   | zero =>
    (try clear privL;try clear cellLt;try clear hE;try clear hok;try clear hnm;try clear hap;try clear hlive;try clear hp;try clear hcel;try clear hgen;try clear hco;try clear hk;try clear hbind;try clear hcd;try clear hbu;try clear hg;try clear hPb;try clear hb;try clear h3;try clear hP;try clear hl;try clear x);cases hi;cases hρ
    exact ⟨v,⟨_,hns,if_pos rfl⟩,hv.grow k01.tups⟩
   | succ i =>
    have hi':(names.map fun x=>(x,Kd.fre))[i]?=some (y,k):=hi
    rw [List.getElem?_map] at hi'
    cases e:names[i]? with
    | none=>rw [e] at hi';clear hi;cases hi'
    | some z =>
     rw [e] at hi';clear hi;cases hi'
     refine e3_4 (hnm i _ e) ?_
     intro d' c u q0 q1 q2 q3
     have hρ':(ds.map fun e=>some (Sl.im e))[i]?=some (some sl):=hρ
     rw [List.getElem?_map,q0] at hρ'
     clear q0 hρ;cases hρ'
     exact ⟨u,⟨c,q1,cellAt _ _ q2⟩,q3.grow fun b o _ _ e _ _=>kk b o (bas b o e)⟩
 have hLo:∃ o es ep,h'.get? s.heap.objs.size=some o∧o.cls=.type "frame"∧o.data=.dict es ep:=by
  refine e3_3 hns ?_
  clear hns
  intro o' es ep ho' hd _
  rw [hoL] at ho';cases ho'
  exact ⟨oL,es,ep,hoL,hcL,hd⟩
 refine kla_codeExpr ?_
 have ar':Ar B (A.deeper (newEnv fd.scope s.heap.objs.size fd.globals fd.closure (fd.qualname++".<locals>.") (some g) fd.code none fd.builtins)) n { s with heap:=h',toks:=s.toks+1 }:=by
  refine e1_3 ar.frames ?_
  intro l f1 f2 f3
  have f2':=FunFrames.kp k01 f2
  refine ⟨by show A.depth+1+n<_;have:=ar.depth;lia,by show A.units+3+10*n<_;have:=ar.units;lia,ar.handled,⟨_::l,by show A.frames.map (_::·)=_;rw [f1];rfl,?_,?_⟩,k01.tabs ar.tabs⟩
  ·refine e3_3 hLo ?_
   clear hLo
   intro o es ep ho _ hd
   exact ⟨by show fd.scope.kind≠_;rw [hk];decide,⟨s.heap.objs.size,o,rfl,newB _ hL0,ho,fun vs q=>by rw [hd] at q;clear hd;cases q⟩,f2'⟩
  ·intro L hL
   rw [List.filterMap_cons] at hL
   rcases List.mem_cons.mp hL with rfl | hL
   ·exact hLo
   ·refine e3_2 (f3 L hL) ?_
    intro o es ep ho q
    exact ⟨o,es,ep,kk _ _ ho,q⟩
 refine wpAny_mono (hE.go _ _ _ _ R ar') (fun u s' hz=>?_) fun _ _ q=>q.elim
 refine e1_3 hz ?_
 clear hz
 intro r ez6 k xr
 obtain ⟨e,rfl,q⟩:=ez6
 exact ⟨.im e,q,k01.trans k,xr⟩
end
end Mine
end

section
open PySem PySem.W PyProof.Rows PySem.Calls PyProof
set_option backward.match.sparseCases false
set_option tactic.hygienic false
namespace Mine
section
variable {B:Bs} {F:Fi} {n:Nat} {ρ:List (Option Sl)}
noncomputable def onlyB (B:Bs) (h:Heap) (as:List Addr):Heap:=hideAll h ((List.range h.objs.size).filter fun b => !(B.hB.get? b).isSome && !as.contains b)
theorem onlyB_get {h:Heap} {as:List Addr} {b:Addr} {o:Obj} (e:h.get? b=some o) (hb:(B.hB.get? b).isSome=true∨b∈as):(onlyB B h as).get? b=some o:=by
 refine hideAll_get _ e fun q=>?_
 rw [List.mem_filter] at q
 rcases hb with hb | hb
 ·rw [hb] at q;simp at q
 ·have:=q.2;simp [hb] at this
theorem onlyB_of {h:Heap} {as:List Addr} {b:Addr} {o:Obj} (e:(onlyB B h as).get? b=some o):h.get? b=some o∧((B.hB.get? b).isSome=true∨b∈as):=by
 have e1:=of_hideAll _ e
 refine ⟨e1,?_⟩
 by_cases q1:(B.hB.get? b).isSome=true
 ·exact .inl q1
 ·by_cases q2:b∈as
  ·exact .inr q2
  ·have:b∈(List.range h.objs.size).filter fun b => !(B.hB.get? b).isSome && !as.contains b:=by
    rw [List.mem_filter]
    exact ⟨List.mem_range.mpr (Heap.lt_size e1),by simp [q1,q2]⟩
   unfold onlyB at e
   rw [hideAll_none _ this] at e;clear e1;cases e
noncomputable def D.flat:D→Bool
 | .int _=>true
 | .str _=>true
 | _=>false
theorem EW.callLam {f:Str} {p1:Pos} {e:Expr} {p:Str} {pp:Pos} {lbody:Expr} {lsc:Scope} {lpos pos:Pos} {Q:AV→Prop} {names:List Str} {caps:List Nat} {ds:List D} {Pb:Scope→Expr→Prop}
  (hk:F.scope.names.lookup f=some .globalImplicit) (hlam:F.lam=true) (hPb:Pb lsc lbody)
  (hs1:lsc.kind=.function) (hs2:lsc.isCoroutine=false) (hs3:lsc.isGenerator=false) (hs4:∀ x∈lsc.names,x.2≠.cell) (hs5:lsc.names.lookup p=some .local)
  (hfree:∀ x∈lsc.names,x.2=.free→∃ (i:Nat) (k:Kd),F.vars[i]?=some (x.1,k)∧k≠.loc)
  (hcap:∀ (i:Nat) x,names[i]?=some x→lsc.names.lookup x=some .free∧∃ (j:Nat) (k:Kd) (d:D),caps[i]?=some j∧F.vars[j]?=some (x,k)∧k≠.loc∧ρ[j]?=some (some (.im d))∧ds[i]?=some d∧d.flat=true)
  (h:EW B F NoX n ρ e fun x=>∃ d0,x=.im d0∧∀ hp hk ht g,CloAt (B.wide hp hk ht) g p names Pb ds→Spec (B.wide hp hk ht) f NoX n [.im d0,.ct (.fn g)] fun q=>∃ d,q=.im d∧Q (.im d))
  (hf0:∃ fa o fd,B.mg f=some (.ref fa)∧B.hB.get? fa=some o∧o.data=.func fd)
  (hbd:∀ qn cl pm cv ctv v,bindArgs (kla_fn "<lambda>" qn ⟨[],[⟨p,none,pp⟩],none,[],[],none,[]⟩ lbody lsc cl pm cv ctv) ⟨[v],[]⟩=pure [(p,v)])
  (he:∀ env r,starEach (e::r) env=(false,eval e env)::starEach r env) (hd:(f == ("__debug__":Str))=false) :
  EW B F NoX n ρ (.Call (.Name f p1) [e,.Lambda ⟨[],[⟨p,none,pp⟩],none,[],[],none,[]⟩ lbody lsc lpos] [] pos) Q:=by
 refine .mk ?_
 intro env oa A s R a
 refine e3_3 hf0 ?_
 clear hf0
 intro fa o fd h1 h2 h3
 have hkf:env.scope.kind=.function:=by rw [R.scope];exact F.fn
 have hx:env.kindOf f=some .globalImplicit:=by unfold Env.kindOf;rw [R.scope];exact hk
 have ks:∀ {s':Shared},(∀ b o,B.hB.get? b=some o→s'.heap.get? b=some o)→s'.heap.Ns env.globals B.mg:=fun q=>by rw [R.globals];exact B.g.keeps q
 refine wpAny_Call_ofName (Name_function_global hkf hx (loadGlobal_global (ks R.base) h1 ?_) hd)
 show wpAny _ _ (callWith pos (.ref fa) [] (backTo pos (starEach [e,.Lambda _ lbody lsc lpos] env)) []) _ _ s
 refine callWith_def h3 (wpAny_items_cons (h.run R a (Kp.refl _) fun v1 s1 r1 q1 k1 x1=>?_) (he env _)) (he env _)
 refine e1_2 q1 ?_
 clear q1
 intro d0 ez1 hsp
 subst ez1
 have R1:=R.kp k1
 have a1:=a.kp k1
 refine wpAny_items_cons ?_ rfl
 refine kla_eval rfl ?_
 refine e2_5 (R1.code hlam) ?_
 intro c P htab hcode C hq hbu
 refine e1_3 (a1.tabs P htab) ?_
 intro ps hP ht hcs
 have hPB:B.hB.get? P=none:=B.tabNew P htab
 have hgP:mainGlobals≠P:=fun q=>by
  refine e3_2 B.g ?_
  intro o es ep e _
  rw [q,hPB] at e;cases e
 have cellOf:∀ (j:Nat) y k',F.vars[j]?=some (y,k')→k'≠Kd.loc→∃ c,env.cells.lookup y=some c:=fun j y k' q1 q2=>by
  obtain ⟨c,v,q3,_⟩:=R1.cells j y k' q1 q2;exact ⟨c,q3⟩
 obtain ⟨cl,hcl,hcl1,hcl2⟩:=closureFor_lookup (scope:=lsc) (env:=env) fun x hx hf=>by
  refine e2_2 (hfree x hx hf) ?_
  intro i k q1 q2
  exact cellOf i x.1 k q1 q2
 rw [hq]
 refine makeLam hcl R1.globals (B.g.keeps R1.base) hcode (C.keeps R1.base) hP ht hcs hgP (hbu.keeps R1.base) fun cv ctv h' tk ps' hx' hcv hP' ht' hcs'=>?_
 have kk:∀ b ob,s1.heap.get? b=some ob→b≠P→(h'.push { cls:=.type "function",data:=.func (kla_fn "<lambda>" (B.qn P) ⟨[],[⟨p,none,pp⟩],none,[],[],none,[]⟩ lbody lsc cl ((B.mg "__name__").getD .none) cv ctv) }).get? b=some ob:=fun b ob eb hb=>Heap.get?_push_of_some _ (hx' b ob hb eb)
 have nP:∀ b ob,s1.heap.get? b=some ob→((∃ vs,ob.data=.fields vs)∧ob.cls=.none→False)→b≠P:=fun b ob eb hn q=>by
  (try clear kk;try clear hcv;try clear hx';try clear hgP;try clear hcs;try clear hbu;try clear hq;try clear C;try clear htab);subst q;rw [hP] at eb;(try clear hcs;try clear hn;try clear ht);cases eb;exact hn ⟨⟨_,rfl⟩,rfl⟩
 have tabs2:TabOk B (h'.push { cls:=.type "function",data:=.func (kla_fn "<lambda>" (B.qn P) ⟨[],[⟨p,none,pp⟩],none,[],[],none,[]⟩ lbody lsc cl ((B.mg "__name__").getD .none) cv ctv) }):=fun P2 hP2=>by
  by_cases q:P2=P
  ·clear hP2 nP kk hcv hx' hgP hcs hbu hq C htab;subst q
   refine ⟨ps',Heap.get?_push_of_some _ hP',ht',fun pos v e=>?_⟩
   refine e4_3 (hcs' pos v e) ?_
   intro c2 o2 vs t e1 e2 r
   exact ⟨c2,o2,vs,t,e1,Heap.get?_push_of_some _ e2,r⟩
  ·refine e1_3 (a1.tabs P2 hP2) ?_
   intro ps2 g1 g2 g3
   refine ⟨ps2,kk _ _ g1 q,g2,fun pos v e=>?_⟩
   refine e4_4 (g3 pos v e) ?_
   intro c2 o2 vs t e1 e2 e3 r
   exact ⟨c2,o2,vs,t,e1,kk _ _ e2 (nP _ _ e2 fun hy=>by have y:=hy.2;rw [e3] at y;cases y),e3,r⟩
 have k2:Kp B s1 { s1 with heap:=h'.push { cls:=.type "function",data:=.func (kla_fn "<lambda>" (B.qn P) ⟨[],[⟨p,none,pp⟩],none,[],[],none,[]⟩ lbody lsc cl ((B.mg "__name__").getD .none) cv ctv) },toks:=tk }:=by
  refine ⟨fun b ob eb _ hf=>kk b ob eb fun q=>?_,fun b ob eb _ hf=>⟨ob.slots,kk b ob eb fun q=>?_⟩,fun b ob vs m eb hc hd=>kk b ob eb (nP b ob eb fun hy=>by have y:=hy.2;rw [hc] at y;cases y),fun b ob eb=>?_,rfl,rfl,fun _=>tabs2⟩
  ·clear tabs2 nP kk hcs' hcv hx' hgP hcs hbu hq C htab;subst q;rw [hP] at eb;cases eb
   rcases hf with hf | hf
   ·exact hf.2 rfl
   ·rw [hPB] at hf;cases hf
  ·(try clear tabs2;try clear nP;try clear kk;try clear hcs';try clear hcv;try clear hx';try clear hgP;try clear hPB;try clear hcs;try clear hbu;try clear hq;try clear C;try clear htab);subst q;rw [hP] at eb;(try clear hcs;try clear hf;try clear ht);cases eb;exact hf _ rfl
  ·by_cases q:b=P
   ·(try clear tabs2;try clear nP;try clear kk;try clear hcs';try clear hcv;try clear hx';try clear hgP;try clear hPB;try clear hcs;try clear hbu;try clear hq;try clear C;try clear htab);subst q;rw [hP] at eb;(try clear hcs;try clear ht);cases eb
    exact ⟨_,Heap.get?_push_of_some _ hP',(fun y=>(y _ rfl).elim),(fun ⟨es,ep,y⟩=>by (try clear hcs;try clear hP;try clear ht);cases y)⟩
   ·exact ⟨ob,kk b ob eb q,fun y=>y,fun y=>⟨rfl,y⟩⟩
 have R2:=R1.kp k2
 have a2:=a1.kp k2
 refine wpAny_items_nil ?_
 have hgo:(h'.push { cls:=.type "function",data:=.func (kla_fn "<lambda>" (B.qn P) ⟨[],[⟨p,none,pp⟩],none,[],[],none,[]⟩ lbody lsc cl ((B.mg "__name__").getD .none) cv ctv) }).get? h'.objs.size=some { cls:=.type "function",data:=.func (kla_fn "<lambda>" (B.qn P) ⟨[],[⟨p,none,pp⟩],none,[],[],none,[]⟩ lbody lsc cl ((B.mg "__name__").getD .none) cv ctv) }:=Heap.get?_push_size _ rfl
 refine e4_5 hcv ?_
 clear hcv
 intro c' oc' vc' tc' ecv hoc' hcc' hdc' hvc'
 have hoc2:=Heap.get?_push_of_some (h:=h') { cls:=.type "function",data:=.func (kla_fn "<lambda>" (B.qn P) ⟨[],[⟨p,none,pp⟩],none,[],[],none,[]⟩ lbody lsc cl ((B.mg "__name__").getD .none) cv ctv) } hoc'
 have hkB:∀ b ob,B.hB.get? b=some ob→(onlyB B (h'.push { cls:=.type "function",data:=.func (kla_fn "<lambda>" (B.qn P) ⟨[],[⟨p,none,pp⟩],none,[],[],none,[]⟩ lbody lsc cl ((B.mg "__name__").getD .none) cv ctv) }) (h'.objs.size::c'::cl.map (·.2))).get? b=some ob:=fun b ob e=>onlyB_get (R2.base b ob e) (.inl (by rw [e];rfl))
 have more:∀ b ob,(onlyB B (h'.push { cls:=.type "function",data:=.func (kla_fn "<lambda>" (B.qn P) ⟨[],[⟨p,none,pp⟩],none,[],[],none,[]⟩ lbody lsc cl ((B.mg "__name__").getD .none) cv ctv) }) (h'.objs.size::c'::cl.map (·.2))).get? b=some ob→B.hB.get? b=some ob∨ob.cls=.type "function"∨(ob.cls=.type "code"∧ob.data=.fields vc')∨∃ v,ob.data=.cell v:=fun b ob e=>by
  refine e0_2 (onlyB_of e) ?_
  intro e1 e2
  rcases e2 with e2 | e2
  ·cases e3:B.hB.get? b with
   | none=>rw [e3] at e2;cases e2
   | some ob'=>have:=R2.base b ob' e3;rw [e1] at this;clear e3 e;cases this;exact .inl rfl
  ·rcases List.mem_cons.mp e2 with rfl | e2
   ·rw [hgo] at e1;clear e2 hkB hoc2 hvc' ecv hgo a2 R2 k2 tabs2 nP kk hcs' hP' hx' hcl2 hcl1 hcl hgP hPB hcs hP hbu hq C htab a1 R1 k1 ks h1 a R hbd h hcap hfree hs5 hs4 hs3 hs2 hs1 hPb e;cases e1;exact .inr (.inl rfl)
   ·rcases List.mem_cons.mp e2 with rfl | e2
    ·rw [hoc2] at e1;clear hoc2 hoc' e;cases e1;exact .inr (.inr (.inl ⟨hcc',hdc'⟩))
    ·refine e1_2 (List.mem_map.mp e2) ?_
     intro ez2 hm ez3
     obtain ⟨y,cc⟩:=ez2
     subst ez3
     refine e2_2 (R2.cellsLive y cc (mem_of_lookup (hcl1 _ hm).1)) ?_
     intro v ov q1 q2
     rw [show (h'.push _).get? cc=_ from q1] at e1;clear q1 e;cases e1
     exact .inr (.inr (.inr ⟨v,q2⟩))
 have htB:∀ P2,B.tab P2→(onlyB B (h'.push { cls:=.type "function",data:=.func (kla_fn "<lambda>" (B.qn P) ⟨[],[⟨p,none,pp⟩],none,[],[],none,[]⟩ lbody lsc cl ((B.mg "__name__").getD .none) cv ctv) }) (h'.objs.size::c'::cl.map (·.2))).get? P2=none:=fun P2 hP2=>by
  cases e:(onlyB B (h'.push { cls:=.type "function",data:=.func (kla_fn "<lambda>" (B.qn P) ⟨[],[⟨p,none,pp⟩],none,[],[],none,[]⟩ lbody lsc cl ((B.mg "__name__").getD .none) cv ctv) }) (h'.objs.size::c'::cl.map (·.2))).get? P2 with
  | none=>rfl
  | some ob =>
   refine e1_2 (tabs2 P2 hP2) ?_
   intro ps2 g1 _
   rw [(onlyB_of e).1] at g1;cases g1
   rcases more _ _ e with q | q | q | ⟨v,q⟩
   ·rw [B.tabNew P2 hP2] at q;clear a_1 e;cases q
   ·clear a_1 e;cases q
   ·cases q.1
   ·clear a_1 e;cases q
 have clo:CloAt (B.wide _ hkB htB) h'.objs.size p names Pb ds:=by
  refine ⟨_,_,lbody,onlyB_get hgo (.inr List.mem_cons_self),rfl,rfl,rfl,hPb,rfl,rfl,?_,fun v=>hbd _ _ _ _ _ v,hs1,hs2,hs3,hs4,hs5,?_,?_,?_⟩
  ·(try clear htB;try clear more;try clear hkB;try clear hoc2;try clear hoc';try clear hgo;try clear a2;try clear R2;try clear k2;try clear tabs2;try clear kk);subst ecv
   exact ⟨c',oc',vc',tc',rfl,onlyB_get hoc2 (.inr (List.mem_cons_of_mem _ List.mem_cons_self)),hdc',hvc'⟩
  ·intro y cc hm
   refine e2_2 (R2.cellsLive y cc (mem_of_lookup (hcl1 _ hm).1)) ?_
   intro v ov q1 q2
   exact ⟨v,ov,onlyB_get q1 (.inr (List.mem_cons_of_mem _ (List.mem_cons_of_mem _ (List.mem_map.mpr ⟨_,hm,rfl⟩)))),q2⟩
  ·exact fun y z cc hy hz=>R2.apart y z cc (hcl1 _ hy).1 (hcl1 _ hz).1
  ·intro i y hi
   refine e0_2 (hcap i y hi) ?_
   intro hfr ez4
   refine e3_6 ez4 ?_
   clear ez4
   intro j k d q1 q2 q3 q4 q5 q6
   have hmem:=mem_of_lookup hfr
   refine e1_1 (Option.isSome_iff_exists.mp (hcl2 (y,.free) hmem rfl)) ?_
   intro cc hcc
   have hce:=(hcl1 _ (mem_of_lookup hcc)).1
   refine e1_2 (R2.slots j y k _ q2 q4) ?_
   intro u hu him
   have hu':∃ c,env.cells.lookup y=some c∧Heap.IsCell (h'.push { cls:=.type "function",data:=.func (kla_fn "<lambda>" (B.qn P) ⟨[],[⟨p,none,pp⟩],none,[],[],none,[]⟩ lbody lsc cl ((B.mg "__name__").getD .none) cv ctv) }) c (some u):=by
    cases k with
    | loc=>exact (q3 rfl).elim
    | cel=>exact hu
    | fre=>exact hu
   refine e1_2 hu' ?_
   clear hu'
   intro c3 w1 ez5
   refine e1_2 ez5 ?_
   clear ez5
   intro ov w2 w3
   rw [show env.cells.lookup y=some cc from hce] at w1;clear hce;cases w1
   refine ⟨d,cc,u,q5,hcc,⟨ov,onlyB_get w2 (.inr (List.mem_cons_of_mem _ (List.mem_cons_of_mem _ (List.mem_map.mpr ⟨_,mem_of_lookup hcc,rfl⟩)))),w3⟩,?_⟩
   cases him with
   | int i t=>exact .int i t
   | str x t=>exact .str x t
   | _=>cases q6
 refine e3_4 (hsp _ hkB htB _ clo) ?_
 intro fa' o' fd' g1 g2 g3 g4
 have g1':B.mg f=some (.ref fa'):=g1
 rw [h1] at g1';clear g2 g1 h1;cases g1'
 have ar2:Ar (B.wide _ hkB htB) A n { s1 with heap:=h'.push { cls:=.type "function",data:=.func (kla_fn "<lambda>" (B.qn P) ⟨[],[⟨p,none,pp⟩],none,[],[],none,[]⟩ lbody lsc cl ((B.mg "__name__").getD .none) cv ctv) },toks:=tk }:=by
  refine e1_3 a2.frames ?_
  intro l f1 f2 f3
  refine ⟨a2.depth,a2.units,a2.handled,⟨l,f1,?_,f3⟩,a2.tabs⟩
  have go:∀ l:List Env,(∀ L∈l.filterMap (·.frame),∃ o es ep,(h'.push { cls:=.type "function",data:=.func (kla_fn "<lambda>" (B.qn P) ⟨[],[⟨p,none,pp⟩],none,[],[],none,[]⟩ lbody lsc cl ((B.mg "__name__").getD .none) cv ctv) }).get? L=some o∧o.cls=.type "frame"∧o.data=.dict es ep) →
    (h'.push { cls:=.type "function",data:=.func (kla_fn "<lambda>" (B.qn P) ⟨[],[⟨p,none,pp⟩],none,[],[],none,[]⟩ lbody lsc cl ((B.mg "__name__").getD .none) cv ctv) }).FunFrames B.hB l→(h'.push { cls:=.type "function",data:=.func (kla_fn "<lambda>" (B.qn P) ⟨[],[⟨p,none,pp⟩],none,[],[],none,[]⟩ lbody lsc cl ((B.mg "__name__").getD .none) cv ctv) }).FunFrames (onlyB B (h'.push { cls:=.type "function",data:=.func (kla_fn "<lambda>" (B.qn P) ⟨[],[⟨p,none,pp⟩],none,[],[],none,[]⟩ lbody lsc cl ((B.mg "__name__").getD .none) cv ctv) }) (h'.objs.size::c'::cl.map (·.2))) l:=by
   intro l
   induction l with
   | nil=>intro _ _;trivial
   | cons ev r ih =>
    intro hfr rz1
    obtain ⟨w1,⟨L,ob,w2,w3,w4,w5⟩,w6⟩:=rz1
    rw [List.filterMap_cons,w2] at hfr
    refine ⟨w1,⟨L,ob,w2,?_,w4,w5⟩,ih (fun L' hL'=>hfr L' (List.mem_cons_of_mem _ hL')) w6⟩
    cases e9:(onlyB B (h'.push { cls:=.type "function",data:=.func (kla_fn "<lambda>" (B.qn P) ⟨[],[⟨p,none,pp⟩],none,[],[],none,[]⟩ lbody lsc cl ((B.mg "__name__").getD .none) cv ctv) }) (h'.objs.size::c'::cl.map (·.2))).get? L with
    | none=>rfl
    | some ob' =>
     refine e3_3 (hfr L List.mem_cons_self) ?_
     intro o7 es ep y1 y2 y3
     rw [(onlyB_of e9).1] at y1;cases y1
     rcases more _ _ e9 with q | q | q | ⟨v,q⟩
     ·rw [w3] at q;clear e9;cases q
     ·rw [y2] at q;exact absurd (Value.type.inj q) (by decide)
     ·rw [y3] at q;cases q.2
     ·rw [y3] at q;cases q
  exact go l f3 f2
 refine ⟨R2.base _ _ h2,wpAny_call (codeAny_mono (g4 A _ [v1,.ref h'.objs.size] (fun b ob e=>(onlyB_of e).1) ar2 rfl fun i v g y1 y2=>?_) fun r s3 x=>?_)⟩
 ·cases i with
  | zero=>cases y1;cases y2;exact Im.grow k2.tups x1
  | succ i=>cases i with
   | zero =>
   cases y1;cases y2
   exact ⟨_,rfl,rfl,by rw [show (B.wide _ hkB htB).hB.get? h'.objs.size=_ from onlyB_get hgo (.inr List.mem_cons_self)];rfl,_,hgo,rfl,_,rfl⟩
   | succ i=>simp at y1
 ·have k12:=k1.trans k2
  cases r with
  | ok f=>cases f with
   | ret v =>
    refine e1_3 x ?_
    intro r hz h7 h8
    refine e1_2 hz ?_
    intro d h5 h6
    subst h5
    exact ⟨.im d,h6,k12.trans h7.unwide,h8⟩
   | _=>exact x.elim
  | error e=>exact x.elim
end
end Mine
end

section
open PySem PySem.W PyProof.Rows PySem.Calls PyProof PySem.SeqAt
set_option backward.match.sparseCases false
set_option tactic.hygienic false
namespace Mine
noncomputable def RawD (h:Heap) (d:Addr) (es:Array DictEntry) (ep:Nat):Prop:=∃ o,h.get? d=some o∧o.ExactDict∧o.data=.dict es ep
section
variable {prog:Program} {w:World} {A:Around} {E:Value→Shared→Prop} {s:Shared} {d it:Addr} {es:Array DictEntry} {ep i:Nat}
theorem RawD.typeIs (x:RawD s.heap d es ep):s.TypeIs (.ref d) "dict":=e1_3 x fun o ho hc _=>⟨o,ho,hc.1⟩
theorem RawD.iter {Q:Value→Shared→Prop} (hd:(d == sysModules)=false) (hm:RawD s.heap d es ep)
  (hQ:Q (.ref s.heap.objs.size) { s with heap:=s.heap.push { cls:=.type "dict_keyiterator",data:=.fields #[.ref d,.int 0 0,.int es.size 0,.int ep 0] } }):wpAny (model prog w) A (pyIter (.ref d)) Q E s:=by
 have hT:=hm.typeIs
 refine e1_3 hm ?_
 clear hm
 intro o ho hc hdat
 refine wpAny_pyIter_slot hT F.slot_dict_iter (wpAny_call_entry F.slot_dict_iter hT F.entry_dict_iter ?_ (F.args_dict_iter_1 _))
 unfold Builtin.«dict.__iter__»
 refine wpAny_bind ?_
 unfold Builtin.Dict.dictSlotNone
 refine wpAny_bind (wpAny_notOrdered_dict hT ?_)
 show wpAny _ _ (pure (Value.ref d)) _ _ s
 refine wpAny_pure ?_
 show wpAny _ _ (Builtin.Dict.showsAll d >>= _) _ _ s
 unfold Builtin.Dict.showsAll
 rw [if_neg (by rw [hd];exact Bool.false_ne_true)]
 refine wpAny_bind (wpAny_pure ?_)
 refine wpAny_bind (wpAny_dictEntries ho hdat ?_)
 refine wpAny_bind (wpAny_dictEpoch ho hdat ?_)
 refine wpAny_bind (wpAny_newObj_type (wpAny_pure ⟨_,rfl,"dict_keyiterator",_,⟨_,Heap.get?_push_size _ rfl,rfl⟩,F.slot_dict_keyiterator_next.lookup,?_⟩))
 simpa [rawInt] using hQ
theorem RawD.next {key:Value} {Q:Option Value→Shared→Prop} (hit:s.heap.IsKeyIter it d i es.size ep) (hm:RawD s.heap d es ep) (hx:es[i]?.map (·.key)=some key)
  (hQ:∀ h',h'.IsKeyIter it d (i+1) es.size ep→Heap.SameBut it s.heap h'→Q (some key) { s with heap:=h' }):wpAny (model prog w) A (pyNext (.ref it)) Q E s:=by
 refine e1_3 (id hit) ?_
 intro o ho hc hd
 refine e1_3 hm ?_
 clear hm
 intro od hod hcd hdd
 unfold pyNext
 refine wpAny_bind (wpAny_attempt (wpAny_callSpecial?_slot (name:=Str.ofString "__next__") hit.typeIs F.slot_dict_keyiterator_next
  (wpAny_call_entry F.slot_dict_keyiterator_next hit.typeIs F.entry_dict_keyiterator_next ?_ (F.args_dict_keyiterator_next_1 _))))
 refine wpAny_bind (wpAny_pure ?_)
 refine wpAny_bind ?_
 refine wpAny_bind ?_
 first | refine wpAny_bind (wpAny_typeNameOfWhole_keyiter hit.typeIs (wpAny_pure ?_)) | refine wpAny_bind (wpAny_typeNameOf_keyiter hit.typeIs (wpAny_pure ?_))
 refine wpAny_bind (wpAny_fieldsOf ho hd ?_)
 have hown:Builtin.Dict_items.ownsTuple "dict_keyiterator"=false:=by decide
 rw [if_neg (show ¬ (Builtin.Dict_items.ownsTuple "dict_keyiterator"=true) from by decide)]
 show wpAny _ _ (if (Value.ref d == Value.none)=true then _ else _) _ _ s
 rw [if_neg (show ¬ ((Value.ref d == Value.none)=true) from Bool.false_ne_true)]
 refine wpAny_bind (wpAny_pure ?_)
 refine wpAny_bind (wpAny_dictEntries hod hdd ?_)
 rw [if_neg (by simp)]
 refine wpAny_bind (wpAny_pure ?_)
 refine wpAny_bind (wpAny_dictEpoch hod hdd ?_)
 rw [if_neg (by simp)]
 refine wpAny_pure ?_
 obtain ⟨e,he,rfl⟩:∃ e,es[i]?=some e∧e.key=key:=by
  cases q:es[i]? with
  | none=>rw [q] at hx;clear hQ;cases hx
  | some e=>rw [q] at hx;exact ⟨e,rfl,Option.some.inj hx⟩
 dsimp only;rw [if_neg (Int.not_lt.mpr (Int.natCast_nonneg i)),Int.toNat_natCast,he]
 refine wpAny_bind ?_
 first | refine wpAny_bind (wpAny_typeNameOfWhole_keyiter hit.typeIs (wpAny_pure ?_)) | refine wpAny_bind (wpAny_typeNameOf_keyiter hit.typeIs (wpAny_pure ?_))
 refine wpAny_bind (wpAny_isOneOf_keyiter hit.typeIs ?_)
 show wpAny _ _ (setField (.ref it) 1 (rawInt ((i:Int)+1)) >>= _) _ _ s
 refine wpAny_bind (wpAny_setField ho hd (by simp) ?_)
 have hit':(s.heap.update it (Obj.mapFields (·.setIfInBounds 1 (rawInt ((i:Int)+1))))).IsKeyIter it d (i+1) es.size ep :=
  ⟨_,Heap.get?_update_self _ ho (Obj.isFreed_of_fields (Obj.data_mapFields hd _)),(Obj.cls_mapFields ..).trans hc,by rw [Obj.data_mapFields hd];simp [rawInt]⟩
 refine wpAny_bind (wpAny_holding ?_)
 refine wpAny_bind (wpAny_isOneOf_keyiter (s:={ s with heap:=s.heap.update it (Obj.mapFields (·.setIfInBounds 1 (rawInt ((i:Int)+1)))) }) hit'.typeIs ?_)
 show wpAny _ _ (pure e.key) _ _ _
 exact wpAny_pure (wpAny_pure ⟨_,rfl,wpAny_pure (hQ _ hit' (Heap.SameBut.update ..))⟩)
theorem RawD.fin {Q:Option Value→Shared→Prop} (hh:A.handled=none) (hit:s.heap.IsKeyIter it d es.size es.size ep) (hm:RawD s.heap d es ep)
  (hQ:∀ h',Heap.ExtBut it s.heap h'→Q none { s with heap:=h' }):wpAny (model prog w) A (pyNext (.ref it)) Q E s:=by
 refine e1_3 (id hit) ?_
 intro o ho hc hd
 refine e1_3 hm ?_
 clear hm
 intro od hod hcd hdd
 unfold pyNext
 refine wpAny_bind (wpAny_attempt (wpAny_callSpecial?_slot (name:=Str.ofString "__next__") hit.typeIs F.slot_dict_keyiterator_next
  (wpAny_call_entry F.slot_dict_keyiterator_next hit.typeIs F.entry_dict_keyiterator_next ?_ (F.args_dict_keyiterator_next_1 _))))
 refine wpAny_bind (wpAny_pure ?_)
 refine wpAny_bind ?_
 refine wpAny_bind ?_
 first | refine wpAny_bind (wpAny_typeNameOfWhole_keyiter hit.typeIs (wpAny_pure ?_)) | refine wpAny_bind (wpAny_typeNameOf_keyiter hit.typeIs (wpAny_pure ?_))
 refine wpAny_bind (wpAny_fieldsOf ho hd ?_)
 have hown:Builtin.Dict_items.ownsTuple "dict_keyiterator"=false:=by decide
 rw [if_neg (show ¬ (Builtin.Dict_items.ownsTuple "dict_keyiterator"=true) from by decide)]
 show wpAny _ _ (if (Value.ref d == Value.none)=true then _ else _) _ _ s
 rw [if_neg (show ¬ ((Value.ref d == Value.none)=true) from Bool.false_ne_true)]
 refine wpAny_bind (wpAny_pure ?_)
 refine wpAny_bind (wpAny_dictEntries hod hdd ?_)
 rw [if_neg (by simp)]
 refine wpAny_bind (wpAny_pure ?_)
 refine wpAny_bind (wpAny_dictEpoch hod hdd ?_)
 rw [if_neg (by simp)]
 refine wpAny_pure ?_
 dsimp only;rw [if_neg (Int.not_lt.mpr (Int.natCast_nonneg es.size)),Int.toNat_natCast,Array.getElem?_eq_none (Nat.le_refl _)]
 refine wpAny_bind ?_
 first | refine wpAny_bind (wpAny_typeNameOfWhole_keyiter hit.typeIs (wpAny_pure ?_)) | refine wpAny_bind (wpAny_typeNameOf_keyiter hit.typeIs (wpAny_pure ?_))
 show wpAny _ _ (setField (.ref it) 0 .none >>= _) _ _ s
 refine wpAny_bind (wpAny_setField ho hd (by simp) ?_)
 show wpAny _ _ (newExc (.type "StopIteration") [] >>= _) _ _ _
 refine wpAny_bind ?_
 unfold newExc newTuple
 refine wpAny_bind (wpAny_newObj_type ?_ (by size_fits))
 refine wpAny_bind (m:=firstArgMember _ _) (wpAny_of_eq (a:=Value.none) (by first | rfl | (simp only [firstArgMember];rfl)) ?_)
 refine wpAny_newObj_type ?_ (by size_fits)
 unfold raiseNew
 refine wpAny_bind (wpAny_handled ?_)
 rw [show A.in1.handled=none from hh]
 refine wpAny_bind (wpAny_pure (wpAny_throw ?_))
 refine wpAny_bind (wpAny_isInstance (T:="StopIteration") (b:=true) ⟨_,Heap.get?_push_size _ rfl,rfl⟩ isSubtype_stop ?_)
 exact wpAny_pure (hQ _ (((Heap.SameBut.update ..).extBut.push _).push _))
theorem RawD.at {h h':Heap} (x:RawD h d es ep) (k:∀ o,h.get? d=some o→h'.get? d=some o):RawD h' d es ep:=e1_2 x fun o ho r=>⟨o,k o ho,r⟩
theorem RawD.walks (hh:A.handled=none) (I d:Addr) (hne:d≠I) (es:Array DictEntry) (ep:Nat) :
  Walks prog w A I [I,d] [I] es.size (fun i v=>es[i]?.map (·.key)=some v) (fun i h=>h.IsKeyIter I d i es.size ep∧RawD h d es ep) where
 sub:=fun b hb=>by simp at hb;simp [hb]
 frame:=fun _ _ _ st hk=>⟨st.1.at fun o e=>hk I (by simp) o e,st.2.at fun o e=>hk d (by simp) o e⟩
 item:=fun i s Q E hi st hQ=>by
  refine RawD.next st.1 st.2 (key:=es[i].key) (by simp [hi]) fun h' hit' hs'=>?_
  exact hQ _ h' s.toks (by simp [hi]) ⟨hit',st.2.at fun o e=>(hs'.2 d hne).trans e⟩ fun b o hb e=>hs'.extBut b o (fun h=>hb (by simp [h])) e
 done:=fun s Q E st hQ=>RawD.fin hh st.1 st.2 fun h' he'=>hQ h' s.toks fun b o hb e=>he' b o (fun h=>hb (by simp [h])) e
 self:=fun _ _ _ _ st hQ=>wpAny_pyIter_keyiter st.1 hQ
theorem RawD.src (lo:(d == sysModules)=false):KdlSrc prog w "dict" d d es.size (fun i v=>es[i]?.map (·.key)=some v) (fun h=>RawD h d es ep) where
 type:=fun _ hm=>hm.typeIs
 there:=fun _ hm=>e1_2 hm fun o ho _=>⟨Heap.lt_size ho,Heap.lt_size ho⟩
 keep:=fun _ _ hm hk=>hm.at fun o e=>hk d (.inl rfl) o e
 notList:=by decide
 notTuple:=by decide
 hint:=fun _ _ _ _ hm hq=>kdl_hint_dict hm.typeIs hq
 iter:=fun _ _ hh hm=>⟨_,_,(fun _ _ hq=>RawD.iter lo hm hq),RawD.walks hh _ d (e1_2 hm fun o ho _=>Nat.ne_of_lt (Heap.lt_size ho)) es ep,⟨⟨_,Heap.get?_push_size _ rfl,rfl,rfl⟩,hm.at fun o e=>Heap.get?_push_of_some _ e⟩⟩
end
section
variable {B:Bs} {F:Fi} {X:Str→Prop} {n:Nat} {ρ:List (Option Sl)}
theorem Ims.of_at {h:Heap}:∀ {vs:List Value} {ds:List D},vs.length=ds.length→(∀ (j:Nat) v d,vs[j]?=some v→ds[j]?=some d→Im h v d)→Ims h vs ds
 | [],[],_,_=>.nil
 | v::vs,d::ds,hl,hv=>.cons (hv 0 v d rfl rfl) (Ims.of_at (by simpa using hl) fun j v' d' e1 e2=>hv (j+1) v' d' (by simpa using e1) (by simpa using e2))
theorem rawList {s:Shared} {A:Around} {E:Value→Shared→Prop} {env oa} {d:Addr} {es:Array DictEntry} {ep:Nat} {l:List D} (a:Ar B A n s) (hd:(d == sysModules)=false) (hm:RawD s.heap d es ep) (hl:es.size=l.length) (hsz:l.length≤sizeLine)
  (hk:∀ (j:Nat) e x,es[j]?=some e→l[j]?=some x→Im s.heap e.key x) (hq:B.quiet=true) :
  wpAny (model B.prog B.w) A (PySem.call (.type "list") [.ref d]) (fun v s'=>Kp B s s'∧VR B env oa s s' v (.ct .fr (.lst l))) E s:=by
 refine kdl_call (RawD.src hd) (a.handled hq) hm (by rw [hl];exact hsz) fun h' tk acc c hkk hn hit=>?_
 have k:Kp B s { s with heap:=h',toks:=tk }:=Kp.of hkk
 refine ⟨k,_,rfl,⟨_,acc,c,hn,⟨rfl,rfl⟩,rfl,?_⟩,fresh_size s⟩
 refine Ims.of_at (by simp [hit.1,hl]) fun j v x e1 e2=>?_
 have e3:es[j]?.map (·.key)=some v:=hit.2 j v (by simpa using e1)
 cases q:es[j]? with
 | none=>rw [q] at e3;clear e1;cases e3
 | some e=>rw [q] at e3;clear e1;cases e3;exact (hk j e x q e2).grow k.tups
theorem BuiS.listDD {m:Md} {l:List D} (h:l.length≤sizeLine) (hq:B.quiet=true):BuiS B n (.type "list") [.ct m (.ddc l)] (.ct .fr (.lst l)):=.one fun env oa A s0 s v E b a x=>by
 refine e1_3 x.cont ?_
 intro d hv h0 ez1
 refine e1_2 ez1 ?_
 clear ez1
 intro xs ez2 hx
 obtain ⟨o,es,ep,ho,hc,hdt,he,hi,hn⟩:=ez2
 clear x b;cases hv
 have hsz:es.size=l.length:=by rw [← Array.length_toList,he,← hx];simp
 refine rawList a h0 ⟨o,ho,hc,hdt⟩ hsz h (fun j e x e1 e2=>?_) hq
 rw [← Array.getElem?_toList,he,List.getElem?_map] at e1
 rw [← hx,List.getElem?_map] at e2
 cases q:xs[j]? with
 | none=>rw [q] at e1;(try clear he;try clear a;try clear b;try clear hq);cases e1
 | some y=>rw [q] at e1 e2;(try clear he;try clear a;try clear b;try clear hq);cases e1;cases e2;exact (hi y (List.mem_of_getElem? q)).1
set_option tactic.hygienic true in
theorem BuiS.listID {m:Md} {l:List Int} (h:l.length≤sizeLine) (hq:B.quiet=true):BuiS B n (.type "list") [.ct m (.idc l)] (.ct .fr (.lst (l.map .int))):=.one fun env oa A s0 s v E b a x=>by
 refine e1_3 x.cont ?_
 intro d hv h0 ez3
 refine e1_2 ez3 ?_
 clear ez3
 intro kvs ez4 hx
 obtain ⟨o,es,ep,ho,hc,hdt,hke,hpa,hn⟩:=ez4
 clear x b;cases hv
 have hsz:es.size=(l.map D.int).length:=by rw [← Array.length_toList,hpa.length,← hx];simp
 refine rawList a h0 ⟨o,ho,hc,hdt⟩ hsz (by rw [List.length_map];exact h) (fun j e x e1 e2=>?_) hq
 rw [← hx,List.getElem?_map,List.getElem?_map] at e2
 cases q:kvs[j]? with
 | none=>rw [q] at e2;cases e2
 | some y =>
  rw [q] at e2;cases e2
  have:=(hpa.get? (e:=e) (by simpa using e1) q).1
  obtain ⟨k,z⟩:=y
  have e4:Value.isInt k e.key=true:=this
  unfold Value.isInt at e4
  split at e4
  ·rename_i i t hk';rw [hk'];simp at e4;clear this q hk';subst e4;exact .int _ _
  ·cases e4
end
end Mine
end

section
open PySem PySem.W PyProof.Rows PySem.Calls PyProof PySem.SeqAt
set_option backward.match.sparseCases false
set_option tactic.hygienic false
namespace Mine
section
variable {B:Bs} {F:Fi} {X:Str→Prop} {n:Nat} {ρ:List (Option Sl)}
theorem CmpS.eqT {a b:List D} (hn:2≤n) (hd:D.depL a≤16) (ka:D.ksL a=true) (kb:D.ksL b=true):CmpS B n .Eq (.im (.tup a)) (.im (.tup b)) (D.beqL a b):=fun env oa A s0 s vx vy E bs ar x y=>by
 refine e4_5 x.tup ?_
 intro l o vs m ez1 h1 h2 h3 h4
 clear x;subst ez1
 refine e4_5 y.tup ?_
 intro l' o' vs' m' ez2 g1 g2 g3 g4
 clear y;subst ez2
 have hu:=ar.units
 obtain ⟨e,q1,q2⟩:=Ims.eqAt a b (A:=A.in1) ka kb h4 g4 (ul17 hu hn hd)
 refine eq_tupleAt (e:=e) (Ims.isT h1 h2 h3) (Ims.isT g1 g2 g3) (ul0 hu) (fun j j1 j2=>q1 j _ _ (by simp [j1]) (by simp [j2])) ⟨?_,Kp.refl _⟩
 rw [← q2];simp
set_option tactic.hygienic true in
open Classical in
theorem CmpS.inLD {m:Md} {a l:List D} (hn:2≤n) (hd:D.depL l≤16) (ka:D.ksL a=true) (kl:D.ksL l=true):CmpS B n .In (.im (.tup a)) (.ct m (.lst l)) (l.any fun d=>d.beq (.tup a)):=fun env oa A s0 s vx vy E bs ar x y=>by
 refine e2_3 y.lst ?_
 intro l' vs ez3 h1 h2
 clear y;subst ez3
 have hu:=ar.units
 have him:Im s.heap vx (.tup a):=x
 have sub:∀ {vs:List Value} {l:List D},Ims s.heap vs l→D.ksL l=true→D.depL l≤16→(∀ v∈vs,EqAt A.in1 s v vx (decide (∃ d,Im s.heap v d∧d.beq (.tup a)=true)))∧vs.any (fun v=>decide (∃ d,Im s.heap v d∧d.beq (.tup a)=true))=l.any fun d=>d.beq (.tup a):=by
  intro vs
  induction vs with
  | nil=>intro l q _ _;(try clear y;try clear h2;try clear x;try clear ar;try clear bs);cases q;exact ⟨(fun v hv=>by cases hv),rfl⟩
  | cons v vs ih =>
   intro l q hk hp
   (try clear y;try clear h2;try clear x;try clear ar;try clear bs);cases q with
   | cons w r =>
    rename_i d ds
    simp only [D.ksL,Bool.and_eq_true] at hk
    simp only [D.depL] at hp
    have e1:decide (∃ d',Im s.heap v d'∧d'.beq (.tup a)=true)=d.beq (.tup a):=by
     cases e:d.beq (.tup a) with
     | true=>exact decide_eq_true ⟨d,w,e⟩
     | false=>exact decide_eq_false fun ⟨d',w',e'⟩=>by rw [w'.inj w] at e';rw [e] at e';cases e'
    refine e0_2 (ih r hk.2 (mx2 hp)) ?_
    intro i1 i2
    refine ⟨fun u hu'=>?_,by rw [List.any_cons,List.any_cons,i2,e1]⟩
    rcases List.mem_cons.mp hu' with rfl | hu'
    ·rw [e1];exact Im.eqAt d (.tup a) hk.1 ka w him (ul17 hu hn (mx1 hp))
    ·exact i1 u hu'
 refine e0_2 (sub h2 kl hd) ?_
 intro s1 s2
 refine in_listAt (fun v=>decide (∃ d,Im s.heap v d∧d.beq (.tup a)=true)) h1 (fun y hy=>s1 y (by simpa using hy)) ⟨?_,Kp.refl _⟩
 rw [← s2,Array.any_toList]
noncomputable def dAdd (l:List D) (d:D):List D:=if l.any (fun x=>x.beq d) then l else l++[d]
noncomputable def iAdd (l:List Int) (i:Int):List Int:=if l.contains i then l else l++[i]
theorem sysOut {s:Shared} (b:Bas B s):(s.heap.objs.size == sysModules)=false:=by
 cases q:(s.heap.objs.size == sysModules) with
 | false=>rfl
 | true =>
  exfalso
  have e:s.heap.objs.size=sysModules:=by simpa using q
  refine e3_2 B.g ?_
  intro o es ep h1 _
  have:=Heap.lt_size (b _ o h1)
  rw [e] at this
  exact absurd this (by decide)
theorem EW.dictD0 {pos} {Q:AV→Prop} (h:Q (.ct .fr (.ddc []))):EW B F X n ρ (.Dict [] [] pos) Q :=
 .mk fun env oa A s R a=>wpAny_Dict_empty ⟨_,h,push_kp _,_,rfl,⟨sysOut R.base,[],@Heap.DictOfH.new _ _ D dEq (dKind B.prog B.w) _,rfl⟩,fresh_size _⟩
theorem EW.dictI0 {pos} {Q:AV→Prop} (h:Q (.ct .fr (.idc []))):EW B F X n ρ (.Dict [] [] pos) Q :=
 .mk fun env oa A s R a=>wpAny_Dict_empty ⟨_,h,push_kp _,_,rfl,⟨sysOut R.base,[],Heap.DictOf.new _,rfl⟩,fresh_size _⟩
theorem stored_keysD (xs:List (D×Addr×Value)) (k:D) (a:Addr) (v:Value):(@storedH D dEq xs k a v).map (·.1)=dAdd (xs.map (·.1)) k:=by
 unfold storedH dAdd
 have e:(@atKey D dEq xs k).isSome=(xs.map (·.1)).any fun x=>x.beq k:=by
  unfold atKey
  rw [Option.isSome_map]
  induction xs with
  | nil=>rfl
  | cons p r ih =>
   rw [List.find?_cons,List.map_cons,List.any_cons]
   by_cases q:p.1=k
   ·rw [(D.beq_iff _ _).mpr q];simp [q]
   ·have:p.1.beq k=false:=by cases e:p.1.beq k with | false=>rfl | true=>exact absurd ((D.beq_iff _ _).mp e) q
    rw [this,Bool.false_or,← ih];simp [q]
 rw [e]
 split
 ·exact @keys_map_putAt D dEq xs k v
 ·simp
theorem stored_keysI (kvs:List (Int×Value)) (k:Int) (v:Value):(stored kvs k v).map (·.1)=iAdd (kvs.map (·.1)) k:=by
 unfold stored iAdd
 have e:kvs.any (fun kv=>decide (kv.1=k))=(kvs.map (·.1)).contains k:=by
  induction kvs with
  | nil=>rfl
  | cons p r ih =>
   rw [List.any_cons,List.map_cons,List.contains_cons,ih]
   congr 1
   by_cases q:p.1=k
   ·simp [q]
   ·simp [q,Ne.symm q]
 rw [e]
 split
 ·rw [List.map_map]
  apply List.map_congr_left
  intro p _
  simp only [Function.comp_def]
  split <;> rfl
 ·simp
theorem SW.dsetD {x:Str} {p pos' pos:Pos} {ke:Expr} {b:Bool} {kc pc} {Q:Fl→List (Option Sl)→Prop} {l:List D} {mm:Option Addr} (i:Nat) {kd:Kd} (hx:F.vars[i]?=some (x,kd)) (hs:ρ[i]?=some (some (.own (.ddc l) mm))) (hn:1≤n)
  (h:EW B F X n ρ ke fun r=>∃ t,r=.im (.tup t)∧D.depL t≤7∧D.kkL t=true∧l.length≤sizeLine∧Q .next (ρ.set i (some (.own (.ddc (dAdd l (.tup t))) mm)))) :
  SW B F X n ρ (.Assign [.Subscript (.Name x p) ke pos'] (.Constant (.bool b) kc pc) pos) Q:=by
 refine .mk ?_
 intro env oa A s hd R a
 refine wpAny_Assign_Subscript (hs:=rfl) ?_
 refine wpAny_Constant_bool ?_
 refine e1_4 (R.slots i x kd _ hx hs) ?_
 intro c h1 h2 h3 _
 refine loadVar R hx h1 ?_
 refine wpAny_mono (h.go env oa A s R a) (fun kv s2 hz5=>?_) fun _ _ x=>x.toW
 refine e1_3 hz5 ?_
 clear hz5
 intro r ez4 k2 hkv
 obtain ⟨t,hr,hp,hk,hl,q⟩:=ez4
 subst hr
 obtain ⟨ka,rfl⟩:∃ ka,kv=.ref ka:=by cases hkv;exact ⟨_,rfl⟩
 have c2:=h2.kp k2 (fun x=>x)
 refine e0_2 (id c2) ?_
 intro g0 ez5
 refine e1_2 ez5 ?_
 clear ez5
 intro xs g1 g2
 have R2:=R.kp k2
 have hu:=a.units
 refine @wpAny_setItem_heap _ _ D dEq (dKind B.prog B.w) _ _ _ _ _ _ _ _ _ (ul10 hu hn) ⟨hkv,by simp only [D.dep];lia,hk⟩ g1 (fun h' g3 hs'=>?_) (by rw [← List.length_map (f:=(·.1)),g2];exact hl)
 refine e3_2 (id g3) ?_
 intro o' es' ep' g4 _
 have c3:ContAt B h' c (.ddc (dAdd l (.tup t))):=⟨g0,_,g3,by rw [← g2];exact stored_keysD xs _ ka _⟩
 refine e0_2 (ownTurn R2 hs h3 c2 hs' c3 trivial (t:=s2.toks+(D.tup t).drw)) ?_
 intro R3 k3
 exact ⟨.next,_,oa,q,trivial,R3,(Kp.toW k2).trans k3 fun _ x=>.inl x,OwnFrom.refl _ _⟩
theorem SW.dsetI {x:Str} {p pos' pos:Pos} {ke:Expr} {b:Bool} {kc pc} {Q:Fl→List (Option Sl)→Prop} {l:List Int} {mm:Option Addr} (i:Nat) {kd:Kd} (hx:F.vars[i]?=some (x,kd)) (hs:ρ[i]?=some (some (.own (.idc l) mm)))
  (h:EW B F X n ρ ke fun r=>∃ j,r=.im (.int j)∧l.length≤sizeLine∧Q .next (ρ.set i (some (.own (.idc (iAdd l j)) mm)))) :
  SW B F X n ρ (.Assign [.Subscript (.Name x p) ke pos'] (.Constant (.bool b) kc pc) pos) Q:=by
 refine .mk ?_
 intro env oa A s hd R a
 refine wpAny_Assign_Subscript (hs:=rfl) ?_
 refine wpAny_Constant_bool ?_
 refine e1_4 (R.slots i x kd _ hx hs) ?_
 intro c h1 h2 h3 _
 refine loadVar R hx h1 ?_
 refine wpAny_mono (h.go env oa A s R a) (fun kv s2 hz5=>?_) fun _ _ x=>x.toW
 refine e1_3 hz5 ?_
 clear hz5
 intro r ez6 k2 hkv
 obtain ⟨j,hr,hl,q⟩:=ez6
 subst hr
 refine e1_1 hkv.int ?_
 intro t ez7
 clear hkv;subst ez7
 have c2:=h2.kp k2 (fun x=>x)
 refine e0_2 (id c2) ?_
 intro g0 ez8
 refine e1_2 ez8 ?_
 clear ez8
 intro kvs g1 g2
 have R2:=R.kp k2
 refine wpAny_setItem_pairs (intKind_is _ _ _ _) g1 (fun h' g3 hs'=>?_) (by rw [← List.length_map (f:=(·.1)),g2];exact hl)
 have c3:ContAt B h' c (.idc (iAdd l j)):=⟨g0,_,g3,by rw [← g2];exact stored_keysI kvs j _⟩
 refine e0_2 (ownTurn R2 hs h3 c2 hs' c3 trivial (t:=s2.toks+1)) ?_
 intro R3 k3
 exact ⟨.next,_,oa,q,trivial,R3,(Kp.toW k2).trans k3 fun _ x=>.inl x,OwnFrom.refl _ _⟩
theorem CmpS.eqI0 {m m':Md} {l:List Int}:CmpS B n .Eq (.ct m (.idc l)) (.ct m' (.idc [])) l.isEmpty:=fun env oa A s0 s vx vy E bs a x y=>by
 refine e1_3 x.cont ?_
 intro p hp h0 ez9
 refine e1_2 ez9 ?_
 clear ez9
 intro ka h1 h2
 refine e1_3 y.cont ?_
 intro q hq g0 ez10
 refine e1_2 ez10 ?_
 clear ez10
 intro kb g1 g2
 clear y x bs;cases hp;cases hq
 have eb:kb=[]:=by simpa using g2
 clear g2;subst eb
 refine keq_eq (knd:=intKind B.prog B.w) (r:=true) h0 g0 h1 g1 a.un (fun hl=>?_) ⟨?_,Kp.refl _⟩
 ·have:ka=[]:=by simpa using hl
  clear hl h1;subst this;exact .nil
 ·(try clear x;try clear h1);subst h2
  cases ka <;> simp
theorem EW.dict1 {ke ve:Expr} {pos:Pos} {Q:AV→Prop} (h:EW B F X n ρ ke fun x=>∃ k,x=.im (.str k)∧EW B F X n ρ ve fun y=>∃ d,y=.im d∧Q (.ct .fr (.dct [(k,d)]))):EW B F X n ρ (.Dict [some ke] [ve] pos) Q:=by
 refine .mk ?_
 intro env oa A s R ar
 refine wpAny_Dict_pairs (knd:=strKind B.prog B.w) (pairs:=[(eval ke env,do let x ← eval ve env;standAt pos;pure x)]) rfl (by simp) (by simp) ?_
 have k0:Kp B s { s with heap:=s.heap.push { cls:=.type "dict",data:=.dict #[] } }:=push_kp (t:=s.toks) _
 refine evalPairs_cons (h.run (R.kp k0) (ar.kp k0) k0 fun v1 s1 r1 q1 k1 x1=>?_)
 refine e1_2 q1 ?_
 clear q1
 intro k ez11 hv
 subst ez11
 have k01:=k0.trans k1
 refine wpAny_bind (hv.run (R.kp k01) (ar.kp k01) k01 fun v2 s2 r2 q2 k2 x2=>?_)
 refine e1_2 q2 ?_
 clear q2
 intro d ez12 q
 subst ez12
 refine e1_1 x1.str ?_
 intro t ez13
 clear x1 hv;subst ez13
 refine wpAny_bind (wpAny_standAt (wpAny_pure (evalPairs_nil ?_)))
 have kk:=k1.trans k2
 obtain ⟨oD,hoD⟩:∃ o,s.heap.get? s.heap.objs.size=o:=⟨_,rfl⟩
 have hnew:s2.heap.DictOf (strKind B.prog B.w) s.heap.objs.size []:=by
  have:=kk.keep s.heap.objs.size _ (Heap.get?_push_size _ rfl) (fun x=>x) (.inl ⟨by decide,by nofun⟩)
  refine e3_2 (Heap.DictOf.new (knd:=strKind B.prog B.w) s.heap) ?_
  intro o es ep ho r
  rw [Heap.get?_push_size _ rfl] at ho;cases ho
  exact ⟨_,es,ep,this,r⟩
 refine ⟨[(k,_)],⟨strKind_is _ _ _ _,rfl,trivial⟩,hnew,fun h' hd hs=>?_⟩
 have k3:Kp B s { s2 with heap:=h',toks:=s2.toks+1 }:=by
  have w:=k01.trans k2
  have hne:∀ b o,s.heap.get? b=some o→b≠s.heap.objs.size:=fun b o q=>Nat.ne_of_lt (Heap.lt_size q)
  refine w.ext (fresh_size s) hs.extBut fun o e=>?_
  refine e3_4 hnew ?_
  clear hnew
  intro o' es ep ho' hc hdd _
  rw [ho'] at e;cases e
  intro rz1
  obtain ⟨_,vs,q⟩:=rz1
  rw [hdd] at q;cases q
 have hg:Grow s2.heap h':=fun b o vs m e c dd=>(hs.2 b fun q=>by
  (try clear k3;try clear hs;try clear hd;try clear hoD;try clear kk;try clear x1;try clear k01;try clear k1;try clear k0;try clear ar;try clear R);subst q
  refine e3_4 hnew ?_
  clear hnew
  intro o' es ep ho' hc hdd _
  rw [ho'] at e;clear hc ho' c;cases e;rw [hdd] at dd;clear a;cases dd).trans e
 refine ⟨_,q,k3,_,rfl,⟨sysOut R.base,_,hd,?_⟩,fresh_size s⟩
 have e:∀ v:Value,merged ([]:List (Str×Value)) [(k,v)]=[(k,v)]:=fun v=>by simp [merged,stored]
 rw [e]
 exact .cons (Im.grow hg x2) .nil
theorem SW.pop2 {x:Str} {p apos pos spos:Pos} {e:Expr} {kc pc} {Q:Fl→List (Option Sl)→Prop} {l:List (Str×D)} {mm:Option Addr} (i:Nat) {kd:Kd} (hx:F.vars[i]?=some (x,kd)) (hs:ρ[i]?=some (some (.own (.dct l) mm)))
  (h:EW B F X n ρ e fun r=>∃ k,r=.im (.str k)∧dAt l k=none∧Q .next ρ)
  (hline:(apos.endLine == pos.line)=true) (htr:∀ env,backTo pos (starEach [e,.Constant .none kc pc] env)=[(false,eval e env),(false,eval (.Constant .none kc pc) env)]) :
  SW B F X n ρ (.Expr (.Call (.Attribute (.Name x p) "pop" apos) [e,.Constant .none kc pc] [] pos) spos) Q:=by
 refine .mk ?_
 intro env oa A s hd R a
 refine wpAny_Expr_any ?_ (by unfold interactive;rw [R.scope,F.fn];rfl) rfl
 refine wpAny_Call_method2_late rfl hline (htr env) ?_
 refine e1_4 (R.slots i x kd _ hx hs) ?_
 intro b h1 h2 h3 _
 refine loadVar R hx h1 ?_
 refine e0_2 (id h2) ?_
 intro h0 ez14
 refine e1_2 ez14 ?_
 clear ez14
 intro kvs hD hkv
 refine ⟨"dict","dict.pop",PySem.F.plainAttrs_dict,PySem.F.slot_dict_pop,PySem.F.type_dict_pop,hD.typeIs,hD.mapOf.noDict,?_⟩
 refine method2_meetsIn PySem.F.slot_dict_pop PySem.F.entry_dict_pop (wpAny_mono (h.go env oa A s R a) (fun v s1 hz5=>?_) fun _ _ x=>x.toW)
 refine e1_3 hz5 ?_
 clear hz5
 intro r ez15 k1 x1
 obtain ⟨k,hr,hn,q⟩:=ez15
 subst hr
 refine e1_1 x1.str ?_
 intro t ez16
 clear x1;subst ez16
 refine wpAny_Constant_none ?_
 have R1:=R.kp k1
 refine e1_4 (R1.slots i x kd _ hx hs) ?_
 intro b' g1 g2 g3 _
 rw [h3] at g3;clear a_2 g1 hD h0 a_1 h3 h2 h1;cases g3
 refine e0_2 (id g2) ?_
 intro g0 ez17
 refine e1_2 ez17 ?_
 clear ez17
 intro kvs' gD gkv
 refine ⟨gD.typeIs,PySem.F.args_dict_pop_3 _ _ _,_,meets_dict_pop_default (strKind B.prog B.w) b (k:=k) (strKind_is _ _ _ _) g0 rfl _,kvs',gD,gkv.at.1 hn,?_⟩
 have k2:Kp B s { s1 with toks:=s1.toks+1 }:=k1.trans Kp.toks
 exact ⟨.next,_,oa,q,trivial,R.kp k2,k2.toW,OwnFrom.refl _ _⟩
theorem SW.extend {x:Str} {p apos pos spos:Pos} {e:Expr} {Q:Fl→List (Option Sl)→Prop} {l:List D} {mm:Option Addr} (i:Nat) {k:Kd} (hx:F.vars[i]?=some (x,k)) (hs:ρ[i]?=some (some (.own (.lst l) mm)))
  (h:EW B F X n ρ e fun r=>∃ l',r=.ct .fr (.lst l')∧l.length+l'.length≤sizeLine∧Q .next (ρ.set i (some (.own (.lst (l++l')) mm))))
  (hline:(apos.endLine == pos.line)=true) (htr:∀ env,backTo pos (starEach [e] env)=[(false,eval e env)]) :
  SW B F X n ρ (.Expr (.Call (.Attribute (.Name x p) "extend" apos) [e] [] pos) spos) Q:=by
 refine .mk ?_
 intro env oa A s hd R a
 refine wpAny_Expr_any ?_ (by unfold interactive;rw [R.scope,F.fn];rfl) rfl
 refine wpAny_Call_method1_late rfl hline (htr env) ?_
 refine e1_4 (R.slots i x k _ hx hs) ?_
 intro b h1 h2 h3 _
 refine loadVar R hx h1 ?_
 refine e3_4 (id h2) ?_
 intro o vs m ho hc hdt hi
 refine ⟨"list","list.extend",PySem.F.plainAttrs_list,PySem.F.slot_list_extend,PySem.F.type_list_extend,⟨o,ho,hc.1⟩,(fun a e=>by clear a_1 h3 h2 h1;cases e;exact ⟨o,ho,hc.2⟩),?_⟩
 refine method1_meetsIn PySem.F.slot_list_extend PySem.F.entry_list_extend (wpAny_mono (h.go env oa A s R a) (fun v s1 hz1=>?_) fun _ _ x=>x.toW)
 refine e1_3 hz1 ?_
 clear hz1
 intro r ez18 k1 hv
 obtain ⟨l',hr,hl,q⟩:=ez18
 subst hr
 have R1:=R.kp k1
 have c1:=h2.kp k1 (fun x=>x)
 refine e3_4 (id c1) ?_
 intro o1 vs1 m1 ho1 hc1 hdt1 hi1
 refine e1_3 hv ?_
 clear hv
 intro b' hb' ez19 hfr
 obtain ⟨o2,vs2,m2,ho2,hc2,hdt2,hi2⟩:=ez19
 cases hb'
 have hne:b'≠b:=fun q=>by
  clear c1 a_1 h3 h2 h1;subst q
  rw [hfr] at ho;clear hdt hc;cases ho
 have n1:vs1.size=l.length:=by rw [← Array.length_toList];exact hi1.length
 have n2:vs2.size=l'.length:=by rw [← Array.length_toList];exact hi2.length
 refine ⟨⟨o1,ho1,hc1.1⟩,PySem.F.args_list_extend_2 _ _,(fun A R s=>R (.ok (.ret .none)) { s with heap:=s.heap.update b (Obj.mapSeq (·++vs2)) }∧s.heap.get? b=some o1∧s.heap.get? b'=some o2),.of_wp fun A' R' s' ⟨hR,w1,w2⟩=>?_,?_,ho1,ho2⟩
 ·unfold Builtin.«list.extend»
  refine wpAny_bind (m:=selfAndOne "list.extend" _) (wpAny_pure ?_)
  unfold Builtin.List.listExtendWith
  refine wpAny_bind (wpAny_typeOf (T:="list") ⟨o2,w2,hc2.1⟩ ?_)
  simp only [beq_self_eq_true,Bool.or_true,Bool.true_or,if_true]
  refine wpAny_bind ?_
  unfold Builtin.List.listItems
  refine wpAny_bind (wpAny_seqItems w2 hdt2 (wpAny_pure ?_))
  refine wpAny_bind ?_
  refine wpAny_bind (wpAny_seqItems w1 hdt1 (wpAny_pure ?_))
  have hlong:(!vs1.isEmpty&&Builtin.List.listTooLong (vs1.size+vs2.size))=false:=by
   have:Builtin.List.listTooLong (vs1.size+vs2.size)=false:=by
    unfold Builtin.List.listTooLong
    rw [n1,n2]
    exact decide_eq_false (Nat.not_lt.mpr hl)
   rw [this,Bool.and_false]
  rw [if_neg (by rw [hlong];exact Bool.false_ne_true)]
  show wpAny _ _ (updateSeq b (·++vs2) >>= fun _=>PySem.ret Value.none) _ _ s'
  refine wpAny_bind (wpAny_updateSeq w1 hdt1 (wpAny_pure ⟨_,rfl,hR⟩) (by rw [n1];lia) (by rw [Array.size_append,n1,n2];lia))
 ·refine e1_1 (Obj.data_mapSeq hdt1 (·++vs2)) ?_
  intro m3 hd3
  have hget:=Heap.get?_update_self (Obj.mapSeq (·++vs2)) ho1 (Obj.isFreed_of_seq hd3)
  have hs':Heap.SameBut b s1.heap (s1.heap.update b (Obj.mapSeq (·++vs2))):=Heap.SameBut.update ..
  have hg:Grow s1.heap (s1.heap.update b (Obj.mapSeq (·++vs2))):=(R1.upd h3 hs' ⟨_,hget⟩ ⟨_,c1⟩ (t:=0) [] (fun _ _ _ _ _ h=>by simp at h)).2
  have c2:ContAt B (s1.heap.update b (Obj.mapSeq (·++vs2))) b (.lst (l++l')):=⟨_,_,m3,hget,?_,hd3,by simpa using (hi1.append hi2).grow hg⟩
  ·refine e0_2 (ownTurn R1 hs h3 c1 hs' c2 trivial (t:=s1.toks)) ?_
   intro R2 k2
   exact ⟨.next,_,oa,q,trivial,R2,(Kp.toW k1).trans k2 fun _ x=>.inl x,OwnFrom.refl _ _⟩
  ·obtain ⟨c0,d0,dt0,sl0⟩:=o1
   cases dt0 <;> first | exact hc1 | cases hdt1
end
end Mine
end

section
open PySem PySem.W PyProof.Rows PySem.Calls PyProof PySem.SeqAt
set_option backward.match.sparseCases false
set_option tactic.hygienic false
namespace Mine
section
variable {B:Bs} {F:Fi} {X:Str→Prop} {n:Nat} {ρ:List (Option Sl)}
theorem BuiS.abs (a:Int):BuiS B n (.builtin "abs") [.im (.int a)] (.im (.int a.natAbs)):=.one fun env oa A s0 s v E b ar x=>by
 refine e1_1 x.int ?_
 intro t ez1
 clear x;subst ez1
 refine call_abs_int fun u tk=>⟨Kp.of (h':=s.heap) fun _ _ e=>e,?_⟩
 have:(if a<0 then -a else a)=(a.natAbs:Int):=by split <;> lia
 rw [this];exact Im.int _ _
theorem Ims.bools {h:Heap} {vs:List Value} {bs:List Bool} (q:Ims h vs (bs.map .bool)):vs=bs.map .bool:=by
 induction bs generalizing vs with
 | nil=>cases q;rfl
 | cons b bs ih=>cases q with | cons a r=>cases a;rw [ih r];rfl
theorem BuiS.any {m:Md} {bs:List Bool} (hq:B.quiet=true):BuiS B n (.builtin "any") [.ct m (.lst (bs.map .bool))] (.im (.bool (bs.any id))):=.one fun env oa A s0 s v E b a x=>by
 refine e2_3 x.lst ?_
 intro l vs ez2 h1 h2
 clear x;subst ez2
 have hb:=h2.bools
 have hlt:l<s.heap.objs.size:=e1_2 h1 fun _ e _=>Heap.lt_size e
 refine call_any_walk (wpAny_pyIter_list h1 ?_)
 refine ⟨s.heap.objs.size,[s.heap.objs.size,l],[s.heap.objs.size],vs.size,_,_,fun i=>(bs[i]?).getD false,rfl,Walks.list (A:=A.in1) (a.handled hq) _ l (Nat.ne_of_lt hlt) vs,
  ⟨⟨_,Heap.get?_push_size _ rfl,rfl,rfl⟩,h1.push _⟩,fun i v s' Q' E' hP hQ=>?_,fun h' tk hk=>?_⟩
 ·have hP':vs[i]?=some v:=hP
  rw [← Array.getElem?_toList,hb,List.getElem?_map] at hP'
  cases e:bs[i]? with
  | none=>rw [e] at hP';clear hP;cases hP'
  | some c =>
   rw [e] at hP';cases hP'
   simp only [e,Option.getD_some] at hQ
   exact wpAny_truthy_bool hQ
 ·have hsz:vs.size=bs.length:=by rw [← Array.length_toList,hb,List.length_map]
  have e:((List.range vs.size).any fun i=>(bs[i]?).getD false)=bs.any id:=by
   rw [hsz];exact LSm.range_any bs
  rw [e]
  have kk:∀ b o,s.heap.get? b=some o→h'.get? b=some o:=fun b o q=>hk b o (fun hm=>by
   have:=List.mem_singleton.mp hm
   (try clear hm;try clear hk;try clear hlt;try clear x;try clear h2;try clear h1;try clear a);subst this;exact absurd (Heap.lt_size q) (Nat.lt_irrefl _)) (Heap.get?_push_of_some _ q)
  exact ⟨Kp.of kk,Im.bool _⟩
noncomputable def srtI (l:List Int):List Int:=l.mergeSort fun a b=>decide (a≤b)
theorem srtI_perm (l:List Int):(srtI l).Perm l:=List.mergeSort_perm l _
theorem srtI_unique {l m:List Int} (h:m.Perm l) (hs:m.Pairwise (·≤·)):m=srtI l :=
 (h.trans (srtI_perm l).symm).eq_of_pairwise (fun a b _ _ h1 h2=>Int.le_antisymm h1 h2) hs
  ((List.pairwise_mergeSort (le:=fun a b=>decide (a≤b)) (fun a b c h1 h2=>by simp at *;omega) (fun a b=>by simp;omega) l).imp (by simp))
theorem Ims.intsAre {h:Heap} {vs:List Value} {is:List Int} (q:Ims h vs (is.map .int)):IntsAre vs is:=by
 induction is generalizing vs with
 | nil=>cases q;exact .nil
 | cons i is ih=>cases q with | cons a r=>cases a;exact .cons _ _ (ih r)
theorem Ims.ofInts {h:Heap} {vs:List Value} {is:List Int} (x:IntsAre vs is):Ims h vs (is.map .int):=by
 induction x with
 | nil=>exact .nil
 | cons _ t r ih=>exact .cons (.int _ t) ih
theorem sortedNew {s:Shared} {vs:List Value} {out:Array Value}:s.heap.get? (s.heap.objs.size+1)=none:=by
 cases q:s.heap.get? (s.heap.objs.size+1) with
 | none=>rfl
 | some o=>exact absurd (Heap.lt_size q) (Nat.not_lt.mpr (Nat.le_succ _))
theorem BuiS.sortedI {m:Md} {is:List Int} (h:is.length<64):BuiS B n (.builtin "sorted") [.ct m (.lst (is.map .int))] (.ct .fr (.lst ((srtI is).map .int))):=.one fun env oa A s0 s v E b a x=>by
 refine e2_3 x.lst ?_
 intro l vs ez3 h1 h2
 clear x;subst ez3
 have hl:vs.toList.length=is.length:=by simpa using h2.length
 refine sorted_ints (vs:=vs.toList) (by simpa using h1) h2.intsAre (by lia) fun out ss' e1 e2 e3=>?_
 have hk:Kp B s { s with heap:=sortedAll s.heap vs.toList out }:=Kp.of (t:=s.toks) fun b o q=>sortedAll_old q
 refine e1_1 (sortedAll_at s.heap vs.toList out) ?_
 intro e he
 refine ⟨hk,_,rfl,⟨_,out,e,he,⟨rfl,rfl⟩,rfl,?_⟩,sortedNew (vs:=vs.toList) (out:=out)⟩
 rw [← srtI_unique e2 e3]
 exact Ims.ofInts e1
theorem kas2:kas_sort 2=.ask 1 0 fun b=>.ret (if b then #[1,0] else #[0,1]):=by
 show KasT.ask _ _ _=_
 congr 1
 funext b
 cases b <;> rfl
theorem sort2 {prog:Program} {w:World} {A:Around} {E:Value→Shared→Prop} {s:Shared} {a:Addr} {m:Nat} {v1 v2:Value} {P:PySem.Fin→Shared→Prop} {κ:SortKind} {lt:Bool} (ho:s.heap.get? a=some (seqObj "list" #[v1,v2] m))
  (hk:∀ (E:Value→Shared→Prop) (s':Shared) (Q:SortKind→Shared→Prop),(∀ b o,b≠a→s.heap.get? b=some o→s'.heap.get? b=some o)→Q κ s'→wpAny (model prog w) A (keyKind' #[v1,v2]) Q E s')
  (hlt:∀ (E:Value→Shared→Prop) (s':Shared) (Q:Bool→Shared→Prop),(∀ b o,b≠a→s.heap.get? b=some o→s'.heap.get? b=some o)→Q lt s'→wpAny (model prog w) A (keyLt' κ v2 v1) Q E s')
  (h:∀ h' c,(∀ b o,b≠a→s.heap.get? b=some o→h'.get? b=some o)→h'.get? a=some (seqObj "list" (if lt then #[v2,v1] else #[v1,v2]) c)→P (.done (.ret .none)) { s with heap:=h' }) :
  wpAny (model prog w) A (Builtin.«list.sort» ⟨[.ref a],[]⟩) P E s:=by
 have s1:=Heap.SameBut.update s.heap a (Obj.mapSeq fun _=>(#[]:Array Value))
 obtain ⟨e1,ho1⟩:∃ e1,(s.heap.update a (Obj.mapSeq fun _=>(#[]:Array Value))).get? a=some (seqObj "list" #[] e1):=⟨_,get?_update_seq ho fun _=>#[]⟩
 have kk:∀ b o,b≠a→s.heap.get? b=some o→(((s.heap.update a (Obj.mapSeq fun _=>(#[]:Array Value))).push (seqObj "tuple" #[v1,v2] 0)).push (seqObj "list" #[] 0)).get? b=some o:=fun b o hb e =>
  Heap.get?_push_of_some _ (Heap.get?_push_of_some _ ((s1.2 b hb).trans e))
 have ho3:(((s.heap.update a (Obj.mapSeq fun _=>(#[]:Array Value))).push (seqObj "tuple" #[v1,v2] 0)).push (seqObj "list" #[] 0)).get? a=some (seqObj "list" #[] e1):=Heap.get?_push_of_some _ (Heap.get?_push_of_some _ ho1)
 rw [list_sort_plain]
 refine wpAny_bind (listItems_at ho rfl ?_)
 refine wpAny_bind (listUpdate_at ho rfl ?_ (show 2≤sizeLine by decide) (Nat.zero_le _))
 refine wpAny_bind (seqEpoch_at ho1 rfl ?_)
 refine wpAny_bind (wpAny_newTuple ?_ (show 2≤sizeLine by decide))
 refine wpAny_bind (wpAny_newList ?_ (Nat.zero_le _))
 refine wpAny_holding ?_
 show wpAny (model prog w) A _ P E { s with heap:=((s.heap.update a (Obj.mapSeq fun _=>(#[]:Array Value))).push (seqObj "tuple" #[v1,v2] 0)).push (seqObj "list" #[] 0) }
 dsimp only
 have hn2:¬ (#[v1,v2]:Array Value).size<2:=(show ¬ 2<2 by decide)
 rw [if_neg hn2,if_neg hn2]
 refine wpAny_bind (hk _ _ _ kk ?_)
 refine wpAny_bind (wpAny_mono (kat_run (vs:=[v1,v2]) (ks:=[v1,v2]) (κ:=κ) (G:=fun p s'=>p=(if lt then #[1,0] else #[0,1])∧s'={ s with heap:=((s.heap.update a (Obj.mapSeq fun _=>(#[]:Array Value))).push (seqObj "tuple" #[v1,v2] 0)).push (seqObj "list" #[] 0) })
  (Q:=fun st' s'=>∃ p:Array Nat,p.size=2∧arrOf st'=p.map (kas_item ([v1,v2].toArray.zip [v1,v2].toArray))∧failedOf st'=none∧p=(if lt then #[1,0] else #[0,1])∧s'={ s with heap:=((s.heap.update a (Obj.mapSeq fun _=>(#[]:Array Value))).push (seqObj "tuple" #[v1,v2] 0)).push (seqObj "list" #[] 0) })
  rfl (Nat.le_refl 2) (by show 2<64;decide) (fun p' st' s' a1 a2 a3 a4=>⟨p',a1,a2,a3,a4⟩) ?_) ?_ fun _ _ e=>e)
 ·rw [show ([v1,v2]:List Value).length=2 from rfl,kas2]
  exact hlt _ _ _ kk ⟨rfl,rfl⟩
 ·intro rz1 s' rz2
  obtain ⟨⟨⟩,st'⟩:=rz1
  obtain ⟨p,hp,har,hf,hpe,rfl⟩:=rz2
  dsimp only
  have hout:=kat_snds (vs:=[v1,v2]) (ks:=[v1,v2]) rfl har
  have hres:(arrOf st').map (·.2)=(if lt then #[v2,v1] else #[v1,v2]):=by
   rw [hout,hpe];cases lt <;> rfl
  rw [hres]
  obtain ⟨c2,hc2⟩:∃ c2,((((s.heap.update a (Obj.mapSeq fun _=>(#[]:Array Value))).push (seqObj "tuple" #[v1,v2] 0)).push (seqObj "list" #[] 0)).update a (Obj.mapSeq fun _=>(if lt then #[v2,v1] else #[v1,v2]))).get? a=some (seqObj "list" (if lt then #[v2,v1] else #[v1,v2]) c2):=⟨_,get?_update_seq ho3 fun _=>(if lt then #[v2,v1] else #[v1,v2])⟩
  refine wpAny_bind (seqEpoch_at ho3 rfl ?_)
  refine wpAny_bind (listUpdate_at ho3 rfl ?_ (Nat.zero_le _) (by cases lt <;> exact (show 2≤sizeLine+1 by decide)))
  rw [hf]
  simp only [bne_self_eq_false,Bool.false_eq_true,if_false]
  exact wpAny_pure (h _ c2 (fun b o hb e=>(Heap.get?_update_other _ _ (Ne.symm hb)).trans (kk b o hb e)) hc2)
theorem sorted2c {env:Env} {oa:Nat→Option Addr} {A:Around} {s:Shared} {E:Value→Shared→Prop} {l p q:Addr} {op oq:Obj} {vp vq:Array Value} {np nq:Nat} {a b:Str} {ta tb:Tok} {x2 y2:Value} {P1 P2:D} (hne:a≠b)
  (h1:s.heap.IsList l #[Value.ref p,Value.ref q]) (p1:s.heap.get? p=some op) (p2:op.cls=.type "tuple") (p3:op.data=.seq vp np) (q1:s.heap.get? q=some oq) (q2:oq.cls=.type "tuple") (q3:oq.data=.seq vq nq)
  (ep:vp.toList=[.str a ta,x2]) (eq:vq.toList=[.str b tb,y2]) (evp:vp[0]?=some (.str a ta)) (evq:vq[0]?=some (.str b tb)) (i1':Im s.heap (.ref p) P1) (i2':Im s.heap (.ref q) P2) :
  wpAny (model B.prog B.w) A (call (.builtin "sorted") [.ref l]) (fun v s'=>Kp B s s'∧VR B env oa s s' v (.ct .fr (.lst (if sle a b=true then [P1,P2] else [P2,P1])))) E s:=by
 refine Calls.call_function_entry kind_sorted plain_sorted entry_sorted (args_sorted1 _) ?_
 unfold Builtin.«sorted»
 refine wpAny_bind (m:=checkCount "sorted" 1 1 _) (wpAny_pure ?_)
 refine wpAny_bind (collect_list (vs:=[.ref p,.ref q]) h1 ?_ (show 2≤sizeLine by decide))
 refine wpAny_bind (wpAny_newList ?_ (show 2≤sizeLine by decide))
 have hsz:((s.heap.push (seqObj "list" #[] 0)).update s.heap.objs.size (Obj.mapSeq (·++[Value.ref p,Value.ref q].toArray))).objs.size=s.heap.objs.size+1:=by
  rw [Heap.size_update,size_push']
 have hoL:(((s.heap.push (seqObj "list" #[] 0)).update s.heap.objs.size (Obj.mapSeq (·++[Value.ref p,Value.ref q].toArray))).push (seqObj "list" [Value.ref p,Value.ref q].toArray 0)).get? (s.heap.objs.size+1)=some (seqObj "list" [Value.ref p,Value.ref q].toArray 0):=by
  rw [← hsz];exact Heap.get?_push_size _ rfl
 have keep:∀ b o,s.heap.get? b=some o→(((s.heap.push (seqObj "list" #[] 0)).update s.heap.objs.size (Obj.mapSeq (·++[Value.ref p,Value.ref q].toArray))).push (seqObj "list" [Value.ref p,Value.ref q].toArray 0)).get? b=some o:=fun b o q=>by
  have hlt:b<s.heap.objs.size:=Heap.lt_size q
  rw [Heap.get?_push_ne _ _ _ (by rw [hsz];exact Nat.ne_of_lt (Nat.lt_succ_of_lt hlt)),Heap.get?_update_ne _ _ _ _ (Nat.ne_of_lt hlt),Heap.get?_push_ne _ _ _ (Nat.ne_of_lt hlt)]
  exact q
 have nl:∀ {b o},s.heap.get? b=some o→b≠s.heap.objs.size+1:=fun q=>Nat.ne_of_lt (Nat.lt_succ_of_lt (Heap.lt_size q))
 show wpAny _ _ _ _ _ { s with heap:=((s.heap.push (seqObj "list" #[] 0)).update s.heap.objs.size (Obj.mapSeq (·++[Value.ref p,Value.ref q].toArray))).push (seqObj "list" [Value.ref p,Value.ref q].toArray 0) }
 rw [hsz]
 refine wpAny_bind (wpAny_holding (wpAny_call_entry slot_list_sort ⟨_,hoL,rfl⟩ entry_list_sort (sort2 (κ:=tuples' true) (lt := !sle a b) hoL ?_ ?_ ?_) (args_list_sort _)))
 ·intro E' s' Q' k' hq'
  refine kat_kind (vs:=[.ref p,.ref q]) (fs:=[.str a ta,.str b tb]) (T:=.type "str") (.cons (k' _ _ (nl p1) (keep _ _ p1)) p2 p3 evp (.cons (k' _ _ (nl q1) (keep _ _ q1)) q2 q3 evq .nil)) (show 0<2 by decide) (fun v hv=>?_) (by decide) hq'
  rcases List.mem_cons.mp hv with rfl | hv
  ·exact Looks.of_pure rfl
  ·rcases List.mem_cons.mp hv with rfl | hv
   ·exact Looks.of_pure rfl
   ·cases hv
 ·intro E' s' Q' k' hq'
  refine kat_lt (k' _ _ (nl q1) (keep _ _ q1)) q3 (k' _ _ (nl p1) (keep _ _ p1)) p3 ?_
  rw [eq,ep]
  refine kat_cons (EqAt.str_str b tb a ta B.prog B.w _ _ ?_)
  rw [show (b == a)=false from by simpa using Ne.symm hne]
  refine kat_no (strKind_oneLt B.prog B.w _ _ _ (.str b tb) (.str a ta) b.cps.toList a.cps.toList rfl rfl ?_)
  have e:decide (b.cps.toList<a.cps.toList) = !sle a b:=by unfold sle;rw [ltCps_eq,Bool.not_not]
  show Q' (decide (b.cps.toList<a.cps.toList)) s'
  rw [e];exact hq'
 ·intro h' c k' hc
  refine ⟨_,rfl,wpAny_pure ⟨_,rfl,?_⟩⟩
  have kk:∀ b o,s.heap.get? b=some o→h'.get? b=some o:=fun b o q=>k' b o (nl q) (keep b o q)
  have k:Kp B s { s with heap:=h' }:=Kp.of (t:=s.toks) kk
  refine ⟨k,_,rfl,⟨_,_,_,hc,⟨rfl,rfl⟩,rfl,?_⟩,sortedNew (vs:=[]) (out:=#[])⟩
  cases e:sle a b with
  | true=>exact .cons (i1'.grow k.tups) (.cons (i2'.grow k.tups) .nil)
  | false=>exact .cons (i2'.grow k.tups) (.cons (i1'.grow k.tups) .nil)
theorem BuiS.sorted2 {m:Md} {a b:Str} {i j:Int} (hne:a≠b):BuiS B n (.builtin "sorted") [.ct m (.lst [.tup [.str a,.int i],.tup [.str b,.int j]])] (.ct .fr (.lst (if sle a b then [.tup [.str a,.int i],.tup [.str b,.int j]] else [.tup [.str b,.int j],.tup [.str a,.int i]]))):=.one fun env oa A s0 s v E bs ar x=>by
 refine e2_3 x.lst ?_
 intro l vs ez4 h1 h2
 clear x;subst ez4
 refine e2_3 h2.two ?_
 clear h2
 intro w1 w2 hvs i1 i2
 have hva:vs=#[w1,w2]:=by apply Array.toList_inj.mp;rw [hvs]
 clear hvs;subst hva
 refine e4_5 i1.tupI ?_
 intro p op vp np ez p1 p2 p3 p4
 subst ez
 refine e4_5 i2.tupI ?_
 intro q oq vq nq ez q1 q2 q3 q4
 subst ez
 refine e2_3 p4.two ?_
 clear p4
 intro x1 x2 ep pa _
 refine e1_1 pa.strI ?_
 clear pa
 intro ta ez
 subst ez
 refine e2_3 q4.two ?_
 clear q4
 intro y1 y2 eq qa _
 refine e1_1 qa.strI ?_
 clear qa
 intro tb ez
 subst ez
 exact sorted2c hne h1 p1 p2 p3 q1 q2 q3 ep eq (by rw [← Array.getElem?_toList,ep];rfl) (by rw [← Array.getElem?_toList,eq];rfl) i1 i2
theorem store3 {env oa A} {s s0:Shared} {x y z px py pz d e f} {v1 v2 v3:Value} {E:Value→Shared→Prop} {i j l:Nat} {kx ky kz:Kd} (hx:F.vars[i]?=some (x,kx)) (hy:F.vars[j]?=some (y,ky)) (hz:F.vars[l]?=some (z,kz)) (hkx:kx≠.fre) (hky:ky≠.fre) (hkz:kz≠.fre) (hi:i<F.own) (hj:j<F.own) (hl:l<F.own)
  (R:Rp B F env oa ρ s) (k0:Kp B s s0) (m1:Im s0.heap v1 d) (m2:Im s0.heap v2 e) (m3:Im s0.heap v3 f) :
  wpAny (model B.prog B.w) A (assignInOrder [assign (.Name x px) env,assign (.Name y py) env,assign (.Name z pz) env] [v1,v2,v3])
   (fun _ s'=>∃ oa',Rp B F env oa' (((ρ.set i (some (.im d))).set j (some (.im e))).set l (some (.im f))) s'∧KpW B (Priv env) s s'∧OwnFrom s oa oa'∧∀ K,F.vars.length≤K→oa' K=oa K) E s0:=by
 show wpAny _ _ (do holding [v2,v3] (assign (.Name x px) env v1);assignInOrder [assign (.Name y py) env,assign (.Name z pz) env] [v2,v3]) _ _ _
 refine wpAny_bind (wpAny_holding (wpAny_assign_Name (wpAny_mono (storeVar R k0 (r:=.im d) m1 hx rfl hkx hi) (fun _ s1 hz2=>?_) fun _ _ x=>x)))
 refine e0_4 hz2 ?_
 clear hz2
 intro R1 k1' o1 _
 have k1:KpW B (Priv env) s s1:=(Kp.toW k0).trans k1' fun _ x=>.inl x
 show wpAny _ _ (do holding [v3] (assign (.Name y py) env v2);assignInOrder [assign (.Name z pz) env] [v3]) _ _ _
 refine wpAny_bind (wpAny_holding (wpAny_assign_Name (wpAny_mono (storeVar R1 (Kp.refl _) (r:=.im e) (m2.grow k1'.tups) hy rfl hky hj) (fun _ s2 hz3=>?_) fun _ _ x=>x)))
 refine e0_4 hz3 ?_
 clear hz3
 intro R2 k2 o2 _
 have k12:KpW B (Priv env) s s2:=k1.trans k2 fun _ x=>.inl x
 show wpAny _ _ (do holding [] (assign (.Name z pz) env v3);assignInOrder [] []) _ _ _
 refine wpAny_bind (wpAny_holding (wpAny_assign_Name (wpAny_mono (storeVar R2 (Kp.refl _) (r:=.im f) ((m3.grow k1'.tups).grow k2.tups) hz rfl hkz hl) (fun _ s3 hz4=>?_) fun _ _ x=>x)))
 refine e0_4 hz4 ?_
 clear hz4
 intro R3 k3 o3 _
 exact wpAny_pure ⟨_,R3,k12.trans k3 (fun _ x=>.inl x),(o1.trans k1 o2).trans k12 o3,fun K hK=>((oaSet_far (Nat.ne_of_gt (Nat.lt_of_lt_of_le (F.lt hz) hK))).trans (oaSet_far (Nat.ne_of_gt (Nat.lt_of_lt_of_le (F.lt hy) hK)))).trans (oaSet_far (Nat.ne_of_gt (Nat.lt_of_lt_of_le (F.lt hx) hK)))⟩
theorem each3 {x y z px py pz env}:assignEach [.Name x px,.Name y py,.Name z pz] env=[(false,assign (.Name x px) env),(false,assign (.Name y py) env),(false,assign (.Name z pz) env)]:=by rw [assignEach_name,assignEach_name,assignEach_name];rfl
theorem AsW.three {x y z px py pz k pos d e f} {Q:List (Option Sl)→Prop} (i j l:Nat) {kx ky kz:Kd} (hx:F.vars[i]?=some (x,kx)) (hy:F.vars[j]?=some (y,ky)) (hz:F.vars[l]?=some (z,kz)) (hkx:kx≠.fre) (hky:ky≠.fre) (hkz:kz≠.fre) (hi:i<F.own) (hj:j<F.own) (hl:l<F.own)
  (h:Q (((ρ.set i (some (.im d))).set j (some (.im e))).set l (some (.im f)))) (hq:B.quiet=true):AsW B F n ρ (.Tuple [.Name x px,.Name y py,.Name z pz] k pos) (.tup [d,e,f]) Q:=by
 refine .mk ?_
 intro env oa A s v E R a hv
 refine e4_5 hv.tupI ?_
 clear hv
 intro b o vs m ez h1 h2 h3 h4
 subst ez
 refine e3_4 h4.three ?_
 clear h4
 intro v1 v2 v3 hvs m1 m2 m3
 refine wpAny_assign_Tuple (a.handled hq) ⟨o,h1,h2,m,h3⟩ (by rw [each3,← Array.length_toList,hvs];rfl) (by rw [each3];rfl) fun h' hs=>?_
 rw [each3,hvs]
 have k0:Kp B s { s with heap:=h' }:=Kp.of (t:=s.toks) fun c ob q=>hs c ob (Nat.ne_of_lt (Heap.lt_size q)) q
 refine wpAny_mono (store3 hx hy hz hkx hky hkz hi hj hl R k0 (m1.grow k0.tups) (m2.grow k0.tups) (m3.grow k0.tups)) (fun _ s' hz=>?_) fun _ _ x=>x
 refine e1_2 hz ?_
 clear hz
 intro oa' q1 q2
 exact ⟨_,oa',h,q1,q2⟩
theorem unpackL3 {prog:Program} {w:World} {A:Around} {E:Value→Shared→Prop} {s:Shared} {t:Addr} {v1 v2 v3:Value} {Q:List Value→Shared→Prop} (hh:A.handled=none) (ht:s.heap.IsList t #[v1,v2,v3])
  (hQ:∀ h',Heap.ExtBut s.heap.objs.size s.heap h'→Q [v1,v2,v3] { s with heap:=h' }):wpAny (model prog w) A (unpackItems (.ref t) 3 none) Q E s:=by
 have hlt:t≠s.heap.objs.size:=e1_2 ht fun o ho _=>Nat.ne_of_lt (Heap.lt_size ho)
 unfold unpackItems
 refine wpAny_bind ?_
 unfold notIterableAtAll
 refine wpAny_bind (wpAny_specialOf ht.typeIs PySem.F.slot_list_iter.lookup ?_)
 refine wpAny_pure ?_
 skip
 refine wpAny_bind (wpAny_holding (wpAny_pyIter_list ht ?_))
 have h0:(s.heap.push { cls:=.type "list_iterator",data:=.fields #[.ref t,.int 0 0] }).IsListIter s.heap.objs.size t 0:=⟨_,Heap.get?_push_size _ rfl,rfl,rfl⟩
 refine wpAny_bind (wpAny_holding ?_)
 show wpAny _ _ (pyNext (.ref s.heap.objs.size) >>= _) _ _ _
 refine wpAny_bind (wpAny_pyNext_list_item h0 (ht.push _) (x:=v1) rfl fun g1 i1 s1=>?_)
 have l1:=(ht.push _).extBut s1.extBut hlt
 refine wpAny_bind (wpAny_holding ?_)
 show wpAny _ _ (pyNext (.ref s.heap.objs.size) >>= _) _ _ _
 refine wpAny_bind (wpAny_pyNext_list_item i1 l1 (x:=v2) rfl fun g2 i2 s2=>?_)
 have l2:=l1.extBut s2.extBut hlt
 refine wpAny_bind (wpAny_holding ?_)
 show wpAny _ _ (pyNext (.ref s.heap.objs.size) >>= _) _ _ _
 refine wpAny_bind (wpAny_pyNext_list_item i2 l2 (x:=v3) rfl fun g3 i3 s3=>?_)
 have l3:=l2.extBut s3.extBut hlt
 refine wpAny_bind (wpAny_holding (wpAny_pure (wpAny_pure (wpAny_pure (wpAny_pure ?_)))))
 rw [if_neg (show ¬ ([v1,v2,v3]:List Value).length<3 from Nat.lt_irrefl 3)]
 refine wpAny_bind (wpAny_holding (wpAny_pyNext_list_end hh i3 l3 rfl fun g4 s4=>?_))
 skip
 exact wpAny_pure (hQ g4 fun b o hb e=>s4 b o hb (s3.extBut b o hb (s2.extBut b o hb (s1.extBut b o hb (Heap.get?_push_of_some _ e)))))
theorem SW.assign3L {x y z px py pz k tpos value pos} {Q:Fl→List (Option Sl)→Prop} (i j l:Nat) {kx ky kz:Kd} (hx:F.vars[i]?=some (x,kx)) (hy:F.vars[j]?=some (y,ky)) (hz:F.vars[l]?=some (z,kz)) (hkx:kx≠.fre) (hky:ky≠.fre) (hkz:kz≠.fre) (hi:i<F.own) (hj:j<F.own) (hl:l<F.own) (hq:B.quiet=true)
  (h:EW B F X n ρ value fun r=>∃ d e f,r=.ct .fr (.lst [d,e,f])∧Q .next (((ρ.set i (some (.im d))).set j (some (.im e))).set l (some (.im f))))
  (hs:∀ env,swapsWithSole [.Tuple [.Name x px,.Name y py,.Name z pz] k tpos] value pos.line env=pure false) (hw:∀ env,swappedStores [.Tuple [.Name x px,.Name y py,.Name z pz] k tpos] value env=pure none):SW B F X n ρ (.Assign [.Tuple [.Name x px,.Name y py,.Name z pz] k tpos] value pos) Q :=
 .mk fun env oa A s hd R a=>wpAny_Assign_stores (wpAny_mono (h.go env oa A s R a) (fun v s1 hz=>by
  refine e1_3 hz ?_
  clear hz
  intro r ez5 k1 ez6
  obtain ⟨d,e,f,rfl,q⟩:=ez5
  obtain ⟨b,hb,⟨o,vs,m,ho,hc,hdt,hi4⟩,hfr⟩:=ez6
  clear hfr;cases hb
  show wpAny _ _ (PySem.assign (.Tuple [.Name x px,.Name y py,.Name z pz] k tpos) env (.ref b)) _ _ _
  refine e3_4 hi4.three ?_
  clear hi4
  intro v1 v2 v3 hvs m1 m2 m3
  have hva:vs=#[v1,v2,v3]:=by apply Array.toList_inj.mp;rw [hvs]
  clear hvs;subst hva
  rw [arm_assign_Tuple]
  refine wpAny_bind (wpAny_standAt ?_)
  unfold unpack
  rw [each3]
  refine wpAny_bind (wpAny_holding (unpackL3 (a.handled hq) ⟨o,ho,hc.1,m,hdt⟩ fun h' hs'=>?_))
  have k0:Kp B s1 { s1 with heap:=h' }:=Kp.of (t:=s1.toks) fun c ob q=>hs' c ob (Nat.ne_of_lt (Heap.lt_size q)) q
  refine wpAny_mono (store3 hx hy hz hkx hky hkz hi hj hl R (k1.trans k0) (m1.grow k0.tups) (m2.grow k0.tups) (m3.grow k0.tups)) (fun _ s' hz=>?_) fun _ _ x=>x
  refine e1_4 hz ?_
  clear hz
  intro oa' q1 q2 q3 _
  exact ⟨.next,_,oa',q,trivial,q1,q2.mono fun _ x=>.inl x,q3⟩) fun _ _ x=>x.toW) (hs env) (hw env)
end
end Mine
end

section
open PySem PySem.W PyProof.Rows PySem.Calls PyProof PySem.SeqAt
set_option backward.match.sparseCases false
set_option tactic.hygienic false
namespace Mine
section
variable {B:Bs} {F:Fi} {X:Str→Prop} {n:Nat} {ρ:List (Option Sl)}
theorem between {h h':Heap} {e it:Addr} {oi:Obj} (hi:h.get? it=some oi) (hi':∃ o,h'.get? it=some o) (hne:e≠it) (hfr:oi.isFreed=false) (k:∀ b o,b≠e→b≠it→h.get? b=some o→h'.get? b=some o) :
  ∃ g,Heap.ExtBut e h g∧Heap.ExtBut it g h'∧g.get? it=some oi∧g.get? e=h'.get? e:=by
 refine e1_1 hi' ?_
 clear hi'
 intro o ho
 have h1:(h'.update it fun _=>oi).get? it=some oi:=Heap.get?_update_self (fun _=>oi) ho hfr
 refine ⟨h'.update it fun _=>oi,fun b ob hb e1=>?_,fun b ob hb e1=>?_,h1,Heap.get?_update_other _ _ (Ne.symm hne)⟩
 ·by_cases q:b=it
  ·clear hb ho k hne;subst q;rw [hi] at e1;clear hfr;cases e1;exact h1
  ·exact (Heap.get?_update_other _ _ (Ne.symm q)).trans (k b ob hb q e1)
 ·exact (Heap.get?_update_other _ _ (Ne.symm hb)).symm.trans e1
theorem enumCls {o:Obj} {vs:Array Value} (hc:o.cls=.type "enumerate") (hd:o.data=.fields vs):ItCls o:=⟨⟨vs,hd⟩,_,hc,by decide,by decide,by decide,by decide,by decide⟩
theorem literCls {o:Obj} {vs:Array Value} (hc:o.cls=.type "list_iterator") (hd:o.data=.fields vs):ItCls o:=⟨⟨vs,hd⟩,_,hc,by decide,by decide,by decide,by decide,by decide⟩
theorem enumStep {env:Env} {oa:Nat→Option Addr} {A:Around} {s0 s:Shared} {W:Addr→Prop} {e it:Addr} {oe oi oe':Obj} {h':Heap} {t:Nat} (R:Rp B F env oa ρ s) (a:Ar B A n s) (k0:KpW B W s0 s) (he0:s0.heap.get? e=none) (hi0:s0.heap.get? it=none) (hbe:B.hB.get? e=none) (hbi:B.hB.get? it=none)
  (hfe:¬ FW env oa e) (hfi:¬ FW env oa it) (he:s.heap.get? e=some oe) (hi:s.heap.get? it=some oi) (ce:ItCls oe) (ci:ItCls oi) (he':h'.get? e=some oe') (ce':ItCls oe') (hi':∃ o,h'.get? it=some o) (hne:e≠it)
  (k:∀ b o,b≠e→b≠it→s.heap.get? b=some o→h'.get? b=some o):Rp B F env oa ρ { s with heap:=h',toks:=t }∧Ar B A n { s with heap:=h',toks:=t }∧KpW B W s0 { s with heap:=h',toks:=t }∧Grow s.heap h':=by
 have nt:∀ {o:Obj},ItCls o→o.cls≠.type "tuple":=fun c q=>by obtain ⟨_,T,hT,_,h2,_⟩:=c;rw [hT] at q;exact h2 (Value.type.inj q)
 have fr:oi.isFreed=false:=by obtain ⟨⟨vs,hd⟩,_⟩:=ci;exact Obj.isFreed_of_fields hd
 refine e1_4 (between hi hi' hne fr k) ?_
 intro g x1 x2 g1 g2
 have gr1:=growBut he (nt ce) x1
 have gr2:=growBut g1 (nt ci) x2
 have R1:=R.ext he ce hbe hfe x1 gr1 (t:=t)
 have a1:=a.ext he ce x1 (t:=t)
 have R2:=R1.ext (it:=it) g1 ci hbi hfi x2 gr2 (t:=t)
 have a2:=a1.ext (it:=it) g1 ci x2 (t:=t)
 have k1:=k0.ext he0 x1 (fun o q=>by rw [he] at q;clear he;cases q;exact ce.notCode) (t:=t)
 have k2:=k1.ext (it:=it) hi0 x2 (fun o q=>by rw [show g.get? it=some o from q] at g1;clear q fr hi;cases g1;exact ci.notCode) (t:=t)
 exact ⟨R2,a2,k2,fun b o vs m e1 c d=>gr2 b o vs m (gr1 b o vs m e1 c d) c d⟩
noncomputable def EnInv (B:Bs) (F:Fi) (n:Nat) (env:Env) (oa:Nat→Option Addr) (A:Around) (s:Shared) (I:Nat→List D→List (Option Sl)→Prop) (l:List D) (e it a:Addr) (items:Array Value) (m:Nat) (t:Shared):Prop :=
 ∃ k ρ' oa' old,k≤l.length∧m=l.length-k∧I k (l.drop k) ρ'∧Rp B F env oa' ρ' t∧Ar B A n t∧KpW B (FW env oa) s t∧OwnFrom s oa oa'∧IsEnum t.heap e it k old∧t.heap.IsListIter it a k∧t.heap.IsList a items∧Ims t.heap items.toList l∧¬ FW env oa' e∧¬ FW env oa' it∧¬ FW env oa' a
theorem SW.forEnum {es:List Expr} {kt:Nat} {tpos:Pos} {p1:Pos} {e:Expr} {cpos:Pos} {body:List Stmt} {pos:Pos} {Q:Fl→List (Option Sl)→Prop} (hk:F.scope.names.lookup (Str.ofString "enumerate")=some .globalImplicit) (hm:B.mg (Str.ofString "enumerate")=none)
  (h:EW B F X n ρ e fun r=>∃ l,(r=.ct .fz (.lst l)∨r=.ct .fr (.lst l))∧∃ I:Nat→List D→List (Option Sl)→Prop,I 0 l ρ ∧
   (∀ k d rest ρ',I k (d::rest) ρ'→AsW B F n ρ' (.Tuple es kt tpos) (.tup [.int k,d]) fun ρ2=>SWs B F X n ρ2 body fun fl ρ3=>match fl with | .next=>I (k+1) rest ρ3 | .cont=>I (k+1) rest ρ3 | .brk=>Q .next ρ3 | .ret r=>Q (.ret r) ρ3) ∧
   (∀ k ρ',I k [] ρ'→Q .next ρ'))
  (he0:∀ env r,starEach (e::r) env=(false,eval e env)::starEach r env) (hq:B.quiet=true):SW B F X n ρ (.For (.Tuple es kt tpos) (.Call (.Name "enumerate" p1) [e] [] cpos) body [] pos) Q:=by
 refine .mk ?_
 intro env oa A s hd R a
 refine wpAny_For ?_ (fun _=>rfl)
 refine wpAny_Call_ofName (loadBuiltin R hk hm (by decide +kernel:bootBuiltins "enumerate"=some (.type "enumerate")) ?_ (by decide) (by decide))
 refine PyProof.Rows.callWith_type1 (wpAny_items_cons (h.run R a (Kp.refl _) fun v s1 r q1 k1 x1=>wpAny_items_nil ?_) (he0 env [])) (he0 env []) rfl
 refine e1_2 q1 ?_
 clear q1
 intro l hr ez1
 refine e1_3 ez1 ?_
 clear ez1
 intro I hI hturn hend
 obtain ⟨a1,items,hva,hil,hims,hnf⟩:∃ a1 items,v=.ref a1∧s1.heap.IsList a1 items∧Ims s1.heap items.toList l∧¬ FW env oa a1:=by
  rcases hr with rfl | rfl
  ·refine e1_3 x1 ?_
   clear x1
   intro a1 hv ez2 hf
   obtain ⟨o,vs,m,ho,hc,hdt,hi⟩:=ez2
   exact ⟨a1,vs,hv,⟨o,ho,hc.1,m,hdt⟩,hi,hf⟩
  ·refine e1_3 x1 ?_
   clear x1
   intro a1 hv ez3 hf
   obtain ⟨o,vs,m,ho,hc,hdt,hi⟩:=ez3
   exact ⟨a1,vs,hv,⟨o,ho,hc.1,m,hdt⟩,hi,(R.new hf).1⟩
 clear x1;subst hva
 have R1:=R.kp k1
 have a1':=a.kp k1
 refine call_enumerate_list hil fun h2 hen hli hsz2 kk2=>?_
 have k2:Kp B s1 { s1 with heap:=h2 }:=Kp.of (t:=s1.toks) kk2
 have ne2:s1.heap.get? (s1.heap.objs.size+1)=none:=sortedNew (vs:=[]) (out:=#[])
 have ni2:s1.heap.get? s1.heap.objs.size=none:=fresh_size s1
 have k12:=k1.trans k2
 have hne0:=k1.fresh ne2
 have hni0:=k1.fresh ni2
 have hei:s1.heap.objs.size+1≠s1.heap.objs.size:=Nat.succ_ne_self _
 have hlen:items.size=l.length:=by rw [← Array.length_toList];exact hims.length
 have hil2:h2.IsList a1 items:=e1_2 hil fun o ho r=>⟨o,kk2 _ _ ho,r⟩
 have hla:a1<s1.heap.objs.size:=e1_2 hil fun o ho _=>Heap.lt_size ho
 refine wpAny_pyIter_enum hen ?_
 refine codeAny_loop' rfl (EnInv B F n env oa A s I l (s1.heap.objs.size+1) s1.heap.objs.size a1 items)
  (fun m t ht=>?_) l.length ⟨0,ρ,oa,.none,Nat.zero_le _,rfl,by simpa using hI,R.kp k12,a.kp k12,k12.toW,OwnFrom.refl _ _,hen,hli,hil2,hims.grow k2.tups,(R.new hne0).1,(R.new hni0).1,hnf⟩
 refine e4_13 ht ?_
 clear ht
 intro k ρ' oa' old hkl ez4 hI' R' a' kt' ot hen' hli' hl' hims' hf1 ez5
 subst ez4
 obtain ⟨hf2,hf3⟩:=ez5
 show wpAny _ _ ((forTurn (.Tuple es kt tpos) (.ref (s1.heap.objs.size+1)) body [] env).onRaise (fun x=>do noteFrame x env;theTreesLotGoes x)) _ _ t
 refine wpAny_noted ?_
 unfold forTurn
 have hbe:B.hB.get? (s1.heap.objs.size+1)=none:=(R.new hne0).2
 have hbi:B.hB.get? s1.heap.objs.size=none:=(R.new hni0).2
 refine e1_3 (id hli') ?_
 intro oi hoi hci hdi
 have ci:=literCls hci hdi
 rcases Nat.lt_or_ge k l.length with hlt | hge
 ·-- a turn
  obtain ⟨d,hd'⟩:∃ d,l.drop k=d::l.drop (k+1):=⟨l[k],by rw [List.drop_eq_getElem_cons hlt]⟩
  have hx:items[k]?=some items[k]:=by simp [hlen,hlt]
  have him:Im t.heap items[k] d:=by
   have:=hims'.drop k
   rw [hd',List.drop_eq_getElem_cons (by rw [Array.length_toList,hlen];exact hlt)] at this
   cases this with | cons w _=>simpa using w
  refine wpAny_bind (wpAny_standAt (wpAny_bind (wpAny_onRaise (wpAny_pyNext_enum_item hen' hli' hl' hx hei fun h3 heo hit3 ht3 hz3 hk3=>?_))))
  obtain ⟨R3,a3,k3,g3⟩:=enumStep (t:=t.toks+1) R' a' kt' hne0 hni0 hbe hbi hf1 hf2 hen' hoi (enumCls rfl rfl) ci heo (enumCls rfl rfl) (e1_2 hit3 fun o ho _=>⟨o,ho⟩) hei hk3
  refine wpAny_bind (wpAny_letOwnedTupleGo_enum heo fun h4 he4 hs4=>?_)
  refine e1_3 (id hit3) ?_
  intro oi3 hoi3 hci3 hdi3
  have hoi4:h4.get? s1.heap.objs.size=some oi3:=(hs4.2 _ (Ne.symm hei)).trans hoi3
  refine e0_4 (enumStep (s:={ t with heap:=h3,toks:=t.toks+1 }) (t:=t.toks+1) R3 a3 k3 hne0 hni0 hbe hbi hf1 hf2 heo hoi3 (enumCls rfl rfl) (literCls hci3 hdi3) he4 (enumCls rfl rfl) ⟨_,hoi4⟩ hei (fun b o hb _ e=>(hs4.2 b hb).trans e)) ?_
  intro R4 a4 k4 g4
  have htup:Im h4 (.ref t.heap.objs.size) (.tup [.int k,d]):=by
   have hne:t.heap.objs.size≠s1.heap.objs.size+1:=Nat.ne_of_gt (Heap.lt_size hen')
   refine .tup ((hs4.2 _ hne).trans ht3) rfl rfl (.cons (.int _ _) (.cons ((him.grow g3).grow g4) .nil))
  refine wpAny_bind (wpAny_mono ((hturn k d (l.drop (k+1)) ρ' (hd'▸hI')).go env oa' A _ (.ref t.heap.objs.size) _ R4 a4 htup) (fun _ t2 hz12=>?_) fun _ _ x=>x)
  refine e2_5 hz12 ?_
  clear hz12
  intro ρ2 oa2 q2 R2 kp2 o2 _
  have k2':KpW B (FW env oa') _ t2:=kp2.mono fun _ x=>.inl x
  have le4:∃ o,h4.get? (s1.heap.objs.size+1)=some o:=⟨_,he4⟩
  have li4:∃ o,h4.get? s1.heap.objs.size=some o:=⟨_,hoi4⟩
  have hl3:h3.IsList a1 items:=e1_2 hl' fun o ho r=>⟨o,hk3 _ _ (Nat.ne_of_lt (Nat.lt_succ_of_lt hla)) (Nat.ne_of_lt hla) ho,r⟩
  have hl4:h4.IsList a1 items:=e1_2 hl3 fun o ho r=>⟨o,(hs4.2 _ (Nat.ne_of_lt (Nat.lt_succ_of_lt hla))).trans ho,r⟩
  have la4:∃ o,h4.get? a1=some o:=e1_2 hl4 fun o ho _=>⟨o,ho⟩
  have hf12:=notFW hf1 o2 le4
  have hf22:=notFW hf2 o2 li4
  have hf32:=notFW hf3 o2 la4
  have kt2:=k4.trans k2' (FW.from ot)
  have ot2:=ot.trans k4 o2
  refine wpAny_bind (wpAny_mono (q2.go env oa2 A t2 hd R2 (a4.kp k2')) (fun f t3 x=>?_) fun e t3 x=>x.elim)
  refine e3_5 x ?_
  clear x
  intro fl ρ3 oa3 q3 r3 R3' k3' o3
  have kt3:=kt2.trans k3' (FW.from ot2)
  have ot3:=ot2.trans kt2 o3
  have up:∀ b o T,h4.get? b=some o→o.cls=.type T→T≠"frame"→¬ FW env oa' b→¬ FW env oa2 b→t3.heap.get? b=some o:=fun b o T e1 c1 c2 n1 n2=>by
   have cc:o.cls≠.type "frame"∧o.cls≠.none:=⟨by rw [c1];intro q;exact c2 (Value.type.inj q),by rw [c1];nofun⟩
   exact k3'.keep b o (k2'.keep b o e1 n1 (.inl cc)) n2 (.inl cc)
  have hen3:IsEnum t3.heap (s1.heap.objs.size+1) s1.heap.objs.size ((k+1:Nat):Int) items[k]:=by
   rw [show ((k+1:Nat):Int)=(k:Int)+1 by push_cast;rfl]
   exact up _ _ "enumerate" he4 rfl (by decide) hf1 hf12
  have hli3:t3.heap.IsListIter s1.heap.objs.size a1 (k+1):=⟨oi3,up _ _ _ hoi4 hci3 (by decide) hf2 hf22,hci3,hdi3⟩
  have hl5:t3.heap.IsList a1 items:=e1_3 hl4 fun o ho hc r=>⟨o,up _ _ _ ho hc (by decide) hf3 hf32,hc,r⟩
  have live:∀ b,(∃ o,h4.get? b=some o)→∃ o,t2.heap.get? b=some o:=fun b q=>by obtain ⟨o,ho⟩:=q;obtain ⟨o',ho',_⟩:=k2'.live b o ho;exact ⟨o',ho'⟩
  have again:I (k+1) (l.drop (k+1)) ρ3→∃ m,m<l.length-k∧EnInv B F n env oa A s I l (s1.heap.objs.size+1) s1.heap.objs.size a1 items m t3:=fun hI3 =>
   ⟨l.length-(k+1),Nat.sub_succ_lt_self _ _ hlt,k+1,ρ3,oa3,_,hlt,rfl,hI3,R3',(a4.kp k2').kp k3',kt3,ot3,hen3,hli3,hl5,(((hims'.grow g3).grow g4).grow k2'.tups).grow k3'.tups,notFW hf12 o3 (live _ le4),notFW hf22 o3 (live _ li4),notFW hf32 o3 (live _ la4)⟩
  cases f with
  | next=>cases fl with
   | next=>exact wpAny_pure (.inl ⟨rfl,again q3⟩)
   | _=>exact r3.elim
  | cont=>cases fl with
   | cont=>exact wpAny_pure (.inl ⟨rfl,again q3⟩)
   | _=>exact r3.elim
  | brk=>cases fl with
   | brk=>exact wpAny_pure ⟨.next,ρ3,oa3,q3,trivial,R3',kt3,ot3⟩
   | _=>exact r3.elim
  | ret v=>cases fl with
   | ret r=>exact wpAny_pure ⟨.ret r,ρ3,oa3,q3,FlR.back (f:=.ret v) (fl:=.ret r) kt2 r3,R3',kt3,ot3⟩
   | _=>exact r3.elim
 ·-- the end
  have hk':k=l.length:=Nat.le_antisymm hkl hge
  have hx:items[k]?=none:=Array.getElem?_eq_none (by rw [hlen];exact hge)
  refine wpAny_bind (wpAny_standAt (wpAny_bind (wpAny_onRaise (wpAny_pyNext_enum_end (a'.handled hq) hen' hli' hl' hx fun h3 hx3=>?_))))
  refine wpAny_pure (.inr ⟨rfl,codeAny_block (wpAny_execs_nil ?_)⟩)
  have g3:=growBut hoi (by rw [hci];decide) hx3
  have R1:=R'.ext hoi ci hbi hf2 hx3 g3 (t:=t.toks)
  have k3:=kt'.ext hni0 hx3 (fun o q=>by rw [hoi] at q;clear hdi hci hoi;cases q;exact ci.notCode) (t:=t.toks)
  rw [hk',List.drop_length] at hI'
  exact ⟨.next,ρ',oa',hend _ ρ' hI',trivial,R1,k3,ot⟩
end
end Mine
end

section
open PySem PySem.W PyProof.Rows PySem.Calls PyProof
set_option backward.match.sparseCases false
set_option tactic.hygienic false
namespace Mine
structure V where
 tag:Nat
 s:Str
 c:Const
 es:List Expr
 os:List (Option Expr)
 bop:Operator
 cop:CmpOp
 uop:UnaryOp
 lop:BoolOp
 sc:Scope
noncomputable def v0:V:=⟨0,"",.none,[],[],.Add,.Eq,.Not,.And,⟨.function,[],false,false,[]⟩⟩
noncomputable def vCmp (l:Expr):List CmpOp→List Expr→V
 | [op],[r]=>{ v0 with tag:=4,cop:=op,es:=[l,r] }
 | _,_=>v0
noncomputable def vCall (as:List Expr) (q:Pos):Expr→V
 | .Name f _=>{ v0 with tag:=10,s:=f,es:=as }
 | .Attribute o f ap=>bif ap.endLine == q.line then { v0 with tag:=11,s:=f,es:=o::as } else v0
 | _=>v0
noncomputable def vKw (v:V):List Keyword→V
 | []=>v
 | _=>v0
noncomputable def vSlc (lo hi:Option Expr):Option Expr→V
 | none=>{ v0 with tag:=9,os:=[lo,hi] }
 | _=>v0
noncomputable def vComp (elt:Expr) (sc:Scope):List Comprehension→V
 | [⟨t,it,ifs,k⟩]=>bif k == 0 then { v0 with tag:=14,sc:=sc,es:=elt::t::it::ifs } else v0
 | _=>v0
noncomputable def vLam (b:Expr) (sc:Scope):Arguments→V
 | ⟨[],[⟨p,none,_⟩],none,[],[],none,[]⟩=>{ v0 with tag:=16,s:=p,sc:=sc,es:=[b] }
 | _=>v0
noncomputable def view:Expr→V
 | .Name x _=>{ v0 with tag:=1,s:=x }
 | .Constant c _ _=>{ v0 with tag:=2,c:=c }
 | .BinOp l op r _=>{ v0 with tag:=3,bop:=op,es:=[l,r] }
 | .Compare l ops rs _=>vCmp l ops rs
 | .UnaryOp op x _=>{ v0 with tag:=5,uop:=op,es:=[x] }
 | .BoolOp op es _=>{ v0 with tag:=6,lop:=op,es:=es }
 | .IfExp t b o _=>{ v0 with tag:=7,es:=[t,b,o] }
 | .Subscript a i _=>{ v0 with tag:=8,es:=[a,i] }
 | .Slice lo hi st _=>vSlc lo hi st
 | .Call f as kw q=>vKw (vCall as q f) kw
 | .Tuple es _ _=>{ v0 with tag:=12,es:=es }
 | .List es _=>{ v0 with tag:=13,es:=es }
 | .ListComp elt gs sc _=>vComp elt sc gs
 | .Dict ks vs _=>{ v0 with tag:=15,os:=ks,es:=vs }
 | .Lambda a b sc _=>vLam b sc a
 | _=>v0
noncomputable def Says (v:V) (e:Expr):Prop:=match v.tag with
 | 1=>∃ p,e=.Name v.s p
 | 2=>∃ k p,e=.Constant v.c k p
 | 3=>∃ l r p,e=.BinOp l v.bop r p∧v.es=[l,r]
 | 4=>∃ l r p,e=.Compare l [v.cop] [r] p∧v.es=[l,r]
 | 5=>∃ x p,e=.UnaryOp v.uop x p∧v.es=[x]
 | 6=>∃ p,e=.BoolOp v.lop v.es p
 | 7=>∃ t b o p,e=.IfExp t b o p∧v.es=[t,b,o]
 | 8=>∃ a i p,e=.Subscript a i p∧v.es=[a,i]
 | 9=>∃ lo hi p,e=.Slice lo hi none p∧v.os=[lo,hi]
 | 10=>∃ p q,e=.Call (.Name v.s p) v.es [] q
 | 11=>∃ o ap q r,e=.Call (.Attribute o v.s ap) r [] q∧v.es=o::r∧(ap.endLine == q.line)=true
 | 12=>∃ k p,e=.Tuple v.es k p
 | 13=>∃ p,e=.List v.es p
 | 14=>∃ elt t it ifs p,e=.ListComp elt [⟨t,it,ifs,0⟩] v.sc p∧v.es=elt::t::it::ifs
 | 15=>∃ p,e=.Dict v.os v.es p
 | 16=>∃ b pp p,e=.Lambda ⟨[],[⟨v.s,none,pp⟩],none,[],[],none,[]⟩ b v.sc p∧v.es=[b]
 | _=>True
theorem says0 (e:Expr):Says v0 e:=trivial
theorem view_says:∀ e:Expr,Says (view e) e
 | .Name _ _=>⟨_,rfl⟩
 | .Constant _ _ _=>⟨_,_,rfl⟩
 | .BinOp _ _ _ _=>⟨_,_,_,rfl,rfl⟩
 | .Compare _ ops rs _=>by
  cases ops with
  | nil=>exact says0 _
  | cons op ops=>cases ops with
   | cons _ _=>exact says0 _
   | nil=>cases rs with
    | nil=>exact says0 _
    | cons r rs=>cases rs with
     | nil=>exact ⟨_,_,_,rfl,rfl⟩
     | cons _ _=>exact says0 _
 | .UnaryOp _ _ _=>⟨_,_,rfl,rfl⟩
 | .BoolOp _ _ _=>⟨_,rfl⟩
 | .IfExp _ _ _ _=>⟨_,_,_,_,rfl,rfl⟩
 | .Subscript _ _ _=>⟨_,_,_,rfl,rfl⟩
 | .Slice _ _ st _=>by
  cases st with
  | none=>exact ⟨_,_,_,rfl,rfl⟩
  | some _=>exact says0 _
 | .Call f as kw q=>by
  cases kw with
  | cons _ _=>exact says0 _
  | nil=>cases f with
   | Name _ _=>exact ⟨_,_,rfl⟩
   | Attribute o f ap =>
    show Says (bif ap.endLine == q.line then _ else _) _
    cases h:(ap.endLine == q.line) with
    | true=>exact ⟨_,_,_,_,rfl,rfl,h⟩
    | false=>exact says0 _
   | _=>exact says0 _
 | .Tuple _ _ _=>⟨_,_,rfl⟩
 | .List _ _=>⟨_,rfl⟩
 | .ListComp _ gs _ _=>by
  cases gs with
  | nil=>exact says0 _
  | cons g gs =>
   obtain ⟨t,it,ifs,k⟩:=g
   cases gs with
   | cons _ _=>exact says0 _
   | nil =>
    show Says (bif k == 0 then _ else _) _
    cases h:(k == 0) with
    | true=>obtain rfl:=beq_iff_eq.mp h;exact ⟨_,_,_,_,_,rfl,rfl⟩
    | false=>exact says0 _
 | .Dict _ _ _=>⟨_,rfl⟩
 | .Lambda ⟨po,ar,va,ko,kd,ka,df⟩ b sc _=>by
  cases po with
  | cons _ _=>exact says0 _
  | nil=>cases ar with
   | nil=>exact says0 _
   | cons a ar=>cases ar with
    | cons _ _=>obtain ⟨p,an,pp⟩:=a;cases an <;> exact says0 _
    | nil =>
     obtain ⟨p,an,pp⟩:=a
     cases an with
     | some _=>exact says0 _
     | none=>cases va with
      | some _=>exact says0 _
      | none=>cases ko with
       | cons _ _=>exact says0 _
       | nil=>cases kd with
        | cons _ _=>exact says0 _
        | nil=>cases ka with
         | some _=>exact says0 _
         | none=>cases df with
          | cons _ _=>exact says0 _
          | nil=>exact ⟨_,_,_,rfl,rfl⟩
 | .NamedExpr _ _ _=>says0 _
 | .Set _ _ _=>says0 _
 | .SetComp _ _ _ _=>says0 _
 | .DictComp _ _ _ _ _=>says0 _
 | .GeneratorExp _ _ _ _=>says0 _
 | .Await _ _=>says0 _
 | .Yield _ _=>says0 _
 | .YieldFrom _ _=>says0 _
 | .FormattedValue _ _ _ _=>says0 _
 | .JoinedStr _ _=>says0 _
 | .Attribute _ _ _=>says0 _
 | .Starred _ _=>says0 _
theorem star_eq {e:Expr} (h:(view e).tag≠0) (env:Env) (r:List Expr):starEach (e::r) env=(false,eval e env)::starEach r env:=by
 cases e <;> first | rfl | exact absurd rfl h
theorem set_eq {e:Expr} (h:(view e).tag≠0) (env:Env) (x:Value):foldedSetIterable e env x=pure x:=by
 cases e <;> first | rfl | exact absurd rfl h
noncomputable def plainTag (t:Nat):Bool:=t == 1||t == 2||t == 8||t == 10||t == 11
theorem test_eq {e:Expr} (h:plainTag (view e).tag=true) (env:Env) (whole:Sem Value):isTrue e env whole=(do let v ← whole;standAt e.pos;holding [v] (truthy v)):=by
 have:=view_says e
 unfold Says at this
 simp only [plainTag,Bool.or_eq_true,beq_iff_eq] at h
 rcases h with (((h | h) | h) | h) | h <;> rw [h] at this
 ·obtain ⟨p,q⟩:=this;rw [q];rfl
 ·obtain ⟨_,p,q⟩:=this;rw [q];rfl
 ·obtain ⟨_,_,p,q,_⟩:=this;rw [q];rfl
 ·obtain ⟨_,p,q⟩:=this;rw [q];rfl
 ·obtain ⟨_,_,_,_,q,_⟩:=this;rw [q];rfl
noncomputable def notComp:Expr→Bool
 | .ListComp _ _ _ _=>false
 | .SetComp _ _ _ _=>false
 | .DictComp _ _ _ _ _=>false
 | _=>true
theorem swap_eq {e:Expr} (h:notComp e=true) (t:Option Expr) (l:Nat) (env:Env):swapsWith e t l env=pure false:=by
 cases e <;> first | rfl | cases h
noncomputable def plainIx (t:Nat):Bool:=t == 1||t == 2||t == 3||t == 8||t == 10
theorem ix_eq {e:Expr} (h:plainIx (view e).tag=true) (o i:Value):subscripted e false o i=operate [o,i] (getItem o i):=by
 have:=view_says e
 unfold Says at this
 simp only [plainIx,Bool.or_eq_true,beq_iff_eq] at h
 rcases h with (((h | h) | h) | h) | h <;> rw [h] at this
 ·obtain ⟨p,q⟩:=this;rw [q];rfl
 ·obtain ⟨_,p,q⟩:=this;rw [q];rfl
 ·obtain ⟨_,_,p,q,_⟩:=this;rw [q];rfl
 ·obtain ⟨_,_,p,q,_⟩:=this;rw [q];rfl
 ·obtain ⟨_,p,q⟩:=this;rw [q];rfl
end Mine
end

section
open PySem PySem.W PyProof.Rows PySem.Calls PyProof
set_option backward.match.sparseCases false
set_option tactic.hygienic false
namespace Mine
inductive Bi where
 | len | lst | tup | sorted | abs | any | range | dict
noncomputable def Bi.nm:Bi→Str
 | .len=>"len" | .lst=>"list" | .tup=>"tuple" | .sorted=>"sorted" | .abs=>"abs" | .any=>"any" | .range=>"range" | .dict=>"dict"
noncomputable def Bi.vl:Bi→Value
 | .len=>.builtin "len" | .lst=>.type "list" | .tup=>.type "tuple" | .sorted=>.builtin "sorted" | .abs=>.builtin "abs" | .any=>.builtin "any" | .range=>.type "range" | .dict=>.type "dict"
inductive Ty where
 | int | bool | str | tuple
noncomputable def Ty.nm:Ty→String
 | .int=>"int" | .bool=>"bool" | .str=>"str" | .tuple=>"tuple"
set_option genCtorIdx false in
inductive Tg where
 | one (i:Nat)
 | two (i j:Nat)
 | three (i j k:Nat)
set_option genCtorIdx false in
inductive Ex where
 | nm (i:Nat) | ci (i:Int) | cs (s:Str) | cb (b:Bool) | cn | gd (k:Nat) | gf
 | bin (op:Operator) (a b:Ex) | cmp (op:CmpOp) (a b:Ex) | neg (a:Ex) | not (a:Ex) | and2 (a b:Ex) | and3 (a b c:Ex) | or2 (a b:Ex) | ife (t a b:Ex)
 | sbc (a:Ex) (k:Int) | sub (a i:Ex) | slc (a lo hi:Ex)
 | call (f:Str) (as:Ex) | cav (i:Nat) (as:Ex) | clm (f:Str) (a:Ex) (names:List Str) (caps:List Nat) (body:Ex) | bui (b:Bi) (as:Ex) | isi (a:Ex) (t:Ty)
 | tup (as:Ex) | lst (as:Ex) | comp (vars:List (Str×Kd)) (m:Nat) (caps:List Nat) (t:Tg) (it c elt:Ex) | get (o k d:Ex)
 | dc0 | dd0 | di0 | dc1 (k v:Ex) | dss (a b c d:Str)
 | tv (a:Ex) | tn (t:Ex) | ta (ts:Ex) | to (ts:Ex) | tc (op:CmpOp) (a b:Ex)
 | nil | cons (a r:Ex) | no
noncomputable def Ex.len:Ex→Nat
 | .cons _ r=>r.len+1
 | _=>0
noncomputable def G9:List (Str×D):=[("YES",.tup [.str "and",.tup []]),("NO",.tup [.str "or",.tup []]),("ATOMS",.tup [.str "above",.str "nought",.str "goes"]),("BINDING",.tup [.str "some",.str "all"])]
noncomputable def fn9:List Str:=(["made","added","times","share","without","put_in","value","gcd","lcm","common_of","divided","turned","neat_above","neat_nought","neat_goes","neat_atom","joined","mapped","neat","atoms_of","stands","as_above",
 "pushed","inner","is_plain","need_plain","gather","unknowns","need_values","truth","is_true","filled","solved","by_nought","of_share_one","set_in","far_atom","edges_of","gone","away","left","holds","break_of","number_for","told",
 "_law_cell_at","_law_whole","_law_names_by","_law_big_by","_law_value","_law_true","_law_sum_is","_law_plain_is","_law_sum","_law_kind","_law_same"]:List String).map Str.ofString
noncomputable def os1 (o:List (Option Expr)) (k:Expr→Bool):Bool:=match o with
 | [some x]=>k x
 | _=>false
noncomputable def os2 (o:List (Option Expr)) (k:Expr→Expr→Bool):Bool:=match o with
 | [some x,some y]=>k x y
 | _=>false
noncomputable def inF (F:Fi) (i:Nat) (x:Str):Bool:=match F.vars[i]? with
 | some p=>p.1 == x
 | none=>false
noncomputable def setF (F:Fi) (i:Nat) (x:Str):Bool:=match F.vars[i]? with
 | some p=>p.1 == x && !decide (p.2=Kd.fre)&&decide (i<F.own)
 | none=>false
noncomputable def isG (F:Fi) (x:Str):Bool:=F.scope.names.lookup x == some .globalImplicit && !(x == ("__debug__":Str)) && !(x == ("__name__":Str))
noncomputable def chkN (F:Fi) (i:Nat) (e:Expr):Bool:=(view e).tag == 1&&setF F i (view e).s
noncomputable def chkTg (F:Fi):Tg→Expr→Bool
 | .one i,e=>chkN F i e
 | .two i j,e=>(view e).tag == 12&&match (view e).es with
  | [a,b]=>chkN F i a&&chkN F j b
  | _=>false
 | .three i j k,e=>(view e).tag == 12&&match (view e).es with
  | [a,b,c]=>chkN F i a&&chkN F j b&&chkN F k c
  | _=>false
noncomputable def tgIn (m:Nat):Tg→Bool
 | .one i=>decide (i<m)
 | .two i j=>decide (i<m)&&decide (j<m)
 | .three i j k=>decide (i<m)&&decide (j<m)&&decide (k<m)
noncomputable def chkLam (F:Fi) (sc:Scope) (caps:List Nat) (names:List Str):Bool :=
 decide (sc.kind=.function) && !sc.isGenerator && !sc.isCoroutine&&(sc.names.all fun x => !decide (x.2=.cell))&&sc.names.lookup ("atom":Str) == some .local &&
 (sc.names.all fun x => !decide (x.2=.free)||(F.vars.any fun y=>decide (y.1=x.1) && !decide (y.2=.loc))) &&
 decide (names.length=caps.length)&&((names.zip caps).all fun q=>sc.names.lookup q.1 == some .free&&(F.vars[q.2]?.any fun y=>decide (y.1=q.1) && !decide (y.2=.loc)))
noncomputable def isC (c:Const) (e:Expr):Bool:=(view e).tag == 2&&decide ((view e).c=c)
noncomputable def one1 (es:List Expr) (k:Expr→Bool):Bool:=match es with
 | [a]=>k a
 | _=>false
noncomputable def two2 (es:List Expr) (k:Expr→Expr→Bool):Bool:=match es with
 | [a,b]=>k a b
 | _=>false
noncomputable def three3 (es:List Expr) (k:Expr→Expr→Expr→Bool):Bool:=match es with
 | [a,b,c]=>k a b c
 | _=>false
noncomputable def constInt (k:Int) (e:Expr):Bool:=isC (.int k) e||((view e).tag == 5&&decide ((view e).uop=.USub)&&one1 (view e).es (isC (.int (-k))))
mutual
noncomputable def chkE (F:Fi):Ex→Expr→Bool
 | .nm i,e=>(view e).tag == 1&&inF F i (view e).s
 | .ci k,e=>isC (.int k) e
 | .cs k,e=>isC (.str k) e
 | .cb k,e=>isC (.bool k) e
 | .cn,e=>isC .none e
 | .gd k,e=>(view e).tag == 1&&(match G9[k]? with
  | some p=>p.1 == (view e).s&&isG F (view e).s
  | none=>false)
 | .gf,e=>(view e).tag == 1&&(view e).s == ("neat_atom":Str)&&isG F (view e).s
 | .bin op a b,e=>(view e).tag == 3&&decide ((view e).bop=op)&&two2 (view e).es fun l r=>chkE F a l&&chkE F b r
 | .cmp op a b,e=>(view e).tag == 4&&decide ((view e).cop=op)&&two2 (view e).es fun l r => !(behindInMarks op r)&&chkE F a l&&chkE F b r
 | .neg a,e=>(view e).tag == 5&&decide ((view e).uop=.USub)&&one1 (view e).es fun x=>chkE F a x
 | .not a,e=>(view e).tag == 5&&decide ((view e).uop=.Not)&&one1 (view e).es fun x=>chkE F a x
 | .and2 a b,e=>(view e).tag == 6&&decide ((view e).lop=.And)&&two2 (view e).es fun l r=>chkE F a l&&chkE F b r
 | .and3 a b c,e=>(view e).tag == 6&&decide ((view e).lop=.And)&&three3 (view e).es fun l r s=>chkE F a l&&chkE F b r&&chkE F c s
 | .or2 a b,e=>(view e).tag == 6&&decide ((view e).lop=.Or)&&two2 (view e).es fun l r=>chkE F a l&&chkE F b r
 | .ife t a b,e=>(view e).tag == 7&&three3 (view e).es fun x y z=>chkT F t x&&chkE F a y&&chkE F b z
 | .sbc a k,e=>(view e).tag == 8&&two2 (view e).es fun v s=>constInt k s&&decide (-100<k)&&decide (k<100)&&chkE F a v
 | .sub a i,e=>(view e).tag == 8&&two2 (view e).es fun v s=>plainIx (view s).tag&&chkE F a v&&chkE F i s
 | .slc a lo hi,e=>(view e).tag == 8&&two2 (view e).es fun v s=>(view s).tag == 9&&chkE F a v&&(match (view s).os with
  | [l,h]=>chkO F lo l&&chkO F hi h
  | _=>false)
 | .call f as,e=>(view e).tag == 10&&f == (view e).s&&isG F f&&fn9.contains f && !(view e).es.isEmpty&&chkEs F as (view e).es
 | .cav i as,e=>(view e).tag == 10&&inF F i (view e).s && !(view e).es.isEmpty&&chkEs F as (view e).es
 | .clm f a names caps body,e=>(view e).tag == 10&&f == (view e).s&&isG F f&&fn9.contains f&&F.lam&&two2 (view e).es fun x y => !((view x).tag == 0)&&chkE F a x&&(view y).tag == 16&&(view y).s == ("atom":Str)&&chkLam F (view y).sc caps names &&
   (if h:fiOk (view y).sc (lamVars "atom" names)=true then one1 (view y).es fun b=>chkE ⟨(view y).sc,lamVars "atom" names,1,h,false⟩ body b else false)
 | .bui b as,e=>(view e).tag == 10&&b.nm == (view e).s&&isG F (view e).s && !(view e).es.isEmpty&&chkEs F as (view e).es
 | .isi a t,e=>(view e).tag == 10&&(view e).s == ("isinstance":Str)&&isG F (view e).s&&two2 (view e).es fun x y => !((view x).tag == 0)&&chkE F a x&&(view y).tag == 1&&(view y).s == (Str.ofString t.nm)&&isG F (view y).s
 | .tup as,e=>(view e).tag == 12&&decide (as.len≤100)&&chkEs F as (view e).es
 | .lst as,e=>(view e).tag == 13&&decide (as.len≤100)&&chkEs F as (view e).es
 | .comp vars m caps t it c elt,e=>(view e).tag == 14&&(match (view e).es with
  | x::tg::i::ifs=>chkE F it i && !((view i).tag == 0)&&compB F (view e).sc m caps vars&&tgIn m t&&(if h:fiOk (relabelS (view e).sc F.scope) vars=true then
    chkTg (Fcm F (view e).sc vars m h) t tg&&chkC (Fcm F (view e).sc vars m h) c ifs&&chkE (Fcm F (view e).sc vars m h) elt x else false)
  | _=>false)
 | .get o k d,e=>(view e).tag == 11&&(view e).s == ("get":Str)&&three3 (view e).es fun x y z=>(view x).tag == 1&&chkE F o x && !((view y).tag == 0) && !((view z).tag == 0)&&chkE F k y&&chkE F d z
 | .dc0,e=>(view e).tag == 15&&(view e).os.isEmpty&&(view e).es.isEmpty
 | .dd0,e=>(view e).tag == 15&&(view e).os.isEmpty&&(view e).es.isEmpty
 | .di0,e=>(view e).tag == 15&&(view e).os.isEmpty&&(view e).es.isEmpty
 | .dc1 k v,e=>(view e).tag == 15&&os1 (view e).os fun x=>one1 (view e).es fun y=>chkE F k x&&chkE F v y
 | .dss a b c d,e=>(view e).tag == 15 && !(a == c)&&os2 (view e).os fun x y=>two2 (view e).es fun z w=>isC (.str a) x&&isC (.str c) y&&isC (.str b) z&&isC (.str d) w
 | _,_=>false
noncomputable def chkEs (F:Fi):Ex→List Expr→Bool
 | .nil,es=>es.isEmpty
 | .cons a r,es=>(match es with
  | e::es => !((view e).tag == 0)&&chkE F a e&&chkEs F r es
  | []=>false)
 | _,_=>false
noncomputable def chkO (F:Fi):Ex→Option Expr→Bool
 | .no,o=>o.isNone
 | .cons a _,o=>(match o with
  | some e=>chkE F a e
  | none=>false)
 | _,_=>false
noncomputable def chkC (F:Fi):Ex→List Expr→Bool
 | .no,es=>es.isEmpty
 | .cons a _,es=>one1 es fun e=>chkT F a e
 | _,_=>false
noncomputable def chkT (F:Fi):Ex→Expr→Bool
 | .tv a,e=>plainTag (view e).tag&&chkE F a e
 | .tn a,e=>(view e).tag == 5&&decide ((view e).uop=.Not)&&one1 (view e).es fun x=>chkT F a x
 | .ta as,e=>(view e).tag == 6&&decide ((view e).lop=.And)&&chkTs F as (view e).es
 | .to as,e=>(view e).tag == 6&&decide ((view e).lop=.Or)&&chkTs F as (view e).es
 | .tc op a b,e=>(view e).tag == 4&&decide ((view e).cop=op)&&two2 (view e).es fun l r => !(behindInMarks op r)&&chkE F a l&&chkE F b r
 | _,_=>false
noncomputable def chkTs (F:Fi):Ex→List Expr→Bool
 | .nil,es=>es.isEmpty
 | .cons a r,es=>(match es with
  | e::es=>chkT F a e&&chkTs F r es
  | []=>false)
 | _,_=>false
end
noncomputable def LamP (names:List Str) (body:Ex) (sc:Scope) (b:Expr):Prop:=∃ h:fiOk sc (lamVars "atom" names)=true,chkE ⟨sc,lamVars "atom" names,1,h,false⟩ body b=true
noncomputable def pyAt (l:List D) (k:Int):Option D:=match seqIndex? k l.length with
 | some j=>l[j]?
 | none=>none
noncomputable def allIm:List AV→Option (List D)
 | []=>some []
 | .im d::rs=>match allIm rs with
  | some ds=>some (d::ds)
  | none=>none
 | _::_=>none
section
variable (B:Bs) (n:Nat)
noncomputable def binW:Operator→AV→AV→(AV→Prop)→Prop
 | .Add,.im (.int a),.im (.int b),Q=>Q (.im (.int (a+b)))
 | .Sub,.im (.int a),.im (.int b),Q=>Q (.im (.int (a-b)))
 | .Mult,.im (.int a),.im (.int b),Q=>IntMulOk a b∧Q (.im (.int (a*b)))
 | .Mod,.im (.int a),.im (.int b),Q=>b≠0∧Q (.im (.int (a.fmod b)))
 | .FloorDiv,.im (.int a),.im (.int b),Q=>b≠0∧b.natAbs.log2<9000∧Q (.im (.int (a.fdiv b)))
 | .Add,.ct _ (.lst l),.ct _ (.lst l'),Q=>l.length+l'.length≤sizeLine∧Q (.ct .fr (.lst (l++l')))
 | .Add,.im (.str a),.im (.str b),Q=>a.length+b.length≤sizeLine∧Q (.im (.str (a++b)))
 | .Mult,.im (.str x),.im (.int k),Q=>MulOk x k∧Q (.im (.str (Txt.mul x k)))
 | .Add,.im (.tup l),.im (.tup l'),Q=>l.length+l'.length≤sizeLine∧Q (.im (.tup (l++l')))
 | _,_,_,_=>False
noncomputable def cmpW:CmpOp→AV→AV→(Bool→Prop)→Prop
 | .Eq,.im (.int a),.im (.int b),Q=>Q (a == b)
 | .Eq,.im (.str a),.im (.str b),Q=>Q (a == b)
 | .Eq,.im (.bool a),.im (.bool b),Q=>Q (a == b)
 | .Eq,.im (.tup a),.im (.tup b),Q=>2≤n∧D.depL a≤16∧D.ksL a=true∧D.ksL b=true∧Q (D.beqL a b)
 | .Eq,.ct _ (.idc l),.ct _ (.idc []),Q=>Q l.isEmpty
 | .NotEq,.im (.int a),.im (.int b),Q=>Q (a != b)
 | .NotEq,.im (.str a),.im (.str b),Q=>Q (a != b)
 | .NotEq,.im (.bool a),.im (.bool b),Q=>Q (a != b)
 | .Lt,.im (.int a),.im (.int b),Q=>Q (decide (a<b))
 | .Gt,.im (.int a),.im (.int b),Q=>Q (decide (b<a))
 | .LtE,.im (.int a),.im (.int b),Q=>Q (decide (a≤b))
 | .GtE,.im (.int a),.im (.int b),Q=>Q (decide (b≤a))
 | .LtE,.im (.str a),.im (.str b),Q=>Q (sle a b)
 | .Is,.im d,.im .none,Q=>Q d.isNone
 | .In,.im (.str k),.ct _ (.dct l),Q=>Q (dAt l k).isSome
 | .NotIn,.im (.str k),.ct _ (.dct l),Q=>Q (!(dAt l k).isSome)
 | .In,.im (.str k),.ct _ (.lst l),Q=>∃ ss:List Str,l=ss.map .str∧Q (ss.contains k)
 | .NotIn,.im (.str k),.ct _ (.lst l),Q=>∃ ss:List Str,l=ss.map .str∧Q (!ss.contains k)
 | .In,.im (.int k),.ct _ (.lst l),Q=>∃ is:List Int,l=is.map .int∧Q (is.contains k)
 | .In,.im (.str k),.im (.tup l),Q=>∃ ss:List Str,l=ss.map .str∧Q (ss.contains k)
 | .In,.im (.tup a),.ct _ (.lst l),Q=>2≤n∧D.depL l≤16∧D.ksL a=true∧D.ksL l=true∧Q (l.any fun d=>d.beq (.tup a))
 | _,_,_,_=>False
noncomputable def truW:AV→(Bool→Prop)→Prop
 | .im (.bool b),Q=>Q b
 | .im (.int a),Q=>Q (a != 0)
 | .im .none,Q=>Q false
 | _,_=>False
noncomputable def optW {α:Type} (o:Option α) (R:α→Prop):Prop:=match o with
 | some d=>R d
 | none=>False
noncomputable def sbcW:AV→Int→(AV→Prop)→Prop
 | .im (.tup l),k,Q=>optW (pyAt l k) fun d=>Q (.im d)
 | .ct _ (.lst l),k,Q=>0≤k∧optW l[k.toNat]? fun d=>Q (.im d)
 | _,_,_=>False
noncomputable def subW:AV→AV→(AV→Prop)→Prop
 | .ct _ (.dct l),.im (.str k),Q=>optW (dAt l k) fun d=>Q (.im d)
 | .ct _ (.lst l),.im (.int k),Q=>0≤k∧k<2 ^ 63∧optW l[k.toNat]? fun d=>Q (.im d)
 | .im (.str x),.im (.int k),Q=>0≤k∧k<2 ^ 63∧optW x.cps[k.toNat]? fun c=>Q (.im (.str ⟨#[c]⟩))
 | _,_,_=>False
noncomputable def slcW:AV→Option Int→Option Int→(AV→Prop)→Prop
 | .ct _ (.lst l),lo,hi,Q=>l.length≤sizeLine∧Q (.ct .fr (.lst (pick l lo hi)))
 | .im (.str x),lo,hi,Q=>x.length≤sizeLine∧Q (.im (.str (Txt.slice x lo hi)))
 | .im (.tup l),none,some (-1),Q=>l≠[]∧l.length≤sizeLine∧Q (.im (.tup l.dropLast))
 | _,_,_,_=>False
noncomputable def isiB:D→Ty→Bool
 | .int _,.int=>true
 | .bool _,.int=>true
 | .bool _,.bool=>true
 | .str _,.str=>true
 | .tup _,.tuple=>true
 | _,_=>false
noncomputable def isiW:AV→Ty→(Bool→Prop)→Prop
 | .im d,t,Q=>Q (isiB d t)
 | _,_,_=>False
noncomputable def buiW:Bi→List AV→(AV→Prop)→Prop
 | .len,[.ct _ (.lst l)],Q=>l.length<2 ^ 63∧Q (.im (.int l.length))
 | .len,[.im (.tup l)],Q=>l.length<2 ^ 63∧Q (.im (.int l.length))
 | .lst,[.ct _ (.lst l)],Q=>l.length≤sizeLine∧Q (.ct .fr (.lst l))
 | .lst,[.im (.tup l)],Q=>l.length≤sizeLine∧Q (.ct .fr (.lst l))
 | .lst,[.ct _ (.dct l)],Q=>l.length≤sizeLine∧Q (.ct .fr (.lst (l.map fun kv=>.str kv.1)))
 | .lst,[.ct _ (.ddc l)],Q=>l.length≤sizeLine∧Q (.ct .fr (.lst l))
 | .lst,[.ct _ (.idc l)],Q=>l.length≤sizeLine∧Q (.ct .fr (.lst (l.map .int)))
 | .tup,[.ct _ (.lst l)],Q=>l.length≤sizeLine∧Q (.im (.tup l))
 | .sorted,[.ct _ (.lst l)],Q=>(∃ ss:List Str,l=ss.map .str∧ss.length<64∧Q (.ct .fr (.lst ((srt ss).map .str))))∨(∃ is:List Int,l=is.map .int∧is.length<64∧Q (.ct .fr (.lst ((srtI is).map .int)))) ∨
   ∃ a b i j,l=[.tup [.str a,.int i],.tup [.str b,.int j]]∧a≠b∧Q (.ct .fr (.lst (if sle a b then [.tup [.str a,.int i],.tup [.str b,.int j]] else [.tup [.str b,.int j],.tup [.str a,.int i]])))
 | .abs,[.im (.int a)],Q=>Q (.im (.int a.natAbs))
 | .any,[.ct _ (.lst l)],Q=>∃ bs:List Bool,l=bs.map .bool∧Q (.im (.bool (bs.any id)))
 | .range,[.im (.int k)],Q=>Q (.ct .fr (.rng 0 k))
 | .range,[.im (.int j),.im (.int k)],Q=>Q (.ct .fr (.rng j k))
 | .dict,[.ct _ (.dct l)],Q=>l.length≤sizeLine∧Q (.ct .fr (.dct l))
 | _,_,_=>False
noncomputable def itrW:AV→(List D→Prop)→Prop
 | .im (.tup l),Q=>Q l
 | .ct .fz (.lst l),Q=>Q l
 | .ct .fr (.lst l),Q=>Q l
 | .ct _ (.rng j k),Q => -(2 ^ 62)≤j∧j<2 ^ 62 ∧ -(2 ^ 62)≤k∧k<2 ^ 62∧Q (intsFrom j (k-j).toNat)
 | _,_=>False
noncomputable def tgW:Tg→D→List (Option Sl)→(List (Option Sl)→Prop)→Prop
 | .one i,d,ρ,Q=>Q (ρ.set i (some (.im d)))
 | .two i j,.tup [d,e],ρ,Q=>Q ((ρ.set i (some (.im d))).set j (some (.im e)))
 | .three i j k,.tup [d,e,f],ρ,Q=>Q (((ρ.set i (some (.im d))).set j (some (.im e))).set k (some (.im f)))
 | _,_,_,_=>False
noncomputable def slotIm:Option (Option Sl)→Option D
 | some (some (.im d))=>some d
 | _=>none
noncomputable def slotsIm (ρ:List (Option Sl)):List Nat→Option (List D)
 | []=>some []
 | i::r=>match slotIm ρ[i]?,slotsIm ρ r with
  | some d,some ds=>some (d::ds)
  | _,_=>none
noncomputable def negW:AV→(AV→Prop)→Prop
 | .im (.int i),Q=>Q (.im (.int (-i)))
 | _,_=>False
noncomputable def intW:AV→(Int→Prop)→Prop
 | .im (.int i),Q=>Q i
 | _,_=>False
noncomputable def strW:AV→(Str→Prop)→Prop
 | .im (.str i),Q=>Q i
 | _,_=>False
noncomputable def imW:AV→(D→Prop)→Prop
 | .im i,Q=>Q i
 | _,_=>False
noncomputable def dctW:AV→(List (Str×D)→Prop)→Prop
 | .ct _ (.dct l),Q=>Q l
 | _,_=>False
noncomputable def dspW (rs:List AV) (Q:List D→Prop):Prop:=match allIm rs with
 | some ds=>Q ds
 | none=>False
noncomputable def compK (J:List D→Prop) (ac:List D):Option D→Prop
 | none=>J ac
 | some e=>ac.length≤sizeLine∧J (ac++[e])
noncomputable def fnW (o:Option (Option Sl)) (K:Addr→Prop):Prop:=match o with
 | some (some (.fz (.fn a)))=>K a
 | _=>False
noncomputable def compL (step:D→(Option D→Prop)→Prop) (Q:List D→Prop):List D→List D→Prop
 | [],ac=>Q ac
 | d::ds,ac=>step d (compK (compL step Q ds) ac)
noncomputable def clmW (f:Str) (names:List Str) (body:Ex):AV→List D→(AV→Prop)→Prop
 | .im d0,ds,Q=>∀ hp hk ht g,CloAt (B.wide hp hk ht) g "atom" names (LamP names body) ds→Spec (B.wide hp hk ht) f NoX n [.im d0,.ct (.fn g)] fun q=>∃ d,q=.im d∧Q (.im d)
 | _,_,_=>False
mutual
noncomputable def wpE:Ex→List (Option Sl)→(AV→Prop)→Prop
 | .nm i,ρ,Q=>(match ρ[i]? with
  | some (some sl)=>Q (sl.av i)
  | _=>False)
 | .ci i,_,Q=>Q (.im (.int i))
 | .cs s,_,Q=>Q (.im (.str s))
 | .cb b,_,Q=>Q (.im (.bool b))
 | .cn,_,Q=>Q (.im .none)
 | .gd k,_,Q=>(match G9[k]? with
  | some p=>Q (.im p.2)
  | none=>False)
 | .gf,_,Q=>∀ a,B.mg "neat_atom"=some (.ref a)→Q (.ct .fz (.fn a))
 | .bin op a b,ρ,Q=>wpE a ρ fun x=>wpE b ρ fun y=>binW op x y Q
 | .cmp op a b,ρ,Q=>wpE a ρ fun x=>wpE b ρ fun y=>cmpW n op x y fun z=>Q (.im (.bool z))
 | .neg a,ρ,Q=>wpE a ρ fun x=>negW x Q
 | .not a,ρ,Q=>wpE a ρ fun x=>truW x fun b=>Q (.im (.bool (!b)))
 | .and2 a b,ρ,Q=>wpE a ρ fun x=>truW x fun z=>if z=true then wpE b ρ Q else Q x
 | .and3 a b c,ρ,Q=>wpE a ρ fun x=>truW x fun z=>if z=true then wpE b ρ (fun y=>truW y fun z=>if z=true then wpE c ρ Q else Q y) else Q x
 | .or2 a b,ρ,Q=>wpE a ρ fun x=>truW x fun z=>if z=true then Q x else wpE b ρ Q
 | .ife t a b,ρ,Q=>wpT t ρ fun z=>if z=true then wpE a ρ Q else wpE b ρ Q
 | .sbc a k,ρ,Q=>wpE a ρ fun x=>sbcW x k Q
 | .sub a i,ρ,Q=>wpE a ρ fun x=>wpE i ρ fun y=>subW x y Q
 | .slc a lo hi,ρ,Q=>wpE a ρ fun x=>wpO lo ρ fun l=>wpO hi ρ fun u=>slcW x l u Q
 | .call f as,ρ,Q=>wpEs as ρ fun rs=>Spec B f NoX n (rs.map AV.ag) fun q=>Q q.av
 | .cav i as,ρ,Q=>fnW ρ[i]? fun a=>wpEs as ρ fun rs=>SpecA B a NoX n (rs.map AV.ag) fun q=>Q q.av
 | .clm f a names caps body,ρ,Q=>(match slotsIm ρ caps with
  | some ds=>ds.all D.flat=true∧wpE a ρ fun x=>clmW B n f names body x ds Q
  | none=>False)
 | .bui b as,ρ,Q=>wpEs as ρ fun rs=>buiW b rs Q
 | .isi a t,ρ,Q=>wpE a ρ fun x=>isiW x t fun z=>Q (.im (.bool z))
 | .tup as,ρ,Q=>wpEs as ρ fun rs=>dspW rs fun ds=>Q (.im (.tup ds))
 | .lst as,ρ,Q=>wpEs as ρ fun rs=>dspW rs fun ds=>Q (.ct .fr (.lst ds))
 | .comp _ m caps t it c elt,ρ,Q=>wpE it ρ fun r=>itrW r fun ds=>compL (fun d K=>tgW t d (compStart0 m ρ caps) fun ρ2=>wpC c ρ2 fun z=>if z=true then wpE elt ρ2 fun r=>imW r fun e=>K (some e) else K none) (fun l=>Q (.ct .fr (.lst l))) ds []
 | .get o k d,ρ,Q=>wpE o ρ fun x=>dctW x fun l=>wpE k ρ fun y=>strW y fun k=>wpE d ρ fun z=>imW z fun d=>Q (.im ((dAt l k).getD d))
 | .dc0,_,Q=>Q (.ct .fr (.dct []))
 | .dd0,_,Q=>Q (.ct .fr (.ddc []))
 | .di0,_,Q=>Q (.ct .fr (.idc []))
 | .dc1 k v,ρ,Q=>wpE k ρ fun x=>strW x fun k=>wpE v ρ fun y=>imW y fun d=>Q (.ct .fr (.dct [(k,d)]))
 | .dss a b c d,_,Q=>Q (.ct .fr (.dct [(a,.str b),(c,.str d)]))
 | _,_,_=>False
noncomputable def wpEs:Ex→List (Option Sl)→(List AV→Prop)→Prop
 | .nil,_,Q=>Q []
 | .cons e r,ρ,Q=>wpE e ρ fun x=>wpEs r ρ fun xs=>Q (x::xs)
 | _,_,_=>False
noncomputable def wpO:Ex→List (Option Sl)→(Option Int→Prop)→Prop
 | .no,_,Q=>Q none
 | .cons e _,ρ,Q=>wpE e ρ fun x=>intW x fun i=>Q (some i)
 | _,_,_=>False
noncomputable def wpC:Ex→List (Option Sl)→(Bool→Prop)→Prop
 | .no,_,Q=>Q true
 | .cons e _,ρ,Q=>wpT e ρ Q
 | _,_,_=>False
noncomputable def wpT:Ex→List (Option Sl)→(Bool→Prop)→Prop
 | .tv e,ρ,Q=>wpE e ρ fun x=>truW x Q
 | .tn a,ρ,Q=>wpT a ρ fun b=>Q (!b)
 | .ta as,ρ,Q=>wpB true as ρ Q
 | .to as,ρ,Q=>wpB false as ρ Q
 | .tc op a b,ρ,Q=>wpE a ρ fun x=>wpE b ρ fun y=>cmpW n op x y Q
 | _,_,_=>False
noncomputable def wpB (a:Bool):Ex→List (Option Sl)→(Bool→Prop)→Prop
 | .nil,_,Q=>Q a
 | .cons e r,ρ,Q=>wpT e ρ fun b=>if b=a then wpB a r ρ Q else Q b
 | _,_,_=>False
end
end
end Mine
end

section
open PySem PySem.W PyProof.Rows PySem.Calls PyProof
set_option backward.match.sparseCases false
set_option tactic.hygienic false
namespace Mine
noncomputable def non9:List Str:=(["len","list","tuple","sorted","abs","any","range","dict","isinstance","enumerate","int","bool","str"]:List String).map Str.ofString
structure En (B:Bs):Prop where
 quiet:B.quiet=true
 glo:∀ (k:Nat) (p:Str×D),G9[k]?=some p→∃ v,B.mg p.1=some v∧Im B.hB v p.2
 fns:∀ f,fn9.contains f=true→∃ fa o fd,B.mg f=some (.ref fa)∧B.hB.get? fa=some o∧o.data=.func fd
 neat:∃ fa o fd,B.mg "neat_atom"=some (.ref fa)∧B.hB.get? fa=some o∧o.cls=.type "function"∧o.data=.func fd
 non:∀ f,non9.contains f=true→B.mg f=none
theorem notT {a:Bool} (h:(!a)=true):a=false:=by cases a <;> simp_all
theorem nz {e:Expr} (h:(!((view e).tag == 0))=true):(view e).tag≠0:=fun q=>by rw [q] at h;cases h
section
variable {e:Expr}
theorem sy {t:Nat} (h:((view e).tag == t)=true):Says { view e with tag:=t } e:=by
 have:=view_says e
 rw [beq_iff_eq] at h
 subst h
 exact this
theorem t1 (h:((view e).tag == 1)=true):∃ x p,e=.Name x p:=e1_1 (sy h) fun p q=>⟨_,p,q⟩
theorem t2 (h:((view e).tag == 2)=true):∃ c k p,e=.Constant c k p:=e2_1 (sy h) fun k p q=>⟨_,k,p,q⟩
theorem t3 (h:((view e).tag == 3)=true):∃ l o r p,e=.BinOp l o r p:=e3_2 (sy h) fun l r p q _=>⟨l,_,r,p,q⟩
theorem t4 (h:((view e).tag == 4)=true):∃ l o r p,e=.Compare l [o] [r] p:=e3_2 (sy h) fun l r p q _=>⟨l,_,r,p,q⟩
theorem t5 (h:((view e).tag == 5)=true):∃ o x p,e=.UnaryOp o x p:=e2_2 (sy h) fun x p q _=>⟨_,x,p,q⟩
theorem t6 (h:((view e).tag == 6)=true):∃ o es p,e=.BoolOp o es p:=e1_1 (sy h) fun p q=>⟨_,_,p,q⟩
theorem t7 (h:((view e).tag == 7)=true):∃ t b o p,e=.IfExp t b o p:=e4_2 (sy h) fun t b o p q _=>⟨t,b,o,p,q⟩
theorem t8 (h:((view e).tag == 8)=true):∃ a i p,e=.Subscript a i p:=e3_2 (sy h) fun a i p q _=>⟨a,i,p,q⟩
theorem t9 (h:((view e).tag == 9)=true):∃ lo hi p,e=.Slice lo hi none p:=e3_2 (sy h) fun a i p q _=>⟨a,i,p,q⟩
theorem t10 (h:((view e).tag == 10)=true):∃ f p es q,e=.Call (.Name f p) es [] q:=e2_1 (sy h) fun p q r=>⟨_,p,_,q,r⟩
theorem t11 (h:((view e).tag == 11)=true):∃ o f ap r q,(ap.endLine == q.line)=true∧e=.Call (.Attribute o f ap) r [] q:=e4_3 (sy h) fun o ap q r x _ y=>⟨o,_,ap,r,q,y,x⟩
theorem t12 (h:((view e).tag == 12)=true):∃ es k p,e=.Tuple es k p:=e2_1 (sy h) fun k p q=>⟨_,k,p,q⟩
theorem t13 (h:((view e).tag == 13)=true):∃ es p,e=.List es p:=e1_1 (sy h) fun p q=>⟨_,p,q⟩
theorem t14 (h:((view e).tag == 14)=true):∃ elt t it ifs sc p,e=.ListComp elt [⟨t,it,ifs,0⟩] sc p:=e5_2 (sy h) fun elt t it ifs p q _=>⟨elt,t,it,ifs,_,p,q⟩
theorem t15 (h:((view e).tag == 15)=true):∃ ks vs p,e=.Dict ks vs p:=e1_1 (sy h) fun p q=>⟨_,_,p,q⟩
theorem t16 (h:((view e).tag == 16)=true):∃ x pp b sc p,e=.Lambda ⟨[],[⟨x,none,pp⟩],none,[],[],none,[]⟩ b sc p:=e3_2 (sy h) fun b pp p q _=>⟨_,pp,b,_,p,q⟩
@[elab_as_elim] theorem T1 {C:Expr→Prop} (h:((view e).tag == 1)=true) (k:∀ x p,C (.Name x p)):C e:=e2_1 (t1 h) fun x p y=>y▸k x p
@[elab_as_elim] theorem T2 {C:Expr→Prop} (h:((view e).tag == 2)=true) (K:∀ c k p,C (.Constant c k p)):C e:=e3_1 (t2 h) fun c k p y=>y▸K c k p
@[elab_as_elim] theorem T3 {C:Expr→Prop} (h:((view e).tag == 3)=true) (k:∀ l o r p,C (.BinOp l o r p)):C e:=e4_1 (t3 h) fun l o r p y=>y▸k l o r p
@[elab_as_elim] theorem T4 {C:Expr→Prop} (h:((view e).tag == 4)=true) (k:∀ l o r p,C (.Compare l [o] [r] p)):C e:=e4_1 (t4 h) fun l o r p y=>y▸k l o r p
@[elab_as_elim] theorem T5 {C:Expr→Prop} (h:((view e).tag == 5)=true) (k:∀ o x p,C (.UnaryOp o x p)):C e:=e3_1 (t5 h) fun o x p y=>y▸k o x p
@[elab_as_elim] theorem T6 {C:Expr→Prop} (h:((view e).tag == 6)=true) (k:∀ o es p,C (.BoolOp o es p)):C e:=e3_1 (t6 h) fun o es p y=>y▸k o es p
@[elab_as_elim] theorem T7 {C:Expr→Prop} (h:((view e).tag == 7)=true) (k:∀ t b o p,C (.IfExp t b o p)):C e:=e4_1 (t7 h) fun t b o p y=>y▸k t b o p
@[elab_as_elim] theorem T8 {C:Expr→Prop} (h:((view e).tag == 8)=true) (k:∀ a i p,C (.Subscript a i p)):C e:=e3_1 (t8 h) fun a i p y=>y▸k a i p
@[elab_as_elim] theorem T9 {C:Expr→Prop} (h:((view e).tag == 9)=true) (k:∀ lo hi p,C (.Slice lo hi none p)):C e:=e3_1 (t9 h) fun lo hi p y=>y▸k lo hi p
@[elab_as_elim] theorem T10 {C:Expr→Prop} (h:((view e).tag == 10)=true) (k:∀ f p es q,C (.Call (.Name f p) es [] q)):C e:=e4_1 (t10 h) fun f p es q y=>y▸k f p es q
@[elab_as_elim] theorem T11 {C:Expr→Prop} (h:((view e).tag == 11)=true) (k:∀ o f ap r q,(ap.endLine == q.line)=true→C (.Call (.Attribute o f ap) r [] q)):C e:=e5_2 (t11 h) fun o f ap r q x y=>y▸k o f ap r q x
@[elab_as_elim] theorem T12 {C:Expr→Prop} (h:((view e).tag == 12)=true) (K:∀ es k p,C (.Tuple es k p)):C e:=e3_1 (t12 h) fun es k p y=>y▸K es k p
@[elab_as_elim] theorem T13 {C:Expr→Prop} (h:((view e).tag == 13)=true) (k:∀ es p,C (.List es p)):C e:=e2_1 (t13 h) fun es p y=>y▸k es p
@[elab_as_elim] theorem T14 {C:Expr→Prop} (h:((view e).tag == 14)=true) (k:∀ elt t it ifs sc p,C (.ListComp elt [⟨t,it,ifs,0⟩] sc p)):C e:=e6_1 (t14 h) fun elt t it ifs sc p y=>y▸k elt t it ifs sc p
@[elab_as_elim] theorem T15 {C:Expr→Prop} (h:((view e).tag == 15)=true) (k:∀ ks vs p,C (.Dict ks vs p)):C e:=e3_1 (t15 h) fun ks vs p y=>y▸k ks vs p
@[elab_as_elim] theorem T16 {C:Expr→Prop} (h:((view e).tag == 16)=true) (k:∀ x pp b sc p,C (.Lambda ⟨[],[⟨x,none,pp⟩],none,[],[],none,[]⟩ b sc p)):C e:=e5_1 (t16 h) fun x pp b sc p y=>y▸k x pp b sc p
theorem isCT {c:Const} (h:isC c e=true):∃ k p,e=.Constant c k p:=by
 refine an2 h ?_
 intro h
 refine T2 h ?_
 intro c' k p h1
 obtain rfl:c'=c:=of_decide_eq_true h1
 exact ⟨k,p,rfl⟩
end
theorem two2T {es:List Expr} {k:Expr→Expr→Bool} (h:two2 es k=true):∃ a b,es=[a,b]∧k a b=true:=by
 cases es with
 | nil=>cases h
 | cons a r=>cases r with
  | nil=>cases h
  | cons b r=>cases r with
   | nil=>exact ⟨a,b,rfl,h⟩
   | cons _ _=>cases h
theorem three3T {es:List Expr} {k:Expr→Expr→Expr→Bool} (h:three3 es k=true):∃ a b c,es=[a,b,c]∧k a b c=true:=by
 cases es with
 | nil=>cases h
 | cons a r=>cases r with
  | nil=>cases h
  | cons b r=>cases r with
   | nil=>cases h
   | cons c r=>cases r with
    | nil=>exact ⟨a,b,c,rfl,h⟩
    | cons _ _=>cases h
theorem one1T {es:List Expr} {k:Expr→Bool} (h:one1 es k=true):∃ a,es=[a]∧k a=true:=by
 cases es with
 | nil=>cases h
 | cons a r=>cases r with
  | nil=>exact ⟨a,rfl,h⟩
  | cons _ _=>cases h
@[elab_as_elim] theorem one1TC {es:List Expr} {k:Expr→Bool} {C:List Expr→Prop} (h:one1 es k=true) (K:∀ a,k a=true→C [a]):C es:=e1_2 (one1T h) fun a q x=>q▸K a x
@[elab_as_elim] theorem two2TC {es:List Expr} {k:Expr→Expr→Bool} {C:List Expr→Prop} (h:two2 es k=true) (K:∀ a b,k a b=true→C [a,b]):C es:=e2_2 (two2T h) fun a b q x=>q▸K a b x
@[elab_as_elim] theorem three3TC {es:List Expr} {k:Expr→Expr→Expr→Bool} {C:List Expr→Prop} (h:three3 es k=true) (K:∀ a b c,k a b c=true→C [a,b,c]):C es:=e3_2 (three3T h) fun a b c q x=>q▸K a b c x
theorem isGT {F:Fi} {x:Str} (h:isG F x=true):F.scope.names.lookup x=some .globalImplicit∧(x == ("__debug__":Str))=false∧x≠"__name__":=by
 refine an3 h ?_
 intro h h1 h2
 exact ⟨eq_of_beq h,notT h1,fun q=>by rw [q] at h2;revert h2;decide⟩
theorem inFT {F:Fi} {i:Nat} {x:Str} (h:inF F i x=true):∃ k,F.vars[i]?=some (x,k):=by
 unfold inF at h
 cases q:F.vars[i]? with
 | none=>rw [q] at h;cases h
 | some p=>rw [q] at h;obtain ⟨y,k⟩:=p;obtain rfl:=eq_of_beq h;exact ⟨k,rfl⟩
theorem setFT {F:Fi} {i:Nat} {x:Str} (h:setF F i x=true):∃ k,F.vars[i]?=some (x,k)∧k≠.fre∧i<F.own:=by
 unfold setF at h
 cases q:F.vars[i]? with
 | none=>rw [q] at h;cases h
 | some p =>
  rw [q] at h
  obtain ⟨y,k⟩:=p
  refine an3 h ?_
  intro h h1 h2
  obtain rfl:=eq_of_beq h
  exact ⟨k,rfl,of_decide_eq_false (notT h1),of_decide_eq_true h2⟩
theorem chkNT {F:Fi} {i:Nat} {e:Expr} (h:chkN F i e=true):∃ x p k,e=.Name x p∧F.vars[i]?=some (x,k)∧k≠.fre∧i<F.own:=by
 refine an2 h ?_
 intro h
 refine T1 h ?_
 intro x p h1
 refine e1_1 (setFT h1) ?_
 intro k h
 exact ⟨x,p,k,rfl,h⟩
section
variable {B:Bs} {F:Fi} {n:Nat} {ρ:List (Option Sl)}
theorem TruS.none:TruS B n (.im .none) false:=fun env oa A s0 s vx E bs ar x=>by
 rw [x.none];exact PyProof.Rows.truthy_none ⟨rfl,Kp.refl _⟩
theorem binW.go {op:Operator} {x y:AV} {Q:AV→Prop} (h:binW op x y Q):∃ z,BinS B n op x y z∧Q z:=by
 cases op with
 | Add =>
  cases x with
  | im d=>cases d with
   | int a=>cases y with
    | im d=>cases d with
     | int b=>exact ⟨_,.add a b,h⟩
     | _=>exact h.elim
    | ct _ _=>exact h.elim
   | str a=>cases y with
    | im d=>cases d with
     | str b=>exact ⟨_,.addS h.1,h.2⟩
     | _=>exact h.elim
    | ct _ _=>exact h.elim
   | tup a=>cases y with
    | im d=>cases d with
     | tup b=>exact ⟨_,.addT h.1,h.2⟩
     | _=>exact h.elim
    | ct _ _=>exact h.elim
   | _=>exact h.elim
  | ct _ c=>cases c with
   | lst a=>cases y with
    | im d=>exact h.elim
    | ct _ c=>cases c with
     | lst b=>exact ⟨_,.addL h.1,h.2⟩
     | _=>exact h.elim
   | _=>exact h.elim
 | Sub =>
  cases x with
  | im d=>cases d with
   | int a=>cases y with
    | im d=>cases d with
     | int b=>exact ⟨_,.sub a b,h⟩
     | _=>exact h.elim
    | ct _ _=>exact h.elim
   | _=>exact h.elim
  | ct _ _=>exact h.elim
 | Mult =>
  cases x with
  | im d=>cases d with
   | int a=>cases y with
    | im d=>cases d with
     | int b=>exact ⟨_,.mul h.1,h.2⟩
     | _=>exact h.elim
    | ct _ _=>exact h.elim
   | str a=>cases y with
    | im d=>cases d with
     | int b=>exact ⟨_,.mulS h.1,h.2⟩
     | _=>exact h.elim
    | ct _ _=>exact h.elim
   | _=>exact h.elim
  | ct _ _=>exact h.elim
 | Mod =>
  cases x with
  | im d=>cases d with
   | int a=>cases y with
    | im d=>cases d with
     | int b=>exact ⟨_,.mod h.1,h.2⟩
     | _=>exact h.elim
    | ct _ _=>exact h.elim
   | _=>exact h.elim
  | ct _ _=>exact h.elim
 | FloorDiv =>
  cases x with
  | im d=>cases d with
   | int a=>cases y with
    | im d=>cases d with
     | int b=>exact ⟨_,.fdiv h.1 h.2.1,h.2.2⟩
     | _=>exact h.elim
    | ct _ _=>exact h.elim
   | _=>exact h.elim
  | ct _ _=>exact h.elim
 | _=>exact h.elim
theorem truW.go {x:AV} {Q:Bool→Prop} (h:truW x Q):∃ b,TruS B n x b∧Q b:=by
 cases x with
 | im d=>cases d with
  | bool b=>exact ⟨_,.bool b,h⟩
  | int a=>exact ⟨_,.int a,h⟩
  | none=>exact ⟨_,.none,h⟩
  | _=>exact h.elim
 | ct _ _=>exact h.elim
theorem negW.go {x:AV} {Q:AV→Prop} (h:negW x Q):∃ z,UnS B n .USub x z∧Q z:=by
 cases x with
 | im d=>cases d with
  | int a=>exact ⟨_,.neg a,h⟩
  | _=>exact h.elim
 | ct _ _=>exact h.elim
theorem isiW.go {x:AV} {t:Ty} {Q:Bool→Prop} (h:isiW x t Q):∃ r,IsiS B n x t.nm r∧Q r:=by
 cases x with
 | im d =>
  refine ⟨_,?_,h⟩
  cases d with
  | none=>obtain ⟨a,b,c,d,_⟩:=IsiS.none_ (B:=B) (n:=n);cases t with | int=>exact a | bool=>exact b | str=>exact c | tuple=>exact d
  | bool i=>obtain ⟨a,b,c,d,_⟩:=IsiS.bool_ (B:=B) (n:=n) i;cases t with | int=>exact a | bool=>exact b | str=>exact c | tuple=>exact d
  | int i=>obtain ⟨a,b,c,d,_⟩:=IsiS.int_ (B:=B) (n:=n) i;cases t with | int=>exact a | bool=>exact b | str=>exact c | tuple=>exact d
  | str i=>obtain ⟨a,b,c,d,_⟩:=IsiS.str_ (B:=B) (n:=n) i;cases t with | int=>exact a | bool=>exact b | str=>exact c | tuple=>exact d
  | tup i=>obtain ⟨a,b,c,d,_⟩:=IsiS.tup_ (B:=B) (n:=n) i;cases t with | int=>exact a | bool=>exact b | str=>exact c | tuple=>exact d
 | ct _ _=>exact h.elim
theorem optW.go {α:Type} {o:Option α} {R:α→Prop} (h:optW o R):∃ d,o=some d∧R d:=by
 cases o with
 | none=>exact h.elim
 | some d=>exact ⟨d,rfl,h⟩
theorem optW.of {α:Type} {o:Option α} {R:α→Prop} {d:α} (h:o=some d) (q:R d):optW o R:=by rw [h];exact q
theorem sbcW.go {x:AV} {k:Int} {Q:AV→Prop} (h1 : -100<k) (h2:k<100) (h:sbcW x k Q):∃ z,SubS B n x (.im (.int k)) z∧Q z:=by
 have q1 : -(2 ^ 63)≤k:=by lia
 have q2:k<2 ^ 63:=(Int.lt_trans (by assumption) (by decide))
 cases x with
 | im d=>cases d with
  | tup l =>
   refine e1_2 (optW.go (o:=pyAt l k) h) ?_
   intro d q h
   unfold pyAt at q
   cases w:seqIndex? k l.length with
   | none=>rw [w] at q;cases q
   | some j=>rw [w] at q;exact ⟨_,.tup q1 q2 w q,h⟩
  | _=>exact h.elim
 | ct _ c=>cases c with
  | lst l =>
   refine e0_2 h ?_
   clear h
   intro h0 h
   refine e1_2 (optW.go h) ?_
   intro d q h
   exact ⟨_,.list h0 q2 q,h⟩
  | _=>exact h.elim
theorem subW.go {x y:AV} {Q:AV→Prop} (h:subW x y Q):∃ z,SubS B n x y z∧Q z:=by
 cases x with
 | im d=>cases d with
  | str x=>cases y with
   | im d=>cases d with
    | int k =>
     refine e0_3 h ?_
     clear h
     intro h0 h1 h
     refine e1_2 (optW.go h) ?_
     intro d q h
     have hl:k.toNat<x.length:=(Array.getElem?_eq_some_iff.mp q).1
     exact ⟨_,.str (by lia) h1 (seqIndex_of h0 (by lia)) q,h⟩
    | _=>exact h.elim
   | ct _ _=>exact h.elim
  | _=>exact h.elim
 | ct _ c=>cases c with
  | lst l=>cases y with
   | im d=>cases d with
    | int k =>
     refine e0_3 h ?_
     clear h
     intro h0 h1 h
     refine e1_2 (optW.go h) ?_
     intro d q h
     exact ⟨_,.list h0 h1 q,h⟩
    | _=>exact h.elim
   | ct _ _=>exact h.elim
  | dct l=>cases y with
   | im d=>cases d with
    | str k =>
     refine e1_2 (optW.go (o:=dAt l k) h) ?_
     intro d q h
     exact ⟨_,.dct q,h⟩
    | _=>exact h.elim
   | ct _ _=>exact h.elim
  | _=>exact h.elim
theorem slcInit {l:List D} (h:l≠[]) (hl:l.length≤sizeLine):SlcS B n (.im (.tup l)) none (some (-1)) (.im (.tup l.dropLast)):=by
 have q:=List.dropLast_concat_getLast h
 have r:=SlcS.init (B:=B) (n:=n) (l:=l.dropLast) (d:=l.getLast h) (by rw [List.length_dropLast];rw [Nat.sub_add_cancel (List.length_pos_iff.mpr h)];exact hl)
 rw [q] at r;exact r
theorem slcW.go {x:AV} {lo hi:Option Int} {Q:AV→Prop} (h:slcW x lo hi Q):∃ z,SlcS B n x lo hi z∧Q z:=by
 cases x with
 | im d=>cases d with
  | str x=>exact ⟨_,.str h.1,h.2⟩
  | tup l=>cases lo with
   | some _=>exact h.elim
   | none=>cases hi with
    | none=>exact h.elim
    | some i=>cases i with
     | ofNat _=>exact h.elim
     | negSucc k=>cases k with
      | zero=>exact ⟨_,slcInit h.1 h.2.1,h.2.2⟩
      | succ _=>exact h.elim
  | _=>exact h.elim
 | ct m c=>cases c with
  | lst l=>exact ⟨_,.list h.1,h.2⟩
  | _=>exact h.elim
theorem imW.go {r:AV} {Q:D→Prop} (h:imW r Q):∃ d,r=.im d∧Q d:=by
 cases r with
 | im d=>exact ⟨d,rfl,h⟩
 | ct _ _=>exact h.elim
theorem strW.go {r:AV} {Q:Str→Prop} (h:strW r Q):∃ d,r=.im (.str d)∧Q d:=by
 cases r with
 | im d=>cases d with
  | str d=>exact ⟨d,rfl,h⟩
  | _=>exact h.elim
 | ct _ _=>exact h.elim
theorem intW.go {r:AV} {Q:Int→Prop} (h:intW r Q):∃ d,r=.im (.int d)∧Q d:=by
 cases r with
 | im d=>cases d with
  | int d=>exact ⟨d,rfl,h⟩
  | _=>exact h.elim
 | ct _ _=>exact h.elim
theorem dctW.go {r:AV} {Q:List (Str×D)→Prop} (h:dctW r Q):∃ m l,r=.ct m (.dct l)∧Q l:=by
 cases r with
 | im _=>exact h.elim
 | ct m c=>cases c with
  | dct l=>exact ⟨m,l,rfl,h⟩
  | _=>exact h.elim
theorem fnW.go {o:Option (Option Sl)} {K:Addr→Prop} (h:fnW o K):∃ a,o=some (some (.fz (.fn a)))∧K a:=by
 cases o with
 | none=>exact h.elim
 | some o=>cases o with
  | none=>exact h.elim
  | some s=>cases s with
   | fz c=>cases c with
    | fn a=>exact ⟨a,rfl,h⟩
    | _=>exact h.elim
   | _=>exact h.elim
theorem os1T {o:List (Option Expr)} {k:Expr→Bool} (h:os1 o k=true):∃ x,o=[some x]∧k x=true:=by
 cases o with
 | nil=>cases h
 | cons a o=>cases a with
  | none=>cases h
  | some x=>cases o with
   | nil=>exact ⟨x,rfl,h⟩
   | cons _ _=>cases h
theorem os2T {o:List (Option Expr)} {k:Expr→Expr→Bool} (h:os2 o k=true):∃ x y,o=[some x,some y]∧k x y=true:=by
 cases o with
 | nil=>cases h
 | cons a o=>cases a with
  | none=>cases h
  | some x=>cases o with
   | nil=>cases h
   | cons b o=>cases b with
    | none=>cases h
    | some y=>cases o with
     | nil=>exact ⟨x,y,rfl,h⟩
     | cons _ _=>cases h
theorem tgW2 {i j:Nat} {d:D} {ρ:List (Option Sl)} {Q:List (Option Sl)→Prop} (h:tgW (.two i j) d ρ Q):∃ a b,d=.tup [a,b]∧Q ((ρ.set i (some (.im a))).set j (some (.im b))):=by
 cases d with
 | tup l=>cases l with
  | nil=>exact h.elim
  | cons a l=>cases l with
   | nil=>exact h.elim
   | cons b l=>cases l with
    | nil=>exact ⟨a,b,rfl,h⟩
    | cons _ _=>exact h.elim
 | _=>exact h.elim
theorem tgW3 {i j k:Nat} {d:D} {ρ:List (Option Sl)} {Q:List (Option Sl)→Prop} (h:tgW (.three i j k) d ρ Q):∃ a b c,d=.tup [a,b,c]∧Q (((ρ.set i (some (.im a))).set j (some (.im b))).set k (some (.im c))):=by
 cases d with
 | tup l=>cases l with
  | nil=>exact h.elim
  | cons a l=>cases l with
   | nil=>exact h.elim
   | cons b l=>cases l with
    | nil=>exact h.elim
    | cons c l=>cases l with
     | nil=>exact ⟨a,b,c,rfl,h⟩
     | cons _ _=>exact h.elim
 | _=>exact h.elim
theorem itrW.go {x:AV} {Q:List D→Prop} (h:itrW x Q):∃ ds,IterS B n x ds∧Q ds:=by
 cases x with
 | im d=>cases d with
  | tup l=>exact ⟨_,.tup,h⟩
  | _=>exact h.elim
 | ct m c=>cases c with
  | lst l=>cases m with
   | fz=>exact ⟨_,.list nofun,h⟩
   | fr=>exact ⟨_,.list nofun,h⟩
   | ow i=>exact h.elim
  | rng j k=>cases m <;> exact ⟨_,.rng h.1 h.2.1 h.2.2.1 h.2.2.2.1,h.2.2.2.2⟩
  | _=>cases m <;> exact h.elim
end
end Mine
end

section
open PySem PySem.W PyProof.Rows PySem.Calls PyProof
set_option backward.match.sparseCases false
set_option tactic.hygienic false
namespace Mine
section
variable {B:Bs} {F:Fi} {n:Nat} {ρ:List (Option Sl)}
theorem cmpEqW.go {x y:AV} {Q:Bool→Prop} (h:cmpW n .Eq x y Q):∃ z,CmpS B n .Eq x y z∧Q z:=by
 cases x with
 | im d=>cases y with
  | im e=>cases d with
   | int a=>cases e with
    | int b=>exact ⟨_,.eqI a b,h⟩
    | _=>exact h.elim
   | str a=>cases e with
    | str b=>exact ⟨_,.eqS a b,h⟩
    | _=>exact h.elim
   | bool a=>cases e with
    | bool b=>exact ⟨_,.eqB a b,h⟩
    | _=>exact h.elim
   | tup a=>cases e with
    | tup b=>exact ⟨_,.eqT h.1 h.2.1 h.2.2.1 h.2.2.2.1,h.2.2.2.2⟩
    | _=>exact h.elim
   | none=>exact h.elim
  | ct _ _=>cases d <;> exact h.elim
 | ct m c=>cases c with
  | idc l=>cases y with
   | ct m' c=>cases c with
    | idc l'=>cases l' with
     | nil=>exact ⟨_,.eqI0,h⟩
     | cons _ _=>exact h.elim
    | _=>exact h.elim
   | im _=>exact h.elim
  | _=>exact h.elim
theorem cmpNeW.go {x y:AV} {Q:Bool→Prop} (h:cmpW n .NotEq x y Q):∃ z,CmpS B n .NotEq x y z∧Q z:=by
 cases x with
 | im d=>cases d with
  | int a=>cases y with
   | im e=>cases e with
    | int b=>exact ⟨_,.neI a b,h⟩
    | _=>exact h.elim
   | ct _ _=>exact h.elim
  | str a=>cases y with
   | im e=>cases e with
    | str b=>exact ⟨_,.neS a b,h⟩
    | _=>exact h.elim
   | ct _ _=>exact h.elim
  | bool a=>cases y with
   | im e=>cases e with
    | bool b=>exact ⟨_,.neB a b,h⟩
    | _=>exact h.elim
   | ct _ _=>exact h.elim
  | _=>exact h.elim
 | ct _ _=>exact h.elim
theorem cmpInW.go {x y:AV} {Q:Bool→Prop} (h:cmpW n .In x y Q):∃ z,CmpS B n .In x y z∧Q z:=by
 cases x with
 | im d=>cases d with
  | str k=>cases y with
   | im e=>cases e with
    | tup l=>obtain ⟨ss,rfl,h⟩:=h;exact ⟨_,.inTS,h⟩
    | _=>exact h.elim
   | ct m c=>cases c with
    | dct l=>exact ⟨_,.inD,h⟩
    | lst l=>obtain ⟨ss,rfl,h⟩:=h;exact ⟨_,.inStrs,h⟩
    | _=>exact h.elim
  | int k=>cases y with
   | im e=>exact h.elim
   | ct m c=>cases c with
    | lst l=>obtain ⟨ss,rfl,h⟩:=h;exact ⟨_,.inInts,h⟩
    | _=>exact h.elim
  | tup a=>cases y with
   | im e=>exact h.elim
   | ct m c=>cases c with
    | lst l=>exact ⟨_,.inLD h.1 h.2.1 h.2.2.1 h.2.2.2.1,h.2.2.2.2⟩
    | _=>exact h.elim
  | _=>exact h.elim
 | ct _ _=>exact h.elim
theorem cmpNinW.go {x y:AV} {Q:Bool→Prop} (h:cmpW n .NotIn x y Q):∃ z,CmpS B n .NotIn x y z∧Q z:=by
 cases x with
 | im d=>cases d with
  | str k=>cases y with
   | im e=>exact h.elim
   | ct m c=>cases c with
    | dct l=>exact ⟨_,.notInD,h⟩
    | lst l=>obtain ⟨ss,rfl,h⟩:=h;exact ⟨_,.notInStrs,h⟩
    | _=>exact h.elim
  | _=>exact h.elim
 | ct _ _=>exact h.elim
theorem cmpW.go {op:CmpOp} {x y:AV} {Q:Bool→Prop} (h:cmpW n op x y Q):∃ z,CmpS B n op x y z∧Q z:=by
 cases op with
 | Eq=>exact cmpEqW.go h
 | NotEq=>exact cmpNeW.go h
 | In=>exact cmpInW.go h
 | NotIn=>exact cmpNinW.go h
 | Is =>
  cases x with
  | im d=>cases y with
   | im e=>cases e with
    | none=>exact ⟨_,.isNone d,h⟩
    | _=>exact h.elim
   | ct _ _=>exact h.elim
  | ct _ _=>exact h.elim
 | IsNot=>exact h.elim
 | LtE =>
  cases x with
  | im d=>cases d with
   | int a=>cases y with
    | im e=>cases e with
     | int b=>exact ⟨_,.leI a b,h⟩
     | _=>exact h.elim
    | ct _ _=>exact h.elim
   | str a=>cases y with
    | im e=>cases e with
     | str b=>exact ⟨_,.leS a b,h⟩
     | _=>exact h.elim
    | ct _ _=>exact h.elim
   | _=>exact h.elim
  | ct _ _=>exact h.elim
 | Lt =>
  cases x with
  | im d=>cases d with
   | int a=>cases y with
    | im e=>cases e with
     | int b=>exact ⟨_,.ltI a b,h⟩
     | _=>exact h.elim
    | ct _ _=>exact h.elim
   | _=>exact h.elim
  | ct _ _=>exact h.elim
 | Gt =>
  cases x with
  | im d=>cases d with
   | int a=>cases y with
    | im e=>cases e with
     | int b=>exact ⟨_,.gtI a b,h⟩
     | _=>exact h.elim
    | ct _ _=>exact h.elim
   | _=>exact h.elim
  | ct _ _=>exact h.elim
 | GtE =>
  cases x with
  | im d=>cases d with
   | int a=>cases y with
    | im e=>cases e with
     | int b=>exact ⟨_,.geI a b,h⟩
     | _=>exact h.elim
    | ct _ _=>exact h.elim
   | _=>exact h.elim
  | ct _ _=>exact h.elim
theorem Bi.boot (b:Bi):bootBuiltins b.nm=some b.vl:=by cases b <;> decide +kernel
theorem Bi.cal (b:Bi):IsCallee b.vl:=by cases b <;> trivial
theorem Bi.non {b:Bi}:non9.contains b.nm=true:=by cases b <;> decide +kernel
theorem Ty.boot (t:Ty):bootBuiltins (Str.ofString t.nm)=some (.type t.nm):=by cases t <;> decide +kernel
theorem Ty.non {t:Ty}:non9.contains (Str.ofString t.nm)=true:=by cases t <;> decide +kernel
theorem buiW.go (N:En B) {b:Bi} {rs:List AV} {Q:AV→Prop} (h:buiW b rs Q):∃ z,BuiS B n b.vl rs z∧Q z:=by
 have hq:=N.quiet
 cases rs with
 | nil=>cases b <;> exact h.elim
 | cons x rs=>cases rs with
  | cons y rs =>
   cases b with
   | range=>cases x with
    | im d=>cases d with
     | int j=>cases y with
      | im d=>cases d with
       | int k=>cases rs with
        | nil=>exact ⟨_,.range2 j k,h⟩
        | cons _ _=>exact h.elim
       | _=>exact h.elim
      | ct _ _=>exact h.elim
     | _=>exact h.elim
    | ct _ _=>exact h.elim
   | _=>cases x with
    | im d=>cases d <;> exact h.elim
    | ct m c=>cases c <;> exact h.elim
  | nil =>
   cases b with
   | range=>cases x with
    | im d=>cases d with
     | int k=>exact ⟨_,.range1 k,h⟩
     | _=>exact h.elim
    | ct _ _=>exact h.elim
   | abs=>cases x with
    | im d=>cases d with
     | int k=>exact ⟨_,.abs k,h⟩
     | _=>exact h.elim
    | ct _ _=>exact h.elim
   | len=>cases x with
    | im d=>cases d with
     | tup k=>exact ⟨_,.lenT h.1,h.2⟩
     | _=>exact h.elim
    | ct _ c=>cases c with
     | lst l=>exact ⟨_,.lenL h.1,h.2⟩
     | _=>exact h.elim
   | lst=>cases x with
    | im d=>cases d with
     | tup k=>exact ⟨_,.listT h.1,h.2⟩
     | _=>exact h.elim
    | ct _ c=>cases c with
     | lst l=>exact ⟨_,.listL h.1,h.2⟩
     | dct l=>exact ⟨_,.listD h.1 hq,h.2⟩
     | ddc l=>exact ⟨_,.listDD h.1 hq,h.2⟩
     | idc l=>exact ⟨_,.listID h.1 hq,h.2⟩
     | _=>exact h.elim
   | tup=>cases x with
    | im d=>exact h.elim
    | ct _ c=>cases c with
     | lst l=>exact ⟨_,.tupleL h.1,h.2⟩
     | _=>exact h.elim
   | dict=>cases x with
    | im d=>exact h.elim
    | ct _ c=>cases c with
     | dct l=>exact ⟨_,.dictD h.1,h.2⟩
     | _=>exact h.elim
   | any=>cases x with
    | im d=>exact h.elim
    | ct _ c=>cases c with
     | lst l=>obtain ⟨bs,rfl,h⟩:=h;exact ⟨_,.any hq,h⟩
     | _=>exact h.elim
   | sorted=>cases x with
    | im d=>exact h.elim
    | ct _ c=>cases c with
     | lst l =>
      rcases h with ⟨ss,rfl,h1,h⟩ | ⟨ss,rfl,h1,h⟩ | ⟨a,b,i,j,rfl,h1,h⟩
      ·exact ⟨_,.sorted h1,h⟩
      ·exact ⟨_,.sortedI h1,h⟩
      ·exact ⟨_,.sorted2 h1,h⟩
     | _=>exact h.elim
theorem tgW.go (N:En B) {t:Tg} {e:Expr} {d:D} {Q:List (Option Sl)→Prop} (hc:chkTg F t e=true) (h:tgW t d ρ Q):AsW B F n ρ e d Q:=by
 cases t with
 | one i =>
  refine e3_4 (chkNT hc) ?_
  intro x p k ez1 h1 h2 h3
  subst ez1
  exact .name i h1 h2 h3 h
 | two i j =>
  refine an2 hc ?_
  intro hc hk
  refine e3_1 (t12 hc) ?_
  intro es m p ez2
  subst ez2
  refine e2_2 (two2T (k:=fun a b=>chkN F i a&&chkN F j b) hk) ?_
  intro a b ez3 hk
  subst ez3
  refine an2 hk ?_
  intro h1 h2
  refine e3_4 (chkNT h1) ?_
  intro x px kx ez4 hx1 hx2 hx3
  clear h1;subst ez4
  refine e3_4 (chkNT h2) ?_
  intro y py ky ez5 hy1 hy2 hy3
  clear h2;subst ez5
  refine e2_2 (tgW2 h) ?_
  intro a b ez6 h
  clear h;subst ez6
  exact .two i j hx1 hy1 hx2 hy2 hx3 hy3 h N.quiet
 | three i j l =>
  refine an2 hc ?_
  intro hc hk
  refine e3_1 (t12 hc) ?_
  intro es m p ez7
  clear hc;subst ez7
  refine e3_2 (three3T (k:=fun a b c=>chkN F i a&&chkN F j b&&chkN F l c) hk) ?_
  intro a b c ez8 hk
  clear hk hc;subst ez8
  refine an3 hk ?_
  intro h1 h2 h3
  refine e3_4 (chkNT h1) ?_
  intro x px kx ez9 hx1 hx2 hx3
  (try clear h1;try clear hc;try clear hk);subst ez9
  refine e3_4 (chkNT h2) ?_
  intro y py ky ez10 hy1 hy2 hy3
  (try clear hc;try clear hk;try clear h2);subst ez10
  refine e3_4 (chkNT h3) ?_
  intro z pz kz ez11 hz1 hz2 hz3
  (try clear hc;try clear hk;try clear h3);subst ez11
  refine e3_2 (tgW3 h) ?_
  intro a b c ez12 h
  clear h;subst ez12
  exact .three i j l hx1 hy1 hz1 hx2 hy2 hz2 hx3 hy3 hz3 h N.quiet
theorem tgW.same {t:Tg} {m:Nat} {d:D} {Q:List (Option Sl)→Prop} (hm:tgIn m t=true) (h:tgW t d ρ Q):tgW t d ρ fun ρ2=>ρ2.drop m=ρ.drop m∧Q ρ2:=by
 cases t with
 | one i=>exact ⟨by rw [List.drop_set_of_lt (of_decide_eq_true hm)],h⟩
 | two i j =>
  refine e2_2 (tgW2 h) ?_
  intro a b ez13 h
  subst ez13
  refine an2 hm ?_
  intro h1 h2
  exact ⟨by rw [List.drop_set_of_lt (of_decide_eq_true h2),List.drop_set_of_lt (of_decide_eq_true h1)],h⟩
 | three i j k =>
  refine e3_2 (tgW3 h) ?_
  intro a b c ez14 h
  clear h;subst ez14
  refine an3 hm ?_
  intro h1 h2 h3
  exact ⟨by rw [List.drop_set_of_lt (of_decide_eq_true h3),List.drop_set_of_lt (of_decide_eq_true h2),List.drop_set_of_lt (of_decide_eq_true h1)],h⟩
end
end Mine
end

section
open PySem PySem.W PyProof.Rows PySem.Calls PyProof
set_option backward.match.sparseCases false
set_option tactic.hygienic false
namespace Mine
structure Snd (B:Bs) (n:Nat) (x:Ex):Prop where
 e:∀ {F:Fi} {ρ:List (Option Sl)} {e:Expr} {Q:AV→Prop},chkE F x e=true→wpE B n x ρ Q→EW B F NoX n ρ e Q
 es:∀ {F:Fi} {ρ:List (Option Sl)} {es:List Expr} {Q:List AV→Prop},chkEs F x es=true→wpEs B n x ρ Q→LW B F NoX n ρ es fun rs=>rs.length=x.len∧Q rs
 o:∀ {F:Fi} {ρ:List (Option Sl)} {o:Option Expr} {Q:Option Int→Prop},chkO F x o=true→wpO B n x ρ Q→PW B F NoX n ρ o Q
 c:∀ {F:Fi} {ρ:List (Option Sl)} {es:List Expr} {Q:Bool→Prop},chkC F x es=true→wpC B n x ρ Q→IfsW B F n ρ es Q
 t:∀ {F:Fi} {ρ:List (Option Sl)} {e:Expr} {Q:Bool→Prop},chkT F x e=true→wpT B n x ρ Q→TW B F NoX n ρ e Q
 b:∀ {a:Bool} {F:Fi} {ρ:List (Option Sl)} {es:List Expr} {Q:Bool→Prop},chkTs F x es=true→wpB B n a x ρ Q→AW B F NoX n ρ (bif a then .And else .Or) es Q
theorem bad {P:Prop} (h:false=true):P:=nomatch h
section
variable {B:Bs} {F:Fi} {n:Nat} {ρ:List (Option Sl)} {x:Ex}
theorem Snd.ofE (h:∀ {F:Fi} {ρ:List (Option Sl)} {e:Expr} {Q:AV→Prop},chkE F x e=true→wpE B n x ρ Q→EW B F NoX n ρ e Q)
  (h1:∀ F es,chkEs F x es=false:=by intros;rfl) (h2:∀ F es,chkO F x es=false:=by intros;rfl) (h3:∀ F es,chkC F x es=false:=by intros;rfl)
  (h4:∀ F es,chkT F x es=false:=by intros;rfl) (h5:∀ F es,chkTs F x es=false:=by intros;rfl):Snd B n x :=
 ⟨h,fun q=>by rw [h1] at q;exact bad q,fun q=>by rw [h2] at q;exact bad q,fun q=>by rw [h3] at q;exact bad q,fun q=>by rw [h4] at q;exact bad q,fun q=>by rw [h5] at q;exact bad q⟩
theorem Snd.ofT (h:∀ {F:Fi} {ρ:List (Option Sl)} {e:Expr} {Q:Bool→Prop},chkT F x e=true→wpT B n x ρ Q→TW B F NoX n ρ e Q)
  (h1:∀ F es,chkEs F x es=false:=by intros;rfl) (h2:∀ F es,chkO F x es=false:=by intros;rfl) (h3:∀ F es,chkC F x es=false:=by intros;rfl)
  (h4:∀ F es,chkE F x es=false:=by intros;rfl) (h5:∀ F es,chkTs F x es=false:=by intros;rfl):Snd B n x :=
 ⟨fun q=>by rw [h4] at q;exact bad q,fun q=>by rw [h1] at q;exact bad q,fun q=>by rw [h2] at q;exact bad q,fun q=>by rw [h3] at q;exact bad q,h,fun q=>by rw [h5] at q;exact bad q⟩
theorem tgW.mono {t:Tg} {d:D} {Q Q':List (Option Sl)→Prop} (h:tgW t d ρ Q) (hq:∀ ρ,Q ρ→Q' ρ):tgW t d ρ Q':=by
 cases t with
 | one i=>exact hq _ h
 | two i j=>obtain ⟨a,b,rfl,h⟩:=tgW2 h;exact hq _ h
 | three i j k=>obtain ⟨a,b,c,rfl,h⟩:=tgW3 h;exact hq _ h
theorem noStar {x:Ex} {es:List Expr} (h:chkEs F x es=true) (env:Env):(starEach es env).any (·.1)=false:=by
 induction es generalizing x with
 | nil=>rfl
 | cons e es ih =>
  cases x with
  | cons a r =>
   refine an3 h ?_
   intro h h1 h2
   rw [star_eq (nz h),List.any_cons,ih h2];rfl
  | _=>cases h
theorem backAny (pos:Pos):∀ l:List (Bool×Sem Value),l.any (·.1)=false→(backTo pos l).any (·.1)=false
 | [],_=>rfl
 | ⟨b,t⟩::l,h=>by
  rw [List.any_cons,Bool.or_eq_false_iff] at h
  show (b||(backTo pos l).any (·.1))=false
  have h1:b=false:=h.1
  rw [backAny pos l h.2,h1];rfl
theorem args1 {x:Ex} {es:List Expr} (hne:(!es.isEmpty)=true) (h:chkEs F x es=true):∃ e r,es=e::r∧(∀ env,starEach (e::r) env=(false,eval e env)::starEach r env)∧∀ pos env,(backTo pos (starEach r env)).any (·.1)=false:=by
 cases es with
 | nil=>cases hne
 | cons e r =>
  cases x with
  | cons a q =>
   refine an3 h ?_
   intro h h1 h2
   exact ⟨e,r,rfl,fun env=>star_eq (nz h) env r,fun pos env=>backAny pos _ (noStar h2 env)⟩
  | _=>cases h
theorem dspW.go {rs:List AV} {Q:List D→Prop} (h:dspW rs Q):∃ ds,Dats rs ds∧ds.length=rs.length∧Q ds:=by
 have:∀ (rs:List AV) ds,allIm rs=some ds→Dats rs ds∧ds.length=rs.length:=by
  intro rs
  induction rs with
  | nil=>intro ds q;cases q;exact ⟨.nil,rfl⟩
  | cons r rs ih =>
   intro ds q
   cases r with
   | ct _ _=>cases q
   | im d =>
    change (match allIm rs with | some ds=>some (d::ds) | none=>none)=some ds at q
    cases w:allIm rs with
    | none=>rw [w] at q;cases q
    | some es=>rw [w] at q;cases q;obtain ⟨p,q⟩:=ih es w;exact ⟨.cons p,by rw [List.length_cons,List.length_cons,q]⟩
 unfold dspW at h
 cases q:allIm rs with
 | none=>rw [q] at h;exact h.elim
 | some ds=>rw [q] at h;obtain ⟨p,r⟩:=this rs ds q;exact ⟨ds,p,r,h⟩
theorem slotIm_some {o:Option (Option Sl)} {d:D} (h:slotIm o=some d):o=some (some (.im d)):=by
 cases o with
 | none=>cases h
 | some o=>cases o with
  | none=>cases h
  | some s=>cases s with
   | im d=>cases h;rfl
   | _=>cases h
theorem slots_at {ρ:List (Option Sl)}:∀ {caps:List Nat} {ds:List D},slotsIm ρ caps=some ds→ds.length=caps.length∧∀ (i j:Nat),caps[i]?=some j→∃ d,ρ[j]?=some (some (.im d))∧ds[i]?=some d
 | [],ds,h=>by cases h;exact ⟨rfl,nofun⟩
 | c::caps,ds,h=>by
  change (match slotIm ρ[c]?,slotsIm ρ caps with | some d,some ds=>some (d::ds) | _,_=>none)=some ds at h
  cases w:slotIm ρ[c]? with
  | none=>rw [w] at h;cases h
  | some d =>
   cases u:slotsIm ρ caps with
   | none=>rw [w,u] at h;cases h
   | some es =>
    rw [w,u] at h;cases h
    refine e0_2 (slots_at u) ?_
    intro p q
    refine ⟨by rw [List.length_cons,List.length_cons,p],fun i j hj=>?_⟩
    cases i with
    | succ i=>exact q i j hj
    | zero =>
     obtain rfl:c=j:=Option.some.inj hj
     refine ⟨d,?_,rfl⟩
     exact slotIm_some w
theorem clmSound (N:En B) {f:Str} {a body:Ex} {names:List Str} {caps:List Nat} (iha:Snd B n a) {e:Expr} {Q:AV→Prop} (hc:chkE F (.clm f a names caps body) e=true) (hw:wpE B n (.clm f a names caps body) ρ Q):EW B F NoX n ρ e Q:=by
 refine an6 hc ?_
 intro h
 refine T10 h ?_
 intro f' p es q hn hg hf hl hk
 obtain rfl:f=f':=eq_of_beq hn
 refine two2TC (es:=es) hk ?_
 intro x y hk
 refine an6 hk ?_
 intro hz ha ht hp hL hb
 refine e5_1 (t16 ht) ?_
 intro pn pp lb sc lp ez3
 subst ez3
 obtain rfl:pn="atom":=eq_of_beq hp
 change chkLam F sc caps names=true at hL
 have hP:LamP names body sc lb:=by
  by_cases w:fiOk sc (lamVars "atom" names)=true
  ·refine ⟨w,?_⟩
   have hb:(if h:fiOk sc (lamVars "atom" names)=true then chkE ⟨sc,lamVars "atom" names,1,h,false⟩ body lb else false)=true:=hb
   rw [dif_pos w] at hb;exact hb
  ·have hb:(if h:fiOk sc (lamVars "atom" names)=true then chkE ⟨sc,lamVars "atom" names,1,h,false⟩ body lb else false)=true:=hb
   rw [dif_neg w] at hb;cases hb
 refine an8 hL ?_
 intro c1 c2 c3 c4 c5 c6 c7 c8
 refine e0_3 (isGT hg) ?_
 intro g1 g2 g3
 change (match slotsIm ρ caps with | some ds=>ds.all D.flat=true∧wpE B n a ρ (fun x=>clmW B n f names body x ds Q) | none=>False) at hw
 cases hs:slotsIm ρ caps with
 | none=>rw [hs] at hw;exact hw.elim
 | some ds =>
  rw [hs] at hw
  refine e0_2 hw ?_
  clear hw
  intro hfl hw
  refine e0_2 (slots_at hs) ?_
  intro s1 s2
  have c7:names.length=caps.length:=of_decide_eq_true c7
  refine EW.callLam (names:=names) (caps:=caps) (ds:=ds) (Pb:=LamP names body) g1 hl hP (of_decide_eq_true c1) (notT c3) (notT c2) (fun x hx=>of_decide_eq_false (notT (List.all_eq_true.mp c4 x hx))) (eq_of_beq c5) ?_ ?_
   ((iha.e ha hw).mono fun x hx=>?_) (N.fns f hf) (fun _ _ _ _ _ _=>rfl) (fun env r=>star_eq (nz hz) env r) g2
  ·intro x hx hfx
   have:=List.all_eq_true.mp c6 x hx
   rw [Bool.or_eq_true] at this
   rcases this with w | w
   ·exact absurd hfx (of_decide_eq_false (notT w))
   ·refine e1_2 (List.any_eq_true.mp w) ?_
    intro y hy w
    refine an2 w ?_
    intro w1 w2
    refine e1_1 (List.mem_iff_getElem?.mp hy) ?_
    intro i hi
    exact ⟨i,y.2,by rw [hi,← (of_decide_eq_true w1:y.1=x.1)],of_decide_eq_false (notT w2)⟩
  ·intro i x hi
   refine e1_1 (List.getElem?_eq_some_iff.mp hi) ?_
   intro hlt hx
   have hlt':i<caps.length:=c7▸hlt
   have hz:(names.zip caps)[i]?=some (x,caps[i]):=List.getElem?_zip_eq_some.mpr ⟨hi,List.getElem?_eq_getElem hlt'⟩
   refine an2 ((List.all_eq_true.mp c8 _ (List.mem_of_getElem? hz))) ?_
   intro w1 w2
   refine e1_2 (s2 i _ (List.getElem?_eq_getElem hlt')) ?_
   intro d hd he
   refine ⟨eq_of_beq w1,caps[i],?_⟩
   change (F.vars[caps[i]]?.any fun y=>decide (y.1=x) && !decide (y.2=.loc))=true at w2
   cases q:F.vars[caps[i]]? with
   | none=>rw [q] at w2;cases w2
   | some y =>
    rw [q] at w2
    refine an2 w2 ?_
    intro w2 w3
    obtain ⟨y1,y2⟩:=y
    obtain rfl:y1=x:=of_decide_eq_true w2
    exact ⟨y2,d,List.getElem?_eq_getElem hlt',rfl,of_decide_eq_false (notT w3),hd,he,List.all_eq_true.mp hfl d (List.mem_of_getElem? he)⟩
  ·cases x with
   | im d0=>exact ⟨d0,rfl,hx⟩
   | ct _ _=>exact hx.elim
end
end Mine
end

section
open PySem PySem.W PyProof.Rows PySem.Calls PyProof
set_option backward.match.sparseCases false
set_option tactic.hygienic false
namespace Mine
section
variable {B:Bs} {F:Fi} {n:Nat} {ρ:List (Option Sl)} {x:Ex} {X:Str→Prop}
theorem PW.mono {o:Option Expr} {Q Q':Option Int→Prop} (h:PW B F X n ρ o Q) (q:∀ r,Q r→Q' r):PW B F X n ρ o Q' :=
 .mk fun env oa A s R a=>wpAny_mono (h.go env oa A s R a) (fun v s' w=>e1_2 w fun r w1 w2=>⟨r,q r w1,w2⟩) fun _ _ x=>x
theorem IfsW.mono {es:List Expr} {Q Q':Bool→Prop} (h:IfsW B F n ρ es Q) (q:∀ r,Q r→Q' r):IfsW B F n ρ es Q' :=
 .mk fun env oa A s E R a=>wpAny_mono (h.go env oa A s E R a) (fun b s' w=>⟨q b w.1,w.2⟩) fun _ _ x=>x
theorem constInt_go {k:Int} {e:Expr} {Q:AV→Prop} (h:constInt k e=true) (hq:Q (.im (.int k))):EW B F NoX n ρ e Q∧∀ o i,subscripted e false o i=operate [o,i] (getItem o i):=by
 unfold constInt at h
 rw [Bool.or_eq_true] at h
 rcases h with h | h
 ·obtain ⟨_,_,rfl⟩:=isCT h;exact ⟨.cint hq,fun _ _=>rfl⟩
 ·refine an3 h ?_
  intro h
  refine T5 h ?_
  intro o x p h1 h2
  obtain rfl:o=.USub:=of_decide_eq_true h1
  refine e2_1 (isCT (c:=.int (-k)) (e:=x) h2) ?_
  intro _ _ ez2
  clear h2 h1;subst ez2
  exact ⟨.un (.cint ⟨_,.neg _,by rw [Int.neg_neg];exact hq⟩),fun _ _=>rfl⟩
theorem compSound (N:En B) {vars:List (Str×Kd)} {m:Nat} {caps:List Nat} {t:Tg} {it c elt:Ex} (ih1:Snd B n it) (ih2:Snd B n c) (ih3:Snd B n elt) {e:Expr} {Q:AV→Prop} (hc:chkE F (.comp vars m caps t it c elt) e=true) (hw:wpE B n (.comp vars m caps t it c elt) ρ Q) :
  ∃ (el tg i:Expr) (ifs:List Expr) (sc:Scope) (p:Pos) (hok:fiOk (relabelS sc F.scope) vars=true),e=.ListComp el [⟨tg,i,ifs,0⟩] sc p∧compB F sc m caps vars=true∧(∀ env x,foldedSetIterable i env x=pure x) ∧
  EW B F NoX n ρ i fun r=>∃ ds,IterS B n r ds∧∃ J:List D→List D→Prop,J ds []∧(∀ d rest ac,J (d::rest) ac→CW B (Fcm F sc vars m hok) n m (compStart0 m ρ caps) tg ifs el d (CoK J rest ac))∧∀ l,J [] l→Q (.ct .fr (.lst l)):=by
 refine an2 hc ?_
 intro h
 refine T14 h ?_
 intro el tg i ifs sc p hk
 change (chkE F it i && !((view i).tag == 0)&&compB F sc m caps vars&&tgIn m t&&(if h:fiOk (relabelS sc F.scope) vars=true then
    chkTg (Fcm F sc vars m h) t tg&&chkC (Fcm F sc vars m h) c ifs&&chkE (Fcm F sc vars m h) elt el else false))=true at hk
 refine an5 hk ?_
 intro h1 h2 h3 h4 h5
 by_cases hok:fiOk (relabelS sc F.scope) vars=true
 ·rw [dif_pos hok] at h5
  refine an3 h5 ?_
  intro h6 h7 h8
  refine ⟨el,tg,i,ifs,sc,p,hok,rfl,h3,fun env x=>set_eq (nz h2) env x,(ih1.e h1 hw).mono fun r hr=>?_⟩
  refine e1_2 (itrW.go (B:=B) (n:=n) hr) ?_
  intro ds hi hq
  refine ⟨ds,hi,compL _ _,hq,fun d rest ac hd=>tgW.go N h6 ((tgW.same h4 hd).mono fun ρ2 hr=>⟨hr.1,(ih2.c h7 hr.2).mono fun b hb=>?_⟩),fun l hl=>hl⟩
  cases b with
  | true =>
   refine (ih3.e h8 hb).mono fun r hr=>?_
   cases r with
   | im e=>exact ⟨e,rfl,hr⟩
   | ct _ _=>exact hr.elim
  | false=>exact hb
 ·rw [dif_neg hok] at h5;cases h5
theorem dicT {e:Expr} (h:((view e).tag == 15&&(view e).os.isEmpty&&(view e).es.isEmpty)=true):∃ p,e=.Dict [] [] p:=by
 refine an3 h ?_
 intro h
 refine T15 h ?_
 intro ks vs p h1 h2
 have h1:ks.isEmpty=true:=h1
 have h2:vs.isEmpty=true:=h2
 exact ⟨p,by rw [List.isEmpty_iff.mp h1,List.isEmpty_iff.mp h2]⟩
theorem Snd.all (N:En B) (x:Ex):Snd B n x:=by
 induction x with
 | nm i =>
  exact .ofE fun hc hw=>by
   rename_i F ρ e Q
   refine an2 hc ?_
   intro h
   refine T1 h ?_
   intro x p h1
   refine e1_1 (inFT h1) ?_
   intro k hk
   change (match ρ[i]? with | some (some sl)=>Q (sl.av i) | _=>False) at hw
   cases q:ρ[i]? with
   | none=>rw [q] at hw;exact hw.elim
   | some sl=>cases sl with
    | none=>rw [q] at hw;exact hw.elim
    | some sl=>rw [q] at hw;exact .name i hk q hw
 | ci k=>exact .ofE fun hc hw=>e2_1 (isCT hc) fun _ _ rz1=>by obtain rfl:=rz1;exact .cint hw
 | cs k=>exact .ofE fun hc hw=>e2_1 (isCT hc) fun _ _ rz2=>by obtain rfl:=rz2;exact .cstr hw
 | cb k=>exact .ofE fun hc hw=>e2_1 (isCT hc) fun _ _ rz3=>by obtain rfl:=rz3;exact .cbool hw
 | cn=>exact .ofE fun hc hw=>e2_1 (isCT hc) fun _ _ rz4=>by obtain rfl:=rz4;exact .cnone hw
 | gd k =>
  exact .ofE fun hc hw=>by
   rename_i F ρ e Q
   refine an2 hc ?_
   intro h
   refine T1 h ?_
   intro x p h1
   change (match G9[k]? with | some p=>p.1 == x&&isG F x | none=>false)=true at h1
   change (match G9[k]? with | some p=>Q (.im p.2) | none=>False) at hw
   cases q:G9[k]? with
   | none=>rw [q] at hw;exact hw.elim
   | some y =>
    rw [q] at hw h1
    refine an2 h1 ?_
    intro h1 h2
    refine e1_2 (N.glo k y q) ?_
    intro v hv hi
    refine e0_3 (isGT h2) ?_
    intro g1 g2 g3
    exact .glob g1 (eq_of_beq h1▸hv) hi hw g2
 | gf =>
  exact .ofE fun hc hw=>by
   refine an3 hc ?_
   intro h
   refine T1 h ?_
   intro x p h1 h2
   obtain rfl:x="neat_atom":=eq_of_beq h1
   refine e0_3 (isGT h2) ?_
   intro g1 g2 g3
   exact .gfn g1 N.neat hw g2
 | bin op a b iha ihb =>
  exact .ofE fun hc hw=>by
   refine an3 hc ?_
   intro h
   refine T3 h ?_
   intro l o r p ho hk
   obtain rfl:o=op:=of_decide_eq_true ho
   refine an2 hk ?_
   intro h1 h2
   exact .bin ((iha.e h1 hw).mono fun x hx=>(ihb.e h2 hx).mono fun y hy=>binW.go hy)
 | cmp op a b iha ihb =>
  exact .ofE fun hc hw=>by
   refine an3 hc ?_
   intro h
   refine T4 h ?_
   intro l o r p ho hk
   obtain rfl:o=op:=of_decide_eq_true ho
   refine an3 hk ?_
   intro h0 h1 h2
   exact .cmp ((iha.e h1 hw).mono fun x hx=>(ihb.e h2 hx).mono fun y hy=>cmpW.go hy) (notT h0)
 | neg a iha =>
  exact .ofE fun hc hw=>by
   refine an3 hc ?_
   intro h
   refine T5 h ?_
   intro o x p ho hk
   obtain rfl:o=.USub:=of_decide_eq_true ho
   exact .un ((iha.e hk hw).mono fun x hx=>negW.go hx)
 | not a iha =>
  exact .ofE fun hc hw=>by
   refine an3 hc ?_
   intro h
   refine T5 h ?_
   intro o x p ho hk
   obtain rfl:o=.Not:=of_decide_eq_true ho
   exact .un ((iha.e hk hw).mono fun x hx=>e1_2 (truW.go (B:=B) (n:=n) hx) fun b h1 h2=>⟨_,.not h1,h2⟩)
 | and2 a b iha ihb =>
  exact .ofE fun hc hw=>by
   refine an3 hc ?_
   intro h
   refine T6 h ?_
   intro o es p ho hk
   obtain rfl:o=.And:=of_decide_eq_true ho
   refine two2TC (es:=es) hk ?_
   intro l r hk
   refine an2 hk ?_
   intro h1 h2
   exact .and2 ((iha.e h1 hw).mono fun x hx=>by
    refine e1_2 (truW.go (B:=B) (n:=n) hx) ?_
    intro z q1 q2
    refine ⟨z,q1,?_⟩
    clear q1;cases z with
    | true=>exact ihb.e h2 q2
    | false=>exact q2)
 | and3 a b c iha ihb ihc =>
  exact .ofE fun hc hw=>by
   refine an3 hc ?_
   intro h
   refine T6 h ?_
   intro o es p ho hk
   obtain rfl:o=.And:=of_decide_eq_true ho
   refine three3TC (es:=es) hk ?_
   intro l r s hk
   refine an3 hk ?_
   intro h1 h2 h3
   exact .and3 ((iha.e h1 hw).mono fun x hx=>by
    refine e1_2 (truW.go (B:=B) (n:=n) hx) ?_
    intro z q1 q2
    refine ⟨z,q1,?_⟩
    clear q1;cases z with
    | false=>exact q2
    | true=>exact .and2 ((ihb.e h2 q2).mono fun x hx=>by
      refine e1_2 (truW.go (B:=B) (n:=n) hx) ?_
      intro z q1 q2
      refine ⟨z,q1,?_⟩
      clear q1;cases z with
      | true=>exact ihc.e h3 q2
      | false=>exact q2))
 | or2 a b iha ihb =>
  exact .ofE fun hc hw=>by
   refine an3 hc ?_
   intro h
   refine T6 h ?_
   intro o es p ho hk
   obtain rfl:o=.Or:=of_decide_eq_true ho
   refine two2TC (es:=es) hk ?_
   intro l r hk
   refine an2 hk ?_
   intro h1 h2
   exact .or2 ((iha.e h1 hw).mono fun x hx=>by
    refine e1_2 (truW.go (B:=B) (n:=n) hx) ?_
    intro z q1 q2
    refine ⟨z,q1,?_⟩
    clear q1;cases z with
    | true=>exact q2
    | false=>exact ihb.e h2 q2)
 | ife t a b iht iha ihb =>
  exact .ofE fun hc hw=>by
   refine an2 hc ?_
   intro h
   refine T7 h ?_
   intro x y z p hk
   refine an3 hk ?_
   intro h1 h2 h3
   exact .ife ((iht.t h1 hw).mono fun b hb=>by
    cases b with
    | true=>exact iha.e h2 hb
    | false=>exact ihb.e h3 hb)
 | sbc a k iha =>
  exact .ofE fun hc hw=>by
   rename_i F ρ e Q
   refine an2 hc ?_
   intro h
   refine T8 h ?_
   intro v s p hk
   refine an4 hk ?_
   intro h1 h2 h3 h4
   refine .sub ((iha.e h4 hw).mono fun x hx=>?_) (constInt_go (B:=B) (F:=F) (n:=n) (ρ:=[]) (Q:=fun _=>True) h1 trivial).2
   exact (constInt_go h1 (sbcW.go (B:=B) (n:=n) (of_decide_eq_true h2) (of_decide_eq_true h3) hx)).1
 | sub a i iha ihi =>
  exact .ofE fun hc hw=>by
   refine an2 hc ?_
   intro h
   refine T8 h ?_
   intro v s p hk
   refine an3 hk ?_
   intro h1 h2 h3
   exact .sub ((iha.e h2 hw).mono fun x hx=>(ihi.e h3 hx).mono fun y hy=>subW.go hy) (ix_eq h1)
 | slc a lo hi iha ihl ihh =>
  exact .ofE fun hc hw=>by
   refine an2 hc ?_
   intro h
   refine T8 h ?_
   intro v s p hk
   refine an3 hk ?_
   intro h
   refine T9 h ?_
   intro l u q h2 h3
   refine an2 h3 ?_
   intro h4 h5
   exact .slice ((iha.e h2 hw).mono fun x hx=>(ihl.o h4 hx).mono fun l hl=>(ihh.o h5 hl).mono fun u hu=>slcW.go hu)
 | call f as ih =>
  exact .ofE fun hc hw=>by
   refine an6 hc ?_
   intro h
   refine T10 h ?_
   intro f' p es q h1 h2 h3 h4 hk
   obtain rfl:f=f':=eq_of_beq h1
   refine e2_3 (args1 h4 hk) ?_
   intro e r ez24 s1 s2
   clear h4;subst ez24
   refine e0_3 (isGT h2) ?_
   intro g1 g2 g3
   exact .call g1 ((ih.es hk hw).mono fun rs hr=>hr.2) (N.fns f h3) s1 g2
 | cav i as ih =>
  exact .ofE fun hc hw=>by
   rename_i F ρ e Q
   refine an4 hc ?_
   intro h
   refine T10 h ?_
   intro f' p es q h1 h4 hk
   refine e1_1 (inFT h1) ?_
   intro k hv
   refine e2_3 (args1 h4 hk) ?_
   intro e r ez26 s1 s2
   clear h4;subst ez26
   refine e1_2 (fnW.go (K:=fun a=>wpEs B n as ρ (fun rs=>SpecA B a NoX n (rs.map AV.ag) fun q=>Q q.av)) hw) ?_
   intro a hs hw
   exact .callV i hv hs ((ih.es hk hw).mono fun rs hr=>hr.2) s1
 | clm f a names caps body iha ihb=>exact .ofE fun hc hw=>clmSound N iha hc hw
 | bui b as ih =>
  exact .ofE fun hc hw=>by
   refine an5 hc ?_
   intro h
   refine T10 h ?_
   intro f' p es q h1 h2 h4 hk
   obtain rfl:b.nm=f':=eq_of_beq h1
   refine e2_3 (args1 h4 hk) ?_
   intro e r ez28 s1 s2
   clear h4;subst ez28
   refine e0_3 (isGT h2) ?_
   intro g1 g2 g3
   exact .bcall g1 (N.non _ Bi.non) b.boot b.cal ((ih.es hk hw).mono fun rs hr=>buiW.go N hr.2) s1 (s2 q) g3 g2
 | isi a t iha =>
  exact .ofE fun hc hw=>by
   refine an4 hc ?_
   intro h
   refine T10 h ?_
   intro f' p es q h1 h2 hk
   obtain rfl:f'="isinstance":=eq_of_beq h1
   refine two2TC (es:=es) hk ?_
   intro x y hk
   refine an5 hk ?_
   intro k1 k2 k3 k4 k5
   refine e2_1 (t1 k3) ?_
   intro tn tp ez31
   clear k3;subst ez31
   obtain rfl:tn=Str.ofString t.nm:=eq_of_beq k4
   refine e0_3 (isGT h2) ?_
   intro g1 g2 g3
   refine e0_3 (isGT k5) ?_
   intro i1 i2 i3
   exact .isi g1 (N.non _ (by decide +kernel)) i1 (N.non _ Ty.non) t.boot ((iha.e k2 hw).mono fun x hx=>isiW.go hx) (by decide +kernel) (fun env=>star_eq (nz k1) env _) i3 i2
 | tup as ih =>
  exact .ofE fun hc hw=>by
   refine an3 hc ?_
   intro h
   refine T12 h ?_
   intro es k p h1 hk
   have h1:as.len≤100:=of_decide_eq_true h1
   exact .tuple ((ih.es hk hw).mono fun rs hr=>by
    refine e1_3 (dspW.go hr.2) ?_
    intro ds q1 q2 q3
    exact ⟨ds,q1,by rw [q2,hr.1];exact Nat.le_trans h1 (by decide),q3⟩)
 | lst as ih =>
  exact .ofE fun hc hw=>by
   refine an3 hc ?_
   intro h
   refine T13 h ?_
   intro es p h1 hk
   have h1:as.len≤100:=of_decide_eq_true h1
   exact .list ((ih.es hk hw).mono fun rs hr=>by
    refine e1_3 (dspW.go hr.2) ?_
    intro ds q1 q2 q3
    exact ⟨ds,q1,by rw [q2,hr.1];exact Nat.le_trans h1 (by decide),q3⟩)
 | comp vars m caps t it c elt ih1 ih2 ih3 =>
  exact .ofE fun hc hw=>by
   obtain ⟨el,tg,i,ifs,sc,p,hok,rfl,h1,h2,h3⟩:=compSound N ih1 ih2 ih3 hc hw
   exact .compV vars m caps hok h1 h3 h2 N.quiet
 | get o k d iho ihk ihd =>
  exact .ofE fun hc hw=>by
   refine an3 hc ?_
   intro h h1 hk
   refine e5_2 (t11 h) ?_
   intro b f ap r q hl ez34
   subst ez34
   have hv:view (.Call (.Attribute b f ap) r [] q)={ v0 with tag:=11,s:=f,es:=b::r }:=by
    show (bif ap.endLine == q.line then _ else _)=_
    rw [hl];rfl
   rw [hv] at h1 hk
   obtain rfl:f="get":=eq_of_beq h1
   refine e3_2 (three3T hk) ?_
   intro x y z hxy hk
   clear hv hk;cases hxy
   refine an6 hk ?_
   intro h
   refine T1 h ?_
   intro xn xp k2 k3 k4 k5 k6
   refine .get2 ((iho.e k2 hw).mono fun x hx=>?_) hl (fun _=>rfl) (fun env=>by rw [star_eq (nz k3),star_eq (nz k4)];rfl)
   refine e2_2 (dctW.go hx) ?_
   intro m l ez36 hx
   clear hx;subst ez36
   refine ⟨_,_,rfl,(ihk.e k5 hx).mono fun y hy=>?_⟩
   refine e1_2 (strW.go hy) ?_
   intro k ez37 hy
   clear hy;subst ez37
   refine ⟨_,rfl,(ihd.e k6 hy).mono fun z hz=>?_⟩
   exact imW.go hz
 | dc0=>exact .ofE fun hc hw=>e1_1 (dicT hc) fun p rz5=>by obtain rfl:=rz5;exact .dict0 hw
 | dd0=>exact .ofE fun hc hw=>e1_1 (dicT hc) fun p rz6=>by obtain rfl:=rz6;exact .dictD0 hw
 | di0=>exact .ofE fun hc hw=>e1_1 (dicT hc) fun p rz7=>by obtain rfl:=rz7;exact .dictI0 hw
 | dc1 k v ihk ihv =>
  exact .ofE fun hc hw=>by
   rename_i F ρ e Q
   refine an2 hc ?_
   intro h
   refine T15 h ?_
   intro ks vs p hk
   refine e1_2 (os1T (o:=ks) hk) ?_
   intro x ez39 hk
   clear hk;subst ez39
   refine e1_2 (one1T hk) ?_
   intro y ez40 hk
   clear hk;subst ez40
   refine an2 hk ?_
   intro h1 h2
   refine .dict1 ((ihk.e h1 hw).mono fun x hx=>?_)
   refine e1_2 (strW.go hx) ?_
   intro k ez41 hx
   clear hx;subst ez41
   exact ⟨_,rfl,(ihv.e h2 hx).mono fun y hy=>imW.go hy⟩
 | dss a b c d =>
  exact .ofE fun hc hw=>by
   refine an3 hc ?_
   intro h
   refine T15 h ?_
   intro ks vs p h1 hk
   refine e2_2 (os2T (o:=ks) hk) ?_
   intro x y ez43 hk
   clear hk;subst ez43
   refine e2_2 (two2T hk) ?_
   intro z w ez44 hk
   clear hk;subst ez44
   refine an4 hk ?_
   intro k1 k2 k3 k4
   refine e2_1 (isCT k1) ?_
   intro _ _ ez45
   clear k1 hk;subst ez45
   refine e2_1 (isCT k2) ?_
   intro _ _ ez46
   (try clear hk;try clear k2);subst ez46
   refine e2_1 (isCT k3) ?_
   intro _ _ ez47
   (try clear hk;try clear k3);subst ez47
   refine e2_1 (isCT k4) ?_
   intro _ _ ez48
   (try clear hk;try clear k4);subst ez48
   exact .dictSS (notT h1) hw
 | tv a iha =>
  exact .ofT fun hc hw=>by
   refine an2 hc ?_
   intro h1 h2
   exact .val ((iha.e h2 hw).mono fun x hx=>truW.go hx) (test_eq h1)
 | tn a iha =>
  exact .ofT fun hc hw=>by
   refine an3 hc ?_
   intro h
   refine T5 h ?_
   intro o x p ho hk
   obtain rfl:o=.Not:=of_decide_eq_true ho
   exact .not (iha.t hk hw)
 | ta as ih =>
  exact .ofT fun hc hw=>by
   refine an3 hc ?_
   intro h
   refine T6 h ?_
   intro o es p ho hk
   obtain rfl:o=.And:=of_decide_eq_true ho
   exact .bool (ih.b (a:=true) hk hw)
 | to as ih =>
  exact .ofT fun hc hw=>by
   refine an3 hc ?_
   intro h
   refine T6 h ?_
   intro o es p ho hk
   obtain rfl:o=.Or:=of_decide_eq_true ho
   exact .bool (ih.b (a:=false) hk hw)
 | tc op a b iha ihb =>
  exact .ofT fun hc hw=>by
   refine an3 hc ?_
   intro h
   refine T4 h ?_
   intro l o r p ho hk
   obtain rfl:o=op:=of_decide_eq_true ho
   refine an3 hk ?_
   intro h0 h1 h2
   exact .cmp ((iha.e h1 hw).mono fun x hx=>(ihb.e h2 hx).mono fun y hy=>cmpW.go hy) (notT h0)
 | nil =>
  refine ⟨fun h=>bad h,fun hc hw=>?_,fun h=>bad h,fun h=>bad h,fun h=>bad h,fun hc hw=>?_⟩
  ·obtain rfl:=List.isEmpty_iff.mp hc
   exact .nil ⟨rfl,hw⟩
  ·obtain rfl:=List.isEmpty_iff.mp hc
   rename_i a _ _ _
   cases a with
   | true=>exact .andNil hw
   | false=>exact .orNil hw
 | cons a r iha ihr =>
  refine ⟨fun h=>bad h,fun hc hw=>?_,fun hc hw=>?_,fun hc hw=>?_,fun h=>bad h,fun hc hw=>?_⟩
  ·rename_i F ρ es Q
   cases es with
   | nil=>clear ihr iha;cases hc
   | cons e es =>
    refine an3 hc ?_
    intro h0 h1 h2
    exact .cons ((iha.e h1 hw).mono fun x hx=>(ihr.es h2 hx).mono fun xs hr=>⟨by rw [List.length_cons,hr.1];rfl,hr.2⟩) fun env=>star_eq (nz h0) env _
  ·rename_i F ρ o Q
   cases o with
   | none=>clear ihr iha;cases hc
   | some e =>
    exact .some ((iha.e hc hw).mono fun x hx=>intW.go hx)
  ·refine e1_2 (one1T hc) ?_
   intro e ez53 h
   subst ez53
   exact .one (iha.t h hw)
  ·rename_i b F ρ es Q
   cases es with
   | nil=>cases hc
   | cons e es =>
    refine an2 hc ?_
    intro h1 h2
    cases b with
    | true=>exact .andCons ((iha.t h1 hw).mono fun z hz=>by
      cases z with
      | true=>exact ihr.b (a:=true) h2 hz
      | false=>exact hz)
    | false=>exact .orCons ((iha.t h1 hw).mono fun z hz=>by
      cases z with
      | true=>exact hz
      | false=>exact ihr.b (a:=false) h2 hz)
 | no =>
  refine ⟨fun h=>bad h,fun h=>bad h,fun hc hw=>?_,fun hc hw=>?_,fun h=>bad h,fun h=>bad h⟩
  ·obtain rfl:=Option.isNone_iff_eq_none.mp hc
   exact .none hw
  ·obtain rfl:=List.isEmpty_iff.mp hc
   exact .nil hw
end
end Mine
end

section
open PySem PySem.W PyProof.Rows PySem.Calls PyProof
set_option backward.match.sparseCases false
set_option tactic.hygienic false
namespace Mine
structure SV where
 tag:Nat
 es:List Expr
 b:List Stmt
 o:List Stmt
noncomputable def sv0:SV:=⟨0,[],[],[]⟩
noncomputable def svA (v:Expr):List Expr→SV
 | [t]=>⟨1,[t,v],[],[]⟩
 | _=>sv0
noncomputable def svR:Option Expr→SV
 | some e=>⟨2,[e],[],[]⟩
 | none=>sv0
noncomputable def svF (t i:Expr) (b:List Stmt):List Stmt→SV
 | []=>⟨4,[t,i],b,[]⟩
 | _=>sv0
noncomputable def svW (t:Expr) (b:List Stmt):List Stmt→SV
 | []=>⟨6,[t],b,[]⟩
 | _=>sv0
noncomputable def sview:Stmt→SV
 | .While t b o _=>svW t b o
 | .Assign ts v _=>svA v ts
 | .Return o _=>svR o
 | .If t b o _=>⟨3,[t],b,o⟩
 | .For t i b o _=>svF t i b o
 | .Expr e _=>⟨5,[e],[],[]⟩
 | _=>sv0
noncomputable def SSays (t:Nat) (st:Stmt):Prop:=match t with
 | 1=>∃ t v p,st=.Assign [t] v p
 | 2=>∃ e p,st=.Return (some e) p
 | 3=>∃ t b o p,st=.If t b o p
 | 4=>∃ t i b p,st=.For t i b [] p
 | 5=>∃ e p,st=.Expr e p
 | 6=>∃ t b p,st=.While t b [] p
 | _=>True
theorem ssays:∀ st:Stmt,SSays (sview st).tag st:=fun st=>by
 cases st with
 | Assign ts v p=>cases ts with
  | nil=>trivial
  | cons t r=>cases r with
   | nil=>exact ⟨t,v,p,rfl⟩
   | cons _ _=>trivial
 | Return o p=>cases o with
  | none=>trivial
  | some e=>exact ⟨e,p,rfl⟩
 | For t i b o p=>cases o with
  | nil=>exact ⟨t,i,b,p,rfl⟩
  | cons _ _=>trivial
 | While t b o p=>cases o with
  | nil=>exact ⟨t,b,p,rfl⟩
  | cons _ _=>trivial
 | If t b o p=>exact ⟨t,b,o,p,rfl⟩
 | Expr e p=>exact ⟨e,p,rfl⟩
 | _=>trivial
section
variable {st:Stmt}
theorem ssy {t:Nat} (h:((sview st).tag == t)=true):SSays t st:=(eq_of_beq h:(sview st).tag=t)▸ssays st
theorem s1 (h:((sview st).tag == 1)=true):∃ t v p,st=.Assign [t] v p:=ssy h
theorem s2 (h:((sview st).tag == 2)=true):∃ e p,st=.Return (some e) p:=ssy h
theorem s3 (h:((sview st).tag == 3)=true):∃ t b o p,st=.If t b o p:=ssy h
theorem s4 (h:((sview st).tag == 4)=true):∃ t i b p,st=.For t i b [] p:=ssy h
theorem s6 (h:((sview st).tag == 6)=true):∃ t b p,st=.While t b [] p:=ssy h
theorem s5 (h:((sview st).tag == 5)=true):∃ e p,st=.Expr e p:=ssy h
@[elab_as_elim] theorem S1 {C:Stmt→Prop} (h:((sview st).tag == 1)=true) (k:∀ t v p,C (.Assign [t] v p)):C st:=e3_1 (s1 h) fun t v p y=>y▸k t v p
@[elab_as_elim] theorem S2 {C:Stmt→Prop} (h:((sview st).tag == 2)=true) (k:∀ e p,C (.Return (some e) p)):C st:=e2_1 (s2 h) fun e p y=>y▸k e p
@[elab_as_elim] theorem S3 {C:Stmt→Prop} (h:((sview st).tag == 3)=true) (k:∀ t b o p,C (.If t b o p)):C st:=e4_1 (s3 h) fun t b o p y=>y▸k t b o p
@[elab_as_elim] theorem S4 {C:Stmt→Prop} (h:((sview st).tag == 4)=true) (k:∀ t i b p,C (.For t i b [] p)):C st:=e4_1 (s4 h) fun t i b p y=>y▸k t i b p
@[elab_as_elim] theorem S6 {C:Stmt→Prop} (h:((sview st).tag == 6)=true) (k:∀ t b p,C (.While t b [] p)):C st:=e3_1 (s6 h) fun t b p y=>y▸k t b p
@[elab_as_elim] theorem S5 {C:Stmt→Prop} (h:((sview st).tag == 5)=true) (k:∀ e p,C (.Expr e p)):C st:=e2_1 (s5 h) fun e p y=>y▸k e p
end
set_option genCtorIdx false in
inductive Sm where
 | asg (i:Nat) (e:Ex) | asc (i:Nat) (vars:List (Str×Kd)) (m:Nat) (caps:List Nat) (t:Tg) (it c elt:Ex) | ast (t:Tg) (e:Ex) | as3 (i j k:Nat) (e:Ex) | ret (e:Ex) | ife (t:Ex) (a b:Sm) | for_ (t:Tg) (e:Ex) (b:Sm) | fen (i j:Nat) (e:Ex) (b:Sm)
 | exp (e:Ex) | app (i:Nat) (e:Ex) | ext (i:Nat) (e:Ex) | pop (i:Nat) (k:Ex) | dst (i:Nat) (k e:Ex) | dsd (i:Nat) (k:Ex) | dsi (i:Nat) (k:Ex) | cam (f:Str) (i:Nat) (as:Ex)
 | whl (t:Ex) (b:Sm)
 | stuck | nil | cons (a r:Sm) | frz (i:Nat) (r:Sm)
noncomputable def isLoc (F:Fi) (i:Nat) (k:Kd) (x:Str):Bool:=match F.vars[i]? with
 | some p=>p.1 == x&&decide (p.2=k)&&decide (i<F.own)
 | none=>false
noncomputable def chkM (F:Fi) (i:Nat) (m:Str) (e:Expr) (k:List Expr→Bool):Bool:=(view e).tag == 11&&(view e).s == m&&(match (view e).es with
 | o::r=>(view o).tag == 1&&inF F i (view o).s&&k r
 | []=>false)
noncomputable def chkD (F:Fi) (i:Nat) (k:Ex) (t:Expr):Bool:=(view t).tag == 8&&two2 (view t).es fun o x=>(view o).tag == 1&&inF F i (view o).s&&chkE F k x
mutual
noncomputable def chkS (F:Fi):Sm→Stmt→Bool
 | .asg i e,st=>(sview st).tag == 1&&two2 (sview st).es fun t v=>chkN F i t&&notComp v&&chkE F e v
 | .asc i vars m caps t it c elt,st=>(sview st).tag == 1&&two2 (sview st).es fun g v=>(view g).tag == 1&&chkE F (.comp vars m caps t it c elt) v &&
   (isLoc F i .cel (view g).s||isLoc F i .loc (view g).s&&decide (g.pos.line=v.pos.line) && !((view v).sc.names.any fun (y,k)=>y == (view g).s&&(k == .local||k == .cell)))
 | .ast t e,st=>(sview st).tag == 1&&two2 (sview st).es fun g v=>(view g).tag == 12&&chkTg F t g&&notComp v && !((view v).tag == 12)&&chkE F e v
 | .as3 i j k e,st=>(sview st).tag == 1&&two2 (sview st).es fun g v=>(view g).tag == 12&&chkTg F (.three i j k) g&&notComp v && !((view v).tag == 12)&&chkE F e v
 | .ret e,st=>(sview st).tag == 2&&one1 (sview st).es fun x=>chkE F e x
 | .ife t a b,st=>(sview st).tag == 3&&one1 (sview st).es (fun x=>chkT F t x)&&chkSs F a (sview st).b&&chkSs F b (sview st).o
 | .for_ t e b,st=>(sview st).tag == 4&&two2 (sview st).es (fun g i=>chkTg F t g && !((view i).tag == 0)&&chkE F e i)&&chkSs F b (sview st).b
 | .fen i j e b,st=>(sview st).tag == 4&&two2 (sview st).es (fun g c=>(view g).tag == 12&&chkTg F (.two i j) g&&(view c).tag == 10&&(view c).s == ("enumerate":Str)&&isG F "enumerate"&&one1 (view c).es fun x => !((view x).tag == 0)&&chkE F e x)&&chkSs F b (sview st).b
 | .exp e,st=>(sview st).tag == 5&&one1 (sview st).es fun x=>notComp x&&chkE F e x
 | .app i e,st=>(sview st).tag == 5&&one1 (sview st).es fun c=>chkM F i "append" c fun r=>one1 r fun x => !((view x).tag == 0)&&chkE F e x
 | .ext i e,st=>(sview st).tag == 5&&one1 (sview st).es fun c=>chkM F i "extend" c fun r=>one1 r fun x => !((view x).tag == 0)&&chkE F e x
 | .pop i e,st=>(sview st).tag == 5&&one1 (sview st).es fun c=>chkM F i "pop" c fun r=>two2 r fun x y => !((view x).tag == 0)&&isC .none y&&chkE F e x
 | .dst i k e,st=>(sview st).tag == 1&&two2 (sview st).es fun t v=>chkD F i k t&&notComp v&&chkE F e v
 | .dsd i k,st=>(sview st).tag == 1&&two2 (sview st).es fun t v=>chkD F i k t&&isC (.bool true) v
 | .dsi i k,st=>(sview st).tag == 1&&two2 (sview st).es fun t v=>chkD F i k t&&isC (.bool true) v
 | .cam f i as,st=>(sview st).tag == 5&&one1 (sview st).es fun e=>(view e).tag == 10&&f == (view e).s&&isG F f&&fn9.contains f && !(view e).es.isEmpty&&chkEs F as (view e).es
 | .whl t b,st=>(sview st).tag == 6&&one1 (sview st).es (fun x=>chkT F t x)&&chkSs F b (sview st).b
 | .stuck,_=>true
 | _,_=>false
noncomputable def chkSs (F:Fi):Sm→List Stmt→Bool
 | .nil,sts=>sts.isEmpty
 | .cons a r,sts=>(match sts with
  | st::sts=>chkS F a st&&chkSs F r sts
  | []=>false)
 | .frz _ r,sts=>chkSs F r sts
 | _,_=>false
end
noncomputable abbrev Post:=Fl→List (Option Sl)→Prop
noncomputable def flW (Q:Post) (next:List (Option Sl)→Prop):Fl→List (Option Sl)→Prop
 | .next,ρ=>next ρ
 | .cont,ρ=>next ρ
 | .brk,ρ=>Q .next ρ
 | .ret r,ρ=>Q (.ret r) ρ
noncomputable def sqW (Q:Post) (next:List (Option Sl)→Prop):Fl→List (Option Sl)→Prop
 | .next,ρ=>next ρ
 | fl,ρ=>Q fl ρ
noncomputable def loopW (t:Tg) (body:List (Option Sl)→Post→Prop) (Q:Post):List D→List (Option Sl)→Prop
 | [],ρ=>Q .next ρ
 | d::ds,ρ=>tgW t d ρ fun ρ2=>body ρ2 (flW Q (loopW t body Q ds))
noncomputable def loopE (t:Tg) (body:List (Option Sl)→Post→Prop) (Q:Post):Nat→List D→List (Option Sl)→Prop
 | _,[],ρ=>Q .next ρ
 | k,d::ds,ρ=>tgW t (.tup [.int k,d]) ρ fun ρ2=>body ρ2 (flW Q (loopE t body Q (k+1) ds))
noncomputable def enuW:AV→(List D→Prop)→Prop
 | .ct .fz (.lst l),Q=>Q l
 | .ct .fr (.lst l),Q=>Q l
 | _,_=>False
noncomputable def slW (r:AV) (Q:Sl→Prop):Prop:=match r.sl with
 | some sl=>Q sl
 | none=>False
noncomputable def l3W:AV→(D→D→D→Prop)→Prop
 | .ct .fr (.lst [d,e,f]),Q=>Q d e f
 | _,_=>False
noncomputable def frW:AV→(List D→Prop)→Prop
 | .ct .fr (.lst l),Q=>Q l
 | _,_=>False
noncomputable def tupW:AV→(List D→Prop)→Prop
 | .im (.tup l),Q=>Q l
 | _,_=>False
noncomputable def ownW (o:Option (Option Sl)) (K:Cont→Option Addr→Prop):Prop:=match o with
 | some (some (.own c mm))=>K c mm
 | _=>False
noncomputable def lstC (c:Cont) (K:List D→Prop):Prop:=match c with
 | .lst l=>K l
 | _=>False
noncomputable def dctC (c:Cont) (K:List (Str×D)→Prop):Prop:=match c with
 | .dct l=>K l
 | _=>False
noncomputable def ddcC (c:Cont) (K:List D→Prop):Prop:=match c with
 | .ddc l=>K l
 | _=>False
noncomputable def idcC (c:Cont) (K:List Int→Prop):Prop:=match c with
 | .idc l=>K l
 | _=>False
section
variable (B:Bs) (n:Nat)
mutual
noncomputable def wpS:Sm→List (Option Sl)→Post→Prop
 | .asg i e,ρ,Q=>wpE B n e ρ fun r=>slW r fun sl=>Q .next (ρ.set i (some sl))
 | .asc i vars m caps t it c elt,ρ,Q=>wpE B n (.comp vars m caps t it c elt) ρ fun r=>slW r fun sl=>Q .next (ρ.set i (some sl))
 | .ast t e,ρ,Q=>wpE B n e ρ fun r=>imW r fun d=>tgW t d ρ fun ρ2=>Q .next ρ2
 | .as3 i j k e,ρ,Q=>wpE B n e ρ fun r=>l3W r fun a b c=>Q .next (((ρ.set i (some (.im a))).set j (some (.im b))).set k (some (.im c)))
 | .ret e,ρ,Q=>wpE B n e ρ fun r=>Q (.ret r) ρ
 | .ife t a b,ρ,Q=>wpT B n t ρ fun c=>if c=true then wpSs a ρ Q else wpSs b ρ Q
 | .for_ t e b,ρ,Q=>wpE B n e ρ fun r=>itrW r fun ds=>loopW t (fun ρ Q=>wpSs b ρ Q) Q ds ρ
 | .fen i j e b,ρ,Q=>wpE B n e ρ fun r=>enuW r fun ds=>loopE (.two i j) (fun ρ Q=>wpSs b ρ Q) Q 0 ds ρ
 | .exp e,ρ,Q=>wpE B n e ρ fun _=>Q .next ρ
 | .app i e,ρ,Q=>ownW ρ[i]? fun c mm=>lstC c fun l=>wpE B n e ρ fun r=>imW r fun d=>l.length≤sizeLine∧Q .next (ρ.set i (some (.own (.lst (l++[d])) mm)))
 | .ext i e,ρ,Q=>ownW ρ[i]? fun c mm=>lstC c fun l=>wpE B n e ρ fun r=>frW r fun l'=>l.length+l'.length≤sizeLine∧Q .next (ρ.set i (some (.own (.lst (l++l')) mm)))
 | .pop i e,ρ,Q=>ownW ρ[i]? fun c mm=>dctC c fun l=>wpE B n e ρ fun r=>strW r fun k=>dAt l k=none∧Q .next ρ
 | .dst i k e,ρ,Q=>ownW ρ[i]? fun c mm=>dctC c fun l=>wpE B n e ρ fun r=>imW r fun d=>wpE B n k ρ fun r=>strW r fun k=>l.length≤sizeLine∧Q .next (ρ.set i (some (.own (.dct (dSto l k d)) mm)))
 | .dsd i k,ρ,Q=>ownW ρ[i]? fun c mm=>ddcC c fun l=>1≤n∧wpE B n k ρ fun r=>tupW r fun t=>D.depL t≤7∧D.kkL t=true∧l.length≤sizeLine∧Q .next (ρ.set i (some (.own (.ddc (dAdd l (.tup t))) mm)))
 | .dsi i k,ρ,Q=>ownW ρ[i]? fun c mm=>idcC c fun l=>wpE B n k ρ fun r=>intW r fun j=>l.length≤sizeLine∧Q .next (ρ.set i (some (.own (.idc (iAdd l j)) mm)))
 | .cam f i as,ρ,Q=>ownW ρ[i]? fun c m=>dctC c fun l=>wpEs B n as ρ fun rs=>∃ rs',rs=rs'++[.ct (.ow i) (.dct l)]∧SpecM B f n (rs'.map AV.ag) l fun l'=>Q .next (ρ.set i (some (.own (.dct l') m)))
 | .whl t b,ρ,Q=>∃ (I:Nat→List (Option Sl)→Prop) (m0:Nat),I m0 ρ∧∀ m ρ',I m ρ'→wpT B n t ρ' fun c=>if c=true then wpSs b ρ' (flW Q fun ρ3=>∃ m',m'<m∧I m' ρ3) else Q .next ρ'
 | _,_,_=>False
noncomputable def wpSs:Sm→List (Option Sl)→Post→Prop
 | .nil,ρ,Q=>Q .next ρ
 | .cons a r,ρ,Q=>wpS a ρ (sqW Q fun ρ'=>wpSs r ρ' Q)
 | .frz i r,ρ,Q=>ownW ρ[i]? fun c mm=>wpSs r (ρ.set i (some (.fz c))) Q
 | _,_,_=>False
end
end
end Mine
end

section
open PySem PySem.W PyProof.Rows PySem.Calls PyProof
set_option backward.match.sparseCases false
set_option tactic.hygienic false
namespace Mine
structure SndS (B:Bs) (n:Nat) (x:Sm):Prop where
 s:∀ {F:Fi} {ρ:List (Option Sl)} {st:Stmt} {Q:Post},chkS F x st=true→wpS B n x ρ Q→SW B F NoX n ρ st Q
 ss:∀ {F:Fi} {ρ:List (Option Sl)} {sts:List Stmt} {Q:Post},chkSs F x sts=true→wpSs B n x ρ Q→SWs B F NoX n ρ sts Q
section
variable {B:Bs} {F:Fi} {n:Nat} {ρ:List (Option Sl)} {x:Sm}
theorem SndS.ofS (h:∀ {F:Fi} {ρ:List (Option Sl)} {st:Stmt} {Q:Post},chkS F x st=true→wpS B n x ρ Q→SW B F NoX n ρ st Q)
  (h1:∀ F sts,chkSs F x sts=false:=by intros;rfl):SndS B n x:=⟨h,fun q=>by rw [h1] at q;exact bad q⟩
theorem slW.go {r:AV} {Q:Sl→Prop} (h:slW r Q):∃ sl,r.sl=some sl∧Q sl:=by
 unfold slW at h
 cases q:r.sl with
 | none=>rw [q] at h;exact h.elim
 | some sl=>rw [q] at h;exact ⟨sl,rfl,h⟩
theorem tupW.go {r:AV} {Q:List D→Prop} (h:tupW r Q):∃ d,r=.im (.tup d)∧Q d:=by
 cases r with
 | im d=>cases d with
  | tup d=>exact ⟨d,rfl,h⟩
  | _=>exact h.elim
 | ct _ _=>exact h.elim
theorem frW.go {r:AV} {Q:List D→Prop} (h:frW r Q):∃ d,r=.ct .fr (.lst d)∧Q d:=by
 cases r with
 | im _=>exact h.elim
 | ct m c=>cases m with
  | fr=>cases c with
   | lst l=>exact ⟨l,rfl,h⟩
   | _=>exact h.elim
  | _=>exact h.elim
theorem enuW.go {r:AV} {Q:List D→Prop} (h:enuW r Q):∃ l,(r=.ct .fz (.lst l)∨r=.ct .fr (.lst l))∧Q l:=by
 cases r with
 | im _=>exact h.elim
 | ct m c=>cases c with
  | lst l=>cases m with
   | fz=>exact ⟨l,.inl rfl,h⟩
   | fr=>exact ⟨l,.inr rfl,h⟩
   | ow _=>exact h.elim
  | _=>cases m <;> exact h.elim
theorem l3W.go {r:AV} {Q:D→D→D→Prop} (h:l3W r Q):∃ d e f,r=.ct .fr (.lst [d,e,f])∧Q d e f:=by
 cases r with
 | im _=>exact h.elim
 | ct m c=>cases m with
  | fr=>cases c with
   | lst l=>cases l with
    | nil=>exact h.elim
    | cons d l=>cases l with
     | nil=>exact h.elim
     | cons e l=>cases l with
      | nil=>exact h.elim
      | cons f l=>cases l with
       | nil=>exact ⟨d,e,f,rfl,h⟩
       | cons _ _=>exact h.elim
   | _=>exact h.elim
  | _=>exact h.elim
theorem ownW.go {o:Option (Option Sl)} {K:Cont→Option Addr→Prop} (h:ownW o K):∃ c mm,o=some (some (.own c mm))∧K c mm:=by
 cases o with
 | none=>exact h.elim
 | some o=>cases o with
  | none=>exact h.elim
  | some s=>cases s with
   | own c mm=>exact ⟨c,mm,rfl,h⟩
   | _=>exact h.elim
theorem lstC.go {c:Cont} {K:List D→Prop} (h:lstC c K):∃ l,c=.lst l∧K l:=by
 cases c with
 | lst l=>exact ⟨l,rfl,h⟩
 | _=>exact h.elim
theorem dctC.go {c:Cont} {K:List (Str×D)→Prop} (h:dctC c K):∃ l,c=.dct l∧K l:=by
 cases c with
 | dct l=>exact ⟨l,rfl,h⟩
 | _=>exact h.elim
theorem ddcC.go {c:Cont} {K:List D→Prop} (h:ddcC c K):∃ l,c=.ddc l∧K l:=by
 cases c with
 | ddc l=>exact ⟨l,rfl,h⟩
 | _=>exact h.elim
theorem idcC.go {c:Cont} {K:List Int→Prop} (h:idcC c K):∃ l,c=.idc l∧K l:=by
 cases c with
 | idc l=>exact ⟨l,rfl,h⟩
 | _=>exact h.elim
theorem chkMT {i:Nat} {m:Str} {e:Expr} {k:List Expr→Bool} (h:chkM F i m e k=true):∃ x p ap r q kd,e=.Call (.Attribute (.Name x p) m ap) r [] q∧(ap.endLine == q.line)=true∧F.vars[i]?=some (x,kd)∧k r=true:=by
 refine an3 h ?_
 try clear h
 intro h h1 hk
 refine e5_2 (t11 h) ?_
 intro b f ap r q hl ez1
 clear h;obtain rfl:=ez1
 have hv:view (.Call (.Attribute b f ap) r [] q)={ v0 with tag:=11,s:=f,es:=b::r }:=by
  show (bif ap.endLine == q.line then _ else _)=_
  rw [hl];rfl
 rw [hv] at h1 hk
 obtain rfl:f=m:=eq_of_beq h1
 refine an3 hk ?_
 try clear hk
 intro h
 refine T1 h ?_
 intro x p h3 h4
 refine e1_1 (inFT h3) ?_
 intro kd hkd
 exact ⟨x,p,ap,r,q,kd,rfl,hl,hkd,h4⟩
theorem chkDT {i:Nat} {k:Ex} {t:Expr} (h:chkD F i k t=true):∃ x p s q kd,t=.Subscript (.Name x p) s q∧F.vars[i]?=some (x,kd)∧chkE F k s=true:=by
 refine an2 h ?_
 try clear h
 intro h
 refine T8 h ?_
 intro o s q hk
 refine an3 hk ?_
 try clear hk
 intro h
 refine T1 h ?_
 intro x p h2 h3
 refine e1_1 (inFT h2) ?_
 intro kd hkd
 exact ⟨x,p,s,q,kd,rfl,hkd,h3⟩
theorem isLocT {i:Nat} {k:Kd} {x:Str} (h:isLoc F i k x=true):F.vars[i]?=some (x,k)∧i<F.own:=by
 unfold isLoc at h
 cases q:F.vars[i]? with
 | none=>rw [q] at h;clear q;cases h
 | some p =>
  rw [q] at h
  obtain ⟨y,k'⟩:=p
  refine an3 h ?_
  try clear h
  intro h h1 h2
  obtain rfl:=eq_of_beq h
  exact ⟨by rw [← (of_decide_eq_true h1:k'=k)],of_decide_eq_true h2⟩
theorem notTup {v:Expr} {es k tp} (h:(!((view v).tag == 12))=true) (env:Env):swappedStores [.Tuple es k tp] v env=pure none:=by
 cases v with
 | Tuple _ _ _=>cases h
 | _=>rfl
theorem swapS {v:Expr} (h:notComp v=true) (g:Expr) (l:Nat) (env:Env):swapsWithSole [g] v l env=pure false:=by
 cases v <;> first | rfl | cases h
theorem SndS.all (N:En B) (x:Sm):SndS B n x:=by
 have S:=fun x=>Snd.all (n:=n) N x
 induction x with
 | asg i e =>
  exact .ofS fun hc hw=>by
   refine an2 hc ?_
   intro h
   refine S1 h ?_
   intro t v p hk
   refine an3 hk ?_
   try clear hk
   intro h1 h2 h3
   refine e3_4 (chkNT h1) ?_
   intro x px k ez6 q1 q2 q3
   clear h1;obtain rfl:=ez6
   exact .assign i q1 q2 q3 (((S e).e h3 hw).mono fun r hr=>slW.go hr) fun env=>swap_eq h2 _ _ env
 | asc i vars m caps t it c elt =>
  exact .ofS fun hc hw=>by
   rename_i F ρ st Q
   have hw:wpE B n (.comp vars m caps t it c elt) ρ (fun r=>slW r fun sl=>Q .next (ρ.set i (some sl))):=hw
   refine an2 hc ?_
   intro h
   refine S1 h ?_
   intro g v p hk
   refine an3 hk ?_
   try clear hk
   intro h
   refine T1 h ?_
   intro x px h2 h3
   rw [Bool.or_eq_true] at h3
   rcases h3 with h3 | h3
   ·refine e0_2 (isLocT h3) ?_
    intro q1 q2
    have E:=((S (.comp vars m caps t it c elt)).e h2 hw).mono fun r hr=>slW.go hr
    refine an2 h2 ?_
    intro h4 _
    refine e6_1 (t14 h4) ?_
    intro el tg i' ifs sc p' ez9
    clear a;obtain rfl:=ez9
    exact .assignCell i q1 q2 E
   ·refine an3 h3 ?_
    try clear h3
    intro h3 h5 h6
    refine e0_2 (isLocT h3) ?_
    intro q1 q2
    obtain ⟨el,tg,i',ifs,sc,p',hok,rfl,g1,g2,g3⟩:=compSound N (S it) (S c) (S elt) h2 hw
    exact .assignCompV i vars m caps q1 q2 hok g1 g3 (of_decide_eq_true h5) (notT h6) g2 N.quiet
 | ast t e =>
  exact .ofS fun hc hw=>by
   refine an2 hc ?_
   intro h
   refine S1 h ?_
   intro g v p hk
   refine an5 hk ?_
   try clear hk
   intro h
   refine T12 h ?_
   intro es k tp h2 h3 h4 h5
   exact .assignT (((S e).e h5 hw).mono fun r hr=>by
    refine e1_2 (imW.go hr) ?_
    intro d ez12 q
    obtain rfl:=ez12
    exact ⟨d,rfl,tgW.go N h2 q⟩) (fun env=>swapS h3 _ _ env) (notTup h4)
 | as3 i j k e =>
  exact .ofS fun hc hw=>by
   rename_i F ρ st Q
   refine an2 hc ?_
   intro h
   refine S1 h ?_
   intro g v p hk
   refine an5 hk ?_
   try clear hk
   intro h
   refine T12 h ?_
   intro es km tp h2 h3 h4 h5
   have h2:((view (.Tuple es km tp)).tag == 12&&three3 es (fun a b c=>chkN F i a&&chkN F j b&&chkN F k c))=true:=h2
   refine an2 h2 ?_
   try clear h2
   intro _ h2
   refine e3_2 (three3T (k:=fun a b c=>chkN F i a&&chkN F j b&&chkN F k c) h2) ?_
   try clear a
   try clear b
   try clear c
   intro a b c ez15 hm
   obtain rfl:=ez15
   refine an3 hm ?_
   try clear hm
   intro h1' h2' h3'
   refine e3_4 (chkNT h1') ?_
   intro x px kx ez16 hx1 hx2 hx3
   clear h1';obtain rfl:=ez16
   refine e3_4 (chkNT h2') ?_
   intro y py ky ez17 hy1 hy2 hy3
   clear h2';obtain rfl:=ez17
   refine e3_4 (chkNT h3') ?_
   intro z pz kz ez18 hz1 hz2 hz3
   clear h3';obtain rfl:=ez18
   exact .assign3L i j k hx1 hy1 hz1 hx2 hy2 hz2 hx3 hy3 hz3 N.quiet (((S e).e h5 hw).mono fun r hr=>l3W.go hr) (fun env=>swapS h3 _ _ env) (notTup h4)
 | ret e =>
  exact .ofS fun hc hw=>by
   refine an2 hc ?_
   intro h
   refine S2 h ?_
   intro v p hk
   exact .ret ((S e).e hk hw)
 | ife t a b iha ihb =>
  exact .ofS fun hc hw=>by
   refine an4 hc ?_
   try clear hc
   intro h
   refine S3 h ?_
   intro e b' o p h1 h2 h3
   exact .ife (((S t).t h1 hw).mono fun c hc=>by
    cases c with
    | true=>exact iha.ss h2 hc
    | false=>exact ihb.ss h3 hc)
 | for_ t e b ih =>
  exact .ofS fun hc hw=>by
   rename_i F ρ st Q
   refine an3 hc ?_
   try clear hc
   intro h
   refine S4 h ?_
   intro g i b' p h1 h2
   refine an3 h1 ?_
   try clear h1
   intro k1 k2 k3
   refine .for_ (((S e).e k3 hw).mono fun r hr=>?_) (fun env x=>set_eq (nz k2) env x) N.quiet
   refine e1_2 (itrW.go (B:=B) (n:=n) hr) ?_
   intro ds q1 q2
   refine ⟨ds,q1,loopW t (fun ρ Q=>wpSs B n b ρ Q) Q,q2,fun d rest ρ' hI=>?_,fun ρ' hI=>.nil hI⟩
   refine tgW.go N k1 (tgW.mono hI fun ρ2 hb=>(ih.ss h2 hb).mono fun fl ρ3 hq=>?_)
   cases fl <;> exact hq
 | fen i j e b ih =>
  exact .ofS fun hc hw=>by
   rename_i F ρ st Q
   refine an3 hc ?_
   try clear hc
   intro h
   refine S4 h ?_
   intro g c b' p h1 h2
   refine an6 h1 ?_
   try clear h1
   intro h
   refine T12 h ?_
   intro es kt tp k2 k3 k4 k5 k6
   refine e4_1 (t10 k3) ?_
   intro f fp as cp ez24
   clear k3;obtain rfl:=ez24
   obtain rfl:f="enumerate":=eq_of_beq k4
   refine one1TC (es:=as) k6 ?_
   try clear k6
   intro x k6
   refine an2 k6 ?_
   try clear k6
   intro k6 k7
   refine e0_3 (isGT k5) ?_
   intro g1 _ _
   refine .forEnum g1 (N.non _ (by decide +kernel)) (((S e).e k7 hw).mono fun r hr=>?_) (fun env r=>star_eq (nz k6) env r) N.quiet
   refine e1_2 (enuW.go hr) ?_
   intro l q1 q2
   refine ⟨l,q1,loopE (.two i j) (fun ρ Q=>wpSs B n b ρ Q) Q,q2,fun m d rest ρ' hI=>?_,fun _ ρ' hI=>hI⟩
   refine tgW.go N k2 (tgW.mono hI fun ρ2 hb=>(ih.ss h2 hb).mono fun fl ρ3 hq=>?_)
   cases fl <;> exact hq
 | exp e =>
  exact .ofS fun hc hw=>by
   refine an2 hc ?_
   intro h
   refine S5 h ?_
   intro v p hk
   refine an2 hk ?_
   intro h1 h2
   exact .expr ((S e).e h2 hw) fun env=>swap_eq h1 _ _ env
 | app i e =>
  exact .ofS fun hc hw=>by
   rename_i F ρ st Q
   refine an2 hc ?_
   intro h
   refine S5 h ?_
   intro v p hk
   refine e6_4 (chkMT (m:="append") hk) ?_
   try clear hk
   intro x px ap r q kd ez28 hl hv hk
   obtain rfl:=ez28
   refine one1TC (es:=r) hk ?_
   try clear hk
   intro y hk
   refine an2 hk ?_
   intro h1 h2
   refine e2_2 (ownW.go (K:=fun c mm=>lstC c fun l=>wpE B n e ρ (fun r=>imW r fun d=>l.length≤sizeLine∧Q .next (ρ.set i (some (.own (.lst (l++[d])) mm))))) hw) ?_
   try clear c
   try clear mm
   try clear hw
   intro c mm hs hw
   refine e1_2 (lstC.go hw) ?_
   try clear hw
   intro l ez30 hw
   obtain rfl:=ez30
   exact .append i hv hs (((S e).e h2 hw).mono fun r hr=>e1_2 (imW.go hr) fun d rz1 q=>by obtain rfl:=rz1;exact ⟨d,rfl,q⟩) hl (fun env=>by rw [star_eq (nz h1)];rfl)
 | ext i e =>
  exact .ofS fun hc hw=>by
   rename_i F ρ st Q
   refine an2 hc ?_
   intro h
   refine S5 h ?_
   intro v p hk
   refine e6_4 (chkMT (m:="extend") hk) ?_
   try clear hk
   intro x px ap r q kd ez32 hl hv hk
   obtain rfl:=ez32
   refine one1TC (es:=r) hk ?_
   try clear hk
   intro y hk
   refine an2 hk ?_
   intro h1 h2
   refine e2_2 (ownW.go (K:=fun c mm=>lstC c fun l=>wpE B n e ρ (fun r=>frW r fun l'=>l.length+l'.length≤sizeLine∧Q .next (ρ.set i (some (.own (.lst (l++l')) mm))))) hw) ?_
   try clear c
   try clear mm
   try clear hw
   intro c mm hs hw
   refine e1_2 (lstC.go hw) ?_
   try clear hw
   intro l ez34 hw
   obtain rfl:=ez34
   exact .extend i hv hs (((S e).e h2 hw).mono fun r hr=>e1_2 (frW.go hr) fun d rz2 q=>by obtain rfl:=rz2;exact ⟨d,rfl,q⟩) hl (fun env=>by rw [star_eq (nz h1)];rfl)
 | pop i e =>
  exact .ofS fun hc hw=>by
   rename_i F ρ st Q
   refine an2 hc ?_
   intro h
   refine S5 h ?_
   intro v p hk
   refine e6_4 (chkMT (m:="pop") hk) ?_
   try clear hk
   intro x px ap r q kd ez36 hl hv hk
   obtain rfl:=ez36
   refine two2TC (es:=r) hk ?_
   try clear hk
   intro y z hk
   refine an3 hk ?_
   try clear hk
   intro h0 h1 h2
   refine e2_1 (isCT h1) ?_
   intro _ _ ez38
   clear h1;obtain rfl:=ez38
   refine e2_2 (ownW.go (K:=fun c mm=>dctC c fun l=>wpE B n e ρ (fun r=>strW r fun k=>dAt l k=none∧Q .next ρ)) hw) ?_
   try clear c
   try clear mm
   try clear hw
   intro c mm hs hw
   refine e1_2 (dctC.go hw) ?_
   try clear hw
   intro l ez39 hw
   obtain rfl:=ez39
   exact .pop2 i hv hs (((S e).e h2 hw).mono fun r hr=>e1_2 (strW.go hr) fun d rz3 q=>by obtain rfl:=rz3;exact ⟨d,rfl,q⟩) hl (fun env=>by rw [star_eq (nz h0)];rfl)
 | dst i k e =>
  exact .ofS fun hc hw=>by
   rename_i F ρ st Q
   refine an2 hc ?_
   intro h
   refine S1 h ?_
   intro t v p hk
   refine an3 hk ?_
   try clear hk
   intro h1 h2 h3
   refine e5_3 (chkDT h1) ?_
   intro x px s q kd ez41 hv h4
   clear h1;obtain rfl:=ez41
   refine e2_2 (ownW.go (K:=fun c mm=>dctC c fun l=>wpE B n e ρ (fun r=>imW r fun d=>wpE B n k ρ fun r=>strW r fun k=>l.length≤sizeLine∧Q .next (ρ.set i (some (.own (.dct (dSto l k d)) mm))))) hw) ?_
   try clear c
   try clear mm
   try clear hw
   intro c mm hs hw
   refine e1_2 (dctC.go hw) ?_
   try clear hw
   intro l ez42 hw
   obtain rfl:=ez42
   exact .dset i hv hs (((S e).e h3 hw).mono fun r hr=>by
    refine e1_2 (imW.go hr) ?_
    intro d ez43 q
    obtain rfl:=ez43
    exact ⟨d,rfl,((S k).e h4 q).mono fun r hr=>e1_2 (strW.go hr) fun d rz4 q=>by obtain rfl:=rz4;exact ⟨d,rfl,q⟩⟩) fun env=>swap_eq h2 _ _ env
 | dsd i k =>
  exact .ofS fun hc hw=>by
   rename_i F ρ st Q
   refine an2 hc ?_
   intro h
   refine S1 h ?_
   intro t v p hk
   refine an2 hk ?_
   intro h1 h2
   refine e5_3 (chkDT h1) ?_
   intro x px s q kd ez45 hv h4
   clear h1 hk;obtain rfl:=ez45
   refine e2_1 (isCT h2) ?_
   intro _ _ ez46
   (try clear hk);obtain rfl:=ez46
   refine e2_2 (ownW.go (K:=fun c mm=>ddcC c fun l=>1≤n∧wpE B n k ρ (fun r=>tupW r fun t=>D.depL t≤7∧D.kkL t=true∧l.length≤sizeLine∧Q .next (ρ.set i (some (.own (.ddc (dAdd l (.tup t))) mm))))) hw) ?_
   try clear c
   try clear mm
   try clear hw
   intro c mm hs hw
   refine e1_2 (ddcC.go hw) ?_
   try clear hw
   intro l ez47 hw
   obtain rfl:=ez47
   exact .dsetD i hv hs hw.1 (((S k).e h4 hw.2).mono fun r hr=>e1_2 (tupW.go hr) fun d rz5 q=>by obtain rfl:=rz5;exact ⟨d,rfl,q⟩)
 | dsi i k =>
  exact .ofS fun hc hw=>by
   rename_i F ρ st Q
   refine an2 hc ?_
   intro h
   refine S1 h ?_
   intro t v p hk
   refine an2 hk ?_
   intro h1 h2
   refine e5_3 (chkDT h1) ?_
   intro x px s q kd ez49 hv h4
   clear h1 hk;obtain rfl:=ez49
   refine e2_1 (isCT h2) ?_
   intro _ _ ez50
   (try clear hk);obtain rfl:=ez50
   refine e2_2 (ownW.go (K:=fun c mm=>idcC c fun l=>wpE B n k ρ (fun r=>intW r fun j=>l.length≤sizeLine∧Q .next (ρ.set i (some (.own (.idc (iAdd l j)) mm))))) hw) ?_
   try clear c
   try clear mm
   try clear hw
   intro c mm hs hw
   refine e1_2 (idcC.go hw) ?_
   try clear hw
   intro l ez51 hw
   obtain rfl:=ez51
   exact .dsetI i hv hs (((S k).e h4 hw).mono fun r hr=>e1_2 (intW.go hr) fun d rz6 q=>by obtain rfl:=rz6;exact ⟨d,rfl,q⟩)
 | cam f i as =>
  exact .ofS fun hc hw=>by
   rename_i F ρ st Q
   refine an2 hc ?_
   intro h
   refine S5 h ?_
   intro v p hk
   refine an6 hk ?_
   try clear hk
   intro h
   refine T10 h ?_
   intro f' fp es q h1 h2 h3 h4 h5
   obtain rfl:f=f':=eq_of_beq h1
   refine e2_3 (args1 h4 h5) ?_
   intro e r ez54 s1 s2
   obtain rfl:=ez54
   refine e0_3 (isGT h2) ?_
   intro g1 g2 g3
   refine e2_2 (ownW.go (K:=fun c m=>dctC c fun l=>wpEs B n as ρ (fun rs=>∃ rs':List AV,rs=rs'++[AV.ct (.ow i) (.dct l)]∧SpecM B f n (rs'.map AV.ag) l fun l'=>Q .next (ρ.set i (some (.own (.dct l') m))))) hw) ?_
   try clear c
   try clear m
   try clear hw
   intro c m hs hw
   refine e1_2 (dctC.go hw) ?_
   try clear hw
   intro l ez55 hw
   obtain rfl:=ez55
   exact .callM i hs g1 (((S as).es h5 hw).mono fun rs hr=>hr.2) (N.fns f h3) s1 g2
 | whl t b ih =>
  exact .ofS fun hc hw=>by
   rename_i F ρ st Q
   refine an3 hc ?_
   try clear hc
   intro h
   refine S6 h ?_
   intro e b' p h1 h2
   refine e2_2 hw ?_
   clear hw
   intro I m0 h0 hI
   refine .while_ I m0 h0 fun m ρ' hm=>((S t).t h1 (hI m ρ' hm)).mono fun c hc=>?_
   cases c with
   | true=>exact (ih.ss h2 hc).mono fun fl ρ3 hq=>by cases fl <;> exact hq
   | false=>exact .nil hc
 | stuck=>exact .ofS fun hc hw=>hw.elim
 | nil =>
  refine ⟨fun h=>bad h,fun hc hw=>?_⟩
  obtain rfl:=List.isEmpty_iff.mp hc
  exact .nil hw
 | cons a r iha ihr =>
  refine ⟨fun h=>bad h,fun hc hw=>?_⟩
  rename_i F ρ sts Q
  cases sts with
  | nil=>clear hw ihr iha;cases hc
  | cons st sts =>
   refine an2 hc ?_
   intro h1 h2
   exact .cons ((iha.s h1 hw).mono fun fl ρ' hq=>by
    cases fl with
    | next=>exact ihr.ss h2 hq
    | _=>exact hq)
 | frz i r ih =>
  refine ⟨fun h=>bad h,fun hc hw=>?_⟩
  rename_i F ρ sts Q
  refine e2_2 (ownW.go (K:=fun c mm=>wpSs B n r (ρ.set i (some (.fz c))) Q) hw) ?_
  try clear c
  try clear mm
  try clear hw
  intro c mm hs hw
  exact .freeze i hs (ih.ss hc hw)
noncomputable def okB (F:Fi) (x:Sm) (names:List Str) (body:List Stmt):Bool:=chkSs F x body&&decide ((F.vars.map (·.1)).take names.length=names)&&(F.vars.all fun x=>decide (x.2≠.fre))
theorem Spec.of_vc (N:En B) (F:Fi) (x:Sm) {f:Str} {names:List Str} {body:List Stmt} {ags:List Ag} {Q:Rs→Prop} (hf:FnAt B f names body F.scope)
  (hc:okB F x names body=true) (hl:ags.length=names.length)
  (h:wpSs B n x (start F ags) (RetOk Q)) (hlam:F.lam=true→LamAt B f:=by intro q;cases q):Spec B f NoX (n+1) ags Q:=by
 refine an3 hc ?_
 try clear hc
 intro h0 h1 h2
 exact .of_body hf (of_decide_eq_true h1) h2 hl ((SndS.all N x).ss h0 h) hlam
theorem SpecM.of_vc (N:En B) (F:Fi) (x:Sm) {f:Str} {names:List Str} {body:List Stmt} {ags:List Ag} {l:List (Str×D)} {Q:List (Str×D)→Prop} (hf:FnAt B f names body F.scope)
  (hc:okB F x names body=true) (h3:F.lam=false) (hl:ags.length+1=names.length) (hap:ags.all Ag.plain=true)
  (h:∀ a,wpSs B n x (startM F ags (.own (.dct l) (some a))) fun fl ρ'=>fl=.next∧∃ l',ρ'[ags.length]?=some (some (.own (.dct l') (some a)))∧Q l'):SpecM B f (n+1) ags l Q:=by
 refine an3 hc ?_
 try clear hc
 intro h0 h1 h2
 exact .of_body hf (of_decide_eq_true h1) h2 hl hap h3 fun a=>(SndS.all N x).ss h0 (h a)
end
end Mine
end

section
open PySem PySem.W PyProof.Rows PySem.Calls PyProof
set_option backward.match.sparseCases false
set_option tactic.hygienic false
namespace Mine
noncomputable def F_made:Fi:=⟨scopeOf pw 5,[("number",.loc),("pairs",.loc),("shares",.cel),("name",.loc),("part",.loc)],5,by decide +kernel,false⟩
noncomputable def b_made:Sm:=.cons (.asg 2 .dc0) (.cons (.for_ (.two 3 4) (.nm 1) (.cons (.dst 2 (.nm 3) (.bin .Add (.get (.nm 2) (.nm 3) (.ci 0)) (.nm 4))) .nil)) (.frz 2 (.cons (.ret (.tup (.cons (.nm 0) (.cons (.bui .tup (.cons (.comp [("name",.loc),("shares",.cel)] 1 [2] (.one 0) (.bui .sorted (.cons (.bui .lst (.cons (.nm 2) .nil)) .nil)) (.cons (.tc .NotEq (.sub (.nm 1) (.nm 0)) (.ci 0)) .nil) (.tup (.cons (.nm 0) (.cons (.sub (.nm 1) (.nm 0)) .nil)))) .nil)) .nil)))) .nil)))
noncomputable def F_added:Fi:=⟨scopeOf pw 6,[("one",.loc),("other",.loc)],2,by decide +kernel,false⟩
noncomputable def b_added:Sm:=.cons (.ret (.call "made" (.cons (.bin .Add (.sbc (.nm 0) 0) (.sbc (.nm 1) 0)) (.cons (.bin .Add (.bui .lst (.cons (.sbc (.nm 0) 1) .nil)) (.bui .lst (.cons (.sbc (.nm 1) 1) .nil))) .nil)))) .nil
noncomputable def F_times:Fi:=⟨scopeOf pw 7,[("number",.cel),("one",.loc)],2,by decide +kernel,false⟩
noncomputable def b_times:Sm:=.cons (.ret (.call "made" (.cons (.bin .Mult (.nm 0) (.sbc (.nm 1) 0)) (.cons (.comp [("name",.loc),("part",.loc),("number",.cel)] 2 [0] (.two 0 1) (.sbc (.nm 1) 1) .no (.tup (.cons (.nm 0) (.cons (.bin .Mult (.nm 2) (.nm 1)) .nil)))) .nil)))) .nil
noncomputable def F_share:Fi:=⟨scopeOf pw 8,[("one",.loc),("name",.loc),("other",.loc),("part",.loc)],4,by decide +kernel,false⟩
noncomputable def b_share:Sm:=.cons (.for_ (.two 2 3) (.sbc (.nm 0) 1) (.cons (.ife (.tc .Eq (.nm 2) (.nm 1)) (.cons (.ret (.nm 3)) .nil) .nil) .nil)) (.cons (.ret (.ci 0)) .nil)
noncomputable def F_without:Fi:=⟨scopeOf pw 9,[("one",.loc),("name",.cel)],2,by decide +kernel,false⟩
noncomputable def b_without:Sm:=.cons (.ret (.tup (.cons (.sbc (.nm 0) 0) (.cons (.bui .tup (.cons (.comp [("pair",.loc),("name",.cel)] 1 [1] (.one 0) (.sbc (.nm 0) 1) (.cons (.tc .NotEq (.sbc (.nm 0) 0) (.nm 1)) .nil) (.nm 0)) .nil)) .nil)))) .nil
noncomputable def F_put_in:Fi:=⟨scopeOf pw 10,[("one",.loc),("name",.loc),("other",.loc)],3,by decide +kernel,false⟩
noncomputable def b_put_in:Sm:=.cons (.ret (.call "added" (.cons (.call "without" (.cons (.nm 0) (.cons (.nm 1) .nil))) (.cons (.call "times" (.cons (.call "share" (.cons (.nm 0) (.cons (.nm 1) .nil))) (.cons (.nm 2) .nil))) .nil)))) .nil
noncomputable def F_value:Fi:=⟨scopeOf pw 11,[("one",.loc),("values",.loc),("found",.loc),("name",.loc),("part",.loc)],5,by decide +kernel,false⟩
noncomputable def b_value:Sm:=.cons (.asg 2 (.sbc (.nm 0) 0)) (.cons (.for_ (.two 3 4) (.sbc (.nm 0) 1) (.cons (.ife (.tc .NotIn (.nm 3) (.nm 1)) (.cons .stuck .nil) .nil) (.cons (.asg 2 (.bin .Add (.nm 2) (.bin .Mult (.nm 4) (.sub (.nm 1) (.nm 3))))) .nil))) (.cons (.ret (.nm 2)) .nil))
noncomputable def F_gcd:Fi:=⟨scopeOf pw 15,[("one",.loc),("other",.loc),("rest",.loc)],3,by decide +kernel,false⟩
noncomputable def b_gcd:Sm:=.cons (.whl (.tc .NotEq (.nm 1) (.ci 0)) (.cons (.asg 2 (.bin .Mod (.nm 0) (.nm 1))) (.cons (.asg 0 (.nm 1)) (.cons (.asg 1 (.nm 2)) .nil)))) (.cons (.ret (.bui .abs (.cons (.nm 0) .nil))) .nil)
noncomputable def F_lcm:Fi:=⟨scopeOf pw 16,[("one",.loc),("other",.loc)],2,by decide +kernel,false⟩
noncomputable def b_lcm:Sm:=.cons (.ret (.bin .Mult (.bin .FloorDiv (.nm 0) (.call "gcd" (.cons (.nm 0) (.cons (.nm 1) .nil)))) (.nm 1))) .nil
noncomputable def F_common_of:Fi:=⟨scopeOf pw 17,[("one",.loc),("first",.loc),("name",.loc),("part",.loc)],4,by decide +kernel,false⟩
noncomputable def b_common_of:Sm:=.cons (.for_ (.two 2 3) (.sbc (.nm 0) 1) (.cons (.asg 1 (.call "gcd" (.cons (.nm 1) (.cons (.nm 3) .nil)))) .nil)) (.cons (.ret (.nm 1)) .nil)
noncomputable def F_divided:Fi:=⟨scopeOf pw 18,[("one",.loc),("number",.cel)],2,by decide +kernel,false⟩
noncomputable def b_divided:Sm:=.cons (.ret (.tup (.cons (.bin .FloorDiv (.sbc (.nm 0) 0) (.nm 1)) (.cons (.bui .tup (.cons (.comp [("name",.loc),("part",.loc),("number",.cel)] 2 [1] (.two 0 1) (.sbc (.nm 0) 1) .no (.tup (.cons (.nm 0) (.cons (.bin .FloorDiv (.nm 1) (.nm 2)) .nil)))) .nil)) .nil)))) .nil
noncomputable def F_neat_above:Fi:=⟨scopeOf pw 20,[("one",.loc),("common",.cel)],2,by decide +kernel,false⟩
noncomputable def b_neat_above:Sm:=.cons (.ife (.tc .Eq (.sbc (.nm 0) 1) (.tup .nil)) (.cons (.ret (.ife (.tc .Gt (.sbc (.nm 0) 0) (.ci 0)) (.gd 0) (.gd 1))) .nil) .nil) (.cons (.asg 1 (.call "common_of" (.cons (.nm 0) (.cons (.ci 0) .nil)))) (.cons (.ret (.tup (.cons (.cs "above") (.cons (.tup (.cons (.neg (.bin .FloorDiv (.neg (.sbc (.nm 0) 0)) (.nm 1))) (.cons (.bui .tup (.cons (.comp [("name",.loc),("part",.loc),("common",.cel)] 2 [1] (.two 0 1) (.sbc (.nm 0) 1) .no (.tup (.cons (.nm 0) (.cons (.bin .FloorDiv (.nm 1) (.nm 2)) .nil)))) .nil)) .nil))) .nil)))) .nil))
noncomputable def F_neat_nought:Fi:=⟨scopeOf pw 21,[("one",.loc),("common",.loc)],2,by decide +kernel,false⟩
noncomputable def b_neat_nought:Sm:=.cons (.ife (.tc .Eq (.sbc (.nm 0) 1) (.tup .nil)) (.cons (.ret (.ife (.tc .Eq (.sbc (.nm 0) 0) (.ci 0)) (.gd 0) (.gd 1))) .nil) .nil) (.cons (.asg 1 (.call "common_of" (.cons (.nm 0) (.cons (.ci 0) .nil)))) (.cons (.ife (.tc .NotEq (.bin .Mod (.sbc (.nm 0) 0) (.nm 1)) (.ci 0)) (.cons (.ret (.gd 1)) .nil) .nil) (.cons (.ret (.tup (.cons (.cs "nought") (.cons (.call "divided" (.cons (.nm 0) (.cons (.nm 1) .nil))) .nil)))) .nil)))
noncomputable def F_neat_goes:Fi:=⟨scopeOf pw 22,[("number",.cel),("one",.loc),("common",.loc)],3,by decide +kernel,false⟩
noncomputable def b_neat_goes:Sm:=.cons (.asg 1 (.call "made" (.cons (.bin .Mod (.sbc (.nm 1) 0) (.nm 0)) (.cons (.comp [("name",.loc),("part",.loc),("number",.cel)] 2 [0] (.two 0 1) (.sbc (.nm 1) 1) .no (.tup (.cons (.nm 0) (.cons (.bin .Mod (.nm 1) (.nm 2)) .nil)))) .nil)))) (.cons (.asg 2 (.call "common_of" (.cons (.nm 1) (.cons (.nm 0) .nil)))) (.cons (.ife (.tc .NotEq (.bin .Mod (.sbc (.nm 1) 0) (.nm 2)) (.ci 0)) (.cons (.ret (.gd 1)) .nil) .nil) (.cons (.ife (.tc .Eq (.nm 2) (.nm 0)) (.cons (.ret (.gd 0)) .nil) .nil) (.cons (.ret (.tup (.cons (.cs "goes") (.cons (.bin .FloorDiv (.nm 0) (.nm 2)) (.cons (.call "divided" (.cons (.nm 1) (.cons (.nm 2) .nil))) .nil))))) .nil))))
noncomputable def F_neat_atom:Fi:=⟨scopeOf pw 23,[("statement",.loc)],1,by decide +kernel,false⟩
noncomputable def b_neat_atom:Sm:=.cons (.ife (.tc .Eq (.sbc (.nm 0) 0) (.cs "above")) (.cons (.ret (.call "neat_above" (.cons (.sbc (.nm 0) 1) .nil))) .nil) .nil) (.cons (.ife (.tc .Eq (.sbc (.nm 0) 0) (.cs "nought")) (.cons (.ret (.call "neat_nought" (.cons (.sbc (.nm 0) 1) .nil))) .nil) .nil) (.cons (.ife (.tc .Eq (.sbc (.nm 0) 0) (.cs "goes")) (.cons (.ret (.call "neat_goes" (.cons (.sbc (.nm 0) 1) (.cons (.sbc (.nm 0) 2) .nil)))) .nil) .nil) (.cons (.ret (.call "turned" (.cons (.call "neat_goes" (.cons (.sbc (.sbc (.nm 0) 1) 1) (.cons (.sbc (.sbc (.nm 0) 1) 2) .nil))) .nil))) .nil)))
noncomputable def F_joined:Fi:=⟨scopeOf pw 24,[("word",.loc),("parts",.loc),("end",.loc),("found",.loc),("part",.loc),("one",.loc),("some",.loc)],7,by decide +kernel,false⟩
noncomputable def b_joined:Sm:=.cons (.asg 2 (.ife (.tc .Eq (.nm 0) (.cs "and")) (.gd 1) (.gd 0))) (.cons (.asg 3 .dd0) (.cons (.for_ (.one 4) (.nm 1) (.cons (.ife (.tc .Eq (.nm 4) (.nm 2)) (.cons (.ret (.nm 2)) .nil) .nil) (.cons (.ife (.tc .Eq (.sbc (.nm 4) 0) (.nm 0)) (.cons (.for_ (.one 5) (.sbc (.nm 4) 1) (.cons (.dsd 3 (.nm 5)) .nil)) .nil) (.cons (.dsd 3 (.nm 4)) .nil)) .nil))) (.cons (.asg 6 (.bui .lst (.cons (.nm 3) .nil))) (.cons (.ife (.tc .Eq (.bui .len (.cons (.nm 6) .nil)) (.ci 1)) (.cons (.ret (.sbc (.nm 6) 0)) .nil) .nil) (.cons (.ret (.tup (.cons (.nm 0) (.cons (.bui .tup (.cons (.nm 6) .nil)) .nil)))) .nil)))))
noncomputable def F_mapped:Fi:=⟨scopeOf pw 25,[("statement",.loc),("work",.cel)],2,by decide +kernel,false⟩
noncomputable def b_mapped:Sm:=.cons (.ife (.to (.cons (.tc .Eq (.sbc (.nm 0) 0) (.cs "and")) (.cons (.tc .Eq (.sbc (.nm 0) 0) (.cs "or")) .nil))) (.cons (.ret (.call "joined" (.cons (.sbc (.nm 0) 0) (.cons (.comp [("part",.loc),("work",.cel)] 1 [1] (.one 0) (.sbc (.nm 0) 1) .no (.call "mapped" (.cons (.nm 0) (.cons (.nm 1) .nil)))) .nil)))) .nil) .nil) (.cons (.ret (.cav 1 (.cons (.nm 0) .nil))) .nil)
noncomputable def F_neat:Fi:=⟨scopeOf pw 26,[("statement",.loc)],1,by decide +kernel,false⟩
noncomputable def b_neat:Sm:=.cons (.ret (.call "mapped" (.cons (.nm 0) (.cons .gf .nil)))) .nil
noncomputable def F_atoms_of:Fi:=⟨scopeOf pw 27,[("statement",.loc),("found",.loc),("part",.loc)],3,by decide +kernel,false⟩
noncomputable def b_atoms_of:Sm:=.cons (.ife (.tc .Eq (.sbc (.nm 0) 0) (.cs "not")) (.cons (.ret (.lst (.cons (.sbc (.nm 0) 1) .nil))) .nil) .nil) (.cons (.ife (.ta (.cons (.tc .NotEq (.sbc (.nm 0) 0) (.cs "and")) (.cons (.tc .NotEq (.sbc (.nm 0) 0) (.cs "or")) .nil))) (.cons (.ret (.lst (.cons (.nm 0) .nil))) .nil) .nil) (.cons (.asg 1 (.lst .nil)) (.cons (.for_ (.one 2) (.sbc (.nm 0) 1) (.cons (.ext 1 (.call "atoms_of" (.cons (.nm 2) .nil))) .nil)) (.cons (.ret (.nm 1)) .nil))))
noncomputable def F_stands:Fi:=⟨scopeOf pw 28,[("name",.cel),("statement",.loc)],2,by decide +kernel,false⟩
noncomputable def b_stands:Sm:=.cons (.ret (.bui .any (.cons (.comp [("atom",.loc),("name",.cel)] 1 [0] (.one 0) (.call "atoms_of" (.cons (.nm 1) .nil)) .no (.cmp .NotEq (.call "share" (.cons (.sbc (.nm 0) (-1)) (.cons (.nm 1) .nil))) (.ci 0))) .nil))) .nil
noncomputable def F_as_above:Fi:=⟨scopeOf pw 29,[("one",.loc),("good",.loc)],2,by decide +kernel,false⟩
noncomputable def b_as_above:Sm:=.cons (.ife (.tv (.nm 1)) (.cons (.ret (.tup (.cons (.cs "and") (.cons (.tup (.cons (.tup (.cons (.cs "above") (.cons (.call "added" (.cons (.tup (.cons (.ci 1) (.cons (.tup .nil) .nil))) (.cons (.nm 0) .nil))) .nil))) (.cons (.tup (.cons (.cs "above") (.cons (.call "added" (.cons (.tup (.cons (.ci 1) (.cons (.tup .nil) .nil))) (.cons (.call "times" (.cons (.neg (.ci 1)) (.cons (.nm 0) .nil))) .nil))) .nil))) .nil))) .nil)))) .nil) .nil) (.cons (.ret (.tup (.cons (.cs "or") (.cons (.tup (.cons (.tup (.cons (.cs "above") (.cons (.nm 0) .nil))) (.cons (.tup (.cons (.cs "above") (.cons (.call "times" (.cons (.neg (.ci 1)) (.cons (.nm 0) .nil))) .nil))) .nil))) .nil)))) .nil)
noncomputable def F_pushed:Fi:=⟨scopeOf pw 30,[("statement",.loc),("good",.cel),("keeps",.cel),("kind",.loc),("word",.loc)],5,by decide +kernel,false⟩
noncomputable def b_pushed:Sm:=.cons (.asg 3 (.sbc (.nm 0) 0)) (.cons (.ife (.tc .Eq (.nm 3) (.cs "not")) (.cons (.ret (.call "pushed" (.cons (.sbc (.nm 0) 1) (.cons (.not (.nm 1)) (.cons (.nm 2) .nil))))) .nil) .nil) (.cons (.ife (.tc .Eq (.nm 3) (.cs "above")) (.cons (.ret (.ife (.tv (.nm 1)) (.nm 0) (.tup (.cons (.cs "above") (.cons (.call "added" (.cons (.tup (.cons (.ci 1) (.cons (.tup .nil) .nil))) (.cons (.call "times" (.cons (.neg (.ci 1)) (.cons (.sbc (.nm 0) 1) .nil))) .nil))) .nil))))) .nil) .nil) (.cons (.ife (.tc .Eq (.nm 3) (.cs "nought")) (.cons (.ret (.ife (.ta (.cons (.tv (.nm 1)) (.cons (.tv (.nm 2)) .nil))) (.nm 0) (.call "as_above" (.cons (.sbc (.nm 0) 1) (.cons (.nm 1) .nil))))) .nil) .nil) (.cons (.ife (.tc .Eq (.nm 3) (.cs "goes")) (.cons (.ret (.ife (.tv (.nm 1)) (.nm 0) (.tup (.cons (.cs "not") (.cons (.nm 0) .nil))))) .nil) .nil) (.cons (.asg 4 (.ife (.tv (.nm 1)) (.nm 3) (.sub (.dss "and" "or" "or" "and") (.nm 3)))) (.cons (.ret (.tup (.cons (.nm 4) (.cons (.bui .tup (.cons (.comp [("part",.loc),("good",.cel),("keeps",.cel)] 1 [1,2] (.one 0) (.sbc (.nm 0) 1) .no (.call "pushed" (.cons (.nm 0) (.cons (.nm 1) (.cons (.nm 2) .nil))))) .nil)) .nil)))) .nil))))))
noncomputable def F_inner:Fi:=⟨scopeOf pw 34,[("statement",.loc),("kind",.loc)],2,by decide +kernel,false⟩
noncomputable def b_inner:Sm:=.cons (.asg 1 (.sbc (.nm 0) 0)) (.cons (.ife (.tc .Eq (.nm 1) (.cs "not")) (.cons (.ret (.lst (.cons (.sbc (.nm 0) 1) .nil))) .nil) .nil) (.cons (.ife (.to (.cons (.tc .Eq (.nm 1) (.cs "and")) (.cons (.tc .Eq (.nm 1) (.cs "or")) .nil))) (.cons (.ret (.bui .lst (.cons (.sbc (.nm 0) 1) .nil))) .nil) .nil) (.cons (.ife (.tc .In (.nm 1) (.gd 3)) (.cons (.ret (.lst (.cons (.sbc (.nm 0) 2) .nil))) .nil) .nil) (.cons (.ret (.lst .nil)) .nil))))
noncomputable def F_is_plain:Fi:=⟨scopeOf pw 35,[("statement",.loc),("part",.loc)],2,by decide +kernel,false⟩
noncomputable def b_is_plain:Sm:=.cons (.ife (.tc .In (.sbc (.nm 0) 0) (.gd 3)) (.cons (.ret (.cb false)) .nil) .nil) (.cons (.for_ (.one 1) (.call "inner" (.cons (.nm 0) .nil)) (.cons (.ife (.tn (.tv (.call "is_plain" (.cons (.nm 1) .nil)))) (.cons (.ret (.cb false)) .nil) .nil) .nil)) (.cons (.ret (.cb true)) .nil))
noncomputable def F_need_plain:Fi:=⟨scopeOf pw 36,[("statement",.loc)],1,by decide +kernel,false⟩
noncomputable def b_need_plain:Sm:=.cons (.ife (.tn (.tv (.call "is_plain" (.cons (.nm 0) .nil)))) (.cons .stuck .nil) .nil) .nil
noncomputable def F_gather:Fi:=⟨scopeOf pw 37,[("statement",.loc),("bound",.loc),("found",.loc),("name",.loc),("part",.loc)],5,by decide +kernel,false⟩
noncomputable def b_gather:Sm:=.cons (.ife (.tc .In (.sbc (.nm 0) 0) (.gd 2)) (.cons (.for_ (.two 3 4) (.sbc (.sbc (.nm 0) (-1)) 1) (.cons (.ife (.tc .NotIn (.nm 3) (.nm 1)) (.cons (.dst 2 (.nm 3) (.cb true)) .nil) .nil) .nil)) .nil) .nil) (.cons (.ife (.tc .In (.sbc (.nm 0) 0) (.gd 3)) (.cons (.asg 1 (.bin .Add (.nm 1) (.lst (.cons (.sbc (.nm 0) 1) .nil)))) .nil) .nil) (.cons (.for_ (.one 4) (.call "inner" (.cons (.nm 0) .nil)) (.cons (.cam "gather" 2 (.cons (.nm 4) (.cons (.nm 1) (.cons (.nm 2) .nil)))) .nil)) .nil))
noncomputable def F_unknowns:Fi:=⟨scopeOf pw 38,[("statement",.loc),("found",.loc)],2,by decide +kernel,false⟩
noncomputable def b_unknowns:Sm:=.cons (.asg 1 .dc0) (.cons (.cam "gather" 1 (.cons (.nm 0) (.cons (.lst .nil) (.cons (.nm 1) .nil)))) (.cons (.ret (.bui .sorted (.cons (.bui .lst (.cons (.nm 1) .nil)) .nil))) .nil))
noncomputable def F_need_values:Fi:=⟨scopeOf pw 39,[("names",.loc),("values",.loc),("name",.loc)],3,by decide +kernel,false⟩
noncomputable def b_need_values:Sm:=.cons (.for_ (.one 2) (.nm 0) (.cons (.ife (.tc .NotIn (.nm 2) (.nm 1)) (.cons .stuck .nil) .nil) .nil)) .nil
noncomputable def F_truth:Fi:=⟨scopeOf pw 40,[("statement",.loc),("values",.loc),("kind",.loc),("part",.loc)],4,by decide +kernel,false⟩
noncomputable def b_truth:Sm:=.cons (.asg 2 (.sbc (.nm 0) 0)) (.cons (.ife (.tc .Eq (.nm 2) (.cs "above")) (.cons (.ret (.cmp .Gt (.call "value" (.cons (.sbc (.nm 0) 1) (.cons (.nm 1) .nil))) (.ci 0))) .nil) .nil) (.cons (.ife (.tc .Eq (.nm 2) (.cs "nought")) (.cons (.ret (.cmp .Eq (.call "value" (.cons (.sbc (.nm 0) 1) (.cons (.nm 1) .nil))) (.ci 0))) .nil) .nil) (.cons (.ife (.tc .Eq (.nm 2) (.cs "goes")) (.cons (.ret (.cmp .Eq (.bin .Mod (.call "value" (.cons (.sbc (.nm 0) 2) (.cons (.nm 1) .nil))) (.sbc (.nm 0) 1)) (.ci 0))) .nil) .nil) (.cons (.ife (.tc .Eq (.nm 2) (.cs "not")) (.cons (.ret (.not (.call "truth" (.cons (.sbc (.nm 0) 1) (.cons (.nm 1) .nil))))) .nil) .nil) (.cons (.for_ (.one 3) (.sbc (.nm 0) 1) (.cons (.ife (.tc .NotEq (.call "truth" (.cons (.nm 3) (.cons (.nm 1) .nil))) (.cmp .Eq (.nm 2) (.cs "and"))) (.cons (.ret (.cmp .Eq (.nm 2) (.cs "or"))) .nil) .nil) .nil)) (.cons (.ret (.cmp .Eq (.nm 2) (.cs "and"))) .nil))))))
noncomputable def F_is_true:Fi:=⟨scopeOf pw 41,[("statement",.loc),("values",.loc)],2,by decide +kernel,false⟩
noncomputable def b_is_true:Sm:=.cons (.exp (.call "need_plain" (.cons (.nm 0) .nil))) (.cons (.exp (.call "need_values" (.cons (.call "unknowns" (.cons (.nm 0) .nil)) (.cons (.nm 1) .nil)))) (.cons (.ret (.call "truth" (.cons (.nm 0) (.cons (.nm 1) .nil)))) .nil))
noncomputable def F_filled:Fi:=⟨scopeOf pw 42,[("statement",.loc),("values",.cel),("kind",.loc),("one",.loc),("name",.loc),("part",.loc),("rest",.loc)],7,by decide +kernel,false⟩
noncomputable def b_filled:Sm:=.cons (.asg 2 (.sbc (.nm 0) 0)) (.cons (.ife (.tc .In (.nm 2) (.gd 2)) (.cons (.asg 3 (.sbc (.nm 0) (-1))) (.cons (.for_ (.two 4 5) (.sbc (.sbc (.nm 0) (-1)) 1) (.cons (.ife (.tc .In (.nm 4) (.nm 1)) (.cons (.asg 3 (.call "put_in" (.cons (.nm 3) (.cons (.nm 4) (.cons (.tup (.cons (.sub (.nm 1) (.nm 4)) (.cons (.tup .nil) .nil))) .nil))))) .nil) .nil) .nil)) (.cons (.ret (.bin .Add (.slc (.nm 0) .no (.cons (.neg (.ci 1)) .nil)) (.tup (.cons (.nm 3) .nil)))) .nil))) .nil) (.cons (.ife (.tc .Eq (.nm 2) (.cs "not")) (.cons (.ret (.tup (.cons (.cs "not") (.cons (.call "filled" (.cons (.sbc (.nm 0) 1) (.cons (.nm 1) .nil))) .nil)))) .nil) .nil) (.cons (.ife (.tc .In (.nm 2) (.gd 3)) (.cons (.asg 6 (.bui .dict (.cons (.nm 1) .nil))) (.cons (.pop 6 (.sbc (.nm 0) 1)) (.cons (.ret (.tup (.cons (.nm 2) (.cons (.sbc (.nm 0) 1) (.cons (.call "filled" (.cons (.sbc (.nm 0) 2) (.cons (.nm 6) .nil))) .nil))))) .nil))) .nil) (.cons (.ret (.tup (.cons (.nm 2) (.cons (.bui .tup (.cons (.comp [("part",.loc),("values",.cel)] 1 [1] (.one 0) (.sbc (.nm 0) 1) .no (.call "filled" (.cons (.nm 0) (.cons (.nm 1) .nil)))) .nil)) .nil)))) .nil))))
noncomputable def F_by_nought:Fi:=⟨scopeOf pw 45,[("name",.cel),("told",.loc),("others",.loc),("found",.loc),("other",.loc),("many",.cel),("rest",.cel)],7,by decide +kernel,false⟩
noncomputable def b_by_nought:Sm:=.cons (.asg 5 (.call "share" (.cons (.sbc (.nm 1) 1) (.cons (.nm 0) .nil)))) (.cons (.asg 6 (.call "without" (.cons (.sbc (.nm 1) 1) (.cons (.nm 0) .nil)))) (.cons (.asg 3 (.lst (.cons (.call "neat_goes" (.cons (.bui .abs (.cons (.nm 5) .nil)) (.cons (.nm 6) .nil))) .nil))) (.cons (.for_ (.one 4) (.nm 2) (.cons .stuck .nil)) (.cons (.ret (.call "joined" (.cons (.cs "and") (.cons (.nm 3) .nil)))) .nil))))
noncomputable def F_of_share_one:Fi:=⟨scopeOf pw 46,[("atom",.loc),("name",.cel),("many",.cel),("part",.loc),("more",.loc),("sign",.loc),("one",.loc)],7,by decide +kernel,false⟩
noncomputable def b_of_share_one:Sm:=.cons (.ife (.tc .Eq (.sbc (.nm 0) 0) (.cs "not")) (.cons (.ret (.tup (.cons (.cs "not") (.cons (.call "of_share_one" (.cons (.sbc (.nm 0) 1) (.cons (.nm 1) (.cons (.nm 2) .nil)))) .nil)))) .nil) .nil) (.cons (.ife (.tc .Eq (.sbc (.nm 0) 0) (.cs "nought")) (.cons .stuck .nil) .nil) (.cons (.asg 3 (.call "share" (.cons (.sbc (.nm 0) (-1)) (.cons (.nm 1) .nil)))) (.cons (.ife (.tc .Eq (.nm 3) (.ci 0)) (.cons (.ret (.nm 0)) .nil) .nil) (.cons (.asg 4 (.bin .FloorDiv (.nm 2) (.bui .abs (.cons (.nm 3) .nil)))) (.cons (.asg 5 (.ife (.tc .Gt (.nm 3) (.ci 0)) (.ci 1) (.neg (.ci 1)))) (.cons (.asg 6 (.call "added" (.cons (.call "times" (.cons (.nm 4) (.cons (.call "without" (.cons (.sbc (.nm 0) (-1)) (.cons (.nm 1) .nil))) .nil))) (.cons (.call "made" (.cons (.ci 0) (.cons (.lst (.cons (.tup (.cons (.nm 1) (.cons (.nm 5) .nil))) .nil)) .nil))) .nil)))) (.cons (.ife (.tc .Eq (.sbc (.nm 0) 0) (.cs "above")) (.cons (.ret (.tup (.cons (.cs "above") (.cons (.nm 6) .nil)))) .nil) .nil) (.cons (.ret (.tup (.cons (.cs "goes") (.cons (.bin .Mult (.sbc (.nm 0) 1) (.nm 4)) (.cons (.nm 6) .nil))))) .nil))))))))
noncomputable def F_set_in:Fi:=⟨scopeOf pw 47,[("statement",.loc),("name",.cel),("other",.cel),("atom",.loc)],4,by decide +kernel,false⟩
noncomputable def b_set_in:Sm:=.cons (.ife (.to (.cons (.tc .Eq (.sbc (.nm 0) 0) (.cs "and")) (.cons (.tc .Eq (.sbc (.nm 0) 0) (.cs "or")) .nil))) (.cons (.ret (.call "joined" (.cons (.sbc (.nm 0) 0) (.cons (.comp [("part",.loc),("name",.cel),("other",.cel)] 1 [1,2] (.one 0) (.sbc (.nm 0) 1) .no (.call "set_in" (.cons (.nm 0) (.cons (.nm 1) (.cons (.nm 2) .nil))))) .nil)))) .nil) .nil) (.cons (.ife (.tc .Eq (.sbc (.nm 0) 0) (.cs "not")) (.cons (.asg 3 (.sbc (.nm 0) 1)) (.cons (.ret (.call "turned" (.cons (.call "neat_goes" (.cons (.sbc (.nm 3) 1) (.cons (.call "put_in" (.cons (.sbc (.nm 3) 2) (.cons (.nm 1) (.cons (.nm 2) .nil)))) .nil))) .nil))) .nil)) .nil) (.cons (.ret (.call "neat_atom" (.cons (.bin .Add (.slc (.nm 0) .no (.cons (.neg (.ci 1)) .nil)) (.tup (.cons (.call "put_in" (.cons (.sbc (.nm 0) (-1)) (.cons (.nm 1) (.cons (.nm 2) .nil)))) .nil))) .nil))) .nil))
noncomputable def F_far_atom:Fi:=⟨scopeOf pw 48,[("atom",.loc),("name",.loc),("side",.loc)],3,by decide +kernel,false⟩
noncomputable def b_far_atom:Sm:=.cons (.ife (.to (.cons (.tc .NotEq (.sbc (.nm 0) 0) (.cs "above")) (.cons (.tc .Eq (.call "share" (.cons (.sbc (.nm 0) 1) (.cons (.nm 1) .nil))) (.ci 0)) .nil))) (.cons (.ret (.nm 0)) .nil) .nil) (.cons (.ret (.ife (.tc .Eq (.call "share" (.cons (.sbc (.nm 0) 1) (.cons (.nm 1) .nil))) (.nm 2)) (.gd 1) (.gd 0))) .nil)
noncomputable def F_edges_of:Fi:=⟨scopeOf pw 49,[("statement",.loc),("name",.loc),("side",.loc),("found",.loc),("atom",.loc)],5,by decide +kernel,false⟩
noncomputable def b_edges_of:Sm:=.cons (.asg 3 .dd0) (.cons (.for_ (.one 4) (.call "atoms_of" (.cons (.nm 0) .nil)) (.cons (.ife (.ta (.cons (.tc .Eq (.sbc (.nm 4) 0) (.cs "above")) (.cons (.tc .Eq (.call "share" (.cons (.sbc (.nm 4) 1) (.cons (.nm 1) .nil))) (.nm 2)) .nil))) (.cons (.dsd 3 (.call "times" (.cons (.neg (.nm 2)) (.cons (.call "without" (.cons (.sbc (.nm 4) 1) (.cons (.nm 1) .nil))) .nil)))) .nil) .nil) .nil)) (.cons (.ret (.bui .lst (.cons (.nm 3) .nil))) .nil))
noncomputable def F_gone:Fi:=⟨scopeOf pw 50,[("name",.cel),("statement",.loc),("atom",.loc),("whole",.loc),("turn",.loc),("edges",.loc),("far",.loc),("found",.loc),("step",.loc),("edge",.loc),("many",.cel),("side",.cel)],12,by decide +kernel,true⟩
noncomputable def b_gone:Sm:=.cons (.asg 10 (.ci 1)) (.cons (.for_ (.one 2) (.call "atoms_of" (.cons (.nm 1) .nil)) (.cons (.ife (.tc .NotEq (.call "share" (.cons (.sbc (.nm 2) (-1)) (.cons (.nm 0) .nil))) (.ci 0)) (.cons (.asg 10 (.call "lcm" (.cons (.nm 10) (.cons (.bui .abs (.cons (.call "share" (.cons (.sbc (.nm 2) (-1)) (.cons (.nm 0) .nil))) .nil)) .nil)))) .nil) .nil) .nil)) (.cons (.asg 3 (.clm "mapped" (.nm 1) ["name","many"] [0,10] (.call "of_share_one" (.cons (.nm 0) (.cons (.nm 1) (.cons (.nm 2) .nil)))))) (.cons (.ife (.tc .Gt (.nm 10) (.ci 1)) (.cons (.asg 3 (.call "joined" (.cons (.cs "and") (.cons (.lst (.cons (.nm 3) (.cons (.tup (.cons (.cs "goes") (.cons (.nm 10) (.cons (.call "made" (.cons (.ci 0) (.cons (.lst (.cons (.tup (.cons (.nm 0) (.cons (.ci 1) .nil))) .nil)) .nil))) .nil)))) .nil))) .nil)))) .nil) .nil) (.cons (.asg 4 (.ci 1)) (.cons (.for_ (.one 2) (.call "atoms_of" (.cons (.nm 3) .nil)) (.cons (.ife (.ta (.cons (.tc .Eq (.sbc (.nm 2) 0) (.cs "goes")) (.cons (.tc .NotEq (.call "share" (.cons (.sbc (.nm 2) 2) (.cons (.nm 0) .nil))) (.ci 0)) .nil))) (.cons (.asg 4 (.call "lcm" (.cons (.nm 4) (.cons (.sbc (.nm 2) 1) .nil)))) .nil) .nil) .nil)) (.cons (.asg 11 (.ci 1)) (.cons (.asg 5 (.call "edges_of" (.cons (.nm 3) (.cons (.nm 0) (.cons (.ci 1) .nil))))) (.cons (.ife (.tc .Lt (.bui .len (.cons (.call "edges_of" (.cons (.nm 3) (.cons (.nm 0) (.cons (.neg (.ci 1)) .nil)))) .nil)) (.bui .len (.cons (.nm 5) .nil))) (.cons (.asg 11 (.neg (.ci 1))) (.cons (.asg 5 (.call "edges_of" (.cons (.nm 3) (.cons (.nm 0) (.cons (.neg (.ci 1)) .nil))))) .nil)) .nil) (.frz 5 (.cons (.asg 6 (.clm "mapped" (.nm 3) ["name","side"] [0,11] (.call "far_atom" (.cons (.nm 0) (.cons (.nm 1) (.cons (.nm 2) .nil)))))) (.cons (.asg 7 (.lst .nil)) (.cons (.for_ (.one 8) (.bui .range (.cons (.ci 1) (.cons (.bin .Add (.nm 4) (.ci 1)) .nil))) (.cons (.app 7 (.call "set_in" (.cons (.nm 6) (.cons (.nm 0) (.cons (.tup (.cons (.bin .Mult (.nm 11) (.nm 8)) (.cons (.tup .nil) .nil))) .nil))))) (.cons (.for_ (.one 9) (.nm 5) (.cons (.app 7 (.call "set_in" (.cons (.nm 3) (.cons (.nm 0) (.cons (.call "added" (.cons (.nm 9) (.cons (.tup (.cons (.bin .Mult (.nm 11) (.nm 8)) (.cons (.tup .nil) .nil))) .nil))) .nil))))) .nil)) (.cons (.ife (.tc .In (.gd 0) (.nm 7)) (.cons (.ret (.gd 0)) .nil) .nil) .nil)))) (.cons (.ret (.call "joined" (.cons (.cs "or") (.cons (.nm 7) .nil)))) .nil)))))))))))))
noncomputable def F_away:Fi:=⟨scopeOf pw 51,[("name",.cel),("statement",.loc),("part",.loc),("parts",.loc),("bare",.loc),("rest",.loc),("at",.loc)],7,by decide +kernel,false⟩
noncomputable def b_away:Sm:=.cons (.ife (.tn (.tv (.call "stands" (.cons (.nm 0) (.cons (.nm 1) .nil))))) (.cons (.ret (.nm 1)) .nil) .nil) (.cons (.ife (.tc .Eq (.sbc (.nm 1) 0) (.cs "or")) (.cons (.ret (.call "joined" (.cons (.cs "or") (.cons (.comp [("part",.loc),("name",.cel)] 1 [0] (.one 0) (.sbc (.nm 1) 1) .no (.call "away" (.cons (.nm 1) (.cons (.nm 0) .nil)))) .nil)))) .nil) .nil) (.cons (.asg 3 (.ife (.tc .Eq (.sbc (.nm 1) 0) (.cs "and")) (.bui .lst (.cons (.sbc (.nm 1) 1) .nil)) (.lst (.cons (.nm 1) .nil)))) (.frz 3 (.cons (.asc 4 [("part",.loc),("name",.cel)] 1 [0] (.one 0) (.nm 3) (.cons (.tn (.tv (.call "stands" (.cons (.nm 1) (.cons (.nm 0) .nil))))) .nil) (.nm 0)) (.cons (.asc 5 [("part",.loc),("name",.cel)] 1 [0] (.one 0) (.nm 3) (.cons (.tv (.call "stands" (.cons (.nm 1) (.cons (.nm 0) .nil)))) .nil) (.nm 0)) (.frz 5 (.cons (.fen 6 2 (.nm 5) (.cons (.ife (.tc .Eq (.sbc (.nm 2) 0) (.cs "nought")) (.cons (.ret (.call "joined" (.cons (.cs "and") (.cons (.bin .Add (.nm 4) (.lst (.cons (.call "by_nought" (.cons (.nm 0) (.cons (.nm 2) (.cons (.bin .Add (.slc (.nm 5) .no (.cons (.nm 6) .nil)) (.slc (.nm 5) (.cons (.bin .Add (.nm 6) (.ci 1)) .nil) .no)) .nil)))) .nil))) .nil)))) .nil) .nil) .nil)) (.cons (.ife (.ta (.cons (.tc .Eq (.bui .len (.cons (.nm 5) .nil)) (.ci 1)) (.cons (.tc .Eq (.sbc (.sbc (.nm 5) 0) 0) (.cs "or")) .nil))) (.cons (.ret (.call "joined" (.cons (.cs "and") (.cons (.bin .Add (.nm 4) (.lst (.cons (.call "away" (.cons (.nm 0) (.cons (.sbc (.nm 5) 0) .nil))) .nil))) .nil)))) .nil) .nil) (.cons (.ret (.call "joined" (.cons (.cs "and") (.cons (.bin .Add (.nm 4) (.lst (.cons (.call "gone" (.cons (.nm 0) (.cons (.call "joined" (.cons (.cs "and") (.cons (.nm 5) .nil))) .nil))) .nil))) .nil)))) .nil)))))))))
noncomputable def F_left:Fi:=⟨scopeOf pw 52,[("statement",.loc),("kind",.loc)],2,by decide +kernel,false⟩
noncomputable def b_left:Sm:=.cons (.asg 1 (.sbc (.nm 0) 0)) (.cons (.ife (.tc .Eq (.nm 1) (.cs "some")) (.cons (.ret (.call "away" (.cons (.sbc (.nm 0) 1) (.cons (.call "neat" (.cons (.call "pushed" (.cons (.call "left" (.cons (.sbc (.nm 0) 2) .nil)) (.cons (.cb true) (.cons (.cb true) .nil)))) .nil)) .nil)))) .nil) .nil) (.cons (.ife (.tc .Eq (.nm 1) (.cs "all")) (.cons (.ret (.call "pushed" (.cons (.call "away" (.cons (.sbc (.nm 0) 1) (.cons (.call "neat" (.cons (.call "pushed" (.cons (.call "left" (.cons (.sbc (.nm 0) 2) .nil)) (.cons (.cb false) (.cons (.cb true) .nil)))) .nil)) .nil))) (.cons (.cb false) (.cons (.cb true) .nil))))) .nil) .nil) (.cons (.ife (.tc .Eq (.nm 1) (.cs "not")) (.cons (.ret (.tup (.cons (.cs "not") (.cons (.call "left" (.cons (.sbc (.nm 0) 1) .nil)) .nil)))) .nil) .nil) (.cons (.ife (.to (.cons (.tc .Eq (.nm 1) (.cs "and")) (.cons (.tc .Eq (.nm 1) (.cs "or")) .nil))) (.cons (.ret (.tup (.cons (.nm 1) (.cons (.bui .tup (.cons (.comp [("part",.loc)] 1 [] (.one 0) (.sbc (.nm 0) 1) .no (.call "left" (.cons (.nm 0) .nil))) .nil)) .nil)))) .nil) .nil) (.cons (.ret (.nm 0)) .nil)))))
noncomputable def F_holds:Fi:=⟨scopeOf pw 54,[("statement",.loc),("values",.loc),("names",.loc),("known",.loc),("name",.loc)],5,by decide +kernel,false⟩
noncomputable def b_holds:Sm:=.cons (.asg 2 (.call "unknowns" (.cons (.nm 0) .nil))) (.frz 2 (.cons (.exp (.call "need_values" (.cons (.nm 2) (.cons (.nm 1) .nil)))) (.cons (.asg 3 .dc0) (.cons (.for_ (.one 4) (.nm 2) (.cons (.dst 3 (.nm 4) (.sub (.nm 1) (.nm 4))) .nil)) (.cons (.ret (.call "truth" (.cons (.call "left" (.cons (.call "filled" (.cons (.nm 0) (.cons (.nm 3) .nil))) .nil)) (.cons .dc0 .nil)))) .nil)))))
noncomputable def F_break_of:Fi:=⟨scopeOf pw 55,[("one",.loc),("name",.loc),("part",.loc)],3,by decide +kernel,false⟩
noncomputable def b_break_of:Sm:=.cons (.asg 2 (.call "share" (.cons (.nm 0) (.cons (.nm 1) .nil)))) (.cons (.ife (.tc .Gt (.nm 2) (.ci 0)) (.cons (.ret (.bin .FloorDiv (.neg (.sbc (.nm 0) 0)) (.nm 2))) .nil) .nil) (.cons (.ret (.bin .Sub (.neg (.bin .FloorDiv (.neg (.sbc (.nm 0) 0)) (.neg (.nm 2)))) (.ci 1))) .nil))
noncomputable def F_number_for:Fi:=⟨scopeOf pw 56,[("plain",.loc),("name",.loc),("turn",.loc),("breaks",.loc),("atom",.loc),("part",.loc),("place",.loc),("step",.loc)],8,by decide +kernel,false⟩
noncomputable def b_number_for:Sm:=.cons (.asg 2 (.ci 1)) (.cons (.asg 3 .di0) (.cons (.for_ (.one 4) (.call "atoms_of" (.cons (.nm 0) .nil)) (.cons (.asg 5 (.call "share" (.cons (.sbc (.nm 4) (-1)) (.cons (.nm 1) .nil)))) (.cons (.ife (.ta (.cons (.tc .Eq (.sbc (.nm 4) 0) (.cs "goes")) (.cons (.tc .NotEq (.nm 5) (.ci 0)) .nil))) (.cons (.asg 2 (.call "lcm" (.cons (.nm 2) (.cons (.bin .FloorDiv (.sbc (.nm 4) 1) (.call "gcd" (.cons (.sbc (.nm 4) 1) (.cons (.nm 5) .nil)))) .nil)))) .nil) .nil) (.cons (.ife (.ta (.cons (.tc .Eq (.sbc (.nm 4) 0) (.cs "above")) (.cons (.tc .NotEq (.nm 5) (.ci 0)) .nil))) (.cons (.dsi 3 (.call "break_of" (.cons (.sbc (.nm 4) 1) (.cons (.nm 1) .nil)))) .nil) .nil) .nil)))) (.cons (.ife (.tc .Eq (.nm 3) .di0) (.cons (.dsi 3 (.ci 0)) .nil) .nil) (.cons (.for_ (.one 6) (.bui .sorted (.cons (.bui .lst (.cons (.nm 3) .nil)) .nil)) (.cons (.for_ (.one 7) (.bui .range (.cons (.bin .Mult (.ci 2) (.nm 2)) .nil)) (.cons (.ife (.tv (.call "truth" (.cons (.nm 0) (.cons (.dc1 (.nm 1) (.bin .Add (.bin .Sub (.bin .Add (.nm 6) (.ci 1)) (.nm 2)) (.nm 7))) .nil)))) (.cons (.ret (.bin .Add (.bin .Sub (.bin .Add (.nm 6) (.ci 1)) (.nm 2)) (.nm 7))) .nil) .nil) .nil)) .nil)) (.cons (.ret .cn) .nil)))))
noncomputable def F_told:Fi:=⟨scopeOf pw 57,[("name",.cel),("statement",.loc),("values",.loc),("other",.loc),("names",.loc),("known",.loc)],6,by decide +kernel,false⟩
noncomputable def b_told:Sm:=.cons (.asc 4 [("other",.loc),("name",.cel)] 1 [0] (.one 0) (.call "unknowns" (.cons (.nm 1) .nil)) (.cons (.tc .NotEq (.nm 0) (.nm 1)) .nil) (.nm 0)) (.frz 4 (.cons (.exp (.call "need_values" (.cons (.nm 4) (.cons (.nm 2) .nil)))) (.cons (.asg 5 .dc0) (.cons (.for_ (.one 3) (.nm 4) (.cons (.dst 5 (.nm 3) (.sub (.nm 2) (.nm 3))) .nil)) (.cons (.ret (.call "number_for" (.cons (.call "neat" (.cons (.call "pushed" (.cons (.call "left" (.cons (.call "filled" (.cons (.nm 1) (.cons (.nm 5) .nil))) .nil)) (.cons (.cb true) (.cons (.cb false) .nil)))) .nil)) (.cons (.nm 0) .nil)))) .nil)))))
noncomputable def F_cell_at:Fi:=⟨scopeOf pw 59,[("_law_script",.loc),("_law_k",.loc)],2,by decide +kernel,false⟩
noncomputable def b_cell_at:Sm:=.cons (.ife (.tc .Lt (.nm 1) (.bui .len (.cons (.nm 0) .nil))) (.cons (.ret (.sub (.nm 0) (.nm 1))) .nil) .nil) (.cons (.ret (.ci 0)) .nil)
noncomputable def F_whole:Fi:=⟨scopeOf pw 60,[("_law_got",.loc)],1,by decide +kernel,false⟩
noncomputable def b_whole:Sm:=.cons (.ret (.and2 (.isi (.nm 0) .int) (.not (.isi (.nm 0) .bool)))) .nil
noncomputable def F_names_by:Fi:=⟨scopeOf pw 61,[("_law_cell",.cel),("_law_letters",.cel),("_law_size",.loc),("_law_word",.cel),("_law_number",.loc),("_law_k",.loc),("_law_usual",.cel),("_law_spot",.cel)],8,by decide +kernel,false⟩
noncomputable def b_names_by:Sm:=.cons (.asg 1 (.cs "abcdefghijklmnopqrstuvwxyz")) (.cons (.asg 2 (.bin .Add (.ci 1) (.bin .Mod (.nm 0) (.ci 8)))) (.cons (.asg 3 (.cs "")) (.cons (.asg 4 (.nm 0)) (.cons (.for_ (.one 5) (.bui .range (.cons (.nm 2) .nil)) (.cons (.asg 4 (.bin .Mod (.bin .Add (.bin .Mult (.nm 4) (.ci 48271)) (.ci 11)) (.ci 2147483647))) (.cons (.asg 3 (.bin .Add (.nm 3) (.sub (.nm 1) (.bin .Mod (.bin .FloorDiv (.nm 4) (.ci 7)) (.ci 26))))) .nil))) (.cons (.ife (.tc .Eq (.bin .Mod (.bin .FloorDiv (.nm 0) (.ci 8)) (.ci 3)) (.ci 2)) (.cons (.ret (.comp [("_law_k",.loc),("_law_word",.cel),("_law_cell",.cel)] 1 [3,0] (.one 0) (.bui .range (.cons (.ci 4) .nil)) .no (.bin .Mult (.slc (.nm 1) .no (.cons (.ci 1) .nil)) (.bin .Add (.ci 1) (.bin .Mod (.bin .Add (.nm 0) (.bin .FloorDiv (.nm 2) (.ci 24))) (.ci 8)))))) .nil) .nil) (.cons (.ife (.tc .In (.bin .Mod (.bin .FloorDiv (.nm 0) (.ci 8)) (.ci 9)) (.lst (.cons (.ci 1) (.cons (.ci 4) (.cons (.ci 7) .nil))))) (.cons (.asg 6 (.lst (.cons (.cs "new") (.cons (.cs "k") (.cons (.cs "t") (.cons (.cs "x") (.cons (.cs "y") (.cons (.cs "z") (.cons (.cs "step") (.cons (.cs "size") (.cons (.cs "bound") (.cons (.cs "some") (.cons (.cs "and") (.cons (.cs "above") (.cons (.cs "nought") (.cons (.cs "goes") .nil)))))))))))))))) (.cons (.asg 6 (.bin .Add (.nm 6) (.lst (.cons (.cs "not") (.cons (.cs "or") (.cons (.cs "all") (.cons (.cs "far") (.cons (.cs "low") (.cons (.cs "high") (.cons (.cs "name") (.cons (.cs "newone") (.cons (.cs "number") (.cons (.cs "it") (.cons (.cs "lined") .nil)))))))))))))) (.cons (.ret (.comp [("_law_k",.loc),("_law_usual",.cel),("_law_cell",.cel)] 1 [6,0] (.one 0) (.bui .range (.cons (.ci 4) .nil)) .no (.sub (.nm 1) (.bin .Mod (.bin .Add (.bin .FloorDiv (.nm 2) (.ci 72)) (.sub (.lst (.cons (.ci 0) (.cons (.ci 7) (.cons (.ci 12) (.cons (.ci 18) .nil))))) (.nm 0))) (.ci 25))))) .nil))) .nil) (.cons (.asg 7 (.bin .Mod (.bin .FloorDiv (.nm 0) (.ci 24)) (.nm 2))) (.cons (.ret (.comp [("_law_k",.loc),("_law_word",.cel),("_law_spot",.cel),("_law_letters",.cel),("_law_cell",.cel)] 1 [3,7,1,0] (.one 0) (.bui .range (.cons (.ci 4) .nil)) .no (.bin .Add (.bin .Add (.slc (.nm 1) .no (.cons (.nm 2) .nil)) (.sub (.nm 3) (.bin .Mod (.bin .Add (.bin .FloorDiv (.nm 4) (.ci 192)) (.bin .Mult (.ci 7) (.nm 0))) (.ci 26)))) (.slc (.nm 1) (.cons (.bin .Add (.nm 2) (.ci 1)) .nil) .no)))) .nil))))))))
noncomputable def F_big_by:Fi:=⟨scopeOf pw 62,[("_law_cell",.loc),("_law_number",.loc),("_law_mixed",.loc),("_law_k",.loc)],4,by decide +kernel,false⟩
noncomputable def b_big_by:Sm:=.cons (.ife (.tc .Gt (.bin .Mod (.nm 0) (.ci 4)) (.ci 0)) (.cons (.ret (.bin .Sub (.bin .Mod (.bin .FloorDiv (.nm 0) (.ci 4)) (.ci 19)) (.ci 9))) .nil) .nil) (.cons (.asg 1 (.ci 0)) (.cons (.asg 2 (.nm 0)) (.cons (.for_ (.one 3) (.bui .range (.cons (.bin .Add (.ci 1) (.bin .Mod (.bin .FloorDiv (.nm 0) (.ci 8)) (.ci 60))) .nil)) (.cons (.asg 2 (.bin .Mod (.bin .Add (.bin .Mult (.nm 2) (.ci 48271)) (.ci 11)) (.ci 2147483647))) (.cons (.asg 1 (.bin .Add (.bin .Mult (.nm 1) (.ci 10)) (.bin .Mod (.bin .FloorDiv (.nm 2) (.ci 7)) (.ci 10)))) .nil))) (.cons (.ret (.bin .Mult (.sub (.lst (.cons (.ci 1) (.cons (.neg (.ci 1)) .nil))) (.bin .Mod (.bin .FloorDiv (.nm 0) (.ci 4)) (.ci 2))) (.nm 1))) .nil))))
noncomputable def F_lvalue:Fi:=⟨scopeOf pw 63,[("_law_one",.loc),("_law_values",.loc),("_law_total",.loc),("_law_pair",.loc)],4,by decide +kernel,false⟩
noncomputable def b_lvalue:Sm:=.cons (.asg 2 (.sbc (.nm 0) 0)) (.cons (.for_ (.one 3) (.sbc (.nm 0) 1) (.cons (.asg 2 (.bin .Add (.nm 2) (.bin .Mult (.sbc (.nm 3) 1) (.sub (.nm 1) (.sbc (.nm 3) 0))))) .nil)) (.cons (.ret (.nm 2)) .nil))
noncomputable def F_true:Fi:=⟨scopeOf pw 64,[("_law_statement",.loc),("_law_values",.loc),("_law_kind_here",.loc),("_law_part",.loc),("_law_number",.loc)],5,by decide +kernel,false⟩
noncomputable def b_true:Sm:=.cons (.asg 2 (.sbc (.nm 0) 0)) (.cons (.ife (.tc .Eq (.nm 2) (.cs "not")) (.cons (.ret (.not (.call "_law_true" (.cons (.sbc (.nm 0) 1) (.cons (.nm 1) .nil))))) .nil) .nil) (.cons (.ife (.to (.cons (.tc .Eq (.nm 2) (.cs "and")) (.cons (.tc .Eq (.nm 2) (.cs "or")) .nil))) (.cons (.for_ (.one 3) (.sbc (.nm 0) 1) (.cons (.ife (.tc .Eq (.call "_law_true" (.cons (.nm 3) (.cons (.nm 1) .nil))) (.cmp .Eq (.nm 2) (.cs "or"))) (.cons (.ret (.cmp .Eq (.nm 2) (.cs "or"))) .nil) .nil) .nil)) (.cons (.ret (.cmp .Eq (.nm 2) (.cs "and"))) .nil)) .nil) (.cons (.asg 4 (.call "_law_value" (.cons (.sbc (.nm 0) (-1)) (.cons (.nm 1) .nil)))) (.cons (.ife (.tc .Eq (.nm 2) (.cs "goes")) (.cons (.ret (.cmp .Eq (.bin .Mod (.nm 4) (.sbc (.nm 0) 1)) (.ci 0))) .nil) .nil) (.cons (.ife (.tc .Eq (.nm 2) (.cs "above")) (.cons (.ret (.cmp .Gt (.nm 4) (.ci 0))) .nil) .nil) (.cons (.ret (.cmp .Eq (.nm 4) (.ci 0))) .nil))))))
noncomputable def F_sum_is:Fi:=⟨scopeOf pw 65,[("_law_one",.loc),("_law_names",.loc),("_law_last",.loc),("_law_pair",.loc)],4,by decide +kernel,false⟩
noncomputable def b_sum_is:Sm:=.cons (.ife (.to (.cons (.tn (.tv (.isi (.nm 0) .tuple))) (.cons (.tc .NotEq (.bui .len (.cons (.nm 0) .nil)) (.ci 2)) (.cons (.tn (.tv (.call "_law_whole" (.cons (.sbc (.nm 0) 0) .nil)))) (.cons (.tn (.tv (.isi (.sbc (.nm 0) 1) .tuple))) .nil))))) (.cons (.ret (.cb false)) .nil) .nil) (.cons (.asg 2 (.cs "")) (.cons (.for_ (.one 3) (.sbc (.nm 0) 1) (.cons (.ife (.to (.cons (.tn (.tv (.isi (.nm 3) .tuple))) (.cons (.tc .NotEq (.bui .len (.cons (.nm 3) .nil)) (.ci 2)) (.cons (.tn (.tv (.isi (.sbc (.nm 3) 0) .str))) .nil)))) (.cons (.ret (.cb false)) .nil) .nil) (.cons (.ife (.to (.cons (.tn (.tv (.call "_law_whole" (.cons (.sbc (.nm 3) 1) .nil)))) (.cons (.tc .Eq (.sbc (.nm 3) 1) (.ci 0)) (.cons (.tc .LtE (.sbc (.nm 3) 0) (.nm 2)) (.cons (.tc .NotIn (.sbc (.nm 3) 0) (.nm 1)) .nil))))) (.cons (.ret (.cb false)) .nil) .nil) (.cons (.asg 2 (.sbc (.nm 3) 0)) .nil)))) (.cons (.ret (.cb true)) .nil)))
noncomputable def F_plain_is:Fi:=⟨scopeOf pw 66,[("_law_statement",.loc),("_law_names",.loc),("_law_kind_here",.loc),("_law_part",.loc)],4,by decide +kernel,false⟩
noncomputable def b_plain_is:Sm:=.cons (.ife (.to (.cons (.tn (.tv (.isi (.nm 0) .tuple))) (.cons (.tc .Lt (.bui .len (.cons (.nm 0) .nil)) (.ci 2)) (.cons (.tn (.tv (.isi (.sbc (.nm 0) 0) .str))) .nil)))) (.cons (.ret (.cb false)) .nil) .nil) (.cons (.asg 2 (.sbc (.nm 0) 0)) (.cons (.ife (.ta (.cons (.tc .Eq (.nm 2) (.cs "goes")) (.cons (.tc .Eq (.bui .len (.cons (.nm 0) .nil)) (.ci 3)) .nil))) (.cons (.ret (.and3 (.call "_law_whole" (.cons (.sbc (.nm 0) 1) .nil)) (.cmp .Gt (.sbc (.nm 0) 1) (.ci 0)) (.call "_law_sum_is" (.cons (.sbc (.nm 0) 2) (.cons (.nm 1) .nil))))) .nil) .nil) (.cons (.ife (.tc .NotEq (.bui .len (.cons (.nm 0) .nil)) (.ci 2)) (.cons (.ret (.cb false)) .nil) .nil) (.cons (.ife (.tc .Eq (.nm 2) (.cs "not")) (.cons (.ret (.call "_law_plain_is" (.cons (.sbc (.nm 0) 1) (.cons (.nm 1) .nil)))) .nil) .nil) (.cons (.ife (.to (.cons (.tc .Eq (.nm 2) (.cs "and")) (.cons (.tc .Eq (.nm 2) (.cs "or")) .nil))) (.cons (.ife (.tn (.tv (.isi (.sbc (.nm 0) 1) .tuple))) (.cons (.ret (.cb false)) .nil) .nil) (.cons (.for_ (.one 3) (.sbc (.nm 0) 1) (.cons (.ife (.tn (.tv (.call "_law_plain_is" (.cons (.nm 3) (.cons (.nm 1) .nil))))) (.cons (.ret (.cb false)) .nil) .nil) .nil)) (.cons (.ret (.cb true)) .nil))) .nil) (.cons (.ret (.and2 (.or2 (.cmp .Eq (.nm 2) (.cs "above")) (.cmp .Eq (.nm 2) (.cs "nought"))) (.call "_law_sum_is" (.cons (.sbc (.nm 0) 1) (.cons (.nm 1) .nil))))) .nil))))))
noncomputable def F_sum:Fi:=⟨scopeOf pw 67,[("_law_number",.loc),("_law_pairs",.loc)],2,by decide +kernel,false⟩
noncomputable def b_sum:Sm:=.cons (.ret (.tup (.cons (.nm 0) (.cons (.bui .tup (.cons (.bui .sorted (.cons (.comp [("_law_pair",.loc)] 1 [] (.one 0) (.nm 1) (.cons (.tc .NotEq (.sbc (.nm 0) 1) (.ci 0)) .nil) (.nm 0)) .nil)) .nil)) .nil)))) .nil
noncomputable def F_kind:Fi:=⟨scopeOf pw 68,[("_law_script",.loc),("_law_names",.loc),("_law_values",.loc),("_law_by",.loc),("_law_x",.loc),("_law_y",.loc),("_law_z",.loc),("_law_low",.loc),("_law_high",.loc),("_law_between",.loc),("_law_way",.loc),("_law_rest",.loc),("_law_parts",.loc)],13,by decide +kernel,false⟩
noncomputable def b_kind:Sm:=.cons (.asg 3 (.bin .Add (.ci 1) (.bin .Mod (.call "_law_cell_at" (.cons (.nm 0) (.cons (.ci 3) .nil))) (.ci 40)))) (.cons (.as3 4 5 6 (.slc (.nm 1) .no (.cons (.ci 3) .nil))) (.cons (.asg 7 (.sub (.nm 2) (.nm 5))) (.cons (.asg 8 (.sub (.nm 2) (.nm 6))) (.cons (.asg 9 (.lst (.cons (.tup (.cons (.cs "above") (.cons (.call "_law_sum" (.cons (.ci 0) (.cons (.lst (.cons (.tup (.cons (.nm 4) (.cons (.nm 3) .nil))) (.cons (.tup (.cons (.nm 5) (.cons (.neg (.ci 1)) .nil))) .nil))) .nil))) .nil))) (.cons (.tup (.cons (.cs "above") (.cons (.call "_law_sum" (.cons (.ci 0) (.cons (.lst (.cons (.tup (.cons (.nm 4) (.cons (.bin .Sub (.ci 0) (.nm 3)) .nil))) (.cons (.tup (.cons (.nm 6) (.cons (.ci 1) .nil))) .nil))) .nil))) .nil))) .nil)))) (.cons (.asg 10 (.bin .Mod (.call "_law_cell_at" (.cons (.nm 0) (.cons (.ci 4) .nil))) (.ci 4))) (.cons (.ife (.tc .Eq (.nm 10) (.ci 0)) (.cons (.ret (.tup (.cons (.cs "some") (.cons (.tup (.cons (.cs "and") (.cons (.bui .tup (.cons (.nm 9) .nil)) .nil))) (.cons (.cmp .Lt (.bin .Mult (.bin .Add (.bin .FloorDiv (.nm 7) (.nm 3)) (.ci 1)) (.nm 3)) (.nm 8)) .nil))))) .nil) .nil) (.cons (.ife (.tc .Eq (.nm 10) (.ci 1)) (.cons (.ret (.tup (.cons (.cs "some") (.cons (.tup (.cons (.cs "nought") (.cons (.call "_law_sum" (.cons (.ci 0) (.cons (.lst (.cons (.tup (.cons (.nm 4) (.cons (.nm 3) .nil))) (.cons (.tup (.cons (.nm 5) (.cons (.neg (.ci 1)) .nil))) .nil))) .nil))) .nil))) (.cons (.cmp .Eq (.bin .Mod (.nm 7) (.nm 3)) (.ci 0)) .nil))))) .nil) .nil) (.cons (.ife (.tc .Eq (.nm 10) (.ci 2)) (.cons (.asg 11 (.tup (.cons (.cs "goes") (.cons (.nm 3) (.cons (.call "_law_sum" (.cons (.ci 0) (.cons (.lst (.cons (.tup (.cons (.nm 4) (.cons (.ci 1) .nil))) (.cons (.tup (.cons (.nm 5) (.cons (.ci 1) .nil))) .nil))) .nil))) .nil))))) (.cons (.ret (.tup (.cons (.cs "some") (.cons (.tup (.cons (.cs "and") (.cons (.tup (.cons (.nm 11) (.cons (.tup (.cons (.cs "above") (.cons (.call "_law_sum" (.cons (.ci 0) (.cons (.lst (.cons (.tup (.cons (.nm 4) (.cons (.ci 1) .nil))) (.cons (.tup (.cons (.nm 6) (.cons (.neg (.ci 1)) .nil))) .nil))) .nil))) .nil))) .nil))) .nil))) (.cons (.cb true) .nil))))) .nil)) .nil) (.cons (.asg 12 (.tup (.cons (.tup (.cons (.cs "above") (.cons (.call "_law_sum" (.cons (.ci 0) (.cons (.lst (.cons (.tup (.cons (.nm 4) (.cons (.ci 1) .nil))) (.cons (.tup (.cons (.nm 5) (.cons (.neg (.ci 1)) .nil))) .nil))) .nil))) .nil))) (.cons (.tup (.cons (.cs "above") (.cons (.call "_law_sum" (.cons (.ci 0) (.cons (.lst (.cons (.tup (.cons (.nm 4) (.cons (.neg (.ci 1)) .nil))) (.cons (.tup (.cons (.nm 6) (.cons (.ci 1) .nil))) .nil))) .nil))) .nil))) .nil)))) (.cons (.ret (.tup (.cons (.cs "all") (.cons (.tup (.cons (.cs "or") (.cons (.nm 12) .nil))) (.cons (.cmp .Lt (.nm 7) (.nm 8)) .nil))))) .nil))))))))))
noncomputable def F_same:Fi:=⟨scopeOf pw 69,[("_law_got",.loc),("_law_due",.loc)],2,by decide +kernel,false⟩
noncomputable def b_same:Sm:=.cons (.ret (.and2 (.isi (.nm 0) .bool) (.cmp .Eq (.nm 0) (.nm 1)))) .nil
noncomputable def F_law:Fi:=⟨scopeOf pw 70,[("_law_script",.loc),("_law_names",.loc),("_law_values",.loc),("_law_kind_here",.loc),("_law_body",.loc),("_law_due",.loc),("_law_statement",.loc),("_law_plain",.loc),("_law_got",.loc)],9,by decide +kernel,false⟩
noncomputable def b_law:Sm:=.cons (.asg 1 (.call "_law_names_by" (.cons (.call "_law_cell_at" (.cons (.nm 0) (.cons (.ci 0) .nil))) .nil))) (.cons (.asg 2 .dc0) (.cons (.dst 2 (.sbc (.nm 1) 1) (.call "_law_big_by" (.cons (.call "_law_cell_at" (.cons (.nm 0) (.cons (.ci 1) .nil))) .nil))) (.cons (.dst 2 (.sbc (.nm 1) 2) (.call "_law_big_by" (.cons (.call "_law_cell_at" (.cons (.nm 0) (.cons (.ci 2) .nil))) .nil))) (.cons (.ife (.tc .Eq (.bin .Mod (.call "_law_cell_at" (.cons (.nm 0) (.cons (.ci 5) .nil))) (.ci 2)) (.ci 1)) (.cons (.dst 2 (.sbc (.nm 1) 2) (.bin .Add (.sub (.nm 2) (.sbc (.nm 1) 1)) (.bin .Mod (.bin .FloorDiv (.call "_law_cell_at" (.cons (.nm 0) (.cons (.ci 5) .nil))) (.ci 2)) (.ci 13)))) .nil) .nil) (.cons (.ast (.three 3 4 5) (.call "_law_kind" (.cons (.nm 0) (.cons (.nm 1) (.cons (.nm 2) .nil))))) (.cons (.asg 6 (.tup (.cons (.nm 3) (.cons (.sbc (.nm 1) 0) (.cons (.nm 4) .nil))))) (.cons (.ife (.tn (.tv (.call "_law_same" (.cons (.call "holds" (.cons (.nm 6) (.cons (.nm 2) .nil))) (.cons (.nm 5) .nil))))) (.cons (.ret (.cb false)) .nil) .nil) (.cons (.asg 7 (.call "left" (.cons (.nm 6) .nil))) (.cons (.ife (.to (.cons (.tn (.tv (.call "_law_plain_is" (.cons (.nm 7) (.cons (.slc (.nm 1) (.cons (.ci 1) .nil) (.cons (.ci 3) .nil)) .nil))))) (.cons (.tn (.tv (.call "_law_same" (.cons (.call "is_true" (.cons (.nm 7) (.cons (.nm 2) .nil))) (.cons (.nm 5) .nil))))) .nil))) (.cons (.ret (.cb false)) .nil) .nil) (.cons (.ife (.tc .Eq (.nm 3) (.cs "all")) (.cons (.asg 4 (.tup (.cons (.cs "not") (.cons (.nm 4) .nil)))) (.cons (.asg 5 (.not (.nm 5))) .nil)) .nil) (.cons (.asg 8 (.call "told" (.cons (.sbc (.nm 1) 0) (.cons (.nm 4) (.cons (.nm 2) .nil))))) (.cons (.ife (.tn (.tv (.nm 5))) (.cons (.ret (.cmp .Is (.nm 8) .cn)) .nil) .nil) (.cons (.ife (.tn (.tv (.call "_law_whole" (.cons (.nm 8) .nil)))) (.cons (.ret (.cb false)) .nil) .nil) (.cons (.dst 2 (.sbc (.nm 1) 0) (.nm 8)) (.cons (.ret (.call "_law_true" (.cons (.nm 4) (.cons (.nm 2) .nil)))) .nil)))))))))))))))
structure Cx (B:Bs):Prop extends En B where
 f_made:FnAt B "made" ["number","pairs"] (bodyOf pw 5) (scopeOf pw 5)
 f_added:FnAt B "added" ["one","other"] (bodyOf pw 6) (scopeOf pw 6)
 f_times:FnAt B "times" ["number","one"] (bodyOf pw 7) (scopeOf pw 7)
 f_share:FnAt B "share" ["one","name"] (bodyOf pw 8) (scopeOf pw 8)
 f_without:FnAt B "without" ["one","name"] (bodyOf pw 9) (scopeOf pw 9)
 f_put_in:FnAt B "put_in" ["one","name","other"] (bodyOf pw 10) (scopeOf pw 10)
 f_value:FnAt B "value" ["one","values"] (bodyOf pw 11) (scopeOf pw 11)
 f_gcd:FnAt B "gcd" ["one","other"] (bodyOf pw 15) (scopeOf pw 15)
 f_lcm:FnAt B "lcm" ["one","other"] (bodyOf pw 16) (scopeOf pw 16)
 f_common_of:FnAt B "common_of" ["one","first"] (bodyOf pw 17) (scopeOf pw 17)
 f_divided:FnAt B "divided" ["one","number"] (bodyOf pw 18) (scopeOf pw 18)
 f_turned:FnAt B "turned" ["statement"] (bodyOf pw 19) (scopeOf pw 19)
 f_neat_above:FnAt B "neat_above" ["one"] (bodyOf pw 20) (scopeOf pw 20)
 f_neat_nought:FnAt B "neat_nought" ["one"] (bodyOf pw 21) (scopeOf pw 21)
 f_neat_goes:FnAt B "neat_goes" ["number","one"] (bodyOf pw 22) (scopeOf pw 22)
 f_neat_atom:FnAt B "neat_atom" ["statement"] (bodyOf pw 23) (scopeOf pw 23)
 f_joined:FnAt B "joined" ["word","parts"] (bodyOf pw 24) (scopeOf pw 24)
 f_mapped:FnAt B "mapped" ["statement","work"] (bodyOf pw 25) (scopeOf pw 25)
 f_neat:FnAt B "neat" ["statement"] (bodyOf pw 26) (scopeOf pw 26)
 f_atoms_of:FnAt B "atoms_of" ["statement"] (bodyOf pw 27) (scopeOf pw 27)
 f_stands:FnAt B "stands" ["name","statement"] (bodyOf pw 28) (scopeOf pw 28)
 f_as_above:FnAt B "as_above" ["one","good"] (bodyOf pw 29) (scopeOf pw 29)
 f_pushed:FnAt B "pushed" ["statement","good","keeps"] (bodyOf pw 30) (scopeOf pw 30)
 f_inner:FnAt B "inner" ["statement"] (bodyOf pw 34) (scopeOf pw 34)
 f_is_plain:FnAt B "is_plain" ["statement"] (bodyOf pw 35) (scopeOf pw 35)
 f_need_plain:FnAt B "need_plain" ["statement"] (bodyOf pw 36) (scopeOf pw 36)
 f_gather:FnAt B "gather" ["statement","bound","found"] (bodyOf pw 37) (scopeOf pw 37)
 f_unknowns:FnAt B "unknowns" ["statement"] (bodyOf pw 38) (scopeOf pw 38)
 f_need_values:FnAt B "need_values" ["names","values"] (bodyOf pw 39) (scopeOf pw 39)
 f_truth:FnAt B "truth" ["statement","values"] (bodyOf pw 40) (scopeOf pw 40)
 f_is_true:FnAt B "is_true" ["statement","values"] (bodyOf pw 41) (scopeOf pw 41)
 f_filled:FnAt B "filled" ["statement","values"] (bodyOf pw 42) (scopeOf pw 42)
 f_solved:FnAt B "solved" ["atom","name","many","rest"] (bodyOf pw 44) (scopeOf pw 44)
 f_by_nought:FnAt B "by_nought" ["name","told","others"] (bodyOf pw 45) (scopeOf pw 45)
 f_of_share_one:FnAt B "of_share_one" ["atom","name","many"] (bodyOf pw 46) (scopeOf pw 46)
 f_set_in:FnAt B "set_in" ["statement","name","other"] (bodyOf pw 47) (scopeOf pw 47)
 f_far_atom:FnAt B "far_atom" ["atom","name","side"] (bodyOf pw 48) (scopeOf pw 48)
 f_edges_of:FnAt B "edges_of" ["statement","name","side"] (bodyOf pw 49) (scopeOf pw 49)
 f_gone:FnAt B "gone" ["name","statement"] (bodyOf pw 50) (scopeOf pw 50)
 f_away:FnAt B "away" ["name","statement"] (bodyOf pw 51) (scopeOf pw 51)
 f_left:FnAt B "left" ["statement"] (bodyOf pw 52) (scopeOf pw 52)
 f_holds:FnAt B "holds" ["statement","values"] (bodyOf pw 54) (scopeOf pw 54)
 f_break_of:FnAt B "break_of" ["one","name"] (bodyOf pw 55) (scopeOf pw 55)
 f_number_for:FnAt B "number_for" ["plain","name"] (bodyOf pw 56) (scopeOf pw 56)
 f_told:FnAt B "told" ["name","statement","values"] (bodyOf pw 57) (scopeOf pw 57)
 f_cell_at:FnAt B "_law_cell_at" ["_law_script","_law_k"] (bodyOf pw 59) (scopeOf pw 59)
 f_whole:FnAt B "_law_whole" ["_law_got"] (bodyOf pw 60) (scopeOf pw 60)
 f_names_by:FnAt B "_law_names_by" ["_law_cell"] (bodyOf pw 61) (scopeOf pw 61)
 f_big_by:FnAt B "_law_big_by" ["_law_cell"] (bodyOf pw 62) (scopeOf pw 62)
 f_lvalue:FnAt B "_law_value" ["_law_one","_law_values"] (bodyOf pw 63) (scopeOf pw 63)
 f_true:FnAt B "_law_true" ["_law_statement","_law_values"] (bodyOf pw 64) (scopeOf pw 64)
 f_sum_is:FnAt B "_law_sum_is" ["_law_one","_law_names"] (bodyOf pw 65) (scopeOf pw 65)
 f_plain_is:FnAt B "_law_plain_is" ["_law_statement","_law_names"] (bodyOf pw 66) (scopeOf pw 66)
 f_sum:FnAt B "_law_sum" ["_law_number","_law_pairs"] (bodyOf pw 67) (scopeOf pw 67)
 f_kind:FnAt B "_law_kind" ["_law_script","_law_names","_law_values"] (bodyOf pw 68) (scopeOf pw 68)
 f_same:FnAt B "_law_same" ["_law_got","_law_due"] (bodyOf pw 69) (scopeOf pw 69)
 f_law:FnAt B "law" ["_law_script"] (bodyOf pw 70) (scopeOf pw 70)
theorem En.wide {B:Bs} (N:En B) {h:Heap} {hk ht}:En (B.wide h hk ht):=by
 refine ⟨N.quiet,fun k p e=>?_,fun f e=>?_,?_,N.non⟩
 ·obtain ⟨v,h1,h2⟩:=N.glo k p e
  exact ⟨v,h1,h2.grow fun b o vs n e _ _=>hk b o e⟩
 ·obtain ⟨fa,o,fd,h1,h2,h3⟩:=N.fns f e
  exact ⟨fa,o,fd,h1,hk _ _ h2,h3⟩
 ·obtain ⟨fa,o,fd,h1,h2,h3⟩:=N.neat
  exact ⟨fa,o,fd,h1,hk _ _ h2,h3⟩
theorem Cx.wide {B:Bs} (C:Cx B) {h:Heap} {hk ht}:Cx (B.wide h hk ht) :=
 {toEn:=C.toEn.wide,f_made:=C.f_made.wide,f_added:=C.f_added.wide,f_times:=C.f_times.wide,f_share:=C.f_share.wide,f_without:=C.f_without.wide,f_put_in:=C.f_put_in.wide,f_value:=C.f_value.wide,f_gcd:=C.f_gcd.wide,f_lcm:=C.f_lcm.wide,f_common_of:=C.f_common_of.wide,f_divided:=C.f_divided.wide,f_turned:=C.f_turned.wide,f_neat_above:=C.f_neat_above.wide,f_neat_nought:=C.f_neat_nought.wide,f_neat_goes:=C.f_neat_goes.wide,f_neat_atom:=C.f_neat_atom.wide,f_joined:=C.f_joined.wide,f_mapped:=C.f_mapped.wide,f_neat:=C.f_neat.wide,f_atoms_of:=C.f_atoms_of.wide,f_stands:=C.f_stands.wide,f_as_above:=C.f_as_above.wide,f_pushed:=C.f_pushed.wide,f_inner:=C.f_inner.wide,f_is_plain:=C.f_is_plain.wide,f_need_plain:=C.f_need_plain.wide,f_gather:=C.f_gather.wide,f_unknowns:=C.f_unknowns.wide,f_need_values:=C.f_need_values.wide,f_truth:=C.f_truth.wide,f_is_true:=C.f_is_true.wide,f_filled:=C.f_filled.wide,f_solved:=C.f_solved.wide,f_by_nought:=C.f_by_nought.wide,f_of_share_one:=C.f_of_share_one.wide,f_set_in:=C.f_set_in.wide,f_far_atom:=C.f_far_atom.wide,f_edges_of:=C.f_edges_of.wide,f_gone:=C.f_gone.wide,f_away:=C.f_away.wide,f_left:=C.f_left.wide,f_holds:=C.f_holds.wide,f_break_of:=C.f_break_of.wide,f_number_for:=C.f_number_for.wide,f_told:=C.f_told.wide,f_cell_at:=C.f_cell_at.wide,f_whole:=C.f_whole.wide,f_names_by:=C.f_names_by.wide,f_big_by:=C.f_big_by.wide,f_lvalue:=C.f_lvalue.wide,f_true:=C.f_true.wide,f_sum_is:=C.f_sum_is.wide,f_plain_is:=C.f_plain_is.wide,f_sum:=C.f_sum.wide,f_kind:=C.f_kind.wide,f_same:=C.f_same.wide,f_law:=C.f_law.wide }
theorem k_made:okB F_made b_made ["number","pairs"] (bodyOf pw 5)=true:=by decide +kernel
theorem k_added:okB F_added b_added ["one","other"] (bodyOf pw 6)=true:=by decide +kernel
theorem k_times:okB F_times b_times ["number","one"] (bodyOf pw 7)=true:=by decide +kernel
theorem k_share:okB F_share b_share ["one","name"] (bodyOf pw 8)=true:=by decide +kernel
theorem k_without:okB F_without b_without ["one","name"] (bodyOf pw 9)=true:=by decide +kernel
theorem k_put_in:okB F_put_in b_put_in ["one","name","other"] (bodyOf pw 10)=true:=by decide +kernel
theorem k_value:okB F_value b_value ["one","values"] (bodyOf pw 11)=true:=by decide +kernel
theorem k_gcd:okB F_gcd b_gcd ["one","other"] (bodyOf pw 15)=true:=by decide +kernel
theorem k_lcm:okB F_lcm b_lcm ["one","other"] (bodyOf pw 16)=true:=by decide +kernel
theorem k_common_of:okB F_common_of b_common_of ["one","first"] (bodyOf pw 17)=true:=by decide +kernel
theorem k_divided:okB F_divided b_divided ["one","number"] (bodyOf pw 18)=true:=by decide +kernel
theorem k_neat_above:okB F_neat_above b_neat_above ["one"] (bodyOf pw 20)=true:=by decide +kernel
theorem k_neat_nought:okB F_neat_nought b_neat_nought ["one"] (bodyOf pw 21)=true:=by decide +kernel
theorem k_neat_goes:okB F_neat_goes b_neat_goes ["number","one"] (bodyOf pw 22)=true:=by decide +kernel
theorem k_neat_atom:okB F_neat_atom b_neat_atom ["statement"] (bodyOf pw 23)=true:=by decide +kernel
theorem k_joined:okB F_joined b_joined ["word","parts"] (bodyOf pw 24)=true:=by decide +kernel
theorem k_mapped:okB F_mapped b_mapped ["statement","work"] (bodyOf pw 25)=true:=by decide +kernel
theorem k_neat:okB F_neat b_neat ["statement"] (bodyOf pw 26)=true:=by decide +kernel
theorem k_atoms_of:okB F_atoms_of b_atoms_of ["statement"] (bodyOf pw 27)=true:=by decide +kernel
theorem k_stands:okB F_stands b_stands ["name","statement"] (bodyOf pw 28)=true:=by decide +kernel
theorem k_as_above:okB F_as_above b_as_above ["one","good"] (bodyOf pw 29)=true:=by decide +kernel
theorem k_pushed:okB F_pushed b_pushed ["statement","good","keeps"] (bodyOf pw 30)=true:=by decide +kernel
theorem k_inner:okB F_inner b_inner ["statement"] (bodyOf pw 34)=true:=by decide +kernel
theorem k_is_plain:okB F_is_plain b_is_plain ["statement"] (bodyOf pw 35)=true:=by decide +kernel
theorem k_need_plain:okB F_need_plain b_need_plain ["statement"] (bodyOf pw 36)=true:=by decide +kernel
theorem k_gather:okB F_gather b_gather ["statement","bound","found"] (bodyOf pw 37)=true:=by decide +kernel
theorem k_unknowns:okB F_unknowns b_unknowns ["statement"] (bodyOf pw 38)=true:=by decide +kernel
theorem k_need_values:okB F_need_values b_need_values ["names","values"] (bodyOf pw 39)=true:=by decide +kernel
theorem k_truth:okB F_truth b_truth ["statement","values"] (bodyOf pw 40)=true:=by decide +kernel
theorem k_is_true:okB F_is_true b_is_true ["statement","values"] (bodyOf pw 41)=true:=by decide +kernel
theorem k_filled:okB F_filled b_filled ["statement","values"] (bodyOf pw 42)=true:=by decide +kernel
theorem k_by_nought:okB F_by_nought b_by_nought ["name","told","others"] (bodyOf pw 45)=true:=by decide +kernel
theorem k_of_share_one:okB F_of_share_one b_of_share_one ["atom","name","many"] (bodyOf pw 46)=true:=by decide +kernel
theorem k_set_in:okB F_set_in b_set_in ["statement","name","other"] (bodyOf pw 47)=true:=by decide +kernel
theorem k_far_atom:okB F_far_atom b_far_atom ["atom","name","side"] (bodyOf pw 48)=true:=by decide +kernel
theorem k_edges_of:okB F_edges_of b_edges_of ["statement","name","side"] (bodyOf pw 49)=true:=by decide +kernel
theorem k_gone:okB F_gone b_gone ["name","statement"] (bodyOf pw 50)=true:=by decide +kernel
theorem k_away:okB F_away b_away ["name","statement"] (bodyOf pw 51)=true:=by decide +kernel
theorem k_left:okB F_left b_left ["statement"] (bodyOf pw 52)=true:=by decide +kernel
theorem k_holds:okB F_holds b_holds ["statement","values"] (bodyOf pw 54)=true:=by decide +kernel
theorem k_break_of:okB F_break_of b_break_of ["one","name"] (bodyOf pw 55)=true:=by decide +kernel
theorem k_number_for:okB F_number_for b_number_for ["plain","name"] (bodyOf pw 56)=true:=by decide +kernel
theorem k_told:okB F_told b_told ["name","statement","values"] (bodyOf pw 57)=true:=by decide +kernel
theorem k_cell_at:okB F_cell_at b_cell_at ["_law_script","_law_k"] (bodyOf pw 59)=true:=by decide +kernel
theorem k_whole:okB F_whole b_whole ["_law_got"] (bodyOf pw 60)=true:=by decide +kernel
theorem k_names_by:okB F_names_by b_names_by ["_law_cell"] (bodyOf pw 61)=true:=by decide +kernel
theorem k_big_by:okB F_big_by b_big_by ["_law_cell"] (bodyOf pw 62)=true:=by decide +kernel
theorem k_lvalue:okB F_lvalue b_lvalue ["_law_one","_law_values"] (bodyOf pw 63)=true:=by decide +kernel
theorem k_true:okB F_true b_true ["_law_statement","_law_values"] (bodyOf pw 64)=true:=by decide +kernel
theorem k_sum_is:okB F_sum_is b_sum_is ["_law_one","_law_names"] (bodyOf pw 65)=true:=by decide +kernel
theorem k_plain_is:okB F_plain_is b_plain_is ["_law_statement","_law_names"] (bodyOf pw 66)=true:=by decide +kernel
theorem k_sum:okB F_sum b_sum ["_law_number","_law_pairs"] (bodyOf pw 67)=true:=by decide +kernel
theorem k_kind:okB F_kind b_kind ["_law_script","_law_names","_law_values"] (bodyOf pw 68)=true:=by decide +kernel
theorem k_same:okB F_same b_same ["_law_got","_law_due"] (bodyOf pw 69)=true:=by decide +kernel
theorem k_law:okB F_law b_law ["_law_script"] (bodyOf pw 70)=true:=by decide +kernel
end Mine
end

section
open PySem PySem.W PyProof.Rows PySem.Calls PyProof
set_option backward.match.sparseCases false
set_option tactic.hygienic false
namespace Mine
theorem iT {c:Bool} {P R:Prop} (h:c=true) (p:P):if c=true then P else R:=by rw [if_pos h];exact p
theorem iF {c:Bool} {P R:Prop} (h:c=false) (p:R):if c=true then P else R:=by rw [if_neg (by rw [h];nofun)];exact p
theorem iB {c:Bool} {P R:Prop} (p:c=true→P) (r:c=false→R):if c=true then P else R:=by
 cases c with
 | true=>exact iT rfl (p rfl)
 | false=>exact iF rfl (r rfl)
theorem loopM {t:Tg} {body:List (Option Sl)→Post→Prop} {Q:Post} {α:Type} {g:α→D} (I:List α→List (Option Sl)→Prop) (h0:∀ ρ,I [] ρ→Q .next ρ)
  (h1:∀ a l ρ,I (a::l) ρ→∀ K:List (Option Sl)→Prop,(∀ ρ',I l ρ'→K ρ')→tgW t (g a) ρ fun ρ2=>body ρ2 (flW Q K)):∀ l ρ,I l ρ→loopW t body Q (l.map g) ρ
 | [],ρ,h=>h0 ρ h
 | a::l,ρ,h=>h1 a l ρ h _ fun ρ' h'=>loopM I h0 h1 l ρ' h'
theorem loopI {t:Tg} {body:List (Option Sl)→Post→Prop} {Q:Post} (I:List D→List (Option Sl)→Prop) (h0:∀ ρ,I [] ρ→Q .next ρ)
  (h1:∀ a l ρ,I (a::l) ρ→∀ K:List (Option Sl)→Prop,(∀ ρ',I l ρ'→K ρ')→tgW t a ρ fun ρ2=>body ρ2 (flW Q K)):∀ l ρ,I l ρ→loopW t body Q l ρ
 | [],ρ,h=>h0 ρ h
 | a::l,ρ,h=>h1 a l ρ h _ fun ρ' h'=>loopI I h0 h1 l ρ' h'
theorem compM {step:D→(Option D→Prop)→Prop} {Q:List D→Prop} {α:Type} {g:α→D} (I:List α→List D→Prop) (h0:∀ ac,I [] ac→Q ac)
  (h1:∀ a l ac,I (a::l) ac→∀ K:Option D→Prop,(I l ac→K none)→(∀ e,ac.length≤sizeLine→I l (ac++[e])→K (some e))→step (g a) K):∀ l ac,I l ac→compL step Q (l.map g) ac
 | [],ac,h=>h0 ac h
 | a::l,ac,h=>h1 a l ac h _ (fun h'=>compM I h0 h1 l ac h') fun e he h'=>⟨he,compM I h0 h1 l (ac++[e]) h'⟩
theorem comp_of {α:Type} {g:α→D} (h:α→Option D) {l:List α} {step:D→(Option D→Prop)→Prop} {Q:List D→Prop} (hp:∀ a∈l,∀ K,K (h a)→step (g a) K) (hs:(l.filterMap h).length≤sizeLine)
  (hq:Q (l.filterMap h)):compL step Q (l.map g) []:=by
 refine compM (fun r ac=>∃ pre,l=pre++r∧ac=pre.filterMap h) (fun ac e=>?_) (fun a r ac e K k0 k1=>?_) l [] ⟨[],rfl,rfl⟩
 ·refine e1_2 e ?_
  clear e
  intro pre e ez1
  subst ez1
  rw [List.append_nil] at e
  exact e▸hq
 ·refine e1_2 e ?_
  clear e
  intro pre e ez2
  subst ez2
  have e2:l=(pre++[a])++r:=by rw [e,List.append_assoc];rfl
  refine hp a (by rw [e];exact List.mem_append_right _ (List.mem_cons_self ..)) K ?_
  cases q:h a with
  | none=>exact k0 ⟨pre++[a],e2,by rw [List.filterMap_append,List.filterMap_cons,q];exact (List.append_nil _).symm⟩
  | some d =>
   refine k1 d ?_ ⟨pre++[a],e2,by rw [List.filterMap_append,List.filterMap_cons,q];rfl⟩
   rw [e,List.filterMap_append,List.length_append] at hs
   lia
noncomputable abbrev Fn:=Str→Int
noncomputable def pD (x:Str) (k:Int):D:=.tup [.str x,.int k]
noncomputable def sN (W:List Str) (f:Fn):List Str:=W.filter fun x=>f x != 0
noncomputable def sL (W:List Str) (f:Fn):List D:=(sN W f).map fun x=>pD x (f x)
noncomputable def sD (W:List Str) (c:Int) (f:Fn):D:=.tup [.int c,.tup (sL W f)]
theorem mem_sN {W:List Str} {f:Fn} {x:Str}:x∈sN W f↔x∈W∧f x≠0:=by
 unfold sN;rw [List.mem_filter,bne_iff_ne]
section
variable {B:Bs} (C:Cx B)
include C
theorem sp_share {W:List Str} {c:Int} {f:Fn} {x:Str} (h:x∈W∨f x=0):Spec B "share" NoX 1 [.im (sD W c f),.im (.str x)] fun q=>q=.im (.int (f x)) :=
 .of_vc C.toEn F_share b_share C.f_share k_share rfl <| loopM (fun l ρ=>(∃ a b,ρ=[some (.im (sD W c f)),some (.im (.str x)),a,b])∧(x∈l∨f x=0))
  (fun ρ h=>by
   refine e0_2 h ?_
   clear h
   intro ez3 ez4
   obtain ⟨a,b,rfl⟩:=ez3
   obtain h | h:=ez4
   ·cases h
   ·exact congrArg (fun i=>Rs.im (.int i)) h.symm)
  (fun w l ρ h K hK=>by
   refine e0_2 h ?_
   clear h
   intro ez5 h
   obtain ⟨a,b,rfl⟩:=ez5
   refine iB (fun q=>?_) (fun q=>hK _ ⟨⟨_,_,rfl⟩,?_⟩)
   ·rw [eq_of_beq q];rfl
   ·rcases h with h | h
    ·rcases List.mem_cons.mp h with rfl | h
     ·exact absurd q (by rw [beq_self_eq_true];nofun)
     ·exact .inl h
    ·exact .inr h) _ _ ⟨⟨_,_,rfl⟩,by
   by_cases q:f x=0
   ·exact .inr q
   ·exact .inl (mem_sN.mpr ⟨h.resolve_right q,q⟩)⟩
end
end Mine
end

section
open PySem PySem.W PyProof.Rows PySem.Calls PyProof
set_option backward.match.sparseCases false
set_option tactic.hygienic false
namespace Mine
structure Wd (W:List Str):Prop where
 nd:W.Nodup
 srt:W.Pairwise fun a b=>sle a b=true
 len:W.length≤3
noncomputable def su:List (Str×Int)→Fn
 | [],_=>0
 | p::r,x=>(if x=p.1 then p.2 else 0)+su r x
theorem su_append (l m:List (Str×Int)) (x:Str):su (l++m) x=su l x+su m x:=by
 induction l with
 | nil=>exact (Int.zero_add _).symm
 | cons p l ih=>show _+su (l++m) x=_+su l x+_;rw [ih,Int.add_assoc]
theorem su_map {g:Fn} {x:Str}:∀ {V:List Str},V.Nodup→su (V.map fun y=>(y,g y)) x=if x∈V then g x else 0
 | [],_=>rfl
 | y::V,nd=>by
  rw [List.nodup_cons] at nd
  show (if x=y then g y else 0)+su _ x=_
  rw [su_map nd.2]
  by_cases h:x=y
  ·subst h;rw [if_pos rfl,if_neg nd.1,if_pos (List.mem_cons_self ..),Int.add_zero]
  ·rw [if_neg h,Int.zero_add]
   by_cases q:x∈V
   ·rw [if_pos q,if_pos (List.mem_cons_of_mem _ q)]
   ·rw [if_neg q,if_neg fun w=>(List.mem_cons.mp w).elim h q]
theorem sD_congr {W:List Str} {c:Int} {f g:Fn} (h:∀ x∈W,f x=g x):sD W c f=sD W c g:=by
 have e:sN W f=sN W g:=List.filter_congr fun x hx=>by rw [h x hx]
 unfold sD sL
 rw [e,List.map_congr_left (g:=fun x=>pD x (g x)) fun x hx=>by rw [h x (mem_sN.mp hx).1]]
theorem dAt_cons (p:Str×D) (l:List (Str×D)) (j:Str):dAt (p::l) j=if p.1=j then some p.2 else dAt l j:=by
 unfold dAt
 rw [List.find?_cons]
 by_cases h:p.1=j
 ·rw [decide_eq_true h,if_pos h];rfl
 ·rw [decide_eq_false h,if_neg h]
theorem dAt_snoc (k j:Str) (d:D):∀ l:List (Str×D),dAt (l++[(k,d)]) j=(dAt l j).or (if j=k then some d else none)
 | []=>by
  rw [List.nil_append,dAt_cons]
  by_cases h:j=k
  ·rw [if_pos h,if_pos h.symm];rfl
  ·rw [if_neg h,if_neg fun q=>h q.symm];rfl
 | p::l=>by
  rw [List.cons_append,dAt_cons,dAt_cons,dAt_snoc k j d l]
  by_cases h:p.1=j
  ·rw [if_pos h,if_pos h];rfl
  ·rw [if_neg h,if_neg h]
theorem dAt_upd (k j:Str) (d:D):∀ l:List (Str×D),dAt (l.map fun kv=>if kv.1=k then (kv.1,d) else kv) j=if j=k then (dAt l j).map (fun _=>d) else dAt l j
 | []=>by by_cases h:j=k <;> simp [dAt]
 | p::l=>by
  rw [List.map_cons,dAt_cons,dAt_upd k j d l,dAt_cons]
  by_cases h1:p.1=j
  ·by_cases h2:j=k
   ·rw [if_pos (h1.trans h2),if_pos h1,if_pos h1,if_pos h2];rfl
   ·rw [if_neg fun q=>h2 (h1.symm.trans q),if_pos h1,if_pos h1,if_neg h2]
  ·have h3:(if p.1=k then (p.1,d) else p).1=p.1:=by split <;> rfl
   rw [h3,if_neg h1,if_neg h1]
theorem dAt_any (k:Str):∀ l:List (Str×D),(l.any fun kv=>kv.1=k)=(dAt l k).isSome
 | []=>rfl
 | p::l=>by
  rw [List.any_cons,dAt_any k l,dAt_cons]
  by_cases h:p.1=k
  ·rw [decide_eq_true h,if_pos h];rfl
  ·rw [decide_eq_false h,if_neg h,Bool.false_or]
theorem dAt_sto (l:List (Str×D)) (k j:Str) (d:D):dAt (dSto l k d) j=if j=k then some d else dAt l j:=by
 unfold dSto
 rw [dAt_any]
 cases q:dAt l k with
 | none =>
  rw [if_neg nofun,dAt_snoc]
  by_cases h:j=k
  ·subst h;rw [q,if_pos rfl];rfl
  ·rw [if_neg h,if_neg h,Option.or_none]
 | some e =>
  rw [if_pos (show (some e).isSome=true from rfl),dAt_upd]
  by_cases h:j=k
  ·subst h;rw [if_pos rfl,if_pos rfl,q];rfl
  ·rw [if_neg h,if_neg h]
theorem dSto_keys (l:List (Str×D)) (k:Str) (d:D):(dSto l k d).map (·.1)=if (dAt l k).isSome then l.map (·.1) else l.map (·.1)++[k]:=by
 unfold dSto
 rw [dAt_any]
 cases q:(dAt l k).isSome with
 | true =>
  rw [if_pos rfl,if_pos rfl,List.map_map]
  exact List.map_congr_left fun p _=>by show (if _ then _ else _:Str×D).1=_;split <;> rfl
 | false=>rw [if_neg nofun,if_neg nofun,List.map_append];rfl
theorem dAt_mem_keys {l:List (Str×D)} {k:Str}:(dAt l k).isSome=true↔k∈l.map (·.1):=by
 rw [← dAt_any,List.any_eq_true,List.mem_map]
 exact ⟨fun hz1=>e1_2 hz1 fun p h q=>⟨p,h,of_decide_eq_true q⟩,fun hz2=>e1_2 hz2 fun p h q=>⟨p,h,decide_eq_true q⟩⟩
structure DF (W:List Str) (l:List (Str×D)) (f:Fn):Prop where
 nd:(l.map (·.1)).Nodup
 sub:∀ x∈l.map (·.1),x∈W
 at_:∀ x,dAt l x=none∧f x=0∨dAt l x=some (.int (f x))
theorem DF.sto {W:List Str} {l:List (Str×D)} {f:Fn} (h:DF W l f) {x:Str} (hx:x∈W) (i:Int):DF W (dSto l x (.int i)) fun y=>if y=x then i else f y:=by
 refine ⟨?_,?_,fun y=>?_⟩
 ·rw [dSto_keys]
  cases q:(dAt l x).isSome with
  | true=>rw [if_pos rfl];exact h.nd
  | false =>
   rw [if_neg nofun]
   refine List.nodup_append.mpr ⟨h.nd,List.pairwise_singleton ..,fun a ha b hb e=>?_⟩
   rw [List.mem_singleton.mp hb] at e
   rw [e,← dAt_mem_keys,q] at ha;cases ha
 ·intro y hy
  rw [dSto_keys] at hy
  split at hy
  ·exact h.sub y hy
  ·rcases List.mem_append.mp hy with q | q
   ·exact h.sub y q
   ·rw [List.mem_singleton.mp q];exact hx
 ·rw [dAt_sto]
  by_cases q:y=x
  ·rw [if_pos q,if_pos q];exact .inr rfl
  ·rw [if_neg q,if_neg q];exact h.at_ y
theorem DF.get {W:List Str} {l:List (Str×D)} {f:Fn} (h:DF W l f) (x:Str):(dAt l x).getD (.int 0)=.int (f x):=by
 rcases h.at_ x with ⟨h1,h2⟩ | h1
 ·rw [h1,h2];rfl
 ·rw [h1];rfl
theorem nodup_len {α:Type} [DecidableEq α]:∀ {l m:List α},l.Nodup→(∀ x∈l,x∈m)→l.length≤m.length
 | [],_,_,_=>Nat.zero_le _
 | x::l,m,nd,h=>by
  rw [List.nodup_cons] at nd
  have q:=nodup_len (m:=m.erase x) nd.2 fun y hy=>(List.mem_erase_of_ne (fun e:y=x=>nd.1 (e▸hy))).mpr (h y (List.mem_cons_of_mem _ hy))
  rw [List.length_erase_of_mem (h x (List.mem_cons_self ..))] at q
  have:=List.length_pos_of_mem (h x (List.mem_cons_self ..))
  exact Nat.add_le_of_le_sub this q
theorem srt_keys {W K:List Str} {f:Fn} (w:Wd W) (nd:K.Nodup) (sub:∀ x∈K,x∈W) (h0:∀ x,x∉K→f x=0):(srt K).filter (fun x=>f x != 0)=sN W f:=by
 refine List.Perm.eq_of_pairwise (fun a b _ _ h1 h2=>sle_anti h1 h2) ((srt_sorted K).filter _) (w.srt.filter _) ?_
 refine (List.perm_ext_iff_of_nodup (((srt_perm _).nodup_iff.mpr nd).filter _) (w.nd.filter _)).mpr fun x=>?_
 rw [List.mem_filter,(srt_perm _).mem_iff]
 refine Iff.trans ?_ mem_sN.symm
 rw [bne_iff_ne]
 exact ⟨fun h=>⟨sub x h.1,h.2⟩,fun h=>⟨Classical.byContradiction fun q=>h.2 (h0 x q),h.2⟩⟩
theorem fm_if {f:Fn} {g:Str→D}:∀ l:List Str,l.filterMap (fun x=>if f x=0 then none else some (g x))=(l.filter fun x=>f x != 0).map g
 | []=>rfl
 | x::l=>by
  rw [List.filterMap_cons,List.filter_cons,fm_if l]
  by_cases h:f x=0
  ·rw [if_pos h,if_neg (by rw [h];nofun)]
  ·rw [if_neg h,if_pos (bne_iff_ne.mpr h)];rfl
section
variable {B:Bs} (C:Cx B)
include C
theorem sp_made {W:List Str} (w:Wd W) {k:Int} {ps:List (Str×Int)} (hp:∀ p∈ps,p.1∈W):Spec B "made" NoX 1 [.im (.int k),.ct (.lst (ps.map fun p=>pD p.1 p.2))] fun q=>q=.im (sD W k (su ps)) :=
 .of_vc C.toEn F_made b_made C.f_made k_made rfl <| loopM (fun l ρ=>(∀ p∈l,p.1∈W)∧∃ m g a b,ρ=[some (.im (.int k)),some (.fz (.lst (ps.map fun p=>pD p.1 p.2))),some (.own (.dct m)),a,b]∧DF W m g∧∀ x,g x+su l x=su ps x)
  (fun ρ h=>by
   refine e0_2 h ?_
   clear h
   intro _ ez1
   refine e4_3 ez1 ?_
   clear ez1
   intro m g a b ez2 h e
   subst ez2
   have hg:∀ x,g x=su ps x:=fun x=>by rw [← e x];exact (Int.add_zero _).symm
   have hl:m.length≤3:=by rw [← List.length_map (f:=(·.1))];exact Nat.le_trans (nodup_len h.nd h.sub) w.len
   have h0:∀ x,x∉m.map (·.1)→g x=0:=fun x hx=>by
    rcases h.at_ x with q | q
    ·exact q.2
    ·exact absurd (dAt_mem_keys.mp (by rw [q];rfl)) hx
   have hf:(srt (m.map (·.1))).filterMap (fun x=>if g x=0 then none else some (pD x (g x)))=sL W g:=by
    rw [fm_if (g:=fun x=>pD x (g x)),srt_keys w h.nd h.sub h0];rfl
   have hs:(sL W g).length≤sizeLine:=by
    unfold sL sN;rw [List.length_map];exact Nat.le_trans (List.length_filter_le ..) (Nat.le_trans w.len (by decide))
   refine ⟨Nat.le_trans hl (by decide),.inl ⟨m.map (·.1),by rw [List.map_map];rfl,by rw [List.length_map];(clear hs;omega),comp_of (fun x=>if g x=0 then none else some (pD x (g x))) (fun x hx K hK=>?_) ?_ ?_⟩⟩
   ·have hx:=dAt_mem_keys.mpr ((srt_perm _).mem_iff.mp hx)
    have hx:dAt m x=some (.int (g x)):=by
     rcases h.at_ x with q | q
     ·rw [q.1] at hx;cases hx
     ·exact q
    refine optW.of hx ?_
    refine iB (fun q=>?_) fun q=>?_
    ·refine optW.of hx ?_
     rw [if_neg (bne_iff_ne.mp q)] at hK;exact hK
    ·rw [if_pos (by simpa using q)] at hK;exact hK
   ·rw [hf];exact hs
   ·rw [hf];refine ⟨hs,?_⟩
    show Rs.im (sD W k g)=_
    rw [sD_congr fun x _=>hg x])
  (fun p l ρ h K hK=>by
   refine e0_2 h ?_
   clear h
   intro h1 ez3
   refine e4_3 ez3 ?_
   clear ez3
   intro m g a b ez4 h e
   subst ez4
   have hl:m.length≤3:=by rw [← List.length_map (f:=(·.1))];exact Nat.le_trans (nodup_len h.nd h.sub) w.len
   show binW .Add (.im ((dAt m p.1).getD (.int 0))) (.im (.int p.2)) _
   rw [h.get]
   refine ⟨Nat.le_trans hl (by decide),hK _ ⟨fun q hq=>h1 q (List.mem_cons_of_mem _ hq),_,_,_,_,rfl,h.sto (h1 p (List.mem_cons_self ..)) _,fun x=>?_⟩⟩
   rw [← e x]
   show (if x=p.1 then g p.1+p.2 else g x)+su l x=g x+((if x=p.1 then p.2 else 0)+su l x)
   by_cases q:x=p.1
   ·rw [if_pos q,if_pos q,q,Int.add_assoc]
   ·rw [if_neg q,if_neg q,Int.zero_add]) _ _ ⟨hp,[],fun _=>0,_,_,rfl,⟨.nil,nilAll,fun _=>.inl ⟨rfl,rfl⟩⟩,fun x=>Int.zero_add _⟩
end
end Mine
end

section
open PySem PySem.W PyProof.Rows PySem.Calls PyProof
set_option backward.match.sparseCases false
set_option tactic.hygienic false
namespace Mine
noncomputable def Lv (k:Nat) (i:Int):Prop:=i.natAbs<2 ^ (100*k)
theorem Lv.mono {j k:Nat} {i:Int} (h:Lv j i) (hk:j≤k):Lv k i:=Nat.lt_of_lt_of_le h (Nat.pow_le_pow_right (by decide) (Nat.mul_le_mul_left _ hk))
theorem Lv.le {k:Nat} {i j:Int} (h:Lv k i) (hj:j.natAbs≤i.natAbs):Lv k j:=Nat.lt_of_le_of_lt hj h
theorem Lv.add {k:Nat} {a b:Int} (ha:Lv k a) (hb:Lv k b):Lv (k+1) (a+b):=by
 unfold Lv at *
 have h1:2 ^ (100*(k+1))=2 ^ (100*k)*2 ^ 100:=by rw [← Nat.pow_add];rfl
 have h2:=Int.natAbs_add_le a b
 rw [h1]
 refine Nat.lt_of_le_of_lt h2 (Nat.lt_of_lt_of_le (Nat.add_lt_add ha hb) ?_)
 rw [← Nat.mul_two];exact Nat.mul_le_mul_left _ (by decide)
theorem Lv.mul {j k:Nat} {a b:Int} (ha:Lv j a) (hb:Lv k b):Lv (j+k) (a*b):=by
 unfold Lv at *
 rw [Int.natAbs_mul,Nat.mul_add,Nat.pow_add]
 exact Nat.mul_lt_mul'' ha hb
set_option exponentiation.threshold 9000 in
theorem Lv.log {i:Int} (h:Lv 80 i):i.natAbs.log2<8000:=by
 by_cases q:i.natAbs=0
 ·rw [q];decide
 ·exact (Nat.log2_lt q).mpr h
theorem Lv.bits {i:Int} (h:Lv 80 i):Builtin.Int.intBits i≤2 ^ 20:=by
 unfold Builtin.Int.intBits
 split
 ·exact Nat.zero_le _
 ·exact Nat.le_trans h.log (by decide)
theorem Lv.ok {a b:Int} (ha:Lv 80 a) (hb:Lv 80 b):IntMulOk a b:=.of_bits ha.bits hb.bits
theorem Lv.fd {b:Int} (hb:Lv 80 b):b.natAbs.log2<9000:=Nat.lt_trans hb.log (by decide)
noncomputable def Bd (k:Nat) (c:Int) (f:Fn):Prop:=Lv k c∧∀ x,Lv k (f x)
noncomputable def dot (W:List Str) (f v:Fn):Int:=(W.map fun x=>f x*v x).sum
noncomputable def upd (v:Fn) (x:Str) (k:Int):Fn:=fun y=>if y=x then k else v y
theorem dot_cons (w:Str) (W:List Str) (f v:Fn):dot (w::W) f v=f w*v w+dot W f v:=by unfold dot;rw [List.map_cons,List.sum_cons]
theorem dot_add (f g v:Fn):∀ W:List Str,dot W (fun x=>f x+g x) v=dot W f v+dot W g v
 | []=>rfl
 | w::W=>by rw [dot_cons,dot_cons,dot_cons,dot_add f g v W,Int.add_mul];lia
theorem dot_mul (k:Int) (f v:Fn):∀ W:List Str,dot W (fun x=>k*f x) v=k*dot W f v
 | []=>(Int.mul_zero k).symm
 | w::W=>by rw [dot_cons,dot_cons,dot_mul k f v W,Int.mul_add,Int.mul_assoc]
theorem dot_congr {f g v u:Fn}:∀ {W:List Str},(∀ x∈W,f x*v x=g x*u x)→dot W f v=dot W g u
 | [],_=>rfl
 | w::W,h=>by rw [dot_cons,dot_cons,h w (List.mem_cons_self ..),dot_congr fun x hx=>h x (List.mem_cons_of_mem _ hx)]
theorem dot_split {f v:Fn} {x:Str}:∀ {W:List Str},W.Nodup→x∈W→dot W f v=f x*v x+dot W (upd f x 0) v
 | w::W,nd,h=>by
  rw [List.nodup_cons] at nd
  rw [dot_cons,dot_cons]
  by_cases q:w=x
  ·clear h;subst q
   have:dot W (upd f w 0) v=dot W f v:=dot_congr fun y hy=>by
    have:y≠w:=fun e=>nd.1 (e▸hy)
    unfold upd;rw [if_neg this]
   rw [this];unfold upd;rw [if_pos rfl,Int.zero_mul,Int.zero_add]
  ·rw [dot_split nd.2 ((List.mem_cons.mp h).resolve_left fun e=>q e.symm)]
   have:upd f x 0 w=f w:=if_neg q
   rw [this];(clear this q nd;lia)
theorem dot_upd {f v:Fn} {x:Str} {k:Int} {W:List Str} (nd:W.Nodup) (h:x∈W):dot W f (upd v x k)=f x*k+dot W (upd f x 0) v:=by
 rw [dot_split nd h]
 have:upd v x k x=k:=if_pos rfl
 rw [this,dot_congr (f:=upd f x 0) (v:=upd v x k) (g:=upd f x 0) (u:=v)]
 intro y _
 by_cases q:y=x
 ·have:upd f x 0 y=0:=if_pos q
  rw [this,Int.zero_mul,Int.zero_mul]
 ·have:upd v x k y=v y:=if_neg q
  rw [this]
noncomputable def val (W:List Str) (c:Int) (f v:Fn):Int:=c+dot W f v
noncomputable def prs (W:List Str) (f:Fn):List (Str×Int):=(sN W f).map fun x=>(x,f x)
theorem sL_prs (W:List Str) (f:Fn):sL W f=(prs W f).map fun p=>pD p.1 p.2:=by unfold prs;rw [List.map_map];rfl
theorem prs_mem {W:List Str} {f:Fn}:∀ p∈prs W f,p.1∈W:=fun p hp=>by
 refine e1_2 (List.mem_map.mp hp) ?_
 intro x hx ez1
 clear hp;subst ez1
 exact (mem_sN.mp hx).1
theorem su_prs {W:List Str} (w:Wd W) {f:Fn} {x:Str} (hx:x∈W):su (prs W f) x=f x:=by
 unfold prs
 rw [su_map (V:=sN W f) (w.nd.filter _)]
 by_cases q:x∈sN W f
 ·exact if_pos q
 ·exact (if_neg q).trans (Classical.byContradiction fun e=>q (mem_sN.mpr ⟨hx,fun z=>e z.symm⟩))
theorem sL_len {W:List Str} (w:Wd W) (f:Fn):(sL W f).length≤3:=by
 unfold sL sN;rw [List.length_map];exact Nat.le_trans (List.length_filter_le ..) w.len
theorem le3 {k:Nat} (h:k≤3):k≤sizeLine:=Nat.le_trans h (by decide)
section
variable {B:Bs} (C:Cx B) {n:Nat} {W:List Str} (w:Wd W)
theorem Spec.to {f:Str} {m:Nat} {ags:List Ag} {P Q:Rs→Prop} (h:Spec B f NoX m ags P) (q:∀ r,P r→Q r) (hm:m≤n:=by first | decide | lia):Spec B f NoX n ags Q:=h.mono hm q fun _ x=>x
theorem Spec.ex {α:Type} {f:Str} {m:Nat} {ags:List Ag} {g:α→Rs} {R:α→Prop} {Q:Rs→Prop} (h:Spec B f NoX m ags fun q=>∃ d,q=g d∧R d) (q:∀ d,R d→Q (g d)) (hm:m≤n:=by first | decide | lia):Spec B f NoX n ags Q:=h.mono hm (fun r x=>e1_2 x fun d rz1 hr=>by clear x h;obtain rfl:=rz1;exact q d hr) fun _ x=>x
theorem Spec.ex0 {α:Type} {f:Str} {m:Nat} {ags:List Ag} {g:α→Rs} {Q:Rs→Prop} (h:Spec B f NoX m ags fun q=>∃ d,q=g d) (q:∀ d,Q (g d)) (hm:m≤n:=by first | decide | lia):Spec B f NoX n ags Q:=h.mono hm (fun r x=>e1_1 x fun d rz2=>by clear x h;obtain rfl:=rz2;exact q d) fun _ x=>x
theorem Spec.eq {f:Str} {m:Nat} {ags:List Ag} {a:Rs} {Q:Rs→Prop} (h:Spec B f NoX m ags fun q=>q=a) (q:Q a) (hm:m≤n:=by first | decide | lia):Spec B f NoX n ags Q:=h.mono hm (fun r e=>e▸q) fun _ x=>x
include C w
theorem sp_added {c d:Int} {f g:Fn}:Spec B "added" NoX 2 [.im (sD W c f),.im (sD W d g)] fun q=>q=.im (sD W (c+d) fun x=>f x+g x) :=
 .of_vc C.toEn F_added b_added C.f_added k_added rfl <| by
  refine ⟨le3 (sL_len w f),le3 (sL_len w g),Nat.le_trans (Nat.add_le_add (sL_len w f) (sL_len w g)) (by decide),?_⟩
  show Spec B "made" NoX 1 [.im (.int (c+d)),.ct (.lst (sL W f++sL W g))] _
  rw [sL_prs,sL_prs,← List.map_append]
  refine (sp_made C w fun p hp=>(List.mem_append.mp hp).elim (prs_mem p) (prs_mem p)).eq ?_
  show Rs.im _=_
  rw [sD_congr fun x hx=>by rw [su_append,su_prs w hx,su_prs w hx]]
omit C w in
theorem fm_some {α β:Type} (h:α→β) (l:List α):l.filterMap (fun x=>some (h x))=l.map h:=List.filterMap_eq_map'▸rfl
theorem sp_made1 {k:Int} {f g:Fn} (h0:∀ x,f x=0→g x=0):Spec B "made" NoX 1 [.im (.int k),.ct (.lst ((sN W f).map fun x=>pD x (g x)))] fun q=>q=.im (sD W k g):=by
 have e:((sN W f).map fun x=>pD x (g x))=((sN W f).map fun x=>(x,g x)).map fun p=>pD p.1 p.2:=by rw [List.map_map];rfl
 rw [e]
 refine (sp_made C w fun p hp=>?_).eq ?_
 ·refine e1_2 (List.mem_map.mp hp) ?_
  intro x hx ez2
  clear hp e h0;subst ez2
  exact (mem_sN.mp hx).1
 ·show Rs.im _=_
  rw [sD_congr fun x hx=>?_]
  rw [su_map (V:=sN W f) (w.nd.filter _)]
  by_cases q:x∈sN W f
  ·exact if_pos q
  ·exact (if_neg q).trans (h0 x (Classical.byContradiction fun e=>q (mem_sN.mpr ⟨hx,e⟩))).symm
theorem sp_times {k c:Int} {f:Fn} (hk:Lv 40 k) (hb:Bd 40 c f):Spec B "times" NoX 2 [.im (.int k),.im (sD W c f)] fun q=>q=.im (sD W (k*c) fun x=>k*f x) :=
 .of_vc C.toEn F_times b_times C.f_times k_times rfl <| by
  refine ⟨(hk.mono (by decide)).ok (hb.1.mono (by decide)),comp_of (fun x=>some (pD x (k*f x))) (fun x hx K hK=>⟨(hk.mono (by decide)).ok ((hb.2 x).mono (by decide)),hK⟩) ?_ ?_⟩
  ·rw [fm_some (fun x=>pD x (k*f x)),List.length_map,← List.length_map (f:=fun x=>pD x (f x))];exact le3 (sL_len w f)
  ·rw [fm_some (fun x=>pD x (k*f x))]
   exact (sp_made1 C w (f:=f) (g:=fun x=>k*f x) fun x h=>by show k*f x=0;rw [h,Int.mul_zero]).eq rfl
omit C w in
theorem wo_list (f:Fn) (x:Str):∀ W:List Str,(sN W f).filterMap (fun y=>if y=x then none else some (pD y (f y)))=sL W (upd f x 0)
 | []=>rfl
 | y::W=>by
  have ih:=wo_list f x W
  unfold sL sN at *
  rw [List.filter_cons,List.filter_cons]
  by_cases h2:y=x
  ·have h3:upd f x 0 y=0:=if_pos h2
   rw [h3,if_neg (c:=(0:Int) != 0) nofun,← ih]
   by_cases h1:f y=0
   ·rw [if_neg (by rw [h1];nofun)]
   ·rw [if_pos (bne_iff_ne.mpr h1),List.filterMap_cons,if_pos h2]
  ·have h3:upd f x 0 y=f y:=if_neg h2
   rw [h3]
   by_cases h1:f y=0
   ·rw [if_neg (by rw [h1];nofun),if_neg (by rw [h1];nofun),← ih]
   ·rw [if_pos (bne_iff_ne.mpr h1),if_pos (bne_iff_ne.mpr h1),List.filterMap_cons,if_neg h2,List.map_cons,h3,← ih]
theorem sp_without {c:Int} {f:Fn} {x:Str}:Spec B "without" NoX 1 [.im (sD W c f),.im (.str x)] fun q=>q=.im (sD W c (upd f x 0)) :=
 .of_vc C.toEn F_without b_without C.f_without k_without rfl <| by
  have e:=wo_list f x W
  refine comp_of (fun y=>if y=x then none else some (pD y (f y))) (fun y hy K hK=>?_) ?_ ?_
  ·refine iB (fun q=>?_) fun q=>?_
   ·rw [if_neg (by simpa using q)] at hK;exact hK
   ·rw [if_pos (by simpa using q)] at hK;exact hK
  ·rw [e];exact le3 (sL_len w _)
  ·rw [e];exact ⟨le3 (sL_len w _),rfl⟩
theorem sp_put_in {c d:Int} {f g:Fn} {x:Str} (hx:x∈W∨f x=0) (hk:Lv 40 (f x)) (hb:Bd 40 d g):Spec B "put_in" NoX 3 [.im (sD W c f),.im (.str x),.im (sD W d g)] fun q=>q=.im (sD W (c+f x*d) fun y=>upd f x 0 y+f x*g y) :=
 .of_vc C.toEn F_put_in b_put_in C.f_put_in k_put_in rfl <| by
  refine (sp_without C w).eq ?_
  refine (sp_share C hx).eq ?_
  refine (sp_times C w hk hb).eq ?_
  exact (sp_added C w).eq rfl
theorem sp_value {c:Int} {f v:Fn} {vs:List (Str×D)} (hv:∀ x∈W,f x≠0→dAt vs x=some (.int (v x))) (hf:∀ x,Lv 40 (f x)) (hl:∀ x,Lv 40 (v x)) :
  Spec B "value" NoX 1 [.im (sD W c f),.ct (.dct vs)] fun q=>q=.im (.int (val W c f v)) :=
 .of_vc C.toEn F_value b_value C.f_value k_value rfl <| loopM (fun l ρ=>(∀ x∈l,dAt vs x=some (.int (v x)))∧∃ k a b,ρ=[some (.im (sD W c f)),some (.fz (.dct vs)),some (.im (.int k)),a,b]∧k+dot l f v=val W c f v)
  (fun ρ h=>by
   refine e0_2 h ?_
   clear h
   intro _ ez3
   refine e3_2 ez3 ?_
   clear ez3
   intro k a b ez4 h
   clear hv;subst ez4
   rw [← h];exact congrArg (fun i=>Rs.im (.int i)) (Int.add_zero k).symm)
  (fun x l ρ h K hK=>by
   refine e0_2 h ?_
   clear h
   intro h1 ez5
   refine e3_2 ez5 ?_
   clear ez5
   intro k a b ez6 h
   subst ez6
   have hx:=h1 x (List.mem_cons_self ..)
   refine iF (c := !(dAt vs x).isSome) (by rw [hx];rfl) ?_
   refine optW.of hx ?_
   refine ⟨((hf x).mono (by decide)).ok ((hl x).mono (by decide)),hK _ ⟨fun y hy=>h1 y (List.mem_cons_of_mem _ hy),_,_,_,rfl,?_⟩⟩
   rw [← h,dot_cons,Int.add_assoc]) _ _ ⟨fun x hx=>hv x (mem_sN.mp hx).1 (mem_sN.mp hx).2,c,_,_,rfl,by
    have:∀ W:List Str,dot (sN W f) f v=dot W f v:=fun W=>by
     induction W with
     | nil=>rfl
     | cons y W ih =>
      unfold sN at *
      rw [List.filter_cons]
      by_cases h1:f y=0
      ·rw [if_neg (by rw [h1];nofun),dot_cons,h1,Int.zero_mul,Int.zero_add,ih]
      ·rw [if_pos (bne_iff_ne.mpr h1),dot_cons,dot_cons,ih]
    unfold val;rw [this]⟩
end
end Mine
end

section
open PySem PySem.W PyProof.Rows PySem.Calls PyProof
set_option backward.match.sparseCases false
set_option tactic.hygienic false
namespace Mine
theorem fmod_small {a b:Int} (h:b≠0):(a.fmod b).natAbs<b.natAbs:=by
 rcases Int.lt_or_gt_of_ne h with h | h
 ·have:=Int.fmod_lt_of_pos (-a) (b := -b) (Int.neg_pos_of_neg h)
  have:=Int.fmod_nonneg_of_pos (-a) (b := -b) (Int.neg_pos_of_neg h)
  rw [Int.neg_fmod_neg] at *
  omega
 ·have:=Int.fmod_lt_of_pos a h
  have:=Int.fmod_nonneg_of_pos a h
  omega
theorem gcd_step (a b:Int):b.gcd (a.fmod b)=a.gcd b:=by rw [Int.fmod_def,Int.gcd_sub_mul_left_right,Int.gcd_comm]
inductive At where
 | ab | no | go (m:Int)
noncomputable def At.ok:At→Int→Prop
 | .ab,z=>0<z
 | .no,z=>z=0
 | .go m,z=>m ∣ z
noncomputable def aD (W:List Str):At→Int→Fn→D
 | .ab,c,f=>.tup [.str "above",sD W c f]
 | .no,c,f=>.tup [.str "nought",sD W c f]
 | .go m,c,f=>.tup [.str "goes",.int m,sD W c f]
noncomputable def con (a:Bool) (l:List D):D:=.tup [.str (bif a then "and" else "or"),.tup l]
noncomputable def cj (a:Bool):Option (List D)→D
 | none=>con (!a) []
 | some [d]=>d
 | some l=>con a l
theorem sL_dep {W:List Str} {f:Fn}:D.depL (sL W f)≤1:=by
 unfold sL
 induction sN W f with
 | nil=>exact Nat.zero_le _
 | cons x l ih=>exact Nat.max_le.mpr ⟨Nat.le_refl 1,ih⟩
theorem sL_kk {W:List Str} {f:Fn}:D.kkL (sL W f)=true:=by
 unfold sL
 induction sN W f with
 | nil=>rfl
 | cons x l ih=>exact ih
theorem beqL_nil (l:List D):D.beqL l []=l.isEmpty:=by cases l <;> rfl
theorem natAbs_le_dvd {a b:Int} (h:a ∣ b) (hb:b≠0):a.natAbs≤b.natAbs:=Nat.le_of_dvd (na_ne hb) (Int.natAbs_dvd_natAbs.mpr h)
section
variable {B:Bs} (C:Cx B) {W:List Str} (w:Wd W)
include C w
theorem sp_gcd {a b:Int}:Spec B "gcd" NoX 1 [.im (.int a),.im (.int b)] fun q=>q=.im (.int (a.gcd b)) :=
 .of_vc C.toEn F_gcd b_gcd C.f_gcd k_gcd rfl <| by
  refine ⟨fun m ρ=>∃ a' b' r,ρ=[some (.im (.int a')),some (.im (.int b')),r]∧m=b'.natAbs∧a'.gcd b'=a.gcd b,b.natAbs,⟨a,b,_,rfl,rfl,rfl⟩,fun m ρ h=>?_⟩
  refine e3_3 h ?_
  clear h
  intro a' b' r ez1 ez2 h
  subst ez1
  subst ez2
  refine iB (fun q=>?_) fun q=>?_
  ·have q:b'≠0:=bne_iff_ne.mp q
   exact ⟨q,_,fmod_small q,_,_,_,rfl,rfl,by rw [gcd_step,h]⟩
  ·have q:b'=0:=by simpa using q
   subst q
   rw [← h,Int.gcd_zero_right];rfl
theorem sp_lcm {a b:Int} (ha:0<a) (hb:0<b) (la:Lv 40 a) (lb:Lv 40 b):Spec B "lcm" NoX 2 [.im (.int a),.im (.int b)] fun q=>q=.im (.int (Int.lcm a b)) :=
 .of_vc C.toEn F_lcm b_lcm C.f_lcm k_lcm rfl <| by
  refine (sp_gcd C w).eq ?_
  have d1:=Int.gcd_dvd_left a b
  have hg:(0:Int)<a.gcd b:=Int.ofNat_lt.mpr (Int.gcd_pos_of_ne_zero_left b (ne_p (by assumption)))
  have hl:(a.gcd b:Int)*(a.lcm b:Int)=a*b:=by
   have:=congrArg (fun n:Nat=>(n:Int)) (Int.gcd_mul_lcm a b)
   rw [Int.natCast_mul] at this
   rw [this,Int.natCast_mul,Int.natAbs_of_nonneg (Int.le_of_lt (by assumption)),Int.natAbs_of_nonneg (Int.le_of_lt (by assumption))]
  generalize (a.lcm b:Int)=l at *
  generalize (a.gcd b:Int)=g at *
  refine e1_1 d1 ?_
  clear d1
  intro p ez3
  subst ez3
  have e:(g*p).fdiv g=p:=by rw [Int.mul_comm,Int.mul_fdiv_cancel p (ne_p (by assumption))]
  have lp:Lv 40 p:=la.le (natAbs_le_dvd ⟨g,Int.mul_comm ..⟩ (ne_p (by assumption)))
  have lg:Lv 40 g:=la.le (natAbs_le_dvd ⟨p,rfl⟩ (ne_p (by assumption)))
  refine ⟨(ne_p (by assumption)),(lg.mono (by decide)).fd,?_⟩
  rw [e]
  refine ⟨(lp.mono (by decide)).ok (lb.mono (by decide)),?_⟩
  have:p*b=l:=Int.eq_of_mul_eq_mul_left (show g≠0 from (ne_p (by assumption))) (by rw [hl,Int.mul_assoc])
  rw [← this];rfl
theorem sp_common {c k:Int} {f:Fn} (hk:0≤k):Spec B "common_of" NoX 2 [.im (sD W c f),.im (.int k)] fun q=>∃ g,q=.im (.int g)∧0≤g∧g ∣ k∧(∀ x∈W,g ∣ f x)∧(0<k∨sL W f≠[]→0<g) :=
 .of_vc C.toEn F_common_of b_common_of C.f_common_of k_common_of rfl <| loopM (fun l ρ=>∃ g a b,ρ=[some (.im (sD W c f)),some (.im (.int g)),a,b]∧0≤g∧g ∣ k∧(∀ x∈sN W f,x∈l∨g ∣ f x)∧(∀ x∈l,f x≠0)∧(0<g∨k=0∧l=sN W f))
  (fun ρ h=>by
   refine e3_6 h ?_
   clear h
   intro g a b ez4 h0 h1 h2 h3 h4
   subst ez4
   refine ⟨g,rfl,h0,h1,fun x hx=>?_,fun q=>?_⟩
   ·by_cases e:f x=0
    ·rw [e];exact Int.dvd_zero g
    ·exact (h2 x (mem_sN.mpr ⟨hx,e⟩)).resolve_left nofun
   ·rcases h4 with h4 | ⟨rfl,h4⟩
    ·exact h4
    ·rcases q with q | q
     ·cases q
     ·unfold sL at q;rw [← h4] at q;exact absurd rfl q)
  (fun x l ρ h K hK=>by
   refine e3_6 h ?_
   clear h
   intro g a b ez5 h0 h1 h2 h3 h4
   subst ez5
   refine (sp_gcd C w).eq ?_
   refine hK _ ⟨_,_,_,rfl,Int.natCast_nonneg _,Int.dvd_trans (Int.gcd_dvd_left ..) h1,fun y hy=>?_,fun y hy=>h3 y (List.mem_cons_of_mem _ hy),.inl (Int.ofNat_lt.mpr (Int.gcd_pos_iff.mpr (.inr (h3 x (List.mem_cons_self ..)))))⟩
   rcases h2 y hy with q | q
   ·rcases List.mem_cons.mp q with rfl | q
    ·exact .inr (Int.gcd_dvd_right ..)
    ·exact .inl q
   ·exact .inr (Int.dvd_trans (Int.gcd_dvd_left ..) q)) _ _ ⟨k,_,_,rfl,hk,Int.dvd_refl k,fun x hx=>.inl hx,fun x hx=>(mem_sN.mp hx).2,by
    by_cases e:k=0
    ·exact .inr ⟨e,rfl⟩
    ·exact .inl (by omega)⟩
omit C w in
theorem div_list {W:List Str} {f:Fn} {g:Int} (hg:0<g) (hd:∀ x∈W,g ∣ f x):(sN W f).filterMap (fun x=>some (pD x ((f x).fdiv g)))=sL W fun x=>(f x).fdiv g:=by
 rw [fm_some (fun x=>pD x ((f x).fdiv g))]
 unfold sL sN
 congr 1
 refine List.filter_congr fun x hx=>?_
 refine e1_1 (hd x hx) ?_
 intro p hp
 have e:(f x).fdiv g=p:=by rw [hp,Int.mul_comm,Int.mul_fdiv_cancel p (ne_p (by assumption))]
 show (f x != 0)=((f x).fdiv g != 0)
 rw [e,hp]
 by_cases z:p=0
 ·rw [z,Int.mul_zero]
 ·rw [bne_iff_ne.mpr z,bne_iff_ne.mpr (Int.mul_ne_zero (ne_p (by assumption)) z)]
theorem sp_divided {c g:Int} {f:Fn} (hg:0<g) (lg:Lv 80 g) (hd:∀ x∈W,g ∣ f x):Spec B "divided" NoX 1 [.im (sD W c f),.im (.int g)] fun q=>q=.im (sD W (c.fdiv g) fun x=>(f x).fdiv g) :=
 .of_vc C.toEn F_divided b_divided C.f_divided k_divided rfl <| by
  have e:=div_list hg hd
  refine ⟨(ne_p (by assumption)),lg.fd,comp_of (fun x=>some (pD x ((f x).fdiv g))) (fun x hx K hK=>⟨(ne_p (by assumption)),lg.fd,hK⟩) ?_ ?_⟩
  ·rw [e];exact le3 (sL_len w _)
  ·rw [e];exact ⟨le3 (sL_len w _),rfl⟩
omit C w in
theorem dot_div {W:List Str} {f v:Fn} {g:Int} (hg:0<g):(∀ x∈W,g ∣ f x)→dot W f v=g*dot W (fun x=>(f x).fdiv g) v:=fun hd=>by
 rw [← dot_mul]
 refine dot_congr fun x hx=>?_
 refine e1_1 (hd x hx) ?_
 intro p hp
 show _=g*(f x).fdiv g*v x
 rw [hp,Int.mul_comm g p,Int.mul_fdiv_cancel p (ne_p (by assumption)),Int.mul_comm g p]
noncomputable def NeatK (W:List Str) (f f':Fn) (t':At):At→Prop
 | .ab=>t'=.ab∧∀ x∈W,∃ g,0<g∧f x=g*f' x
 | .no=>t'=.no∧∀ x∈W,∃ g,0<g∧f x=g*f' x
 | .go m=>1<m∧∃ m',t'=.go m'∧0<m'∧m' ∣ m∧∀ x∈W,∃ g,0<g∧g ∣ m∧(f x).fmod m=g*f' x
inductive NeatR (W:List Str) (k:Nat) (t:At) (c:Int) (f:Fn):Option (List D)→Prop
 | no (h:∀ v,¬ t.ok (val W c f v)):NeatR W k t c f none
 | yes (h:∀ v,t.ok (val W c f v)):NeatR W k t c f (some [])
 | at (t':At) (c':Int) (f':Fn) (h:∀ v,t'.ok (val W c' f' v)↔t.ok (val W c f v)) (h2:Bd k c' f') (h3:NeatK W f f' t' t):NeatR W k t c f (some [aD W t' c' f'])
omit C w in
theorem dot_zero {W:List Str} {f v:Fn} (h:(sL W f).isEmpty=true):dot W f v=0:=by
 have hz:∀ x∈W,f x=0:=fun x hx=>Classical.byContradiction fun q=>by
  have:=mem_sN.mpr ⟨hx,q⟩
  unfold sL at h
  rw [List.isEmpty_iff,List.map_eq_nil_iff] at h
  rw [h] at this;cases this
 rw [dot_congr (g:=fun x=>0*f x) (u:=v) fun x hx=>by rw [hz x hx];rfl,dot_mul,Int.zero_mul]
omit C w in
theorem Lv.fdiv {k:Nat} {a g:Int} (h:Lv k a) (hg:0<g):Lv k (a.fdiv g):=h.le (by rw [Int.fdiv_eq_ediv_of_nonneg _ (Int.le_of_lt hg)];exact Int.natAbs_ediv_le_natAbs ..)
omit C w in
theorem Lv.neg {k:Nat} {a:Int} (h:Lv k a):Lv k (-a):=h.le (by rw [Int.natAbs_neg];exact Nat.le_refl _)
omit C w in
theorem mul_fdiv {g a:Int} (hg:0<g) (h:g ∣ a):a=g*a.fdiv g:=by
 refine e1_1 h ?_
 clear h
 intro p ez6
 subst ez6
 rw [Int.mul_comm g p,Int.mul_fdiv_cancel p (ne_p (by assumption)),Int.mul_comm]
omit C w in
theorem ksL_sL {W:List Str} {f:Fn}:D.ksL (sL W f)=true:=D.ksL_of _ sL_kk
omit C w in
theorem ne_nil {l:List D} (h:l.isEmpty=false):l≠[]:=fun e=>by rw [e] at h;cases h
theorem sp_common0 {k:Nat} {c:Int} {f:Fn} (hb:Bd k c f) (q:(sL W f).isEmpty=false):Spec B "common_of" NoX 2 [.im (sD W c f),.im (.int 0)] fun q=>∃ g,q=.im (.int g)∧0<g∧(∀ x∈W,g ∣ f x)∧Lv k g :=
 (sp_common C w (Int.le_refl 0)).to fun r h=>by
  refine e1_5 h ?_
  clear h
  intro g ez7 h0 h1 h2 h3
  subst ez7
  refine ⟨g,rfl,h3 (.inr (ne_nil q)),h2,?_⟩
  cases e:sN W f with
  | nil=>exact absurd (by unfold sL;rw [e];rfl) (ne_nil q)
  | cons x l =>
   have hx:=mem_sN.mp (show x∈sN W f by rw [e];exact List.mem_cons_self ..)
   exact (hb.2 x).le (natAbs_le_dvd (h2 x hx.1) hx.2)
theorem sp_neat_above {k:Nat} {c:Int} {f:Fn} (hb:Bd k c f) (hk:k≤80):Spec B "neat_above" NoX 3 [.im (sD W c f)] fun q=>∃ o,q=.im (cj true o)∧NeatR W k .ab c f o :=
 .of_vc C.toEn F_neat_above b_neat_above C.f_neat_above k_neat_above rfl <| by
  refine ⟨by decide,Nat.le_trans sL_dep (by decide),ksL_sL,rfl,?_⟩
  rw [beqL_nil]
  refine iB (fun q=>?_) fun q=>?_
  ·refine iB (fun p=>⟨some [],rfl,.yes fun v=>?_⟩) fun p=>⟨none,rfl,.no fun v=>?_⟩
   ·show 0<c+dot W f v
    rw [dot_zero q,Int.add_zero];exact of_decide_eq_true p
   ·show ¬ 0<c+dot W f v
    rw [dot_zero q,Int.add_zero];exact of_decide_eq_false p
  ·refine (sp_common0 C w hb q).ex fun g h=>?_
   refine e0_3 h ?_
   clear h
   intro hg hd lg
   have e:=div_list hg hd
   have lg:=(lg.mono hk).fd
   refine ⟨Int.ne_of_gt hg,lg,comp_of (fun x=>some (pD x ((f x).fdiv g))) (fun x hx K hK=>⟨Int.ne_of_gt hg,lg,hK⟩) ?_ ?_⟩
   ·rw [e];exact le3 (sL_len w _)
   ·rw [e]
    refine ⟨le3 (sL_len w _),some [aD W .ab (-((-c).fdiv g)) fun x=>(f x).fdiv g],rfl,.at _ _ _ (fun v=>?_) ⟨(hb.1.neg.fdiv hg).neg,fun x=>(hb.2 x).fdiv hg⟩ ⟨rfl,fun x hx=>⟨g,hg,mul_fdiv hg (hd x hx)⟩⟩⟩
    show 0 < -((-c).fdiv g)+dot W _ v↔0<c+dot W f v
    rw [dot_div hg hd,Int.fdiv_eq_ediv_of_nonneg _ (Int.le_of_lt hg)]
    generalize dot W (fun x=>(f x).fdiv g) v=S
    have:=Int.ediv_lt_iff_lt_mul (a := -c) (b:=S) hg
    rw [Int.mul_comm] at this
    (clear lg hg hk;omega)
theorem sp_neat_nought {k:Nat} {c:Int} {f:Fn} (hb:Bd k c f) (hk:k≤80):Spec B "neat_nought" NoX 3 [.im (sD W c f)] fun q=>∃ o,q=.im (cj true o)∧NeatR W k .no c f o :=
 .of_vc C.toEn F_neat_nought b_neat_nought C.f_neat_nought k_neat_nought rfl <| by
  refine ⟨by decide,Nat.le_trans sL_dep (by decide),ksL_sL,rfl,?_⟩
  rw [beqL_nil]
  refine iB (fun q=>?_) fun q=>?_
  ·refine iB (fun p=>⟨some [],rfl,.yes fun v=>?_⟩) fun p=>⟨none,rfl,.no fun v=>?_⟩
   ·show c+dot W f v=0
    rw [dot_zero q,Int.add_zero];exact eq_of_beq p
   ·show ¬ c+dot W f v=0
    rw [dot_zero q,Int.add_zero];exact beq_eq_false_iff_ne.mp p
  ·refine (sp_common0 C w hb q).ex fun g h=>?_
   refine e0_3 h ?_
   clear h
   intro hg hd lg
   refine ⟨Int.ne_of_gt hg,iB (fun p=>⟨none,rfl,.no fun v=>?_⟩) fun p=>?_⟩
   ·show ¬ c+dot W f v=0
    rw [dot_div hg hd]
    intro e
    have p:c.fmod g≠0:=bne_iff_ne.mp p
    exact p (Int.fmod_eq_zero_of_dvd ⟨-dot W (fun x=>(f x).fdiv g) v,by rw [Int.mul_neg];exact (Int.neg_eq_of_add_eq_zero (by rw [Int.add_comm];exact e)).symm⟩)
   ·refine (sp_divided C w hg (lg.mono hk) hd).eq ?_
    refine ⟨some [aD W .no (c.fdiv g) fun x=>(f x).fdiv g],rfl,.at _ _ _ (fun v=>?_) ⟨hb.1.fdiv hg,fun x=>(hb.2 x).fdiv hg⟩ ⟨rfl,fun x hx=>⟨g,hg,mul_fdiv hg (hd x hx)⟩⟩⟩
    have p:c.fmod g=0:=by simpa using p
    have hc:=mul_fdiv hg (Int.dvd_of_fmod_eq_zero p)
    show c.fdiv g+dot W _ v=0↔c+dot W f v=0
    rw [dot_div hg hd]
    generalize dot W (fun x=>(f x).fdiv g) v=S at *
    generalize c.fdiv g=e at *
    rw [hc,← Int.mul_add,Int.mul_eq_zero]
    exact ⟨.inr,fun h=>h.elim (fun q=>absurd q (Int.ne_of_gt hg)) id⟩
omit C w in
theorem Lv.fmod {k:Nat} {a m:Int} (h:Lv k m) (hm:0<m):Lv k (a.fmod m):=h.le (Nat.le_of_lt (fmod_small (Int.ne_of_gt hm)))
omit C w in
theorem dot_fmod {W:List Str} {f v:Fn} {m:Int}:dot W f v=m*dot W (fun x=>(f x).fdiv m) v+dot W (fun x=>(f x).fmod m) v:=by
 rw [← dot_mul,← dot_add]
 refine dot_congr fun x _=>?_
 show _=(m*(f x).fdiv m+(f x).fmod m)*v x
 rw [Int.mul_fdiv_add_fmod]
theorem sp_neat_goes {k:Nat} {m c:Int} {f:Fn} (hm:0<m) (lm:Lv k m) (hk:k≤80):Spec B "neat_goes" NoX 3 [.im (.int m),.im (sD W c f)] fun q=>∃ o,q=.im (cj true o)∧NeatR W k (.go m) c f o :=
 .of_vc C.toEn F_neat_goes b_neat_goes C.f_neat_goes k_neat_goes rfl <| by
  have hv:∀ v,m ∣ val W c f v↔m ∣ c.fmod m+dot W (fun x=>(f x).fmod m) v:=fun v=>by
   have e:val W c f v=m*(c.fdiv m+dot W (fun x=>(f x).fdiv m) v)+(c.fmod m+dot W (fun x=>(f x).fmod m) v):=by
    unfold val
    rw [dot_fmod (m:=m),Int.mul_add]
    rw [show c+_=m*c.fdiv m+c.fmod m+_ by rw [Int.mul_fdiv_add_fmod],Int.add_assoc,Int.add_left_comm (c.fmod m),← Int.add_assoc]
   rw [e];exact Int.dvd_add_right ⟨_,rfl⟩
  refine ⟨Int.ne_of_gt hm,comp_of (fun x=>some (pD x ((f x).fmod m))) (fun x hx K hK=>⟨Int.ne_of_gt hm,hK⟩) ?_ ?_⟩
  ·rw [fm_some (fun x=>pD x ((f x).fmod m)),List.length_map,← List.length_map (f:=fun x=>pD x (f x))];exact le3 (sL_len w f)
  ·rw [fm_some (fun x=>pD x ((f x).fmod m))]
   refine (sp_made1 C w (f:=f) (g:=fun x=>(f x).fmod m) fun x h=>by show (f x).fmod m=0;rw [h,Int.zero_fmod]).eq ?_
   refine (sp_common C w (Int.le_of_lt hm)).ex fun g h=>?_
   refine e0_4 h ?_
   clear h
   intro h0 h1 hd h3
   have hg:=h3 (.inl hm)
   have lg:Lv k g:=lm.le (natAbs_le_dvd h1 (Int.ne_of_gt hm))
   refine ⟨Int.ne_of_gt hg,iB (fun p=>⟨none,rfl,.no fun v=>?_⟩) fun p=>?_⟩
   ·show ¬ m ∣ val W c f v
    rw [hv,dot_div hg hd]
    intro q
    have p:(c.fmod m).fmod g≠0:=bne_iff_ne.mp p
    refine p (Int.fmod_eq_zero_of_dvd ?_)
    have:=Int.dvd_trans h1 q
    rw [Int.add_comm] at this
    exact (Int.dvd_add_right ⟨_,rfl⟩).mp this
   ·have p:(c.fmod m).fmod g=0:=by simpa using p
    have hc:=Int.dvd_of_fmod_eq_zero p
    refine iB (fun q=>⟨some [],rfl,.yes fun v=>?_⟩) fun q=>?_
    ·have q:g=m:=eq_of_beq q
     show m ∣ val W c f v
     rw [hv,dot_div hg hd,← q]
     exact Int.dvd_add (q▸hc) ⟨_,rfl⟩
    ·have q:g≠m:=beq_eq_false_iff_ne.mp q
     refine ⟨Int.ne_of_gt hg,(lg.mono hk).fd,?_⟩
     refine (sp_divided C w hg (lg.mono hk) hd).eq ?_
     have em:=mul_fdiv hg h1
     refine ⟨some [aD W (.go (m.fdiv g)) ((c.fmod m).fdiv g) fun x=>((f x).fmod m).fdiv g],rfl,.at _ _ _ (fun v=>?_) ⟨(lm.fmod hm).fdiv hg,fun x=>(lm.fmod hm).fdiv hg⟩ ⟨?_,_,rfl,?_,⟨g,?_⟩,fun x hx=>⟨g,hg,h1,mul_fdiv hg (hd x hx)⟩⟩⟩
     ·show m.fdiv g ∣ (c.fmod m).fdiv g+dot W _ v↔m ∣ val W c f v
      rw [hv,dot_div hg hd]
      have e:=mul_fdiv hg hc
      generalize dot W (fun x=>((f x).fmod m).fdiv g) v=S at *
      generalize (c.fmod m).fdiv g=d at *
      generalize m.fdiv g=e' at *
      rw [e,← Int.mul_add,em]
      exact (Int.mul_dvd_mul_iff_left (Int.ne_of_gt hg)).symm
     ·have:=Int.le_of_dvd hm h1;(clear hc p h1 h0 hk;omega)
     ·exact Classical.byContradiction fun z=>by
       have:=Int.mul_le_mul_of_nonneg_left (Int.not_lt.mp z) (Int.le_of_lt hg);rw [← em,Int.mul_zero] at this;exact Int.not_le.mpr hm this
     ·rw [Int.mul_comm];exact em
theorem sp_neat_atom {k:Nat} {t:At} {c:Int} {f:Fn} (hb:Bd k c f) (hk:k≤80) (ht:∀ m,t=.go m→0<m∧Lv k m):Spec B "neat_atom" NoX 4 [.im (aD W t c f)] fun q=>∃ o,q=.im (cj true o)∧NeatR W k t c f o :=
 .of_vc C.toEn F_neat_atom b_neat_atom C.f_neat_atom k_neat_atom rfl <| by
  cases t with
  | ab=>exact (sp_neat_above C w hb hk).to fun r h=>by obtain ⟨o,rfl,h⟩:=h;exact ⟨o,rfl,h⟩
  | no=>exact (sp_neat_nought C w hb hk).to fun r h=>by obtain ⟨o,rfl,h⟩:=h;exact ⟨o,rfl,h⟩
  | go m=>exact (sp_neat_goes C w (ht m rfl).1 (ht m rfl).2 hk).to fun r h=>by obtain ⟨o,rfl,h⟩:=h;exact ⟨o,rfl,h⟩
end
end Mine
end

section
open PySem PySem.W PyProof.Rows PySem.Calls PyProof
set_option backward.match.sparseCases false
set_option tactic.hygienic false
namespace Mine
noncomputable def cw (a:Bool):Str:=bif a then "and" else "or"
structure El (a:Bool) (e:D):Prop where
 ex:∃ k r,e=.tup (.str k::r)∧(k == cw a)=false∧D.depL r≤7∧D.kkL r=true∧e≠con (!a) []
noncomputable def tot:List (Option (List D))→Nat
 | []=>0
 | o::os=>(o.getD []).length+tot os
inductive JoinR (os:List (Option (List D))):Option (List D)→Prop
 | no (h:none∈os):JoinR os none
 | all (l:List D) (h:none∉os) (he:∀ e,e∈l↔∃ l',some l'∈os∧e∈l') (hl:l.length≤tot os):JoinR os (some l)
theorem mem_dAdd {m:List D} {d e:D}:e∈dAdd m d↔e∈m∨e=d:=by
 unfold dAdd
 split
 ·rename_i h
  refine e1_2 (List.any_eq_true.mp h) ?_
  intro x hx q
  rw [D.beq_iff] at q
  clear h;subst q
  exact ⟨.inl,fun q=>q.elim id fun q=>q▸hx⟩
 ·rw [List.mem_append,List.mem_singleton]
theorem dAdd_len {m:List D} {d:D}:(dAdd m d).length≤m.length+1:=by
 unfold dAdd
 split
 ·exact Nat.le_succ _
 ·rw [List.length_append];exact Nat.le_refl _
theorem cj_con {a:Bool} {l:List D} (h:l.length≠1):cj a (some l)=con a l:=by
 cases l with
 | nil=>rfl
 | cons d l=>cases l with
  | nil=>exact absurd rfl h
  | cons _ _=>rfl
theorem depL_of {k:Nat}:∀ {l:List D},(∀ e∈l,e.dep≤k)→D.depL l≤k
 | [],_=>Nat.zero_le _
 | e::l,h=>Nat.max_le.mpr ⟨h e (List.mem_cons_self ..),depL_of fun e he=>h e (List.mem_cons_of_mem _ he)⟩
theorem kkL_of:∀ {l:List D},(∀ e∈l,e.kk=true)→D.kkL l=true
 | [],_=>rfl
 | e::l,h=>by
  show (e.kk&&D.kkL l)=true
  rw [h e (List.mem_cons_self ..),kkL_of fun e he=>h e (List.mem_cons_of_mem _ he)];rfl
theorem El.dep {a:Bool} {e:D} (h:El a e):e.dep≤8:=by
 obtain ⟨k,r,rfl,_,h,_⟩:=h
 exact Nat.succ_le_succ (Nat.max_le.mpr ⟨Nat.zero_le _,h⟩)
theorem El.kk {a:Bool} {e:D} (h:El a e):e.kk=true:=by
 obtain ⟨k,r,rfl,_,_,h,_⟩:=h
 exact h
theorem pyAt_zero (d:D) (l:List D):pyAt (d::l) 0=some d:=by
 unfold pyAt
 rw [seqIndex_of (Int.le_refl 0) (n:=(d::l).length) (Int.natCast_pos.mpr (Nat.succ_pos _))];rfl
theorem cw_ne (a:Bool):(cw a == cw (!a))=false:=by cases a <;> decide +kernel
section
variable {B:Bs} (C:Cx B) {W:List Str} (w:Wd W)
include C
omit C in
theorem joined_loop {a:Bool} {os:List (Option (List D))} (hE:∀ l,some l∈os→∀ e∈l,El a e) (hs:tot os≤sizeLine) :
  loopW (.one 4) (fun ρ Q=>wpSs B 2 (.cons (.ife (.tc .Eq (.nm 4) (.nm 2)) (.cons (.ret (.nm 2)) .nil) .nil) (.cons (.ife (.tc .Eq (.sbc (.nm 4) 0) (.nm 0)) (.cons (.for_ (.one 5) (.sbc (.nm 4) 1) (.cons (.dsd 3 (.nm 5)) .nil)) .nil) (.cons (.dsd 3 (.nm 4)) .nil)) .nil)) ρ Q)
   (sqW (RetOk fun q=>∃ o,q=.im (cj a o)∧JoinR os o) fun ρ'=>wpSs B 2 (.cons (.asg 6 (.bui .lst (.cons (.nm 3) .nil))) (.cons (.ife (.tc .Eq (.bui .len (.cons (.nm 6) .nil)) (.ci 1)) (.cons (.ret (.sbc (.nm 6) 0)) .nil) .nil) (.cons (.ret (.tup (.cons (.nm 0) (.cons (.bui .tup (.cons (.nm 6) .nil)) .nil)))) .nil))) ρ' (RetOk fun q=>∃ o,q=.im (cj a o)∧JoinR os o))
   (os.map (cj a)) [some (.im (.str (cw a))),some (.fz (.lst (os.map (cj a)))),some (.im (con (!a) [])),some (.own (.ddc [])),none,none,none]:=by
 refine loopM (fun l ρ=>∃ m x4 x5 pre,ρ=[some (.im (.str (cw a))),some (.fz (.lst (os.map (cj a)))),some (.im (con (!a) [])),some (.own (.ddc m)),x4,x5,none]∧os=pre++l∧none∉pre ∧
   (∀ e,e∈m↔∃ l',some l'∈pre∧e∈l')∧m.length+tot l≤tot os) (fun ρ h=>?_) (fun o l ρ h K hK=>?_) _ _ ⟨[],_,_,[],rfl,rfl,nofun,fun e=>⟨nofun,nofun⟩,Nat.le_of_eq (Nat.zero_add _)⟩
 ·refine e4_5 h ?_
  clear h
  intro m x4 x5 pre ez1 h1 h2 h3 h4
  subst ez1
  rw [List.append_nil] at h1
  subst h1
  have hl:m.length≤sizeLine:=Nat.le_trans h4 hs
  refine ⟨hl,Nat.lt_of_le_of_lt hl (by decide),iB (fun q=>?_) fun q=>?_⟩
  ·have q:m.length=1:=by have:=eq_of_beq q;(clear hl h2 h4 hs;lia)
   refine e1_1 (len1 q) ?_
   intro d ez2
   subst ez2
   exact ⟨Int.le_refl 0,some [d],rfl,.all _ h2 h3 h4⟩
  ·have q:m.length≠1:=fun e=>by rw [e] at q;cases q
   refine ⟨hl,some m,?_,.all _ h2 h3 h4⟩
   rw [cj_con q];rfl
 ·refine e4_5 h ?_
  clear h
  intro m x4 x5 pre ez3 h1 h2 h3 h4
  subst ez3
  have step:∀ ls m' x4 x5,o=some ls→(∀ e,e∈m'↔e∈m∨e∈ls)→m'.length≤m.length+ls.length →
    K [some (.im (.str (cw a))),some (.fz (.lst (os.map (cj a)))),some (.im (con (!a) [])),some (.own (.ddc m')),x4,x5,none]:=fun ls m' x4 x5 ho hm hl=>by
   subst ho
   refine hK _ ⟨m',x4,x5,pre++[some ls],rfl,by rw [h1,List.append_assoc];rfl,fun q=>?_,fun e=>?_,?_⟩
   ·rcases List.mem_append.mp q with q | q
    ·exact h2 q
    ·cases List.mem_singleton.mp q
   ·rw [hm,h3]
    constructor
    ·rintro (⟨l',p,q⟩ | q)
     ·exact ⟨l',List.mem_append_left _ p,q⟩
     ·exact ⟨ls,List.mem_append_right _ (List.mem_singleton.mpr rfl),q⟩
    ·intro rz1
     obtain ⟨l',p,q⟩:=rz1
     rcases List.mem_append.mp p with p | p
     ·exact .inl ⟨l',p,q⟩
     ·cases List.mem_singleton.mp p;exact .inr q
   ·have:tot (some ls::l)=ls.length+tot l:=rfl
    (clear h2 hs;lia)
  have hE':∀ ls,o=some ls→∀ e∈ls,El a e:=fun ls ho=>hE ls (by rw [h1,ho];exact List.mem_append_right _ (List.mem_cons_self ..))
  have hml:∀ ls,o=some ls→m.length+ls.length≤sizeLine:=fun ls ho=>by
   clear step;subst ho
   exact Nat.le_trans (Nat.add_le_add_left (Nat.le_add_right _ (tot l)) _) (Nat.le_trans h4 hs)
  have many:∀ ls,o=some ls→cj a o=con a ls→tgW (.one 4) (cj a o) [some (.im (.str (cw a))),some (.fz (.lst (os.map (cj a)))),some (.im (con (!a) [])),some (.own (.ddc m)),x4,x5,none]
    fun ρ2=>wpSs B 2 (.cons (.ife (.tc .Eq (.nm 4) (.nm 2)) (.cons (.ret (.nm 2)) .nil) .nil) (.cons (.ife (.tc .Eq (.sbc (.nm 4) 0) (.nm 0)) (.cons (.for_ (.one 5) (.sbc (.nm 4) 1) (.cons (.dsd 3 (.nm 5)) .nil)) .nil) (.cons (.dsd 3 (.nm 4)) .nil)) .nil)) ρ2
     (flW (sqW (RetOk fun q=>∃ o,q=.im (cj a o)∧JoinR os o) fun ρ'=>wpSs B 2 (.cons (.asg 6 (.bui .lst (.cons (.nm 3) .nil))) (.cons (.ife (.tc .Eq (.bui .len (.cons (.nm 6) .nil)) (.ci 1)) (.cons (.ret (.sbc (.nm 6) 0)) .nil) .nil) (.cons (.ret (.tup (.cons (.nm 0) (.cons (.bui .tup (.cons (.nm 6) .nil)) .nil)))) .nil))) ρ' (RetOk fun q=>∃ o,q=.im (cj a o)∧JoinR os o)) K):=fun ls ho ec=>by
   have he:=hE' ls ho
   rw [ec]
   refine ⟨by decide,Nat.max_le.mpr ⟨Nat.zero_le _,Nat.max_le.mpr ⟨Nat.succ_le_succ (Nat.le_trans (depL_of fun e h=>(he e h).dep) (by decide)),Nat.zero_le _⟩⟩,D.ksL_of _ ?_,rfl,?_⟩
   ·show (D.kkL ls&&true)=true
    rw [kkL_of fun e h=>(he e h).kk];rfl
   ·refine iF ?_ ?_
    ·show (cw a == cw (!a)&&_)=false
     rw [cw_ne];rfl
    ·refine iT (beq_self_eq_true (cw a)) ?_
     refine loopI (fun l ρ=>∃ m' x5,ρ=[some (.im (.str (cw a))),some (.fz (.lst (os.map (cj a)))),some (.im (con (!a) [])),some (.own (.ddc m')),some (.im (con a ls)),x5,none]∧(∃ pre,ls=pre++l∧∀ e,e∈m'↔e∈m∨e∈pre)∧m'.length+l.length≤m.length+ls.length)
      (fun ρ h=>?_) (fun e l' ρ h K' hK'=>?_) ls _ ⟨m,x5,rfl,⟨[],rfl,fun e=>⟨.inl,fun h=>h.elim id nofun⟩⟩,Nat.le_refl _⟩
     ·refine e2_3 h ?_
      clear h
      intro m' x5 ez4 ez5 hl
      subst ez4
      obtain ⟨pre,hp,hm⟩:=ez5
      rw [List.append_nil] at hp
      subst hp
      exact step _ _ _ _ ho hm hl
     ·refine e2_3 h ?_
      clear h
      intro m' x5 ez6 ez7 hl
      clear ec step h4 hK hs hE;subst ez6
      obtain ⟨pre,hp,hm⟩:=ez7
      obtain ⟨k,r,rfl,_,hd,hk,_⟩:=he e (by rw [hp];exact List.mem_append_right _ (List.mem_cons_self ..))
      have:=hml ls ho
      rw [List.length_cons] at hl
      refine ⟨by decide,Nat.max_le.mpr ⟨Nat.zero_le _,hd⟩,hk,Nat.le_trans (Nat.le_trans (Nat.le_add_right _ _) hl) this,hK' _ ⟨_,_,rfl,⟨pre++[.tup (.str k::r)],by rw [hp,List.append_assoc];rfl,fun e=>?_⟩,?_⟩⟩
      ·rw [mem_dAdd,hm,List.mem_append,List.mem_singleton,or_assoc]
      ·have:=dAdd_len (m:=m') (d:=.tup (.str k::r));exact Nat.le_trans (Nat.add_le_add_right this _) (by rw [Nat.add_assoc,Nat.add_comm 1];exact hl)
  cases o with
  | none =>
   refine ⟨by decide,show 1≤16 by decide,rfl,rfl,iT ?_ ⟨none,rfl,.no (by rw [h1];exact List.mem_append_right _ (List.mem_cons_self ..))⟩⟩
   exact (D.beqL_iff _ _).mpr rfl
  | some ls=>cases ls with
   | nil=>exact many _ rfl rfl
   | cons e ls=>cases ls with
    | cons _ _=>exact many _ rfl rfl
    | nil =>
     obtain ⟨k,r,rfl,hw,hd,hk,hne⟩:=hE' _ rfl e (List.mem_cons_self ..)
     refine ⟨by decide,Nat.max_le.mpr ⟨Nat.zero_le _,Nat.le_trans hd (by decide)⟩,D.ksL_of _ hk,rfl,iF ?_ ?_⟩
     ·cases q:D.beqL (.str k::r) [.str (cw (!a)),.tup []] with
      | false=>exact q
      | true=>exact absurd (congrArg D.tup ((D.beqL_iff _ _).mp q)) hne
     ·refine optW.of (pyAt_zero _ _) ?_
      refine iF hw ?_
      refine ⟨by decide,Nat.max_le.mpr ⟨Nat.zero_le _,hd⟩,hk,?_,step _ _ _ _ rfl (fun e=>by rw [mem_dAdd,List.mem_singleton]) dAdd_len⟩
      exact Nat.le_trans (Nat.le_add_right _ _) (hml _ rfl)
theorem sp_joined {a:Bool} {os:List (Option (List D))} (hE:∀ l,some l∈os→∀ e∈l,El a e) (hs:tot os≤sizeLine) :
  Spec B "joined" NoX 3 [.im (.str (cw a)),.ct (.lst (os.map (cj a)))] fun q=>∃ o,q=.im (cj a o)∧JoinR os o :=
 .of_vc C.toEn F_joined b_joined C.f_joined k_joined rfl <| by
  cases a with
  | true=>exact joined_loop hE hs
  | false=>exact joined_loop hE hs
end
end Mine
end

section
open PySem PySem.W PyProof.Rows PySem.Calls PyProof
set_option backward.match.sparseCases false
set_option tactic.hygienic false
namespace Mine
structure A where
 t:At
 c:Int
 f:Fn
noncomputable def A.d (W:List Str) (a:A):D:=aD W a.t a.c a.f
noncomputable def A.ok (W:List Str) (a:A) (v:Fn):Prop:=a.t.ok (val W a.c a.f v)
noncomputable def tmD (v:Fn):D→Int
 | .tup [.str x,.int k]=>k*v x
 | _=>0
theorem dot_sL {f v:Fn}:∀ W:List Str,dot W f v=((sL W f).map (tmD v)).sum
 | []=>rfl
 | y::W=>by
  have ih:=dot_sL (f:=f) (v:=v) W
  unfold sL sN at *
  rw [List.filter_cons,dot_cons,ih]
  by_cases h:f y=0
  ·rw [if_neg (by rw [h];nofun),h,Int.zero_mul,Int.zero_add]
  ·rw [if_pos (bne_iff_ne.mpr h),List.map_cons,List.map_cons,List.sum_cons];rfl
theorem sD_val {W:List Str} {c d:Int} {f g v:Fn} (h:sD W c f=sD W d g):val W c f v=val W d g v:=by
 unfold val
 rw [dot_sL,dot_sL]
 injection h with h
 injection h with h1 h2
 injection h1 with h1
 injection h2 with h2
 injection h2 with h2
 rw [h1,h2]
noncomputable def kD:D→Str
 | .tup (.str k::_)=>k
 | _=>""
theorem tup2 {a b c d:D} (h:D.tup [a,b]=.tup [c,d]):b=d:=by cases h;rfl
theorem tup3 {a b e c d f:D} (h:D.tup [a,b,e]=.tup [c,d,f]):b=d∧e=f:=by cases h;exact ⟨rfl,rfl⟩
theorem A.ok_congr {W:List Str} {a b:A} {v:Fn} (h:a.d W=b.d W):a.ok W v→b.ok W v:=by
 obtain ⟨t,c,f⟩:=a
 obtain ⟨t',c',f'⟩:=b
 have hk:=congrArg kD h
 have two:sD W c f=sD W c' f'→val W c f v=val W c' f' v:=sD_val
 cases t with
 | ab=>cases t' with
  | ab=>intro (q:0<val W c f v);show 0<val W c' f' v;rw [← two (tup2 h)];exact q
  | no=>exact absurd hk (by show ¬ ("above":Str)="nought";decide +kernel)
  | go m=>exact absurd hk (by show ¬ ("above":Str)="goes";decide +kernel)
 | no=>cases t' with
  | no=>intro (q:val W c f v=0);show val W c' f' v=0;rw [← two (tup2 h)];exact q
  | ab=>exact absurd hk (by show ¬ ("nought":Str)="above";decide +kernel)
  | go m=>exact absurd hk (by show ¬ ("nought":Str)="goes";decide +kernel)
 | go m=>cases t' with
  | ab=>exact absurd hk (by show ¬ ("goes":Str)="above";decide +kernel)
  | no=>exact absurd hk (by show ¬ ("goes":Str)="nought";decide +kernel)
  | go m' =>
   refine e0_2 (tup3 h) ?_
   intro h1 h2
   injection h1 with h1
   intro (q:m ∣ val W c f v)
   show m' ∣ val W c' f' v
   rw [← two h2,← h1];exact q
theorem A.el {W:List Str} (a:A) (b:Bool):El b (a.d W):=by
 obtain ⟨t,c,f⟩:=a
 have hd:(sD W c f).dep≤3:=Nat.succ_le_succ (Nat.max_le.mpr ⟨Nat.zero_le _,Nat.max_le.mpr ⟨Nat.succ_le_succ sL_dep,Nat.zero_le _⟩⟩)
 have hk:(sD W c f).kk=true:=by
  show (true&&(D.kkL (sL W f)&&true))=true
  rw [sL_kk];rfl
 have hk1:D.kkL [sD W c f]=true:=by show ((sD W c f).kk&&true)=true;rw [hk];rfl
 have h1:D.depL [sD W c f]≤7:=Nat.max_le.mpr ⟨Nat.le_trans hd (by decide),Nat.zero_le _⟩
 cases t with
 | ab=>exact ⟨_,_,rfl,by cases b <;> decide +kernel,h1,hk1,fun e=>absurd (congrArg kD e) (by cases b <;> (show ¬ ("above":Str)=_;decide +kernel))⟩
 | no=>exact ⟨_,_,rfl,by cases b <;> decide +kernel,h1,hk1,fun e=>absurd (congrArg kD e) (by cases b <;> (show ¬ ("nought":Str)=_;decide +kernel))⟩
 | go m=>exact ⟨_,_,rfl,by cases b <;> decide +kernel,Nat.max_le.mpr ⟨Nat.zero_le _,h1⟩,hk1,fun e=>absurd (congrArg kD e) (by cases b <;> (show ¬ ("goes":Str)=_;decide +kernel))⟩
inductive Cj (W:List Str) (P:A→Prop) (N:Nat) (den:Fn→Prop):D→Prop
 | no (h:∀ v,¬ den v):Cj W P N den (con false [])
 | all (la:List A) (hP:∀ a∈la,P a) (hN:la.length≤N) (hd:∀ v,den v↔∀ a∈la,a.ok W v):Cj W P N den (cj true (some (la.map (A.d W))))
theorem Cj.imp {W:List Str} {P P':A→Prop} {N N':Nat} {den den':Fn→Prop} {q:D} (h:Cj W P N den q) (hP:∀ a,P a→P' a) (hN:N≤N') (hd:∀ v,den v↔den' v):Cj W P' N' den' q:=by
 cases h with
 | no h=>exact .no fun v q=>h v ((hd v).mpr q)
 | all la h1 h2 h3=>exact .all la (fun a ha=>hP a (h1 a ha)) (Nat.le_trans h2 hN) fun v=>(hd v).symm.trans (h3 v)
theorem lift_list {W:List Str} {P:A→Prop}:∀ {L:List D},(∀ e∈L,∃ b,P b∧e=A.d W b)→∃ lb:List A,L=lb.map (A.d W)∧∀ b∈lb,P b
 | [],_=>⟨[],rfl,nilAll⟩
 | e::L,h=>by
  refine e1_2 (lift_list (L:=L) fun e he=>h e (List.mem_cons_of_mem _ he)) ?_
  intro lb ez1 h1
  subst ez1
  refine e1_2 (h e (List.mem_cons_self ..)) ?_
  intro b hb ez2
  clear h;subst ez2
  exact ⟨b::lb,rfl,fun x hx=>(List.mem_cons.mp hx).elim (fun q=>q▸hb) (h1 x)⟩
section
variable {B:Bs} (C:Cx B) {W:List Str} (w:Wd W) {P:A→Prop}
include C
theorem sp_joinAnd {α:Type} {l:List α} {g:α→D} {N:Nat} {den:α→Fn→Prop} (h:∀ a∈l,Cj W P N (den a) (g a)) (hs:l.length*N≤sizeLine) :
  Spec B "joined" NoX 3 [.im (.str (cw true)),.ct (.lst (l.map g))] fun q=>∃ q',q=.im q'∧Cj W P (l.length*N) (fun v=>∀ a∈l,den a v) q':=by
 have ex:∀ a,∃ o:Option (List D),a∈l→g a=cj true o∧((o=none∧∀ v,¬ den a v)∨∃ la:List A,o=some (la.map (A.d W))∧(∀ b∈la,P b)∧la.length≤N∧∀ v,den a v↔∀ b∈la,b.ok W v):=fun a=>by
  by_cases ha:a∈l
  ·have q:=h a ha
   generalize g a=z at q
   clear ha hs h;cases q with
   | no q=>exact ⟨none,fun _=>⟨rfl,.inl ⟨rfl,q⟩⟩⟩
   | all la h1 h2 h3=>exact ⟨some (la.map (A.d W)),fun _=>⟨rfl,.inr ⟨la,rfl,h1,h2,h3⟩⟩⟩
  ·exact ⟨none,fun q=>absurd q ha⟩
 refine e1_1 (Classical.axiomOfChoice ex) ?_
 intro φ hφ
 have e:l.map g=(l.map φ).map (cj true):=by
  rw [List.map_map]
  exact List.map_congr_left fun a ha=>(hφ a ha).1
 have hm:∀ ls,some ls∈l.map φ→∃ a∈l,∃ la:List A,ls=la.map (A.d W)∧φ a=some ls∧(∀ b∈la,P b)∧la.length≤N∧∀ v,den a v↔∀ b∈la,b.ok W v:=fun ls hl=>by
  refine e1_2 (List.mem_map.mp hl) ?_
  intro a ha q
  rcases (hφ a ha).2 with ⟨p,_⟩ | ⟨la,p,h1,h2,h3⟩
  ·rw [p] at q;clear hl;cases q
  ·exact ⟨a,ha,la,by rw [p] at q;clear h3 h1 p hl ex h;cases q;rfl,q,h1,h2,h3⟩
 have ht:∀ m:List α,(∀ a∈m,a∈l)→tot (m.map φ)≤m.length*N:=fun m=>by
  induction m with
  | nil=>intro _;exact Nat.zero_le _
  | cons a m ih =>
   intro hm'
   have h1:((φ a).getD []).length≤N:=by
    rcases (hφ a (hm' a (List.mem_cons_self ..))).2 with ⟨p,_⟩ | ⟨la,p,_,h2,_⟩
    ·rw [p];exact Nat.zero_le _
    ·rw [p];show (la.map _).length≤N;rw [List.length_map];exact h2
   have h2:=ih fun x hx=>hm' x (List.mem_cons_of_mem _ hx)
   rw [List.map_cons,List.length_cons,Nat.succ_mul]
   show ((φ a).getD []).length+tot (m.map φ)≤_
   (clear hs;lia)
 have ht:=ht l fun _ x=>x
 rw [e]
 refine (sp_joined C (a:=true) (os:=l.map φ) (fun ls hl e he=>?_) (Nat.le_trans ht hs)).ex fun o hr=>?_
 ·refine e1_2 (hm ls hl) ?_
  intro a ha ez3
  refine e1_2 ez3 ?_
  clear ez3
  intro la ez4 _
  clear a_1 hl ex h;subst ez4
  refine e1_2 (List.mem_map.mp he) ?_
  intro b _ ez5
  (try clear a_2;try clear a_1;try clear he;try clear hl;try clear ex;try clear h);subst ez5
  exact b.el true
 ·refine ⟨_,rfl,?_⟩
  cases hr with
  | no hn =>
   refine e1_2 (List.mem_map.mp hn) ?_
   intro a ha q
   rcases (hφ a ha).2 with ⟨p,hv⟩ | ⟨la,p,_⟩
   ·exact .no fun v hd=>hv v (hd a ha)
   ·rw [p] at q;cases q
  | all L hn he hl =>
   obtain ⟨lb,rfl,hb⟩:=lift_list (W:=W) (P:=P) (L:=L) fun e h=>by
    refine e1_2 ((he e).mp h) ?_
    intro ls h1 h2
    refine e1_2 (hm ls h1) ?_
    intro a ha ez6
    refine e1_4 ez6 ?_
    clear ez6
    intro la ez7 _ hP _
    clear a_2 a_1 h1 ex;subst ez7
    refine e1_2 (List.mem_map.mp h2) ?_
    intro b hb ez8
    (try clear a_1;try clear h1;try clear a_2;try clear ex;try clear h);subst ez8
    exact ⟨b,hP b hb,rfl⟩
   rw [List.length_map] at hl
   refine .all lb hb (Nat.le_trans hl ht) fun v=>⟨fun hd b hb'=>?_,fun hd a ha=>?_⟩
   ·refine e1_2 ((he _).mp (List.mem_map.mpr ⟨b,hb',rfl⟩)) ?_
    intro ls h1 h2
    refine e1_2 (hm ls h1) ?_
    intro a ha ez9
    refine e1_5 ez9 ?_
    clear ez9
    intro la ez10 _ _ _ hden
    clear a_3 a_2 a_1 h1 he hm ex h;subst ez10
    refine e1_2 (List.mem_map.mp h2) ?_
    intro b' hb2 q
    exact A.ok_congr q ((hden v).mp (hd a ha) b' hb2)
   ·rcases (hφ a ha).2 with ⟨p,_⟩ | ⟨la,p,_,_,hden⟩
    ·exact absurd (List.mem_map.mpr ⟨a,ha,p⟩) hn
    ·refine (hden v).mpr fun b hb'=>?_
     refine e1_2 (List.mem_map.mp ((he (b.d W)).mpr ⟨_,List.mem_map.mpr ⟨a,ha,p⟩,List.mem_map.mpr ⟨b,hb',rfl⟩⟩)) ?_
     intro b' hb2 q
     exact A.ok_congr q (hd b' hb2)
omit C in
theorem SpecA.to {g:Addr} {n:Nat} {ags:List Ag} {P Q:Rs→Prop} (h:SpecA B g NoX n ags P) (q:∀ r,P r→Q r):SpecA B g NoX n ags Q:=by
 refine e2_3 h ?_
 clear h
 intro o fd h2 h3 h4
 refine ⟨o,fd,h2,h3,fun A s vs b a hl hv=>codeAny_mono (h4 A s vs b a hl hv) fun r s' x=>?_⟩
 cases r with
 | error e=>exact x
 | ok r=>cases r with
  | ret v=>obtain ⟨r,h5,h6⟩:=x;exact ⟨r,q r h5,h6⟩
  | next=>exact x.elim
  | brk=>exact x.elim
  | cont=>exact x.elim
theorem sp_mapped1 {g:Addr} {n:Nat} {a:A} {Q:D→Prop} (hg:SpecA B g NoX n [.im (a.d W)] fun q=>∃ q',q=.im q'∧Q q'):Spec B "mapped" NoX (n+1) [.im (a.d W),.ct (.fn g)] fun q=>∃ q',q=.im q'∧Q q' :=
 .of_vc C.toEn F_mapped b_mapped C.f_mapped k_mapped rfl <| by
  obtain ⟨t,c,f⟩:=a
  cases t with
  | ab=>exact hg.to fun r h=>by obtain ⟨q',rfl,h⟩:=h;exact ⟨q',rfl,h⟩
  | no=>exact hg.to fun r h=>by obtain ⟨q',rfl,h⟩:=h;exact ⟨q',rfl,h⟩
  | go m=>exact hg.to fun r h=>by obtain ⟨q',rfl,h⟩:=h;exact ⟨q',rfl,h⟩
theorem sp_mapped {g:Addr} {n N:Nat} (hn:2≤n) {la:List A} {den:A→Fn→Prop} (hs:la.length*N≤sizeLine) (hs2:la.length≤sizeLine) (hg:∀ a∈la,SpecA B g NoX n [.im (a.d W)] fun q=>∃ q',q=.im q'∧Cj W P N (den a) q') :
  Spec B "mapped" NoX (n+2) [.im (cj true (some (la.map (A.d W)))),.ct (.fn g)] fun q=>∃ q',q=.im q'∧Cj W P (la.length*N) (fun v=>∀ a∈la,den a v) q':=by
 by_cases h1:la.length=1
 ·refine e1_1 (len1 h1) ?_
  intro a ez11
  subst ez11
  exact (sp_mapped1 C (hg a (List.mem_cons_self ..))).to fun r h=>by
   refine e1_2 h ?_
   clear h
   intro q' ez12 h
   subst ez12
   exact ⟨q',rfl,h.imp (fun _ x=>x) (Nat.le_of_eq (Nat.one_mul N).symm) fun v=>⟨fun h b hb=>(List.mem_singleton.mp hb)▸h,fun h=>h a (List.mem_cons_self ..)⟩⟩
 ·rw [cj_con (by rw [List.length_map];exact h1)]
  refine .of_vc C.toEn F_mapped b_mapped C.f_mapped k_mapped rfl ?_
  refine compM (fun l ac=>∃ ps:List (A×D),ac=ps.map (·.2)∧la=ps.map (·.1)++l∧∀ p∈ps,Cj W P N (den p.1) p.2) (fun ac h=>?_) (fun a l ac h K _ k1=>?_) la [] ⟨[],rfl,rfl,nilAll⟩
  ·refine e1_3 h ?_
   clear h
   intro ps ez13 h2 h3
   subst ez13
   rw [List.append_nil] at h2
   have e:ps.length=la.length:=by rw [h2,List.length_map]
   refine (sp_joinAnd C (l:=ps) (g:=fun p=>p.2) (den:=fun p=>den p.1) h3 (by rw [e];exact hs)).ex fun q' h=>?_
   refine ⟨q',rfl,h.imp (fun _ x=>x) (by rw [e];exact Nat.le_refl _) fun v=>⟨fun h a ha=>?_,fun h p hp=>?_⟩⟩
   ·rw [h2] at ha
    refine e1_2 (List.mem_map.mp ha) ?_
    intro p hp ez14
    clear ha;subst ez14
    exact h p hp
   ·exact h p.1 (by rw [h2];exact List.mem_map.mpr ⟨p,hp,rfl⟩)
  ·refine e1_3 h ?_
   clear h
   intro ps ez15 h2 h3
   subst ez15
   refine (sp_mapped1 C (hg a (by rw [h2];exact List.mem_append_right _ (List.mem_cons_self ..)))).ex fun q' h=>?_
   refine k1 q' ?_ ⟨ps++[(a,q')],?_,?_,fun p hp=>?_⟩
   ·rw [h2,List.length_append,List.length_map] at hs2
    rw [List.length_map];(clear h1 hs hn;lia)
   ·rw [List.map_append];rfl
   ·rw [h2,List.map_append,List.append_assoc];rfl
   ·rcases List.mem_append.mp hp with hp | hp
    ·exact h3 p hp
    ·cases List.mem_singleton.mp hp;exact h
include w
noncomputable def NeatP (W:List Str) (k:Nat) (la:List A) (b:A):Prop:=∃ a∈la,Bd k b.c b.f∧NeatK W a.f b.f b.t a.t
noncomputable def A.Ok (k:Nat) (a:A):Prop:=Bd k a.c a.f∧∀ m,a.t=.go m→0<m∧Lv k m
theorem sp_neat {k:Nat} (hk:k≤80) {la:List A} (hl:la.length≤4) (ha:∀ a∈la,a.Ok k):Spec B "neat" NoX 7 [.im (cj true (some (la.map (A.d W))))] fun q=>∃ q',q=.im q'∧Cj W (NeatP W k la) la.length (fun v=>∀ a∈la,a.ok W v) q' :=
 .of_vc C.toEn F_neat b_neat C.f_neat k_neat rfl <| by
  intro g hg
  refine (sp_mapped C (W:=W) (P:=NeatP W k la) (N:=1) (den:=fun a v=>a.ok W v) (n:=4) (by decide) (by rw [Nat.mul_one];exact Nat.le_trans hl (by decide)) (Nat.le_trans hl (by decide)) fun a h=>?_).to fun r h=>?_
  ·refine ((sp_neat_atom C w (t:=a.t) (ha a h).1 hk (ha a h).2).toA hg).to fun r hr=>?_
   refine e1_2 hr ?_
   clear hr
   intro o ez16 hr
   subst ez16
   refine ⟨_,rfl,?_⟩
   cases hr with
   | no q=>exact .no q
   | yes q=>exact .all [] nilAll (Nat.zero_le _) fun v=>⟨fun _=>nilAll,fun _=>q v⟩
   | «at» t' c' f' q1 q2 q3=>exact .all [⟨t',c',f'⟩] (fun b hb=>by cases List.mem_singleton.mp hb;exact ⟨a,h,q2,q3⟩) (Nat.le_refl 1) fun v=>⟨fun q b hb=>by cases List.mem_singleton.mp hb;exact (q1 v).mpr q,fun q=>(q1 v).mp (q _ (List.mem_cons_self ..))⟩
  ·refine e1_2 h ?_
   clear h
   intro q' ez17 h
   subst ez17
   exact ⟨q',rfl,h.imp (fun _ x=>x) (Nat.le_of_eq (Nat.mul_one _)) fun v=>Iff.rfl⟩
end
end Mine
end

section
open PySem PySem.W PyProof.Rows PySem.Calls PyProof
set_option backward.match.sparseCases false
set_option tactic.hygienic false
namespace Mine
theorem sD_const {W:List Str} (c:Int):sD W c (fun _=>0)=.tup [.int c,.tup []]:=by
 have:sN W (fun _=>0)=[]:=List.filter_eq_nil_iff.mpr fun _ _=>nofun
 unfold sD sL;rw [this];rfl
section
variable {B:Bs} (C:Cx B) {W:List Str} (w:Wd W)
include C
theorem sp_atoms1 {a:A}:Spec B "atoms_of" NoX 1 [.im (a.d W)] fun q=>q=.fr (.lst [a.d W]) :=
 .of_vc C.toEn F_atoms_of b_atoms_of C.f_atoms_of k_atoms_of rfl <| by
  obtain ⟨t,c,f⟩:=a
  cases t <;> rfl
theorem sp_atomsC {b:Bool} {la:List A} (hl:la.length≤4):Spec B "atoms_of" NoX 2 [.im (con b (la.map (A.d W)))] fun q=>q=.fr (.lst (la.map (A.d W))) :=
 .of_vc C.toEn F_atoms_of b_atoms_of C.f_atoms_of k_atoms_of rfl <| by
  have main:loopW (.one 2) (fun ρ Q=>wpSs B 1 (.cons (.ext 1 (.call "atoms_of" (.cons (.nm 2) .nil))) .nil) ρ Q) (sqW (RetOk fun q=>q=.fr (.lst (la.map (A.d W)))) fun ρ'=>wpSs B 1 (.cons (.ret (.nm 1)) .nil) ρ' (RetOk fun q=>q=.fr (.lst (la.map (A.d W)))))
    (la.map (A.d W)) [some (.im (con b (la.map (A.d W)))),some (.own (.lst [])),none]:=by
   refine loopM (fun l ρ=>∃ pre x,ρ=[some (.im (con b (la.map (A.d W)))),some (.own (.lst (pre.map (A.d W)))),x]∧la=pre++l) (fun ρ h=>?_) (fun a l ρ h K hK=>?_) la _ ⟨[],_,rfl,rfl⟩
   ·refine e2_2 h ?_
    clear h
    intro pre x ez1 h
    subst ez1
    rw [List.append_nil] at h
    subst h;rfl
   ·refine e2_2 h ?_
    clear h
    intro pre x ez2 h
    subst ez2
    refine (sp_atoms1 C).eq ?_
    refine ⟨?_,hK _ ⟨pre++[a],_,by rw [List.map_append];rfl,by rw [h,List.append_assoc];rfl⟩⟩
    rw [h,List.length_append,List.length_cons] at hl
    rw [List.length_map]
    exact Nat.le_trans (show pre.length+1≤4 by lia) (by decide)
  cases b with
  | true=>exact main
  | false=>exact main
theorem sp_atoms {la:List A} (hl:la.length≤4):Spec B "atoms_of" NoX 2 [.im (cj true (some (la.map (A.d W))))] fun q=>q=.fr (.lst (la.map (A.d W))):=by
 by_cases h1:la.length=1
 ·refine e1_1 (len1 h1) ?_
  intro a ez3
  clear h1 hl;subst ez3
  exact (sp_atoms1 C).eq rfl
 ·rw [cj_con (by rw [List.length_map];exact h1)]
  exact sp_atomsC C hl
theorem sp_standsL {q0:D} {la:List A} {x:Str} (hx:x∈W) (hl:la.length≤4) (h:Spec B "atoms_of" NoX 2 [.im q0] fun q=>q=.fr (.lst (la.map (A.d W)))):Spec B "stands" NoX 3 [.im (.str x),.im q0] fun q=>q=.im (.bool (la.any fun a=>a.f x != 0)) :=
 .of_vc C.toEn F_stands b_stands C.f_stands k_stands rfl <| by
  refine h.eq ?_
  have e:la.filterMap (fun a=>some (D.bool (a.f x != 0)))=(la.map fun a=>a.f x != 0).map .bool:=by rw [fm_some (fun a:A=>D.bool (a.f x != 0)),List.map_map];rfl
  refine comp_of (fun a=>some (.bool (a.f x != 0))) (fun a _ K hK=>?_) ?_ ?_
  ·have hs:=fun {Q:Rs→Prop} (q:Q (.im (.int (a.f x))))=>(sp_share C (W:=W) (c:=a.c) (f:=a.f) (x:=x) (.inl hx)).eq (n:=2) (Q:=Q) q
   obtain ⟨t,c,f⟩:=a
   cases t with
   | ab=>exact hs hK
   | no=>exact hs hK
   | go m=>exact hs hK
  ·rw [e,List.length_map,List.length_map];exact Nat.le_trans hl (by decide)
  ·rw [e]
   exact ⟨_,rfl,by rw [List.any_map];rfl⟩
theorem sp_stands {la:List A} {x:Str} (hx:x∈W) (hl:la.length≤4):Spec B "stands" NoX 3 [.im (.str x),.im (cj true (some (la.map (A.d W))))] fun q=>q=.im (.bool (la.any fun a=>a.f x != 0)):=sp_standsL C hx hl (sp_atoms C hl)
theorem sp_stands0 {x:Str} (hx:x∈W):Spec B "stands" NoX 3 [.im (.str x),.im (con false [])] fun q=>q=.im (.bool false):=sp_standsL C (W:=W) (la:=[]) hx (by decide) (sp_atomsC C (la:=[]) (by decide))
include w
theorem sp_one_add {c:Int} {f:Fn}:Spec B "added" NoX 2 [.im (.tup [.int 1,.tup []]),.im (sD W c f)] fun q=>q=.im (sD W (1+c) f):=by
 rw [← sD_const (W:=W) 1]
 refine (sp_added C w).eq ?_
 show Rs.im _=_
 rw [sD_congr fun x _=>Int.zero_add (f x)]
noncomputable def A.ng (a:A):A:=⟨.ab,1 + -1*a.c,fun x => -1*a.f x⟩
omit C w in
theorem lvM1:Lv 1 (-1):=by unfold Lv;decide +kernel
theorem sp_as_above {c:Int} {f:Fn} (hb:Bd 40 c f):Spec B "as_above" NoX 3 [.im (sD W c f),.im (.bool true)] fun q=>q=.im (con true [aD W .ab (1+c) f,aD W .ab (1 + -1*c) fun x => -1*f x]) :=
 .of_vc C.toEn F_as_above b_as_above C.f_as_above k_as_above rfl <| by
  refine (sp_one_add C w).eq ?_
  refine (sp_times C w (lvM1.mono (by decide)) hb).eq ?_
  exact (sp_one_add C w).eq rfl
end
end Mine
end

section
open PySem PySem.W PyProof.Rows PySem.Calls PyProof
set_option backward.match.sparseCases false
set_option tactic.hygienic false
namespace Mine
noncomputable def bq (b:Bool) (ps:List (D×(Fn→Prop))) (v:Fn):Prop:=match b with
 | true=>∀ p∈ps,p.2 v
 | false=>∃ p∈ps,p.2 v
noncomputable def Tr (W:List Str) (P:A→Prop):Nat→D→(Fn→Prop)→Prop
 | 0,d,den=>∃ a:A,d=a.d W∧P a∧∀ v,den v↔a.ok W v
 | n+1,d,den=>(∃ a:A,d=a.d W∧P a∧∀ v,den v↔a.ok W v)∨∃ (b:Bool) (ps:List (D×(Fn→Prop))),d=con b (ps.map (·.1))∧ps.length≤sizeLine∧(∀ p∈ps,Tr W P n p.1 p.2)∧∀ v,den v↔bq b ps v
theorem bq_true {ps:List (D×(Fn→Prop))} {v:Fn}:bq true ps v↔∀ r∈ps.map (·.2),r v :=
 ⟨fun h r hr=>by obtain ⟨p,hp,rfl⟩:=List.mem_map.mp hr;exact h p hp,fun h p hp=>h _ (List.mem_map.mpr ⟨p,hp,rfl⟩)⟩
theorem bq_false {ps:List (D×(Fn→Prop))} {v:Fn}:bq false ps v↔∃ r∈ps.map (·.2),r v :=
 ⟨fun hz1=>by obtain ⟨p,hp,h⟩:=hz1;exact ⟨_,List.mem_map.mpr ⟨p,hp,rfl⟩,h⟩,fun hz2=>by obtain ⟨r,hr,h⟩:=hz2;obtain ⟨p,hp,rfl⟩:=List.mem_map.mp hr;exact ⟨p,hp,h⟩⟩
theorem bq_not {b:Bool} {ps qs:List (D×(Fn→Prop))} (h:qs.map (·.2)=ps.map fun p v=>¬ p.2 v) (v:Fn):¬ bq b ps v↔bq (!b) qs v:=by
 cases b with
 | true =>
  rw [show (!true)=false from rfl,bq_false,h]
  constructor
  ·intro q
   exact Classical.byContradiction fun z=>q fun p hp=>Classical.byContradiction fun y=>z ⟨_,List.mem_map.mpr ⟨p,hp,rfl⟩,y⟩
  ·rintro ⟨r,hr,q⟩ z
   refine e1_2 (List.mem_map.mp hr) ?_
   intro p hp ez1
   clear hr;subst ez1
   exact q (z p hp)
 | false =>
  rw [show (!false)=true from rfl,bq_true,h]
  constructor
  ·intro q r hr
   refine e1_2 (List.mem_map.mp hr) ?_
   intro p hp ez2
   clear hr;subst ez2
   exact fun y=>q ⟨p,hp,y⟩
  ·rintro z ⟨p,hp,y⟩
   exact z _ (List.mem_map.mpr ⟨p,hp,rfl⟩) y
theorem val_ng {W:List Str} {a:A} {v:Fn}:val W a.ng.c a.ng.f v=1-val W a.c a.f v:=by
 show 1 + -1*a.c+dot W (fun x => -1*a.f x) v=_
 unfold val;rw [dot_mul];lia
section
variable {B:Bs} (C:Cx B) {W:List Str} (w:Wd W)
include C w
theorem sp_pushT {a:A} {k:Bool} (h:k=true∨a.t≠.no):Spec B "pushed" NoX 1 [.im (a.d W),.im (.bool true),.im (.bool k)] fun q=>q=.im (a.d W) :=
 .of_vc C.toEn F_pushed b_pushed C.f_pushed k_pushed rfl <| by
  obtain ⟨t,c,f⟩:=a
  cases t with
  | ab=>rfl
  | go m=>rfl
  | no =>
   obtain rfl:=h.resolve_right fun q=>q rfl
   rfl
theorem sp_pushTC {b k:Bool} {la:List A} (hl:la.length≤4) (h:∀ a∈la,k=true∨a.t≠.no):Spec B "pushed" NoX 2 [.im (con b (la.map (A.d W))),.im (.bool true),.im (.bool k)] fun q=>q=.im (con b (la.map (A.d W))) :=
 .of_vc C.toEn F_pushed b_pushed C.f_pushed k_pushed rfl <| by
  have e:la.filterMap (fun a=>some (a.d W))=la.map (A.d W):=fm_some ..
  have hs:(la.map (A.d W)).length≤sizeLine:=by rw [List.length_map];exact Nat.le_trans hl (by decide)
  cases b with
  | true =>
   refine comp_of (fun a=>some (a.d W)) (fun a ha K hK=>?_) (by rw [e];exact hs) (by rw [e];exact ⟨hs,rfl⟩)
   exact (sp_pushT C w (h a ha)).eq hK
  | false =>
   refine comp_of (fun a=>some (a.d W)) (fun a ha K hK=>?_) (by rw [e];exact hs) (by rw [e];exact ⟨hs,rfl⟩)
   exact (sp_pushT C w (h a ha)).eq hK
theorem sp_pushNo {c:Int} {f:Fn} (hb:Bd 40 c f):Spec B "pushed" NoX 4 [.im (aD W .no c f),.im (.bool true),.im (.bool false)] fun q=>q=.im (con true [aD W .ab (1+c) f,aD W .ab (1 + -1*c) fun x => -1*f x]) :=
 .of_vc C.toEn F_pushed b_pushed C.f_pushed k_pushed rfl <| (sp_as_above C w hb).eq rfl
noncomputable def Ab (W:List Str) (Z:Str→Prop) (k:Nat) (a:A):Prop:=a.t=.ab∧Bd k a.c a.f∧∀ y∈W,Z y→a.f y=0
theorem sp_pushFa {i:Nat} {Z:Str→Prop} {a:A} {k:Bool} (hi:i≤40) (ha:Ab W Z i a):Spec B "pushed" NoX 3 [.im (a.d W),.im (.bool false),.im (.bool k)] fun q=>q=.im (a.ng.d W) :=
 .of_vc C.toEn F_pushed b_pushed C.f_pushed k_pushed rfl <| by
  obtain ⟨t,c,f⟩:=a
  refine e0_3 ha ?_
  clear ha
  intro ez3 hb _
  subst ez3
  refine (sp_times C w (lvM1.mono (by decide)) ⟨hb.1.mono hi,fun x=>(hb.2 x).mono hi⟩).eq ?_
  exact (sp_one_add C w).eq rfl
omit C w in
theorem lv1:Lv 0 0∧Lv 1 1:=by unfold Lv;decide +kernel
omit C w in
theorem Ab.ng {i:Nat} {Z:Str→Prop} {a:A} (h:Ab W Z i a):Ab W Z (i+2) a.ng:=by
 have q:∀ {j:Int},Lv i j→Lv (i+1) (-1*j):=fun {j} h=>by have:=lvM1.mul h;rw [Nat.add_comm] at this;exact this
 exact ⟨rfl,⟨Lv.add (lv1.2.mono (by lia)) (q h.2.1.1),fun x=>(q (h.2.1.2 x)).mono (by lia)⟩,fun y hy z=>by show -1*a.f y=0;rw [h.2.2 y hy z];rfl⟩
omit C w in
theorem ng_ok {a:A} {v:Fn} (h:a.t=.ab):a.ng.ok W v↔¬ a.ok W v:=by
 obtain ⟨t,c,f⟩:=a
 subst h
 show 0<val W _ _ v↔¬ 0<val W c f v
 rw [val_ng];show 0<1-val W c f v↔_;lia
theorem sp_pushF {i:Nat} {Z:Str→Prop} {k:Bool} (hi:i≤40):∀ {n:Nat} {d:D} {den:Fn→Prop},Tr W (Ab W Z i) n d den→Spec B "pushed" NoX (n+3) [.im d,.im (.bool false),.im (.bool k)] fun q=>∃ d',q=.im d'∧Tr W (Ab W Z (i+2)) n d' fun v=>¬ den v:=fun {n}=>by
 induction n with
 | zero =>
  rintro d den ⟨a,rfl,ha,hv⟩
  exact (sp_pushFa C w hi ha).eq ⟨_,rfl,a.ng,rfl,ha.ng,fun v=>(not_congr (hv v)).trans (ng_ok ha.1).symm⟩
 | succ n ih =>
  intro d den h
  rcases h with ⟨a,rfl,ha,hv⟩ | ⟨b,ps,rfl,hl,hp,hv⟩
  ·exact (sp_pushFa C w hi ha).eq ⟨_,rfl,.inl ⟨a.ng,rfl,ha.ng,fun v=>(not_congr (hv v)).trans (ng_ok ha.1).symm⟩⟩
  ·refine .of_vc C.toEn F_pushed b_pushed C.f_pushed k_pushed rfl ?_
   have I:=fun (Q:List D→Prop) (step:D→(Option D→Prop)→Prop) (h0:∀ qs:List (D×(Fn→Prop)),(∀ q∈qs,Tr W (Ab W Z (i+2)) n q.1 q.2)→qs.length=ps.length→qs.map (·.2)=ps.map (fun p v=>¬ p.2 v)→Q (qs.map (·.1)))
     (hs:∀ p∈ps,∀ K,(∀ d',Tr W (Ab W Z (i+2)) n d' (fun v=>¬ p.2 v)→K (some d'))→step p.1 K) =>
    compM (step:=step) (Q:=Q) (g:=fun p:D×(Fn→Prop)=>p.1) (fun l ac=>∃ (qs pre:List (D×(Fn→Prop))),ac=qs.map (·.1)∧(∀ q∈qs,Tr W (Ab W Z (i+2)) n q.1 q.2)∧ps=pre++l∧qs.map (·.2)=pre.map fun p v=>¬ p.2 v)
     (fun ac h=>by
      refine e2_4 h ?_
      clear h
      intro qs pre ez4 h1 h2 h3
      subst ez4
      rw [List.append_nil] at h2
      subst h2
      exact h0 qs h1 (by have:=congrArg List.length h3;rw [List.length_map,List.length_map] at this;exact this) h3)
     (fun p l ac h K _ k1=>by
      refine e2_4 h ?_
      clear h
      intro qs pre ez5 h1 h2 h3
      subst ez5
      refine hs p (by rw [h2];exact List.mem_append_right _ (List.mem_cons_self ..)) K fun d' hd=>k1 d' ?_ ⟨qs++[(d',fun v=>¬ p.2 v)],pre++[p],by rw [List.map_append];rfl,fun q hq=>?_,by rw [h2,List.append_assoc];rfl,by rw [List.map_append,List.map_append,h3];rfl⟩
      ·have:=congrArg List.length h3
       rw [List.length_map,List.length_map] at this
       rw [h2,List.length_append] at hl
       rw [List.length_map];(clear hi;lia)
      ·rcases List.mem_append.mp hq with hq | hq
       ·exact h1 q hq
       ·cases List.mem_singleton.mp hq;exact hd) ps [] ⟨[],[],rfl,nilAll,rfl,rfl⟩
   cases b with
   | true =>
    refine I _ _ (fun qs h1 h2 h3=>⟨by rw [List.length_map,h2];exact hl,_,rfl,.inr ⟨false,qs,rfl,h2▸hl,h1,fun v=>(not_congr (hv v)).trans (bq_not h3 v)⟩⟩) fun p h K hK=>?_
    exact (ih (hp p h)).to fun r hr=>by obtain ⟨d',rfl,hr⟩:=hr;exact hK d' hr
   | false =>
    refine I _ _ (fun qs h1 h2 h3=>⟨by rw [List.length_map,h2];exact hl,_,rfl,.inr ⟨true,qs,rfl,h2▸hl,h1,fun v=>(not_congr (hv v)).trans (bq_not h3 v)⟩⟩) fun p h K hK=>?_
    exact (ih (hp p h)).to fun r hr=>by obtain ⟨d',rfl,hr⟩:=hr;exact hK d' hr
end
end Mine
end

section
open PySem PySem.W PyProof.Rows PySem.Calls PyProof
set_option backward.match.sparseCases false
set_option tactic.hygienic false
namespace Mine
section
variable {B:Bs} (C:Cx B) {W:List Str} (w:Wd W) {P:A→Prop}
include C
theorem sp_inner1 {a:A}:Spec B "inner" NoX 1 [.im (a.d W)] fun q=>q=.fr (.lst []) :=
 .of_vc C.toEn F_inner b_inner C.f_inner k_inner rfl <| by
  obtain ⟨t,c,f⟩:=a
  cases t <;> exact ⟨["some","all"],rfl,rfl⟩
theorem sp_innerC {b:Bool} {l:List D} (hl:l.length≤sizeLine):Spec B "inner" NoX 1 [.im (con b l)] fun q=>q=.fr (.lst l) :=
 .of_vc C.toEn F_inner b_inner C.f_inner k_inner rfl <| by cases b <;> exact ⟨hl,rfl⟩
theorem sp_plain {n:Nat}:∀ {d:D} {den:Fn→Prop},Tr W P n d den→Spec B "is_plain" NoX (n+2) [.im d] fun q=>q=.im (.bool true):=by
 have at1:∀ (a:A) {n:Nat},Spec B "is_plain" NoX (n+2) [.im (a.d W)] fun q=>q=.im (.bool true):=fun a n =>
  .of_vc C.toEn F_is_plain b_is_plain C.f_is_plain k_is_plain rfl <| by
   have hi:=fun {Q:Rs→Prop} (q:Q (.fr (.lst [])))=>(sp_inner1 C (W:=W) (a:=a)).eq (n:=n+1) (Q:=Q) q
   obtain ⟨t,c,f⟩:=a
   cases t <;> exact ⟨["some","all"],rfl,hi rfl⟩
 induction n with
 | zero =>
  rintro d den ⟨a,rfl,_⟩
  exact at1 a
 | succ n ih =>
  rintro d den (⟨a,rfl,_⟩ | ⟨b,ps,rfl,hl,hp,hv⟩)
  ·exact at1 a
  ·refine .of_vc C.toEn F_is_plain b_is_plain C.f_is_plain k_is_plain rfl ?_
   have main:∀ {Q:Rs→Prop},Q (.fr (.lst (ps.map (·.1))))→Spec B "inner" NoX (n+2) [.im (con b (ps.map (·.1)))] Q:=fun {Q} q=>(sp_innerC C (by rw [List.length_map];exact hl)).eq q
   have loop:∀ {body:List (Option Sl)→Post→Prop} {Q:Post},(∀ x:Option Sl,Q .next [some (.im (con b (ps.map (·.1)))),x])→(∀ p∈ps,∀ x:Option Sl,∀ Q':Post,Q' .next [some (.im (con b (ps.map (·.1)))),some (.im p.1)]→body [some (.im (con b (ps.map (·.1)))),some (.im p.1)] Q')→∀ x,loopW (.one 1) body Q (ps.map (·.1)) [some (.im (con b (ps.map (·.1)))),x]:=fun {body Q} h0 h1 x =>
    loopM (fun l ρ=>(∃ x,ρ=[some (.im (con b (ps.map (·.1)))),x])∧∀ p∈l,p∈ps) (fun ρ h=>by obtain ⟨⟨x,rfl⟩,_⟩:=h;exact h0 x)
     (fun p l ρ h K hK=>by
      refine e0_2 h ?_
      clear h
      intro ez1 h
      obtain ⟨x,rfl⟩:=ez1
      exact h1 p (h p (List.mem_cons_self ..)) x _ (hK _ ⟨⟨_,rfl⟩,fun p hp=>h p (List.mem_cons_of_mem _ hp)⟩)) ps _ ⟨⟨_,rfl⟩,fun _ x=>x⟩
   cases b with
   | true =>
    refine ⟨["some","all"],rfl,main (loop (fun x=>rfl) (fun p h x Q' hQ=>?_) _)⟩
    exact (ih (hp p h)).eq hQ
   | false =>
    refine ⟨["some","all"],rfl,main (loop (fun x=>rfl) (fun p h x Q' hQ=>?_) _)⟩
    exact (ih (hp p h)).eq hQ
theorem sp_need_plain {n:Nat} {d:D} {den:Fn→Prop} (h:Tr W P n d den):Spec B "need_plain" NoX (n+3) [.im d] fun q=>q=.im .none :=
 .of_vc C.toEn F_need_plain b_need_plain C.f_need_plain k_need_plain rfl <| (sp_plain C h).eq rfl
theorem sp_need_values {ks:List Str} {vs:List (Str×D)} (h:∀ y∈ks,(dAt vs y).isSome=true):Spec B "need_values" NoX 1 [.ct (.lst (ks.map .str)),.ct (.dct vs)] fun q=>q=.im .none :=
 .of_vc C.toEn F_need_values b_need_values C.f_need_values k_need_values rfl <| loopM (fun l ρ=>(∃ x,ρ=[some (.fz (.lst (ks.map .str))),some (.fz (.dct vs)),x])∧∀ y∈l,(dAt vs y).isSome=true)
  (fun ρ h=>by obtain ⟨⟨x,rfl⟩,_⟩:=h;rfl)
  (fun y l ρ h K hK=>by
   refine e0_2 h ?_
   clear h
   intro ez2 h
   obtain ⟨x,rfl⟩:=ez2
   refine iF (c := !(dAt vs y).isSome) (by rw [h y (List.mem_cons_self ..)];rfl) ?_
   exact hK _ ⟨⟨_,rfl⟩,fun y hy=>h y (List.mem_cons_of_mem _ hy)⟩) ks _ ⟨⟨_,rfl⟩,h⟩
noncomputable def Vals (W:List Str) (vs:List (Str×D)) (v:Fn) (a:A):Prop:=(∀ x∈W,a.f x≠0→dAt vs x=some (.int (v x)))∧(∀ x,Lv 40 (a.f x))∧∀ m,a.t=.go m→0<m
theorem sp_truth1 {vs:List (Str×D)} {v:Fn} (hl:∀ x,Lv 40 (v x)) {a:A} (h:Vals W vs v a) {n:Nat} (w:Wd W):Spec B "truth" NoX (n+2) [.im (a.d W),.ct (.dct vs)] fun q=>∃ b,q=.im (.bool b)∧(b=true↔a.ok W v) :=
 .of_vc C.toEn F_truth b_truth C.f_truth k_truth rfl <| by
  have hv:=fun {Q:Rs→Prop} (q:Q (.im (.int (val W a.c a.f v))))=>(sp_value C w (c:=a.c) h.1 h.2.1 hl).eq (n:=n+1) (Q:=Q) q
  obtain ⟨t,c,f⟩:=a
  cases t with
  | ab=>exact hv ⟨_,rfl,decide_eq_true_iff⟩
  | no=>exact hv ⟨_,rfl,beq_iff_eq⟩
  | go m =>
   have hm:=h.2.2 m rfl
   refine hv ⟨by omega,_,rfl,?_⟩
   rw [beq_iff_eq]
   exact Int.dvd_iff_fmod_eq_zero.symm
theorem sp_truth {vs:List (Str×D)} {v:Fn} (hl:∀ x,Lv 40 (v x)) (w:Wd W) (hP:∀ a,P a→Vals W vs v a) {n:Nat}:∀ {d:D} {den:Fn→Prop},Tr W P n d den→Spec B "truth" NoX (n+2) [.im d,.ct (.dct vs)] fun q=>∃ b,q=.im (.bool b)∧(b=true↔den v):=by
 induction n with
 | zero =>
  rintro d den ⟨a,rfl,ha,hv⟩
  exact (sp_truth1 C hl (hP a ha) (n:=0) w).to fun r h=>by obtain ⟨b,rfl,h⟩:=h;exact ⟨b,rfl,h.trans (hv v).symm⟩
 | succ n ih =>
  rintro d den (⟨a,rfl,ha,hv⟩ | ⟨b,ps,rfl,hs,hp,hv⟩)
  ·exact (sp_truth1 C hl (hP a ha) (n:=n+1) w).to fun r h=>by obtain ⟨b,rfl,h⟩:=h;exact ⟨b,rfl,h.trans (hv v).symm⟩
  ·refine .of_vc C.toEn F_truth b_truth C.f_truth k_truth rfl ?_
   cases b with
   | true =>
    refine loopM (fun l ρ=>(∃ x,ρ=[some (.im (con true (ps.map (·.1)))),some (.fz (.dct vs)),some (.im (.str "and")),x])∧(∀ p∈l,p∈ps)∧((∀ p∈l,p.2 v)→den v)) (fun ρ h=>?_) (fun p l ρ h K hK=>?_) ps _ ⟨⟨_,rfl⟩,fun _ x=>x,fun h=>(hv v).mpr h⟩
    ·refine e0_3 h ?_
     clear h
     intro ez3 _ h
     obtain ⟨x,rfl⟩:=ez3
     exact ⟨true,rfl,⟨fun _=>h nilAll,fun _=>rfl⟩⟩
    ·refine e0_3 h ?_
     clear h
     intro ez4 h1 h2
     obtain ⟨x,rfl⟩:=ez4
     refine (ih (hp p (h1 p (List.mem_cons_self ..)))).ex fun b h=>?_
     cases b with
     | true=>exact hK _ ⟨⟨_,rfl⟩,fun p hp=>h1 p (List.mem_cons_of_mem _ hp),fun q=>h2 fun p' hp'=>(List.mem_cons.mp hp').elim (fun e=>e▸h.mp rfl) (q p')⟩
     | false=>exact ⟨false,rfl,⟨nofun,fun q=>h.mpr ((hv v).mp q p (h1 p (List.mem_cons_self ..)))⟩⟩
   | false =>
    refine loopM (fun l ρ=>(∃ x,ρ=[some (.im (con false (ps.map (·.1)))),some (.fz (.dct vs)),some (.im (.str "or")),x])∧(∀ p∈l,p∈ps)∧(den v→∃ p∈l,p.2 v)) (fun ρ h=>?_) (fun p l ρ h K hK=>?_) ps _ ⟨⟨_,rfl⟩,fun _ x=>x,fun h=>(hv v).mp h⟩
    ·refine e0_3 h ?_
     clear h
     intro ez5 _ h
     obtain ⟨x,rfl⟩:=ez5
     exact ⟨false,rfl,⟨nofun,fun q=>by obtain ⟨_,q,_⟩:=h q;cases q⟩⟩
    ·refine e0_3 h ?_
     clear h
     intro ez6 h1 h2
     obtain ⟨x,rfl⟩:=ez6
     refine (ih (hp p (h1 p (List.mem_cons_self ..)))).ex fun b h=>?_
     cases b with
     | false =>
      refine hK _ ⟨⟨_,rfl⟩,fun p hp=>h1 p (List.mem_cons_of_mem _ hp),fun q=>?_⟩
      refine e1_2 (h2 q) ?_
      intro p' hp' q'
      rcases List.mem_cons.mp hp' with rfl | e
      ·exact absurd (h.mpr q') nofun
      ·exact ⟨p',e,q'⟩
     | true=>exact ⟨true,rfl,⟨fun _=>(hv v).mpr ⟨p,h1 p (List.mem_cons_self ..),h.mp rfl⟩,fun _=>rfl⟩⟩
end
end Mine
end

section
open PySem PySem.W PyProof.Rows PySem.Calls PyProof
set_option backward.match.sparseCases false
set_option tactic.hygienic false
namespace Mine
noncomputable def bnd (a:Bool) (x:Str) (d:D):D:=.tup [.str (bif a then "some" else "all"),.str x,d]
noncomputable def TrN (W:List Str):Nat→D→(Str→Prop)→Prop
 | 0,d,S=>∃ a:A,d=a.d W∧∀ y,S y↔y∈sN W a.f
 | n+1,d,S=>(∃ a:A,d=a.d W∧∀ y,S y↔y∈sN W a.f)∨∃ (b:Bool) (ps:List (D×(Str→Prop))),d=con b (ps.map (·.1))∧ps.length≤sizeLine∧(∀ p∈ps,TrN W n p.1 p.2)∧∀ y,S y↔∃ p∈ps,p.2 y
theorem Tr.names {W:List Str} {P:A→Prop}:∀ {n:Nat} {d:D} {den:Fn→Prop},Tr W P n d den→∃ S,TrN W n d S∧∀ y,S y→∃ a,P a∧y∈sN W a.f
 | 0,_,_,⟨a,e,h,_⟩=>⟨fun y=>y∈sN W a.f,⟨a,e,fun y=>Iff.rfl⟩,fun y q=>⟨a,h,q⟩⟩
 | n+1,_,_,.inl ⟨a,e,h,_⟩=>⟨fun y=>y∈sN W a.f,.inl ⟨a,e,fun y=>Iff.rfl⟩,fun y q=>⟨a,h,q⟩⟩
 | n+1,_,_,.inr ⟨b,ps,e,hl,hp,h⟩=>by
  have ex:∀ p:D×(Fn→Prop),∃ S:Str→Prop,p∈ps→TrN W n p.1 S∧∀ y,S y→∃ a,P a∧y∈sN W a.f:=fun p=>by
   by_cases q:p∈ps
   ·obtain ⟨S,h⟩:=(hp p q).names;exact ⟨S,fun _=>h⟩
   ·exact ⟨fun _=>False,fun z=>absurd z q⟩
  refine e1_1 (Classical.axiomOfChoice ex) ?_
  intro φ hφ
  refine ⟨fun y=>∃ p∈ps,φ p y,.inr ⟨b,ps.map fun p=>(p.1,φ p),by rw [e,List.map_map];rfl,by rw [List.length_map];exact hl,fun p hp=>?_,fun y=>⟨?_,?_⟩⟩,fun y h=>?_⟩
  ·refine e1_2 (List.mem_map.mp hp) ?_
   intro p' h1 ez1
   clear hp;subst ez1
   exact (hφ p' h1).1
  ·rintro ⟨p,h1,h2⟩
   exact ⟨_,List.mem_map.mpr ⟨p,h1,rfl⟩,h2⟩
  ·rintro ⟨p,h1,h2⟩
   refine e1_2 (List.mem_map.mp h1) ?_
   intro p' h3 ez2
   clear h1 hφ;subst ez2
   exact ⟨p',h3,h2⟩
  ·refine e1_2 h ?_
   clear h
   intro p h1 h2
   exact (hφ p h1).2 y h2
structure KS (W:List Str) (l:List (Str×D)) (K:Str→Prop):Prop where
 nd:(l.map (·.1)).Nodup
 mem:∀ y,y∈l.map (·.1)↔K y
 sub:∀ y,K y→y∈W
theorem KS.len {W:List Str} {l:List (Str×D)} {K:Str→Prop} (w:Wd W) (h:KS W l K):l.length≤3:=by
 rw [← List.length_map (f:=(·.1))]
 exact Nat.le_trans (nodup_len h.nd fun y hy=>h.sub y ((h.mem y).mp hy)) w.len
theorem KS.sto {W:List Str} {l:List (Str×D)} {K:Str→Prop} {x:Str} {d:D} (h:KS W l K) (hx:x∈W):KS W (dSto l x d) fun y=>K y∨y=x:=by
 have e:=dSto_keys l x d
 cases q:(dAt l x).isSome with
 | true =>
  rw [if_pos q] at e
  have hm:=dAt_mem_keys.mp q
  exact ⟨e▸h.nd,fun y=>by rw [e,h.mem];exact ⟨.inl,fun z=>z.elim id fun z=>z▸(h.mem x).mp hm⟩,fun y z=>z.elim (h.sub y) fun z=>z▸hx⟩
 | false =>
  rw [if_neg (by rw [q];nofun)] at e
  refine ⟨?_,fun y=>by rw [e,List.mem_append,List.mem_singleton,h.mem],fun y z=>z.elim (h.sub y) fun z=>z▸hx⟩
  rw [e]
  refine List.nodup_append.mpr ⟨h.nd,List.pairwise_singleton ..,fun a ha b hb z=>?_⟩
  rw [List.mem_singleton.mp hb] at z
  rw [z,← dAt_mem_keys,q] at ha;cases ha
theorem KS.imp {W:List Str} {l:List (Str×D)} {K K':Str→Prop} (h:KS W l K) (e:∀ y,K y↔K' y):KS W l K':=⟨h.nd,fun y=>(h.mem y).trans (e y),fun y z=>h.sub y ((e y).mpr z)⟩
section
variable {B:Bs} (C:Cx B) {W:List Str} (w:Wd W) {P:A→Prop}
include C w
theorem sp_gather1 {a:A} {bs:List Str} {l:List (Str×D)} {K:Str→Prop} (hk:KS W l K) {n:Nat}:SpecM B "gather" (n+2) [.im (a.d W),.ct (.lst (bs.map .str))] l fun l'=>KS W l' fun y=>K y∨(y∈sN W a.f∧y∉bs) :=
 .of_vc C.toEn F_gather b_gather C.f_gather k_gather rfl rfl rfl fun m=>by
  have fin:∀ {Q:Rs→Prop},Q (.fr (.lst []))→Spec B "inner" NoX (n+1) [.im (a.d W)] Q:=fun {Q} q=>(sp_inner1 C).eq q
  have main:∀ {body:List (Option Sl)→Post→Prop} {Q:Post},(∀ l' (x3 x4:Option Sl),KS W l' (fun y=>K y∨(y∈sN W a.f∧y∉bs))→Q .next [some (.im (a.d W)),some (.fz (.lst (bs.map .str))),some (.own (.dct l') (some m)),x3,x4]) →
    (∀ (l':List (Str×D)) y (Q':Post),l'.length≤sizeLine→(bs.contains y=true→Q' .next [some (.im (a.d W)),some (.fz (.lst (bs.map .str))),some (.own (.dct l') (some m)),some (.im (.str y)),some (.im (.int (a.f y)))]) →
     (bs.contains y=false→Q' .next [some (.im (a.d W)),some (.fz (.lst (bs.map .str))),some (.own (.dct (dSto l' y (.bool true))) (some m)),some (.im (.str y)),some (.im (.int (a.f y)))]) →
     body [some (.im (a.d W)),some (.fz (.lst (bs.map .str))),some (.own (.dct l') (some m)),some (.im (.str y)),some (.im (.int (a.f y)))] Q') →
    loopW (.two 3 4) body Q (sL W a.f) [some (.im (a.d W)),some (.fz (.lst (bs.map .str))),some (.own (.dct l) (some m)),none,none]:=fun {body Q} h0 h1 =>
   loopM (fun r ρ=>∃ l' x3 x4 pre,ρ=[some (.im (a.d W)),some (.fz (.lst (bs.map .str))),some (.own (.dct l') (some m)),x3,x4]∧sN W a.f=pre++r∧KS W l' fun y=>K y∨(y∈pre∧y∉bs))
    (fun ρ h=>by
     refine e4_3 h ?_
     clear h
     intro l' x3 x4 pre ez3 e h
     subst ez3
     rw [List.append_nil] at e
     exact h0 _ _ _ (e▸h))
    (fun y r ρ h K' hK=>by
     refine e4_3 h ?_
     clear h
     intro l' x3 x4 pre ez4 e h
     subst ez4
     have hy:y∈W:=(mem_sN.mp (show y∈sN W a.f by rw [e];exact List.mem_append_right _ (List.mem_cons_self ..))).1
     refine h1 l' y _ (le3 (h.len w)) (fun q=>hK _ ⟨l',_,_,pre++[y],rfl,by rw [e,List.append_assoc];rfl,h.imp fun z=>?_⟩) fun q=>hK _ ⟨_,_,_,pre++[y],rfl,by rw [e,List.append_assoc];rfl,(h.sto hy).imp fun z=>?_⟩
     ·rw [List.contains_iff_mem] at q
      rw [List.mem_append,List.mem_singleton]
      constructor
      ·rintro (p | ⟨p,p'⟩)
       ·exact .inl p
       ·exact .inr ⟨.inl p,p'⟩
      ·rintro (p | ⟨p | p,p'⟩)
       ·exact .inl p
       ·exact .inr ⟨p,p'⟩
       ·exact absurd (p▸q) p'
     ·have q:y∉bs:=fun m=>by rw [List.contains_iff_mem.mpr m] at q;cases q
      rw [List.mem_append,List.mem_singleton]
      constructor
      ·rintro ((p | ⟨p,p'⟩) | p)
       ·exact .inl p
       ·exact .inr ⟨.inl p,p'⟩
       ·exact .inr ⟨.inr p,p▸q⟩
      ·rintro (p | ⟨p | p,p'⟩)
       ·exact .inl (.inl p)
       ·exact .inl (.inr ⟨p,p'⟩)
       ·exact .inr p) _ _ ⟨l,_,_,[],rfl,rfl,hk.imp fun y=>⟨.inl,fun z=>z.elim id fun z=>absurd z.1 nofun⟩⟩
  obtain ⟨t,c,f⟩:=a
  cases t with
  | ab=>exact ⟨["above","nought","goes"],rfl,main (fun l' x3 x4 h=>⟨["some","all"],rfl,fin ⟨rfl,l',rfl,h⟩⟩) fun l' y Q' hl h1 h2=>⟨bs,rfl,iB (fun q=>⟨hl,h2 (notT q)⟩) fun q=>h1 (by simpa using q)⟩⟩
  | no=>exact ⟨["above","nought","goes"],rfl,main (fun l' x3 x4 h=>⟨["some","all"],rfl,fin ⟨rfl,l',rfl,h⟩⟩) fun l' y Q' hl h1 h2=>⟨bs,rfl,iB (fun q=>⟨hl,h2 (notT q)⟩) fun q=>h1 (by simpa using q)⟩⟩
  | go m=>exact ⟨["above","nought","goes"],rfl,main (fun l' x3 x4 h=>⟨["some","all"],rfl,fin ⟨rfl,l',rfl,h⟩⟩) fun l' y Q' hl h1 h2=>⟨bs,rfl,iB (fun q=>⟨hl,h2 (notT q)⟩) fun q=>h1 (by simpa using q)⟩⟩
theorem sp_gather {bs:List Str} {n:Nat}:∀ {d:D} {S:Str→Prop},TrN W n d S→∀ {l:List (Str×D)} {K:Str→Prop},KS W l K→SpecM B "gather" (n+2) [.im d,.ct (.lst (bs.map .str))] l fun l'=>KS W l' fun y=>K y∨(S y∧y∉bs):=by
 induction n with
 | zero =>
  rintro d S ⟨a,rfl,h⟩ l K hk
  exact (sp_gather1 C w hk (n:=0)).mono (Nat.le_refl _) fun l' h'=>h'.imp fun y=>by rw [h y]
 | succ n ih =>
  rintro d S (⟨a,rfl,h⟩ | ⟨b,ps,rfl,hl,hp,h⟩) l K hk
  ·exact (sp_gather1 C w hk (n:=n+1)).mono (Nat.le_refl _) fun l' h'=>h'.imp fun y=>by rw [h y]
  ·refine .of_vc C.toEn F_gather b_gather C.f_gather k_gather rfl rfl rfl fun m=>?_
   have fin:∀ {Q:Rs→Prop},Q (.fr (.lst (ps.map (·.1))))→Spec B "inner" NoX (n+2) [.im (con b (ps.map (·.1)))] Q:=fun {Q} q=>(sp_innerC C (by rw [List.length_map];exact hl)).eq q
   have main:∀ {body:List (Option Sl)→Post→Prop} {Q:Post},(∀ l' (x3 x4:Option Sl),KS W l' (fun y=>K y∨(S y∧y∉bs))→Q .next [some (.im (con b (ps.map (·.1)))),some (.fz (.lst (bs.map .str))),some (.own (.dct l') (some m)),x3,x4]) →
     (∀ p∈ps,∀ (l':List (Str×D)) (K':Str→Prop) (x3:Option Sl) (Q':Post),KS W l' K'→(∀ l'',KS W l'' (fun y=>K' y∨(p.2 y∧y∉bs))→Q' .next [some (.im (con b (ps.map (·.1)))),some (.fz (.lst (bs.map .str))),some (.own (.dct l'') (some m)),x3,some (.im p.1)]) →
      body [some (.im (con b (ps.map (·.1)))),some (.fz (.lst (bs.map .str))),some (.own (.dct l') (some m)),x3,some (.im p.1)] Q') →
     ∀ x3 x4,loopW (.one 4) body Q (ps.map (·.1)) [some (.im (con b (ps.map (·.1)))),some (.fz (.lst (bs.map .str))),some (.own (.dct l) (some m)),x3,x4]:=fun {body Q} h0 h1 x3 x4 =>
    loopM (fun r ρ=>∃ l' x3 x4 pre,ρ=[some (.im (con b (ps.map (·.1)))),some (.fz (.lst (bs.map .str))),some (.own (.dct l') (some m)),x3,x4]∧ps=pre++r∧KS W l' fun y=>K y∨((∃ p∈pre,p.2 y)∧y∉bs))
     (fun ρ h'=>by
      refine e4_3 h' ?_
      clear h'
      intro l' x3 x4 pre ez5 e h'
      clear hp hl ih;subst ez5
      rw [List.append_nil] at e
      subst e
      exact h0 _ _ _ (h'.imp fun y=>by rw [h y]))
     (fun p r ρ h' K' hK=>by
      refine e4_3 h' ?_
      clear h'
      intro l' x3 x4 pre ez6 e h'
      subst ez6
      refine h1 p (by rw [e];exact List.mem_append_right _ (List.mem_cons_self ..)) l' _ _ _ h' fun l'' h''=>hK _ ⟨l'',_,_,pre++[p],rfl,by rw [e,List.append_assoc];rfl,h''.imp fun y=>?_⟩
      constructor
      ·rintro ((q | ⟨⟨p',q1,q2⟩,q3⟩) | ⟨q1,q2⟩)
       ·exact .inl q
       ·exact .inr ⟨⟨p',List.mem_append_left _ q1,q2⟩,q3⟩
       ·exact .inr ⟨⟨p,List.mem_append_right _ (List.mem_singleton.mpr rfl),q1⟩,q2⟩
      ·rintro (q | ⟨⟨p',q1,q2⟩,q3⟩)
       ·exact .inl (.inl q)
       ·rcases List.mem_append.mp q1 with q1 | q1
        ·exact .inl (.inr ⟨⟨p',q1,q2⟩,q3⟩)
        ·cases List.mem_singleton.mp q1;exact .inr ⟨q2,q3⟩) ps _ ⟨l,_,_,[],rfl,rfl,hk.imp fun y=>⟨.inl,fun z=>z.elim id fun hz1=>by obtain ⟨⟨_,z,_⟩,_⟩:=hz1;cases z⟩⟩
   cases b with
   | true=>exact ⟨["above","nought","goes"],rfl,["some","all"],rfl,fin (main (fun l' x3 x4 h=>⟨rfl,l',rfl,h⟩) (fun p hq l' K' x3 Q' hk' hQ=>⟨[_,_],rfl,(ih (hp p hq) hk').mono (Nat.le_refl _) hQ⟩) _ _)⟩
   | false=>exact ⟨["above","nought","goes"],rfl,["some","all"],rfl,fin (main (fun l' x3 x4 h=>⟨rfl,l',rfl,h⟩) (fun p hq l' K' x3 Q' hk' hQ=>⟨[_,_],rfl,(ih (hp p hq) hk').mono (Nat.le_refl _) hQ⟩) _ _)⟩
theorem sp_innerB {a:Bool} {x:Str} {d:D}:Spec B "inner" NoX 1 [.im (bnd a x d)] fun q=>q=.fr (.lst [d]) :=
 .of_vc C.toEn F_inner b_inner C.f_inner k_inner rfl <| by cases a <;> exact ⟨["some","all"],rfl,rfl⟩
theorem sp_gatherB {a:Bool} {x:Str} {n:Nat} {d:D} {S:Str→Prop} (h:TrN W n d S):SpecM B "gather" (n+3) [.im (bnd a x d),.ct (.lst [])] [] fun l'=>KS W l' fun y=>S y∧y∉[x]:=by
 refine .of_vc C.toEn F_gather b_gather C.f_gather k_gather rfl rfl rfl fun m=>?_
 have fin:∀ {Q:Rs→Prop},Q (.fr (.lst [d]))→Spec B "inner" NoX (n+2) [.im (bnd a x d)] Q:=fun {Q} q=>(sp_innerB C w).eq q
 have g:=fun {Q:List (Str×D)→Prop} (q:∀ l',KS W l' (fun y=>S y∧y∉[x])→Q l')=>(sp_gather C w (bs:=[x]) h (l:=[]) (K:=fun _=>False) ⟨.nil,fun y=>⟨nofun,nofun⟩,nofun⟩).mono (m:=n+2) (Q':=Q) (Nat.le_refl _) fun l' h'=>q l' (h'.imp fun y=>⟨fun z=>z.elim nofun id,.inr⟩)
 cases a with
 | true=>exact ⟨["above","nought","goes"],rfl,["some","all"],rfl,(by decide:0+1≤sizeLine),fin ⟨[_,_],rfl,g fun l' h=>⟨rfl,l',rfl,h⟩⟩⟩
 | false=>exact ⟨["above","nought","goes"],rfl,["some","all"],rfl,(by decide:0+1≤sizeLine),fin ⟨[_,_],rfl,g fun l' h=>⟨rfl,l',rfl,h⟩⟩⟩
theorem sp_unknownsL {n:Nat} {d:D} {S:Str→Prop} (h:SpecM B "gather" n [.im d,.ct (.lst [])] [] fun l'=>KS W l' S):Spec B "unknowns" NoX (n+1) [.im d] fun q=>∃ ks:List Str,q=.fr (.lst (ks.map .str))∧ks.length≤3∧∀ y,y∈ks↔S y :=
 .of_vc C.toEn F_unknowns b_unknowns C.f_unknowns k_unknowns rfl <| by
  refine ⟨[_,_],rfl,h.mono (Nat.le_refl _) fun l' h'=>?_⟩
  have hl:=h'.len w
  refine ⟨le3 hl,.inl ⟨l'.map (·.1),by rw [List.map_map];rfl,by rw [List.length_map];omega,srt (l'.map (·.1)),rfl,?_,fun y=>?_⟩⟩
  ·rw [(srt_perm _).length_eq,List.length_map];exact hl
  ·rw [(srt_perm _).mem_iff];exact h'.mem y
theorem sp_unknowns {n:Nat} {d:D} {S:Str→Prop} (h:TrN W n d S):Spec B "unknowns" NoX (n+3) [.im d] fun q=>∃ ks:List Str,q=.fr (.lst (ks.map .str))∧ks.length≤3∧∀ y,y∈ks↔S y :=
 sp_unknownsL C w ((sp_gather C w (bs:=[]) h (l:=[]) (K:=fun _=>False) ⟨.nil,fun y=>⟨nofun,nofun⟩,nofun⟩).mono (Nat.le_refl _) fun l' h'=>h'.imp fun y=>⟨fun z=>z.elim nofun (·.1),fun z=>.inr ⟨z,nofun⟩⟩)
theorem sp_unknownsB {a:Bool} {x:Str} {n:Nat} {d:D} {S:Str→Prop} (h:TrN W n d S):Spec B "unknowns" NoX (n+4) [.im (bnd a x d)] fun q=>∃ ks:List Str,q=.fr (.lst (ks.map .str))∧ks.length≤3∧∀ y,y∈ks↔S y∧y∉[x] :=
 sp_unknownsL C w (sp_gatherB C w h)
theorem sp_is_true {vs:List (Str×D)} {v:Fn} (hl:∀ x,Lv 40 (v x)) (hP:∀ a,P a→Vals W vs v a) {n:Nat} {d:D} {den:Fn→Prop} (h:Tr W P n d den):Spec B "is_true" NoX (n+4) [.im d,.ct (.dct vs)] fun q=>∃ b,q=.im (.bool b)∧(b=true↔den v) :=
 .of_vc C.toEn F_is_true b_is_true C.f_is_true k_is_true rfl <| by
  refine e1_2 h.names ?_
  intro S hS hN
  refine (sp_need_plain C h).eq ?_
  refine (sp_unknowns C w hS).ex fun ks hr=>?_
  refine e0_2 hr ?_
  clear hr
  intro hk hm
  refine (sp_need_values C (ks:=ks) fun y hy=>?_).eq ?_
  ·refine e1_2 (hN y ((hm y).mp hy)) ?_
   intro a ha q
   have q:=mem_sN.mp q
   rw [(hP a ha).1 y q.1 q.2];rfl
  ·exact (sp_truth C hl w hP h).to fun r hr=>by obtain ⟨b,rfl,hr⟩:=hr;exact ⟨b,rfl,hr⟩
end
end Mine
end

section
open PySem PySem.W PyProof.Rows PySem.Calls PyProof
set_option backward.match.sparseCases false
set_option tactic.hygienic false
namespace Mine
noncomputable def mix (vs:List (Str×D)) (v u:Fn):Fn:=fun y=>if (dAt vs y).isSome=true then v y else u y
structure FillR (W:List Str) (vs:List (Str×D)) (v:Fn) (i:Nat) (a a':A):Prop where
 t:a'.t=a.t
 f:∀ y∈W,a'.f y=if (dAt vs y).isSome=true then 0 else a.f y
 ok:∀ u,val W a'.c a'.f u=val W a.c a.f (mix vs v u)
 bd:Bd i a'.c a'.f
section
variable {B:Bs} (C:Cx B) {W:List Str} (w:Wd W) {vs:List (Str×D)} {v:Fn}
include C w
theorem fill_loop {a:A} (hv:∀ y,(dAt vs y).isSome=true→dAt vs y=some (.int (v y))) (hl:∀ y,Lv 10 (v y)) (hb:Bd 10 a.c a.f) {body:List (Option Sl)→Post→Prop} {Q:Post} {s0:D} {ks:Str}
  (h0:∀ a' (x4 x5 x6:Option Sl),FillR W vs v 24 a a'→Q .next [some (.im s0),some (.fz (.dct vs)),some (.im (.str ks)),some (.im (sD W a'.c a'.f)),x4,x5,x6])
  (h1:∀ (c:Int) (f:Fn) y (Q':Post),y∈W→Lv 40 (f y)→((dAt vs y).isSome=false→Q' .next [some (.im s0),some (.fz (.dct vs)),some (.im (.str ks)),some (.im (sD W c f)),some (.im (.str y)),some (.im (.int (a.f y))),none]) →
   ((dAt vs y).isSome=true→Q' .next [some (.im s0),some (.fz (.dct vs)),some (.im (.str ks)),some (.im (sD W (c+f y*v y) fun z=>upd f y 0 z+f y*0)),some (.im (.str y)),some (.im (.int (a.f y))),none]) →
   body [some (.im s0),some (.fz (.dct vs)),some (.im (.str ks)),some (.im (sD W c f)),some (.im (.str y)),some (.im (.int (a.f y))),none] Q') :
  loopW (.two 4 5) body Q (sL W a.f) [some (.im s0),some (.fz (.dct vs)),some (.im (.str ks)),some (.im (sD W a.c a.f)),none,none,none]:=by
 classical
 have hlen:(sN W a.f).length≤3:=Nat.le_trans (List.length_filter_le ..) w.len
 have hnd:(sN W a.f).Nodup:=w.nd.filter _
 refine loopM (fun r ρ=>∃ pre c' f' x4 x5,ρ=[some (.im s0),some (.fz (.dct vs)),some (.im (.str ks)),some (.im (sD W c' f')),x4,x5,none]∧sN W a.f=pre++r∧(∀ y,f' y=if y∈pre∧(dAt vs y).isSome=true then 0 else a.f y) ∧
   (∀ u,val W c' f' u=val W a.c a.f fun y=>if y∈pre∧(dAt vs y).isSome=true then v y else u y)∧Lv (20+pre.length) c') (fun ρ h=>?_) (fun y r ρ h K hK=>?_) _ _ ⟨[],a.c,a.f,_,_,rfl,rfl,fun y=>(if_neg fun z=>nomatch z.1).symm,fun u=>?_,hb.1.mono (by decide)⟩
 ·refine e5_5 h ?_
  clear h
  intro pre c' f' x4 x5 ez1 e h2 h3 h4
  subst ez1
  rw [List.append_nil] at e
  refine h0 ⟨a.t,c',f'⟩ _ _ _ ⟨rfl,fun y hy=>?_,fun u=>?_,h4.mono (by rw [← e];lia),fun y=>?_⟩
  ·show f' y=_
   rw [h2]
   by_cases q:(dAt vs y).isSome=true
   ·rw [if_pos q]
    by_cases z:y∈pre
    ·rw [if_pos ⟨z,q⟩]
    ·rw [if_neg fun t=>z t.1]
     exact Classical.byContradiction fun t=>z (e▸mem_sN.mpr ⟨hy,t⟩)
   ·rw [if_neg q,if_neg fun t=>q t.2]
  ·show val W c' f' u=_
   rw [h3]
   unfold val
   rw [dot_congr]
   intro y hy
   by_cases z:y∈pre
   ·unfold mix
    by_cases q:(dAt vs y).isSome=true
    ·rw [if_pos q,if_pos ⟨z,q⟩]
    ·rw [if_neg q,if_neg fun t=>q t.2]
   ·have:a.f y=0:=Classical.byContradiction fun t=>z (e▸mem_sN.mpr ⟨hy,t⟩)
    rw [this,Int.zero_mul,Int.zero_mul]
  ·show Lv 24 (f' y)
   rw [h2]
   split
   ·exact lv1.1.mono (by decide)
   ·exact (hb.2 y).mono (by decide)
 ·refine e5_5 h ?_
  clear h
  intro pre c' f' x4 x5 ez2 e h2 h3 h4
  subst ez2
  have hy:y∈W:=(mem_sN.mp (show y∈sN W a.f by rw [e];exact List.mem_append_right _ (List.mem_cons_self ..))).1
  have hn:y∉pre:=fun q=>by
   rw [e] at hnd
   exact (List.nodup_append.mp hnd).2.2 y q y (List.mem_cons_self ..) rfl
  have hfy:f' y=a.f y:=by rw [h2,if_neg fun t=>hn t.1]
  have lfy:Lv 10 (f' y):=hfy▸hb.2 y
  have e2:sN W a.f=(pre++[y])++r:=by rw [e,List.append_assoc];rfl
  refine h1 c' f' y _ hy (lfy.mono (by decide)) (fun q=>hK _ ⟨pre++[y],c',f',_,_,rfl,e2,fun z=>?_,fun u=>?_,h4.mono (by rw [List.length_append];(clear hfy hn hlen;lia))⟩) fun q=>hK _ ⟨pre++[y],_,_,_,_,rfl,e2,fun z=>?_,fun u=>?_,?_⟩
  ·rw [h2]
   by_cases t:z=y
   ·rw [if_neg fun s=>hn (t▸s.1),if_neg fun s=>by rw [t,q] at s;cases s.2]
   ·simp only [List.mem_append,List.mem_singleton,t,or_false]
  ·rw [h3]
   congr 1
   funext z
   by_cases t:z=y
   ·rw [if_neg fun s=>hn (t▸s.1),if_neg fun s=>by rw [t,q] at s;cases s.2]
   ·simp only [List.mem_append,List.mem_singleton,t,or_false]
  ·show upd f' y 0 z+f' y*0=_
   rw [Int.mul_zero,Int.add_zero]
   unfold upd
   by_cases t:z=y
   ·rw [if_pos t,if_pos ⟨List.mem_append_right _ (List.mem_singleton.mpr t),t▸q⟩]
   ·rw [if_neg t,h2]
    simp only [List.mem_append,List.mem_singleton,t,or_false]
  ·have e3:val W (c'+f' y*v y) (fun z=>upd f' y 0 z+f' y*0) u=val W c' f' (upd u y (v y)):=by
    unfold val
    rw [dot_upd w.nd hy,dot_congr (f:=fun z=>upd f' y 0 z+f' y*0) (v:=u) (g:=upd f' y 0) (u:=u) fun z _=>by rw [Int.mul_zero,Int.add_zero],Int.add_assoc]
   rw [e3,h3]
   congr 1
   funext z
   by_cases t:z=y
   ·rw [if_neg fun s=>hn (t▸s.1),if_pos ⟨List.mem_append_right _ (List.mem_singleton.mpr t),t▸q⟩]
    exact (if_pos t).trans (by rw [t])
   ·simp only [List.mem_append,List.mem_singleton,t,or_false]
    by_cases s:z∈pre∧(dAt vs z).isSome=true
    ·rw [if_pos s,if_pos s]
    ·rw [if_neg s,if_neg s];exact if_neg t
  ·rw [List.length_append]
   exact Lv.add h4 ((lfy.mul (hl y)).mono (Nat.le_add_right 20 _))
 ·unfold val
  rw [dot_congr]
  intro y _
  rw [if_neg fun z=>nomatch z.1]
theorem sp_filled1 {a:A} (hv:∀ y,(dAt vs y).isSome=true→dAt vs y=some (.int (v y))) (hl:∀ y,Lv 10 (v y)) (hb:Bd 10 a.c a.f):Spec B "filled" NoX 4 [.im (a.d W),.ct (.dct vs)] fun q=>∃ a',q=.im (a'.d W)∧FillR W vs v 24 a a' :=
 .of_vc C.toEn F_filled b_filled C.f_filled k_filled rfl <| by
  have step:∀ {Q:Rs→Prop} {c:Int} {f:Fn} {y:Str},y∈W→Lv 40 (f y)→Q (.im (sD W (c+f y*v y) fun z=>upd f y 0 z+f y*0))→Spec B "put_in" NoX 3 [.im (sD W c f),.im (.str y),.im (.tup [.int (v y),.tup []])] Q:=fun {Q c f y} hy hf q=>by
   rw [← sD_const (W:=W)]
   exact (sp_put_in C w (.inl hy) hf ⟨(hl y).mono (by decide),fun _=>lv1.1.mono (by decide)⟩).eq q
  obtain ⟨t,c,f⟩:=a
  cases t with
  | ab =>
   refine ⟨["above","nought","goes"],rfl,fill_loop C w (a:=⟨.ab,c,f⟩) hv hl hb (fun a' x4 x5 x6 h=>⟨nofun,(by decide:2≤sizeLine),(by decide:1+1≤sizeLine),a',?_,h⟩) fun c f y Q' hy hf h1 h2=>iB (fun q=>?_) fun q=>h1 q⟩
   ·obtain ⟨t',c',f'⟩:=a';obtain rfl:t'=.ab:=h.t;rfl
   ·exact optW.of (hv y q) (step hy hf (h2 q))
  | no =>
   refine ⟨["above","nought","goes"],rfl,fill_loop C w (a:=⟨.no,c,f⟩) hv hl hb (fun a' x4 x5 x6 h=>⟨nofun,(by decide:2≤sizeLine),(by decide:1+1≤sizeLine),a',?_,h⟩) fun c f y Q' hy hf h1 h2=>iB (fun q=>?_) fun q=>h1 q⟩
   ·obtain ⟨t',c',f'⟩:=a';obtain rfl:t'=.no:=h.t;rfl
   ·exact optW.of (hv y q) (step hy hf (h2 q))
  | go m =>
   refine ⟨["above","nought","goes"],rfl,fill_loop C w (a:=⟨.go m,c,f⟩) hv hl hb (fun a' x4 x5 x6 h=>⟨nofun,(by decide:3≤sizeLine),(by decide:2+1≤sizeLine),a',?_,h⟩) fun c f y Q' hy hf h1 h2=>iB (fun q=>?_) fun q=>h1 q⟩
   ·obtain ⟨t',c',f'⟩:=a';obtain rfl:t'=.go m:=h.t;rfl
   ·exact optW.of (hv y q) (step hy hf (h2 q))
theorem sp_filledC {b:Bool} {la:List A} (hs:la.length≤4) (hv:∀ y,(dAt vs y).isSome=true→dAt vs y=some (.int (v y))) (hl:∀ y,Lv 10 (v y)) (hb:∀ a∈la,Bd 10 a.c a.f) :
  Spec B "filled" NoX 5 [.im (con b (la.map (A.d W))),.ct (.dct vs)] fun q=>∃ ps:List (A×A),q=.im (con b (ps.map fun p=>p.2.d W))∧la=ps.map (·.1)∧∀ p∈ps,FillR W vs v 24 p.1 p.2 :=
 .of_vc C.toEn F_filled b_filled C.f_filled k_filled rfl <| by
  have I:=fun (Q:List D→Prop) (step:D→(Option D→Prop)→Prop) (h0:∀ ps:List (A×A),la=ps.map (·.1)→(∀ p∈ps,FillR W vs v 24 p.1 p.2)→Q (ps.map fun p=>p.2.d W))
    (hst:∀ a∈la,∀ K,(∀ a',FillR W vs v 24 a a'→K (some (a'.d W)))→step (a.d W) K) =>
   compM (step:=step) (Q:=Q) (g:=A.d W) (fun l ac=>∃ ps:List (A×A),ac=ps.map (fun p=>p.2.d W)∧la=ps.map (·.1)++l∧∀ p∈ps,FillR W vs v 24 p.1 p.2)
    (fun ac h=>by
     refine e1_3 h ?_
     clear h
     intro ps ez3 h1 h2
     subst ez3
     rw [List.append_nil] at h1
     exact h0 ps h1 h2)
    (fun a l ac h K _ k1=>by
     refine e1_3 h ?_
     clear h
     intro ps ez4 h1 h2
     subst ez4
     refine hst a (by rw [h1];exact List.mem_append_right _ (List.mem_cons_self ..)) K fun a' ha=>k1 _ ?_ ⟨ps++[(a,a')],by rw [List.map_append];rfl,by rw [h1,List.map_append,List.append_assoc];rfl,fun p hp=>?_⟩
     ·rw [h1,List.length_append,List.length_map] at hs
      rw [List.length_map];exact Nat.le_trans (show ps.length≤4 by lia) (by decide)
     ·rcases List.mem_append.mp hp with hp | hp
      ·exact h2 p hp
      ·cases List.mem_singleton.mp hp;exact ha) la [] ⟨[],rfl,rfl,nilAll⟩
  have sz:∀ ps:List (A×A),la=ps.map (·.1)→(ps.map fun p=>p.2.d W).length≤sizeLine:=fun ps e=>by
   rw [e,List.length_map] at hs
   rw [List.length_map];exact Nat.le_trans hs (by decide)
  cases b with
  | true=>exact ⟨["above","nought","goes"],rfl,["some","all"],rfl,I _ _ (fun ps h1 h2=>⟨sz ps h1,ps,rfl,h1,h2⟩) fun a ha K hK=>(sp_filled1 C w hv hl (hb a ha)).to fun r h=>by obtain ⟨a',rfl,h⟩:=h;exact hK a' h⟩
  | false=>exact ⟨["above","nought","goes"],rfl,["some","all"],rfl,I _ _ (fun ps h1 h2=>⟨sz ps h1,ps,rfl,h1,h2⟩) fun a ha K hK=>(sp_filled1 C w hv hl (hb a ha)).to fun r h=>by obtain ⟨a',rfl,h⟩:=h;exact hK a' h⟩
noncomputable def neg (d:D):D:=.tup [.str "not",d]
theorem sp_filledN {d:D} {n:Nat} {R:D→Prop} (h:Spec B "filled" NoX n [.im d,.ct (.dct vs)] fun q=>∃ d',q=.im d'∧R d'):Spec B "filled" NoX (n+1) [.im (neg d),.ct (.dct vs)] fun q=>∃ d',q=.im (neg d')∧R d' :=
 .of_vc C.toEn F_filled b_filled C.f_filled k_filled rfl <| ⟨["above","nought","goes"],rfl,h.to fun r h=>by obtain ⟨d',rfl,h⟩:=h;exact ⟨d',rfl,h⟩⟩
theorem sp_filledB {a:Bool} {x:Str} {d:D} {n:Nat} {R:D→Prop} (hx:dAt vs x=none) (hs:vs.length≤sizeLine) (h:Spec B "filled" NoX n [.im d,.ct (.dct vs)] fun q=>∃ d',q=.im d'∧R d'):Spec B "filled" NoX (n+1) [.im (bnd a x d),.ct (.dct vs)] fun q=>∃ d',q=.im (bnd a x d')∧R d' :=
 .of_vc C.toEn F_filled b_filled C.f_filled k_filled rfl <| by
  cases a <;> exact ⟨["above","nought","goes"],rfl,["some","all"],rfl,hs,hx,h.to fun r h=>by obtain ⟨d',rfl,h⟩:=h;exact ⟨d',rfl,h⟩⟩
theorem sp_left1 {a:A}:Spec B "left" NoX 1 [.im (a.d W)] fun q=>q=.im (a.d W) :=
 .of_vc C.toEn F_left b_left C.f_left k_left rfl <| by
  obtain ⟨t,c,f⟩:=a
  cases t <;> rfl
theorem sp_leftC {b:Bool} {la:List A} (hs:la.length≤4):Spec B "left" NoX 2 [.im (con b (la.map (A.d W)))] fun q=>q=.im (con b (la.map (A.d W))) :=
 .of_vc C.toEn F_left b_left C.f_left k_left rfl <| by
  have e:la.filterMap (fun a=>some (a.d W))=la.map (A.d W):=fm_some ..
  have hs:(la.map (A.d W)).length≤sizeLine:=by rw [List.length_map];exact Nat.le_trans hs (by decide)
  cases b with
  | true =>
   refine comp_of (fun a=>some (a.d W)) (fun a ha K hK=>?_) (by rw [e];exact hs) (by rw [e];exact ⟨hs,rfl⟩)
   exact (sp_left1 C w).eq hK
  | false =>
   refine comp_of (fun a=>some (a.d W)) (fun a ha K hK=>?_) (by rw [e];exact hs) (by rw [e];exact ⟨hs,rfl⟩)
   exact (sp_left1 C w).eq hK
theorem sp_leftN {d:D} {n:Nat} (h:Spec B "left" NoX n [.im d] fun q=>q=.im d):Spec B "left" NoX (n+1) [.im (neg d)] fun q=>q=.im (neg d) :=
 .of_vc C.toEn F_left b_left C.f_left k_left rfl <| h.eq rfl
end
end Mine
end

section
open PySem PySem.W PyProof.Rows PySem.Calls PyProof
set_option backward.match.sparseCases false
set_option tactic.hygienic false
namespace Mine
theorem clo2 {B:Bs} (N:En B) {g:Addr} {n:Nat} {f n1 n2:Str} {p q d:D} {Q:D→Prop} (x:CloAt B g "atom" [n1,n2] (LamP [n1,n2] (.call f (.cons (.nm 0) (.cons (.nm 1) (.cons (.nm 2) .nil))))) [p,q])
  (h:Spec B f NoX n [.im d,.im p,.im q] fun r=>∃ e,r=.im e∧Q e):SpecA B g NoX (n+1) [.im d] fun r=>∃ e,r=.im e∧Q e :=
 .of_clo x rfl fun sc body hb=>by
  refine e1_1 hb ?_
  clear hb
  intro hok hc
  refine ⟨hok,(Snd.all N _).e hc ?_⟩
  exact h.to fun r hr=>by obtain ⟨e,rfl,hr⟩:=hr;exact ⟨e,rfl,e,rfl,hr⟩
noncomputable def A.at (W:List Str) (a:A) (x:Str) (v:Fn) (k:Int):Prop:=a.ok W (upd v x k)
theorem val_at {W:List Str} (w:Wd W) {x:Str} (hx:x∈W) {a:A} {v:Fn} {k:Int}:val W a.c a.f (upd v x k)=a.f x*k+(a.c+dot W (upd a.f x 0) v):=by
 unfold val;rw [dot_upd w.nd hx];lia
structure OneR (W:List Str) (x:Str) (many:Int) (a a':A):Prop where
 one:a'.f x=1∨a'.f x = -1
 eq:∀ v k,a'.at W x v (many*k)↔a.at W x v k
 t:(a.t=.ab∧a'.t=.ab)∨∃ m r,a.t=.go m∧a'.t=.go (m*r)∧0<r∧r ∣ many
 bd:Bd 30 a'.c a'.f
theorem oneR {W:List Str} (w:Wd W) {x:Str} (hx:x∈W) {many r s:Int} {a:A} {t':At} (hs:s=1∨s = -1) (hr:0<r) (he:a.f x*r=s*many) (lr:Lv 1 r) (hb:Bd 28 a.c a.f)
  (ht:(a.t=.ab∧t'=.ab)∨∃ m,a.t=.go m∧t'=.go (m*r)∧r ∣ many):OneR W x many a ⟨t',r*a.c+0,fun y=>r*upd a.f x 0 y+su [(x,s)] y⟩:=by
 have e1:r*upd a.f x 0 x+su [(x,s)] x=s:=by
  have:upd a.f x 0 x=0:=if_pos rfl
  have h2:su [(x,s)] x=s+0:=by show (if x=x then s else 0)+0=_;rw [if_pos rfl]
  rw [this,h2,Int.mul_zero];(clear h2 this ht he hr hs;lia)
 have ls:Lv 1 s:=by
  rcases hs with rfl | rfl
  ·exact lv1.2
  ·exact lvM1
 have hv:∀ v k,val W (r*a.c+0) (fun y=>r*upd a.f x 0 y+su [(x,s)] y) (upd v x (many*k))=r*val W a.c a.f (upd v x k):=fun v k=>by
  rw [val_at w hx (a:=⟨t',r*a.c+0,fun y=>r*upd a.f x 0 y+su [(x,s)] y⟩),val_at w hx]
  show (r*upd a.f x 0 x+su [(x,s)] x)*(many*k)+(r*a.c+0+dot W (upd (fun y=>r*upd a.f x 0 y+su [(x,s)] y) x 0) v)=_
  rw [e1,dot_congr (f:=upd (fun y=>r*upd a.f x 0 y+su [(x,s)] y) x 0) (v:=v) (g:=fun y=>r*upd a.f x 0 y) (u:=v),dot_mul,Int.mul_add,Int.mul_add,← Int.mul_assoc,← he,← Int.mul_assoc,Int.mul_comm r (a.f x)]
  ·(clear e1 ht he hr hs;lia)
  ·intro y _
   by_cases q:y=x
   ·have h1:upd (fun y=>r*upd a.f x 0 y+su [(x,s)] y) x 0 y=0:=if_pos q
    have h2:upd a.f x 0 y=0:=if_pos q
    rw [h1,h2,Int.mul_zero]
   ·have h1:upd (fun y=>r*upd a.f x 0 y+su [(x,s)] y) x 0 y=r*upd a.f x 0 y+su [(x,s)] y:=if_neg q
    have h2:su [(x,s)] y=0+0:=by show (if y=x then s else 0)+0=_;rw [if_neg q]
    rw [h1,h2,Int.add_zero,Int.add_zero]
 refine ⟨by show _=_∨_=_;rw [show (⟨t',r*a.c+0,fun y=>r*upd a.f x 0 y+su [(x,s)] y⟩:A).f x=s from e1];exact hs,fun v k=>?_,ht.imp id fun hz1=>by obtain ⟨m,h1,h2,h3⟩:=hz1;exact ⟨m,r,h1,h2,hr,h3⟩,?_,fun y=>?_⟩
 ·show t'.ok (val W _ _ (upd v x (many*k)))↔a.t.ok (val W a.c a.f (upd v x k))
  rw [hv]
  generalize val W a.c a.f (upd v x k)=z
  rcases ht with ⟨h1,h2⟩ | ⟨m,h1,h2,_⟩
  ·rw [h1,h2]
   show 0<r*z↔0<z
   exact ⟨fun h=>Classical.byContradiction fun q=>by have:=Int.mul_le_mul_of_nonneg_left (show z≤0 from (Int.not_lt.mp (by assumption))) (show 0≤r from (Int.le_of_lt (by assumption)));(clear q e1 he hr hs;lia),fun h=>Int.mul_pos hr h⟩
  ·rw [h1,h2]
   show m*r ∣ r*z↔m ∣ z
   rw [Int.mul_comm m r];exact Int.mul_dvd_mul_iff_left (ne_p (by assumption))
 ·show Lv 30 (r*a.c+0)
  rw [Int.add_zero];exact (lr.mul hb.1).mono (by decide)
 ·refine Lv.add (k:=29) ((lr.mul (?_:Lv 28 (upd a.f x 0 y))).mono (by decide)) ?_
  ·unfold upd;split
   ·exact lv1.1.mono (by decide)
   ·exact hb.2 y
  ·show Lv 29 ((if y=x then s else 0)+0)
   rw [Int.add_zero]
   split
   ·exact ls.mono (by decide)
   ·exact lv1.1.mono (by decide)
theorem Bd.upd {k:Nat} {c:Int} {f:Fn} (h:Bd k c f) (x:Str):Bd k c (upd f x 0):=⟨h.1,fun y=>by
 unfold Mine.upd
 split
 ·exact lv1.1.mono (Nat.zero_le _)
 ·exact h.2 y⟩
theorem Bd.mono {j k:Nat} {c:Int} {f:Fn} (h:Bd j c f) (hk:j≤k):Bd k c f:=⟨h.1.mono hk,fun y=>(h.2 y).mono hk⟩
noncomputable def A.sg (a:A) (x:Str):Int:=if 0<a.f x then 1 else -1
noncomputable def A.mr (a:A) (x:Str) (many:Int):Int:=many.fdiv (a.f x).natAbs
noncomputable def A.oneOf (a:A) (x:Str) (many:Int):A:=⟨(match a.t with | .go m=>.go (m*a.mr x many) | t=>t),a.mr x many*a.c+0,fun y=>a.mr x many*upd a.f x 0 y+su [(x,a.sg x)] y⟩
theorem A.mr_facts {a:A} {x:Str} {many:Int} (hm:0<many) (h0:a.f x≠0) (hd:a.f x ∣ many) (lm:Lv 1 many):0<a.mr x many∧Lv 1 (a.mr x many)∧a.mr x many ∣ many∧a.f x*a.mr x many=a.sg x*many:=by
 refine e1_1 hd ?_
 clear hd
 intro p hp
 have hn:(0:Int)<(a.f x).natAbs:=na_ne' h0
 have hmn:many=(many.natAbs:Int):=(Int.natAbs_of_nonneg (Int.le_of_lt hm)).symm
 have er:many.fdiv (a.f x).natAbs=p.natAbs:=by
  have:many=p.natAbs*(a.f x).natAbs:=by rw [← Int.natCast_mul,Nat.mul_comm,← Int.natAbs_mul,← hp];exact hmn
  rw [this,Int.mul_fdiv_cancel _ (Int.ne_of_gt hn)]
 have hr:(0:Int)<p.natAbs:=by
  have:p≠0:=fun q=>by rw [q,Int.mul_zero] at hp;exact Int.ne_of_gt hm hp
  exact na_ne' this
 have lr:Lv 1 (p.natAbs:Int):=lm.le (by rw [hp,Int.natAbs_mul,Int.natAbs_natCast];exact Nat.le_mul_of_pos_left _ (na_ne h0))
 have hle:(p.natAbs:Int) ∣ many:=⟨(a.f x).natAbs,by rw [← Int.natCast_mul,Nat.mul_comm,← Int.natAbs_mul,← hp];exact hmn⟩
 have e1:0<a.f x→a.f x*p.natAbs=1*many:=fun q=>by
  have:0≤p:=Classical.byContradiction fun z=>by have:=Int.mul_le_mul_of_nonneg_left (show p≤0 by (clear q hle hr er hn hp h0 hm;lia)) (show 0≤a.f x from (Int.le_of_lt (by assumption)));(clear z q hle hr er hn h0;lia)
  rw [hp,Int.natAbs_of_nonneg this,Int.one_mul]
 have e2:a.f x<0→a.f x*p.natAbs = -1*many:=fun q=>by
  have:p≤0:=Classical.byContradiction fun z=>by
   have:=Int.mul_le_mul_of_nonneg_right (show a.f x≤0 from (Int.le_of_lt (by assumption))) (show 0≤p by (clear q hle hr er hn hp h0 hm;lia));(clear z q hle hr er hn h0;lia)
  have e:(p.natAbs:Int) = -p:=Int.ofNat_natAbs_of_nonpos this
  rw [hp,e,Int.mul_neg,Int.neg_mul,Int.one_mul]
 unfold A.mr
 rw [er]
 refine ⟨hr,lr,hle,?_⟩
 unfold A.sg
 by_cases q:0<a.f x
 ·rw [if_pos q];exact e1 q
 ·rw [if_neg q];exact e2 (by (clear hle hr er h0;lia))
theorem A.oneOf_R {W:List Str} (w:Wd W) {x:Str} (hx:x∈W) {a:A} {many:Int} (ht:a.t≠.no) (hm:0<many) (h0:a.f x≠0) (hd:a.f x ∣ many) (lm:Lv 1 many) (hb:Bd 28 a.c a.f):OneR W x many a (a.oneOf x many):=by
 refine e0_4 (A.mr_facts hm h0 hd lm) ?_
 intro h1 h2 h3 h4
 refine oneR w hx ?_ h1 h4 h2 hb ?_
 ·unfold A.sg
  split
  ·exact .inl rfl
  ·exact .inr rfl
 ·obtain ⟨t,c,f⟩:=a
  clear h4 h2 h1 hb hd h0;cases t with
  | no=>exact absurd rfl ht
  | ab=>exact .inl ⟨rfl,rfl⟩
  | go m=>exact .inr ⟨m,rfl,rfl,h3⟩
section
variable {B:Bs} (C:Cx B) {W:List Str} (w:Wd W)
include C w
theorem sp_of_share_one {a:A} {x:Str} {many:Int} (hx:x∈W) (ht:a.t≠.no) (hm:0<many) (h0:a.f x≠0) (hd:a.f x ∣ many) (lm:Lv 1 many) (hb:Bd 28 a.c a.f) (hg:∀ m,a.t=.go m→Lv 28 m) :
  Spec B "of_share_one" NoX 3 [.im (a.d W),.im (.str x),.im (.int many)] fun q=>q=.im ((a.oneOf x many).d W) :=
 .of_vc C.toEn F_of_share_one b_of_share_one C.f_of_share_one k_of_share_one rfl <| by
  have hs:=fun {Q:Rs→Prop} (q:Q (.im (.int (a.f x))))=>(sp_share C (W:=W) (c:=a.c) (f:=a.f) (x:=x) (.inl hx)).eq (n:=2) (Q:=Q) q
  have hr:Lv 1 (many.fdiv (a.f x).natAbs):=(A.mr_facts hm h0 hd lm).2.1
  have lf:=((hb.2 x).le (j:=(a.f x).natAbs) na_na).mono (show 28≤80 by decide)
  obtain ⟨t,c,f⟩:=a
  cases t with
  | no=>exact absurd rfl ht
  | ab =>
   refine hs ?_
   refine iF (beq_eq_false_iff_ne.mpr h0) ?_
   refine ⟨na_ne0 (i:=f x) h0,lf.fd,?_⟩
   refine iB (fun q=>?_) fun q=>?_
   ·refine (sp_without C w).eq ?_
    refine (sp_times C w (hr.mono (by decide)) ((hb.upd x).mono (by decide))).eq ?_
    refine (sp_made C w (ps:=[(x,1)]) fun p hp=>by cases List.mem_singleton.mp hp;exact hx).eq ?_
    refine (sp_added C w).eq ?_
    show Rs.im (.tup [.str "above",sD W (many.fdiv (f x).natAbs*c+0) fun y=>many.fdiv (f x).natAbs*upd f x 0 y+su [(x,1)] y])=Rs.im (.tup [.str "above",sD W (many.fdiv (f x).natAbs*c+0) fun y=>many.fdiv (f x).natAbs*upd f x 0 y+su [(x,if 0<f x then 1 else -1)] y])
    rw [if_pos (of_decide_eq_true q)]
   ·refine (sp_without C w).eq ?_
    refine (sp_times C w (hr.mono (by decide)) ((hb.upd x).mono (by decide))).eq ?_
    refine (sp_made C w (ps:=[(x,-1)]) fun p hp=>by cases List.mem_singleton.mp hp;exact hx).eq ?_
    refine (sp_added C w).eq ?_
    show Rs.im (.tup [.str "above",sD W (many.fdiv (f x).natAbs*c+0) fun y=>many.fdiv (f x).natAbs*upd f x 0 y+su [(x,-1)] y])=Rs.im (.tup [.str "above",sD W (many.fdiv (f x).natAbs*c+0) fun y=>many.fdiv (f x).natAbs*upd f x 0 y+su [(x,if 0<f x then 1 else -1)] y])
    rw [if_neg (of_decide_eq_false q)]
  | go m =>
   refine hs ?_
   refine iF (beq_eq_false_iff_ne.mpr h0) ?_
   refine ⟨na_ne0 (i:=f x) h0,lf.fd,?_⟩
   refine iB (fun q=>?_) fun q=>?_
   ·refine (sp_without C w).eq ?_
    refine (sp_times C w (hr.mono (by decide)) ((hb.upd x).mono (by decide))).eq ?_
    refine (sp_made C w (ps:=[(x,1)]) fun p hp=>by cases List.mem_singleton.mp hp;exact hx).eq ?_
    refine (sp_added C w).eq ?_
    refine ⟨((hg m rfl).mono (by decide)).ok (hr.mono (by decide)),?_⟩
    show Rs.im (.tup [.str "goes",.int (m*many.fdiv (f x).natAbs),sD W (many.fdiv (f x).natAbs*c+0) fun y=>many.fdiv (f x).natAbs*upd f x 0 y+su [(x,1)] y])=Rs.im (.tup [.str "goes",.int (m*many.fdiv (f x).natAbs),sD W (many.fdiv (f x).natAbs*c+0) fun y=>many.fdiv (f x).natAbs*upd f x 0 y+su [(x,if 0<f x then 1 else -1)] y])
    rw [if_pos (of_decide_eq_true q)]
   ·refine (sp_without C w).eq ?_
    refine (sp_times C w (hr.mono (by decide)) ((hb.upd x).mono (by decide))).eq ?_
    refine (sp_made C w (ps:=[(x,-1)]) fun p hp=>by cases List.mem_singleton.mp hp;exact hx).eq ?_
    refine (sp_added C w).eq ?_
    refine ⟨((hg m rfl).mono (by decide)).ok (hr.mono (by decide)),?_⟩
    show Rs.im (.tup [.str "goes",.int (m*many.fdiv (f x).natAbs),sD W (many.fdiv (f x).natAbs*c+0) fun y=>many.fdiv (f x).natAbs*upd f x 0 y+su [(x,-1)] y])=Rs.im (.tup [.str "goes",.int (m*many.fdiv (f x).natAbs),sD W (many.fdiv (f x).natAbs*c+0) fun y=>many.fdiv (f x).natAbs*upd f x 0 y+su [(x,if 0<f x then 1 else -1)] y])
    rw [if_neg (of_decide_eq_false q)]
end
end Mine
end

section
open PySem PySem.W PyProof.Rows PySem.Calls PyProof
set_option backward.match.sparseCases false
set_option tactic.hygienic false
namespace Mine
noncomputable def farDen (W:List Str) (x:Str) (side:Int) (a:A) (v:Fn):Prop:=match a.t with
 | .ab=>a.f x≠side
 | _=>a.ok W v
structure SetP (W:List Str) (k:Nat) (tg:Prop) (Z:Str→Prop) (b:A):Prop where
 bd:Bd k b.c b.f
 t:b.t=.ab∨tg∧∃ m,b.t=.go m∧0<m∧Lv k m
 z:∀ y∈W,Z y→b.f y=0
theorem iP {c:Prop} [Decidable c] {P R:Prop} (h:c) (p:P):if c then P else R:=by rw [if_pos h];exact p
theorem iN {c:Prop} [Decidable c] {P R:Prop} (h:¬ c) (p:R):if c then P else R:=by rw [if_neg h];exact p
theorem mul_zero_r {g a:Int} (hg:0<g) (h:0=g*a):a=0:=(Int.mul_eq_zero.mp h.symm).resolve_left (by (clear h;lia))
section
variable {B:Bs} (C:Cx B) {W:List Str} (w:Wd W)
include C w
theorem sp_far_atom {a:A} {x:Str} {side:Int} (hx:x∈W) (h1:a.f x=1∨a.f x = -1) (ht:a.t≠.no) {P:A→Prop} (hP:∀ m,a.t=.go m→P a):Spec B "far_atom" NoX 2 [.im (a.d W),.im (.str x),.im (.int side)] fun q=>∃ q',q=.im q'∧Cj W P 1 (farDen W x side a) q' :=
 .of_vc C.toEn F_far_atom b_far_atom C.f_far_atom k_far_atom rfl <| by
  have hs:=fun {Q:Rs→Prop} (q:Q (.im (.int (a.f x))))=>(sp_share C (W:=W) (c:=a.c) (f:=a.f) (x:=x) (.inl hx)).eq (n:=1) (Q:=Q) q
  obtain ⟨t,c,f⟩:=a
  cases t with
  | no=>exact absurd rfl ht
  | go m=>exact ⟨_,rfl,.all [⟨.go m,c,f⟩] (fun b hb=>by cases List.mem_singleton.mp hb;exact hP m rfl) (Nat.le_refl 1) fun v=>⟨fun q b hb=>by cases List.mem_singleton.mp hb;exact q,fun q=>q _ (List.mem_cons_self ..)⟩⟩
  | ab =>
   have h0:(f x == 0)=false:=beq_eq_false_iff_ne.mpr (by have:f x=1∨f x = -1:=h1;(clear h1;lia))
   refine hs ?_
   refine iP h0 ?_
   refine hs ?_
   refine iB (fun q=>⟨_,rfl,.no fun v z=>z (eq_of_beq q)⟩) fun q=>⟨_,rfl,.all [] nilAll (Nat.zero_le _) fun v=>⟨fun _=>nilAll,fun _=>beq_eq_false_iff_ne.mp q⟩⟩
noncomputable def A.put (a:A) (x:Str) (d:Int) (g:Fn):A:=⟨a.t,a.c+a.f x*d,fun y=>upd a.f x 0 y+a.f x*g y⟩
omit C in
theorem put_ok {a:A} {x:Str} {d:Int} {g v:Fn} (hx:x∈W):(a.put x d g).ok W v↔a.ok W (upd v x (val W d g v)):=by
 show a.t.ok (val W (a.c+a.f x*d) (fun y=>upd a.f x 0 y+a.f x*g y) v)↔a.t.ok _
 have:val W (a.c+a.f x*d) (fun y=>upd a.f x 0 y+a.f x*g y) v=val W a.c a.f (upd v x (val W d g v)):=by
  rw [val_at w hx]
  unfold val
  rw [dot_add,dot_mul,Int.mul_add];lia
 rw [this]
omit C w in
theorem put_bd {a:A} {x:Str} {d:Int} {g:Fn} (hb:Bd 34 a.c a.f) (h1:Lv 1 (a.f x)) (hg:Bd 34 d g):Bd 36 (a.put x d g).c (a.put x d g).f :=
 ⟨Lv.add (hb.1.mono (by decide)) ((h1.mul hg.1).mono (by decide)),fun y=>Lv.add (((hb.upd x).2 y).mono (by decide)) ((h1.mul (hg.2 y)).mono (by decide))⟩
omit C w in
theorem NeatR.cj {k:Nat} {tg:Prop} {Z:Str→Prop} {a:A} {o:Option (List D)} (h:NeatR W k a.t a.c a.f o) (ht:a.t=.ab∨tg∧∃ m,a.t=.go m∧0<m∧Lv k m) (hz:∀ y∈W,Z y→a.f y=0):Cj W (SetP W k tg Z) 1 (fun v=>a.ok W v) (cj true o):=by
 cases h with
 | no q=>exact .no q
 | yes q=>exact .all [] nilAll (Nat.zero_le _) fun v=>⟨fun _=>nilAll,fun _=>q v⟩
 | «at» t' c' f' q1 q2 q3 =>
  refine .all [⟨t',c',f'⟩] (fun b hb=>?_) (Nat.le_refl 1) fun v=>⟨fun q b hb=>by cases List.mem_singleton.mp hb;exact (q1 v).mpr q,fun q=>(q1 v).mp (q _ (List.mem_cons_self ..))⟩
  cases List.mem_singleton.mp hb
  rcases ht with e | ⟨htg,m,e,hm,lm⟩
  ·rw [e] at q3
   exact ⟨q2,.inl q3.1,fun y hy z=>by obtain ⟨g,hg,q⟩:=q3.2 y hy;rw [hz y hy z] at q;exact mul_zero_r hg q⟩
  ·rw [e] at q3
   refine e0_2 q3 ?_
   clear q3
   intro _ ez1
   refine e1_4 ez1 ?_
   clear ez1
   intro m' e' hm' hd q
   refine ⟨q2,.inr ⟨htg,m',e',hm',lm.le (natAbs_le_dvd hd (by (clear hd hm' hm;lia)))⟩,fun y hy z=>?_⟩
   refine e1_3 (q y hy) ?_
   intro g hg _ q
   rw [hz y hy z,Int.zero_fmod] at q
   exact mul_zero_r hg q
theorem sp_set1 {a:A} {x:Str} {d:Int} {g:Fn} {tg:Prop} {Z:Str→Prop} (hx:x∈W) (hb:Bd 34 a.c a.f) (h1:Lv 1 (a.f x)) (hg:Bd 34 d g) (ht:a.t=.ab∨tg∧∃ m,a.t=.go m∧0<m∧Lv 36 m) (hz:∀ y∈W,Z y→(a.put x d g).f y=0) :
  Spec B "set_in" NoX 5 [.im (a.d W),.im (.str x),.im (sD W d g)] fun q=>∃ q',q=.im q'∧Cj W (SetP W 36 tg Z) 1 (fun v=>a.ok W (upd v x (val W d g v))) q' :=
 .of_vc C.toEn F_set_in b_set_in C.f_set_in k_set_in rfl <| by
  have hp:=fun {Q:Rs→Prop} (q:Q (.im (sD W (a.c+a.f x*d) fun y=>upd a.f x 0 y+a.f x*g y)))=>(sp_put_in C w (c:=a.c) (.inl hx) (h1.mono (by decide)) (hg.mono (by decide))).eq (n:=4) (Q:=Q) q
  have hn:Spec B "neat_atom" NoX 4 [.im ((a.put x d g).d W)] fun q=>∃ q',q=.im q'∧Cj W (SetP W 36 tg Z) 1 (fun v=>a.ok W (upd v x (val W d g v))) q' :=
   (sp_neat_atom C w (put_bd hb h1 hg) (by decide) fun m e=>by
    have e:a.t=.go m:=e
    rcases ht with q | ⟨_,m',q,h⟩
    ·rw [q] at e;cases e
    ·rw [q] at e;clear q;cases e;exact h).to fun r h=>by
    refine e1_2 h ?_
    clear h
    intro o ez2 h
    subst ez2
    exact ⟨_,rfl,(NeatR.cj (a:=a.put x d g) h ht hz).imp (fun _ x=>x) (Nat.le_refl 1) fun v=>put_ok w hx⟩
  have hn:=fun {Q:Rs→Prop} (hq:∀ q',Cj W (SetP W 36 tg Z) 1 (fun v=>a.ok W (upd v x (val W d g v))) q'→Q (.im q'))=>hn.to (n:=4) (Q:=Q) fun r h=>by obtain ⟨q',rfl,h⟩:=h;exact hq q' h
  obtain ⟨t,c,f⟩:=a
  cases t with
  | no=>exact absurd ht (by rintro (q | ⟨_,_,q,_⟩) <;> cases q)
  | ab=>exact ⟨nofun,(by decide:2≤sizeLine),hp ⟨(by decide:1+1≤sizeLine),hn fun q' h=>⟨q',rfl,h⟩⟩⟩
  | go m=>exact ⟨nofun,(by decide:3≤sizeLine),hp ⟨(by decide:2+1≤sizeLine),hn fun q' h=>⟨q',rfl,h⟩⟩⟩
theorem sp_set {la:List A} (hl:la.length≤4) {x:Str} {d:Int} {g:Fn} {tg:Prop} {Z:Str→Prop} (hx:x∈W) (hb:∀ a∈la,Bd 34 a.c a.f∧Lv 1 (a.f x)∧(a.t=.ab∨tg∧∃ m,a.t=.go m∧0<m∧Lv 36 m)∧∀ y∈W,Z y→(a.put x d g).f y=0) (hg:Bd 34 d g) :
  Spec B "set_in" NoX 6 [.im (cj true (some (la.map (A.d W)))),.im (.str x),.im (sD W d g)] fun q=>∃ q',q=.im q'∧Cj W (SetP W 36 tg Z) 4 (fun v=>∀ a∈la,a.ok W (upd v x (val W d g v))) q':=by
 by_cases h1:la.length=1
 ·refine e1_1 (len1 h1) ?_
  intro a ez3
  clear h1 hl;subst ez3
  refine e0_4 (hb a (List.mem_cons_self ..)) ?_
  intro b1 b2 b3 b4
  exact (sp_set1 C w hx b1 b2 hg b3 b4).to fun r h=>by
   refine e1_2 h ?_
   clear h
   intro q' ez4 h
   subst ez4
   exact ⟨q',rfl,h.imp (fun _ x=>x) (by decide) fun v=>⟨fun h b hb=>(List.mem_singleton.mp hb)▸h,fun h=>h a (List.mem_cons_self ..)⟩⟩
 ·rw [cj_con (by rw [List.length_map];exact h1)]
  refine .of_vc C.toEn F_set_in b_set_in C.f_set_in k_set_in rfl ?_
  refine compM (fun l ac=>∃ ps:List (A×D),ac=ps.map (·.2)∧la=ps.map (·.1)++l∧∀ p∈ps,Cj W (SetP W 36 tg Z) 1 (fun v=>p.1.ok W (upd v x (val W d g v))) p.2) (fun ac h=>?_) (fun a l ac h K _ k1=>?_) la [] ⟨[],rfl,rfl,nilAll⟩
  ·refine e1_3 h ?_
   clear h
   intro ps ez5 h2 h3
   subst ez5
   rw [List.append_nil] at h2
   have e:ps.length=la.length:=by rw [h2,List.length_map]
   refine (sp_joinAnd C (l:=ps) (g:=fun p=>p.2) (den:=fun p v=>p.1.ok W (upd v x (val W d g v))) h3 (by rw [e,Nat.mul_one];exact Nat.le_trans hl (by decide))).ex fun q' h=>?_
   refine ⟨q',rfl,h.imp (fun _ x=>x) (by rw [e,Nat.mul_one];exact hl) fun v=>⟨fun h a ha=>?_,fun h p hp=>?_⟩⟩
   ·rw [h2] at ha
    refine e1_2 (List.mem_map.mp ha) ?_
    intro p hp ez6
    clear ha;subst ez6
    exact h p hp
   ·exact h p.1 (by rw [h2];exact List.mem_map.mpr ⟨p,hp,rfl⟩)
  ·refine e1_3 h ?_
   clear h
   intro ps ez7 h2 h3
   subst ez7
   obtain ⟨b1,b2,b3,b4⟩:=hb a (by rw [h2];exact List.mem_append_right _ (List.mem_cons_self ..))
   refine (sp_set1 C w hx b1 b2 hg b3 b4).ex fun q' h=>?_
   refine k1 q' ?_ ⟨ps++[(a,q')],?_,?_,fun p hp=>?_⟩
   ·rw [h2,List.length_append,List.length_map] at hl
    rw [List.length_map];exact Nat.le_trans (show ps.length≤4 by (clear b3 h1;lia)) (by decide)
   ·rw [List.map_append];rfl
   ·rw [h2,List.map_append,List.append_assoc];rfl
   ·rcases List.mem_append.mp hp with hp | hp
    ·exact h3 p hp
    ·cases List.mem_singleton.mp hp;exact h
theorem sp_set0 {x:Str} {d:D}:Spec B "set_in" NoX 4 [.im (con false []),.im (.str x),.im d] fun q=>q=.im (con false []) :=
 .of_vc C.toEn F_set_in b_set_in C.f_set_in k_set_in rfl <| by
  refine (sp_joined C (a:=false) (os:=[]) nofun (Nat.zero_le _)).ex fun o h=>?_
  cases h with
  | no h=>cases h
  | all l _ h _ =>
   have:l=[]:=List.eq_nil_iff_forall_not_mem.mpr fun e he=>by obtain ⟨_,q,_⟩:=(h e).mp he;clear right;cases q
   clear hl h;subst this;rfl
end
end Mine
end

section
open PySem PySem.W PyProof.Rows PySem.Calls PyProof
set_option backward.match.sparseCases false
set_option tactic.hygienic false
namespace Mine
noncomputable def A.edge (a:A) (x:Str) (side:Int):Int×Fn:=(-side*a.c,fun y => -side*upd a.f x 0 y)
structure EdgR (W:List Str) (x:Str) (side:Int) (la:List A) (es:List (Int×Fn)):Prop where
 of:∀ e∈es,∃ a∈la,e=a.edge x side
 to:∀ a∈la,a.t=.ab→a.f x=side→∃ e∈es,∀ v,val W e.1 e.2 v=val W (a.edge x side).1 (a.edge x side).2 v
 len:es.length≤la.length
section
variable {B:Bs} (C:Cx B) {W:List Str} (w:Wd W)
include C w
theorem sp_edges {la:List A} (hl:la.length≤4) {x:Str} {side:Int} (hx:x∈W) (hs:side=1∨side = -1) (ht:∀ a∈la,a.t≠.no) (hb:∀ a∈la,Bd 34 a.c a.f) :
  Spec B "edges_of" NoX 3 [.im (cj true (some (la.map (A.d W)))),.im (.str x),.im (.int side)] fun q=>∃ es:List (Int×Fn),q=.fr (.lst (es.map fun e=>sD W e.1 e.2))∧EdgR W x side la es :=
 .of_vc C.toEn F_edges_of b_edges_of C.f_edges_of k_edges_of rfl <| by
  refine (sp_atoms C hl).eq ?_
  refine loopM (fun l ρ=>∃ pre m x4,ρ=[some (.im (cj true (some (la.map (A.d W))))),some (.im (.str x)),some (.im (.int side)),some (.own (.ddc m)),x4]∧la=pre++l∧m.length≤pre.length ∧
    ∀ d,d∈m↔∃ a∈pre,a.t=.ab∧a.f x=side∧d=sD W (a.edge x side).1 (a.edge x side).2) (fun ρ h=>?_) (fun a l ρ h K hK=>?_) la _ ⟨[],[],_,rfl,rfl,Nat.le_refl 0,fun d=>⟨nofun,fun hz1=>by obtain ⟨_,h,_⟩:=hz1;clear right;cases h⟩⟩
  ·refine e3_4 h ?_
   clear h
   intro pre m x4 ez1 e h1 h2
   subst ez1
   rw [List.append_nil] at e
   subst e
   have lift:∀ m:List D,(∀ d∈m,∃ a∈la,a.t=.ab∧a.f x=side∧d=sD W (a.edge x side).1 (a.edge x side).2)→∃ es:List (Int×Fn),m=es.map (fun e=>sD W e.1 e.2)∧∀ e∈es,∃ a∈la,e=a.edge x side:=fun m=>by
    induction m with
    | nil=>exact fun _=>⟨[],rfl,nilAll⟩
    | cons d m ih =>
     intro h
     refine e1_2 (ih fun d hd=>h d (List.mem_cons_of_mem _ hd)) ?_
     intro es ez2 h1
     clear ih;subst ez2
     refine e1_4 (h d (List.mem_cons_self ..)) ?_
     intro a ha _ _ ez3
     (try clear a_2;try clear a_1;try clear h;try clear ih);subst ez3
     exact ⟨a.edge x side::es,rfl,fun e he=>(List.mem_cons.mp he).elim (fun q=>⟨a,ha,q⟩) (h1 e)⟩
   refine e1_2 (lift m fun d hd=>(h2 d).mp hd) ?_
   intro es ez4 h3
   clear lift;subst ez4
   rw [List.length_map] at h1
   refine ⟨by rw [List.length_map];exact Nat.le_trans (Nat.le_trans h1 hl) (by decide),es,rfl,h3,fun a ha h4 h5=>?_,h1⟩
   refine e1_2 (List.mem_map.mp ((h2 _).mpr ⟨a,ha,h4,h5,rfl⟩)) ?_
   intro e he q
   exact ⟨e,he,fun v=>sD_val q⟩
  ·refine e3_4 h ?_
   clear h
   intro pre m x4 ez5 e h1 h2
   subst ez5
   have ha:a∈la:=by rw [e];exact List.mem_append_right _ (List.mem_cons_self ..)
   have e2:la=(pre++[a])++l:=by rw [e,List.append_assoc];rfl
   have hlen:pre.length+1≤4:=by rw [e,List.length_append,List.length_cons] at hl;(clear h1 hs;lia)
   have skip:(¬ (a.t=.ab∧a.f x=side))→∀ x4:Option Sl,K [some (.im (cj true (some (la.map (A.d W))))),some (.im (.str x)),some (.im (.int side)),some (.own (.ddc m)),x4]:=fun hn x4 =>
    hK _ ⟨pre++[a],m,_,rfl,e2,by rw [List.length_append];(clear hn hlen hs hl;lia),fun d=>(h2 d).trans ⟨fun hz2=>e1_2 hz2 fun b q1 q2=>⟨b,List.mem_append_left _ q1,q2⟩,fun hz3=>by
     refine e1_4 hz3 ?_
     clear hz3
     intro b q1 q2 q3 q4
     rcases List.mem_append.mp q1 with q1 | q1
     ·exact ⟨b,q1,q2,q3,q4⟩
     ·cases List.mem_singleton.mp q1;exact absurd ⟨q2,q3⟩ hn⟩⟩
   have hsh:=fun {Q:Rs→Prop} (q:Q (.im (.int (a.f x))))=>(sp_share C (W:=W) (c:=a.c) (f:=a.f) (x:=x) (.inl hx)).eq (n:=2) (Q:=Q) q
   have ls:Lv 1 (-side):=by
    rcases hs with rfl | rfl
    ·exact lvM1
    ·exact lv1.2
   have hed:∀ {Q:Rs→Prop},Q (.im (sD W (a.edge x side).1 (a.edge x side).2))→Spec B "times" NoX 2 [.im (.int (-side)),.im (sD W a.c (upd a.f x 0))] Q:=fun {Q} q=>(sp_times C w (ls.mono (by decide)) (((hb a ha).upd x).mono (by decide))).eq q
   have hwo:=fun {Q:Rs→Prop} (q:Q (.im (sD W a.c (upd a.f x 0))))=>(sp_without C w (c:=a.c) (f:=a.f) (x:=x)).eq (n:=2) (Q:=Q) q
   have hkey:D.depL [.int (a.edge x side).1,.tup (sL W (a.edge x side).2)]≤7∧D.kkL [.int (a.edge x side).1,.tup (sL W (a.edge x side).2)]=true :=
    ⟨Nat.max_le.mpr ⟨Nat.zero_le _,Nat.max_le.mpr ⟨Nat.succ_le_succ (Nat.le_trans sL_dep (by decide)),Nat.zero_le _⟩⟩,by show (true&&(D.kkL _&&true))=true;rw [sL_kk];rfl⟩
   have add:a.t=.ab→a.f x=side→∀ x4:Option Sl,K [some (.im (cj true (some (la.map (A.d W))))),some (.im (.str x)),some (.im (.int side)),some (.own (.ddc (dAdd m (sD W (a.edge x side).1 (a.edge x side).2)))),x4]:=fun q1 q2 x4 =>
    hK _ ⟨pre++[a],_,_,rfl,e2,by have:=dAdd_len (m:=m) (d:=sD W (a.edge x side).1 (a.edge x side).2);rw [List.length_append,List.length_singleton];(clear q2 hkey hlen hs hl;lia),fun d=>by
     rw [mem_dAdd,h2]
     constructor
     ·rintro (⟨b,p1,p2⟩ | p)
      ·exact ⟨b,List.mem_append_left _ p1,p2⟩
      ·exact ⟨a,List.mem_append_right _ (List.mem_singleton.mpr rfl),q1,q2,p⟩
     ·intro rz1
      obtain ⟨b,p1,p2,p3,p4⟩:=rz1
      rcases List.mem_append.mp p1 with p1 | p1
      ·exact .inl ⟨b,p1,p2,p3,p4⟩
      ·cases List.mem_singleton.mp p1;exact .inr p4⟩
   have hml:m.length≤sizeLine:=Nat.le_trans (Nat.le_trans h1 (show pre.length≤4 from (Nat.le_of_lt (by assumption)))) (by decide)
   have hta:=ht a ha
   obtain ⟨t,c,f⟩:=a
   cases t with
   | no=>exact absurd rfl hta
   | go k=>exact skip (fun q=>by cases q.1) _
   | ab =>
    refine hsh ?_
    by_cases q:f x=side
    ·refine iP (beq_iff_eq.mpr q) ?_
     refine ⟨by decide,?_⟩
     refine hwo ?_
     refine hed ?_
     exact ⟨hkey.1,hkey.2,hml,add rfl q _⟩
    ·refine iN (fun z=>q (eq_of_beq z)) ?_
     refine iF (beq_eq_false_iff_ne.mpr q) ?_
     exact skip (fun z=>q z.2) _
end
end Mine
end

section
open PySem PySem.W PyProof.Rows PySem.Calls PyProof
set_option backward.match.sparseCases false
set_option tactic.hygienic false
namespace Mine
theorem cooper_down {P:Int→Prop} {T:Int} {bs:List Int}
  (flip:∀ x,P x→¬ P (x-T)→∃ b∈bs,b<x∧x≤b+T) (x:Int) (h:P x) (hn:∀ b∈bs,∀ j,1≤j→j≤T→¬ P (b+j)) :
  ∀ k:Nat,P (x-k*T):=by
 intro k
 induction k with
 | zero=>simpa using h
 | succ k ih =>
  apply Classical.byContradiction
  intro hc
  have e:x-((k+1:Nat):Int)*T=x-k*T-T:=by
   show x-((k:Int)+1)*T=_;rw [Int.add_mul,Int.one_mul];exact (Int.sub_sub _ _ _).symm
  rw [e] at hc
  refine e1_3 (flip _ ih hc) ?_
  intro b hb h1 h2
  refine hn b hb (x-k*T-b) (Int.sub_pos_of_lt h1) (Int.sub_left_le_of_le_add h2) ?_
  rw [Int.add_comm,Int.sub_add_cancel]
  exact ih
theorem cooper {P F:Int→Prop} {T:Int} (hT:0<T) {bs:List Int}
  (flip:∀ x,P x→¬ P (x-T)→∃ b∈bs,b<x∧x≤b+T)
  (far:∃ N,∀ x,x<N→(P x↔F x)) (per:∀ x,F (x-T)↔F x) :
  (∃ x,P x)↔(∃ j,1≤j∧j≤T∧(F j∨∃ b∈bs,P (b+j))):=by
 have perk:∀ (k:Nat) x,F (x-k*T)↔F x:=by
  intro k
  induction k with
  | zero=>intro x;simp
  | succ k ih =>
   intro x
   rw [← ih x,← per (x-k*T)]
   rw [show x-((k+1:Nat):Int)*T=x-k*T-T by show x-((k:Int)+1)*T=_;rw [Int.add_mul,Int.one_mul];exact (Int.sub_sub _ _ _).symm]
 have down:∀ x,F x→∃ j,1≤j∧j≤T∧F j:=by
  intro x hx
  have hm:=Int.emod_nonneg (x-1) (Int.ne_of_gt hT)
  have hl:=Int.emod_lt_of_pos (x-1) hT
  have hd:=Int.mul_ediv_add_emod (x-1) T
  refine ⟨(x-1) % T+1,Int.le_add_of_nonneg_left hm,hl,?_⟩
  by_cases q:0≤(x-1) / T
  ·have:=(perk ((x-1) / T).toNat x)
   rw [Int.toNat_of_nonneg q] at this
   have e:x-(x-1) / T*T=(x-1) % T+1:=by
    rw [Int.mul_comm] at hd;omega
   rw [e] at this;exact this.mpr hx
  ·have:=(perk (-((x-1) / T)).toNat ((x-1) % T+1))
   rw [Int.toNat_of_nonneg (Int.neg_nonneg_of_nonpos (Int.le_of_lt (Int.not_le.mp q)))] at this
   have e:(x-1) % T+1 - -((x-1) / T)*T=x:=by
    rw [Int.neg_mul];rw [Int.mul_comm] at hd;omega
   rw [e] at this;exact this.mp hx
 refine e1_1 far ?_
 clear far
 intro N hN
 have low:∀ x,∃ k:Nat,x-k*T<N:=by
  intro x
  refine ⟨(x-N+1).toNat,?_⟩
  by_cases q:0≤x-N+1
  ·rw [Int.toNat_of_nonneg q]
   have:(x-N+1)*1≤(x-N+1)*T:=Int.mul_le_mul_of_nonneg_left hT q
   omega
  ·rw [Int.toNat_of_nonpos (by omega)];omega
 constructor
 ·intro rz1
  obtain ⟨x,hx⟩:=rz1
  apply Classical.byContradiction
  intro hc
  have hk:=cooper_down flip x hx (fun b hb j h1 h2 hp=>hc ⟨j,h1,h2,.inr ⟨b,hb,hp⟩⟩)
  refine e1_1 (low x) ?_
  intro k hl
  refine e1_3 (down _ ((hN _ hl).mp (hk k))) ?_
  intro j h1 h2 h3
  exact hc ⟨j,h1,h2,.inl h3⟩
 ·rintro ⟨j,h1,h2,h3 | ⟨b,_,h3⟩⟩
  ·refine e1_1 (low j) ?_
   intro k hl
   exact ⟨_,(hN _ hl).mpr ((perk k j).mpr h3)⟩
  ·exact ⟨_,h3⟩
noncomputable def A.rs (W:List Str) (a:A) (x:Str) (v:Fn):Int:=a.c+dot W (upd a.f x 0) v
structure One1 (x:Str) (T:Int) (a:A):Prop where
 one:a.f x=1∨a.f x = -1
 t:a.t=.ab∨∃ m,a.t=.go m∧m ∣ T
theorem at_ab {W:List Str} (w:Wd W) {x:Str} (hx:x∈W) {a:A} {v:Fn} {k:Int} (h:a.t=.ab):a.at W x v k↔0<a.f x*k+a.rs W x v:=by
 unfold A.at A.ok;rw [val_at w hx,h];exact Iff.rfl
theorem at_go {W:List Str} (w:Wd W) {x:Str} (hx:x∈W) {a:A} {v:Fn} {k m:Int} (h:a.t=.go m):a.at W x v k↔m ∣ a.f x*k+a.rs W x v:=by
 unfold A.at A.ok;rw [val_at w hx,h];exact Iff.rfl
theorem far_go {W:List Str} {x:Str} {side:Int} {a:A} {v:Fn} {k m:Int} (h:a.t=.go m):farDen W x side a (upd v x k)↔a.at W x v k:=by
 unfold farDen;rw [h];exact Iff.rfl
theorem far_ab {W:List Str} {x:Str} {side:Int} {a:A} {v:Fn} (h:a.t=.ab):farDen W x side a v↔a.f x≠side:=by
 unfold farDen;rw [h]
theorem cooperL {W:List Str} (w:Wd W) {x:Str} (hx:x∈W) {T side:Int} (hT:0<T) (hs:side=1∨side = -1) {lb:List A} (hb:∀ b∈lb,One1 x T b) {v:Fn} {es:List Int}
  (he:∀ b∈lb,b.t=.ab→b.f x=side → -side*b.rs W x v∈es) :
  (∃ k,∀ b∈lb,b.at W x v k)↔∃ j,1≤j∧j≤T∧((∀ b∈lb,farDen W x side b (upd v x (side*j)))∨∃ e∈es,∀ b∈lb,b.at W x v (e+side*j)):=by
 have ss:side*side=1:=by rcases hs with rfl | rfl <;> rfl
 have sd:∀ z,side*(side*z)=z:=fun z=>by rw [← Int.mul_assoc,ss,Int.one_mul]
 have per:∀ b∈lb,∀ m,b.t=.go m→∀ k,b.at W x v (side*(k-T))↔b.at W x v (side*k):=fun b h m e k=>by
  rw [at_go w hx e,at_go w hx e]
  obtain ⟨q,hq⟩:m ∣ T:=by
   rcases (hb b h).t with z | ⟨m',z,hd⟩
   ·rw [z] at e;cases e
   ·rw [z] at e;cases e;exact hd
  have e1:b.f x*(side*k)+b.rs W x v=m*(b.f x*side*q)+(b.f x*(side*(k-T))+b.rs W x v):=by
   have:b.f x*(side*(m*q))=m*(b.f x*side*q):=by rw [Int.mul_left_comm side m q,Int.mul_left_comm (b.f x) m,← Int.mul_assoc (b.f x)]
   rw [Int.mul_sub,Int.mul_sub,hq,this,← Int.add_assoc,Int.add_comm (m*_),Int.sub_add_cancel]
  rw [e1]
  exact (Int.dvd_add_right ⟨_,rfl⟩).symm
 have main:=cooper (P:=fun k=>∀ b∈lb,b.at W x v (side*k)) (F:=fun k=>∀ b∈lb,farDen W x side b (upd v x (side*k))) hT (bs:=es.map (side*·)) (fun k hk hn=>?_) ?_ fun k=>?_
 ·constructor
  ·intro rz2
   obtain ⟨k,hk⟩:=rz2
   obtain ⟨j,h1,h2,h3⟩:=main.mp ⟨side*k,fun b h=>by rw [sd];exact hk b h⟩
   refine ⟨j,h1,h2,h3.imp id ?_⟩
   intro rz3
   obtain ⟨e,h4,h5⟩:=rz3
   refine e1_2 (List.mem_map.mp h4) ?_
   intro e' h6 ez1
   subst ez1
   exact ⟨e',h6,fun b h=>by have:=h5 b h;rw [Int.mul_add,sd] at this;exact this⟩
  ·intro rz4
   obtain ⟨j,h1,h2,h3⟩:=rz4
   obtain ⟨k,hk⟩:=main.mpr ⟨j,h1,h2,h3.imp id fun hz1=>e1_2 hz1 fun e h4 h5=>⟨side*e,List.mem_map.mpr ⟨e,h4,rfl⟩,fun b h=>by rw [Int.mul_add,sd];exact h5 b h⟩⟩
   exact ⟨side*k,hk⟩
 ·obtain ⟨b,h,hn⟩:∃ b∈lb,¬ b.at W x v (side*(k-T)):=Classical.byContradiction fun q=>hn fun b h=>Classical.byContradiction fun z=>q ⟨b,h,z⟩
  rcases (hb b h).t with e | ⟨m,e,_⟩
  ·have h1:=hk b h
   rw [at_ab w hx e] at hn h1
   have hf:b.f x=side:=by
    refine Classical.byContradiction fun q=>?_
    have:b.f x*side = -1:=by rcases hs with rfl | rfl <;> rcases (hb b h).one with z | z <;> rw [z] at q ⊢ <;> first | rfl | exact absurd rfl q
    rw [← Int.mul_assoc,this] at hn h1
    omega
   rw [hf,sd] at hn h1
   exact ⟨_,List.mem_map.mpr ⟨_,he b h e hf,rfl⟩,by rw [Int.neg_mul,Int.mul_neg,sd];omega,by rw [Int.neg_mul,Int.mul_neg,sd];omega⟩
  ·exact absurd ((per b h m e k).mpr (hk b h)) hn
 ·obtain ⟨N,hN⟩:∃ N:Int,∀ b∈lb,N≤b.rs W x v∧N ≤ -b.rs W x v:=by
   clear he hb per
   induction lb with
   | nil=>exact ⟨0,nilAll⟩
   | cons b lb ih =>
    refine e1_1 ih ?_
    clear ih
    intro N hN
    refine ⟨min N (min (b.rs W x v) (-b.rs W x v)),fun c hc=>?_⟩
    rcases List.mem_cons.mp hc with rfl | hc
    ·exact ⟨Int.le_trans (Int.min_le_right _ _) (Int.min_le_left _ _),Int.le_trans (Int.min_le_right _ _) (Int.min_le_right _ _)⟩
    ·have:=hN c hc;exact ⟨Int.le_trans (Int.min_le_left _ _) this.1,Int.le_trans (Int.min_le_left _ _) this.2⟩
  refine ⟨N,fun k hk=>⟨fun q b h=>?_,fun q b h=>?_⟩⟩
  ·have q:=q b h
   have:=hN b h
   rcases (hb b h).t with e | ⟨m,e,_⟩
   ·rw [far_ab e]
    rw [at_ab w hx e] at q
    intro z
    rw [z,sd] at q;omega
   ·rw [far_go e];exact q
  ·have q:=q b h
   have:=hN b h
   rcases (hb b h).t with e | ⟨m,e,_⟩
   ·rw [far_ab e] at q
    rw [at_ab w hx e]
    have:b.f x*side = -1:=by rcases hs with rfl | rfl <;> rcases (hb b h).one with z | z <;> rw [z] at q ⊢ <;> first | rfl | exact absurd rfl q
    rw [← Int.mul_assoc,this];omega
   ·rw [far_go e] at q;exact q
 ·constructor
  ·intro q b h
   rcases (hb b h).t with e | ⟨m,e,_⟩
   ·have:=q b h;rw [far_ab e] at this ⊢;exact this
   ·have:=q b h;rw [far_go e] at this ⊢;exact (per b h m e k).mp this
  ·intro q b h
   rcases (hb b h).t with e | ⟨m,e,_⟩
   ·have:=q b h;rw [far_ab e] at this ⊢;exact this
   ·have:=q b h;rw [far_go e] at this ⊢;exact (per b h m e k).mpr this
end Mine
end

section
open PySem PySem.W PyProof.Rows PySem.Calls PyProof
set_option backward.match.sparseCases false
set_option tactic.hygienic false
namespace Mine
theorem A.dep {W:List Str} (a:A):(a.d W).dep≤4:=by
 obtain ⟨t,c,f⟩:=a
 have hd:(sD W c f).dep≤3:=Nat.succ_le_succ (Nat.max_le.mpr ⟨Nat.zero_le _,Nat.max_le.mpr ⟨Nat.succ_le_succ sL_dep,Nat.zero_le _⟩⟩)
 have h1:D.depL [sD W c f]≤3:=Nat.max_le.mpr ⟨hd,Nat.zero_le _⟩
 cases t with
 | ab=>exact Nat.succ_le_succ (Nat.max_le.mpr ⟨Nat.zero_le _,h1⟩)
 | no=>exact Nat.succ_le_succ (Nat.max_le.mpr ⟨Nat.zero_le _,h1⟩)
 | go m=>exact Nat.succ_le_succ (Nat.max_le.mpr ⟨Nat.zero_le _,Nat.max_le.mpr ⟨Nat.zero_le _,h1⟩⟩)
theorem A.kD_ne {W:List Str} (a:A) (b:Bool):kD (a.d W)≠cw b:=by
 obtain ⟨k,r,e,h,_⟩:=a.el (W:=W) b
 rw [e];exact beq_eq_false_iff_ne.mp h
noncomputable def atL (d:D):List D:=if kD d=cw true then (match d with
 | .tup [_,.tup l]=>l
 | _=>[]) else [d]
theorem atL_cj {W:List Str} {la:List A}:atL (cj true (some (la.map (A.d W))))=la.map (A.d W):=by
 by_cases h:la.length=1
 ·refine e1_1 (len1 h) ?_
  intro a ez1
  clear h;subst ez1
  show atL (a.d W)=[a.d W]
  unfold atL;rw [if_neg (a.kD_ne true)]
 ·rw [cj_con (by rw [List.length_map];exact h)]
  unfold atL;rw [if_pos (show kD (con true (la.map (A.d W)))=cw true from rfl)];rfl
theorem Cj.notNo {W:List Str} {la:List A}:cj true (some (la.map (A.d W)))≠con false []:=fun h=>by
 by_cases q:la.length=1
 ·refine e1_1 (len1 q) ?_
  intro a ez2
  clear q;subst ez2
  exact a.kD_ne false (congrArg kD h)
 ·rw [cj_con (by rw [List.length_map];exact q)] at h
  exact absurd (congrArg kD h) (by show ¬ ("and":Str)="or";decide +kernel)
theorem Cj.inv {W:List Str} {P:A→Prop} {N:Nat} {den:Fn→Prop} {q:D} (h:Cj W P N den q):(q=con false []∧∀ v,¬ den v)∨∃ la:List A,q=cj true (some (la.map (A.d W)))∧(∀ a∈la,P a)∧la.length≤N∧∀ v,den v↔∀ a∈la,a.ok W v:=by
 cases h with
 | no h=>exact .inl ⟨rfl,h⟩
 | all la h1 h2 h3=>exact .inr ⟨la,rfl,h1,h2,h3⟩
theorem Cj.congr {W:List Str} {P P':A→Prop} {N N':Nat} {den den':Fn→Prop} {q:D} (h:Cj W P N den q) (h':Cj W P' N' den' q) {v:Fn} (hv:den v):den' v:=by
 rcases h.inv with ⟨_,z⟩ | ⟨la,e,_,_,hd⟩
 ·exact absurd hv (z v)
 ·rcases h'.inv with ⟨e',_⟩ | ⟨lb,e',_,_,hd'⟩
  ·exact absurd (e.symm.trans e') Cj.notNo
  ·have el:la.map (A.d W)=lb.map (A.d W):=(atL_cj (W:=W) (la:=la)).symm.trans ((congrArg atL (e.symm.trans e')).trans atL_cj)
   refine (hd' v).mpr fun b hb=>?_
   obtain ⟨a,ha,q⟩:=List.mem_map.mp (show b.d W∈la.map (A.d W) by rw [el];exact List.mem_map.mpr ⟨b,hb,rfl⟩)
   exact A.ok_congr q ((hd v).mp hv a ha)
theorem Tr.succ {W:List Str} {P:A→Prop}:∀ {n:Nat} {d:D} {den:Fn→Prop},Tr W P n d den→Tr W P (n+1) d den
 | 0,_,_,h=>.inl h
 | n+1,_,_,.inl h=>.inl h
 | n+1,_,_,.inr ⟨b,ps,e,hl,hp,h⟩=>.inr ⟨b,ps,e,hl,fun p hq=>(hp p hq).succ,h⟩
theorem Tr.den {W:List Str} {P:A→Prop} {d:D} {den den':Fn→Prop}:∀ {n:Nat},Tr W P n d den→(∀ v,den v↔den' v)→Tr W P n d den'
 | 0,⟨a,e,h,q⟩,hv=>⟨a,e,h,fun v=>(hv v).symm.trans (q v)⟩
 | n+1,.inl ⟨a,e,h,q⟩,hv=>.inl ⟨a,e,h,fun v=>(hv v).symm.trans (q v)⟩
 | n+1,.inr ⟨b,ps,e,hl,hp,q⟩,hv=>.inr ⟨b,ps,e,hl,hp,fun v=>(hv v).symm.trans (q v)⟩
theorem Cj.tr {W:List Str} {P:A→Prop} {N:Nat} {den:Fn→Prop} {q:D} (h:Cj W P N den q) (hN:N≤sizeLine):Tr W P 1 q den:=by
 rcases h.inv with ⟨rfl,z⟩ | ⟨la,rfl,hP,hl,hd⟩
 ·exact .inr ⟨false,[],rfl,Nat.zero_le _,nilAll,fun v=>⟨fun q=>absurd q (z v),fun hz1=>by obtain ⟨_,q,_⟩:=hz1;clear right;cases q⟩⟩
 ·by_cases q:la.length=1
  ·refine e1_1 (len1 q) ?_
   intro a ez3
   clear q hl h;subst ez3
   exact .inl ⟨a,rfl,hP a (List.mem_cons_self ..),fun v=>(hd v).trans ⟨fun h=>h a (List.mem_cons_self ..),fun h b hb=>(List.mem_singleton.mp hb)▸h⟩⟩
  ·rw [cj_con (by rw [List.length_map];exact q)]
   refine .inr ⟨true,la.map fun a=>(a.d W,a.ok W),by rw [List.map_map];rfl,by rw [List.length_map];exact Nat.le_trans hl hN,fun p hp=>?_,fun v=>(hd v).trans ⟨fun h p hp=>?_,fun h a ha=>h _ (List.mem_map.mpr ⟨a,ha,rfl⟩)⟩⟩
   ·refine e1_2 (List.mem_map.mp hp) ?_
    intro a ha ez4
    clear hp hd h;subst ez4
    exact ⟨a,rfl,hP a ha,fun v=>Iff.rfl⟩
   ·refine e1_2 (List.mem_map.mp hp) ?_
    intro a ha ez5
    subst ez5
    exact h a ha
theorem elC {W:List Str} {la:List A} (h0:la≠[]):El false (cj true (some (la.map (A.d W)))):=by
 by_cases q:la.length=1
 ·refine e1_1 (len1 q) ?_
  intro a ez6
  clear q h0;subst ez6
  exact a.el false
 ·rw [cj_con (by rw [List.length_map];exact q)]
  refine ⟨cw true,[.tup (la.map (A.d W))],rfl,by decide +kernel,?_,?_,fun e=>?_⟩
  ·exact Nat.max_le.mpr ⟨Nat.le_trans (Nat.succ_le_succ (depL_of fun e he=>e1_2 (List.mem_map.mp he) fun a _ rz1=>by clear he;obtain rfl:=rz1;exact a.dep)) (by decide),Nat.zero_le _⟩
  ·show (D.kkL (la.map (A.d W))&&true)=true
   rw [kkL_of fun e he=>e1_2 (List.mem_map.mp he) fun a _ rz2=>by clear he;obtain rfl:=rz2;exact (a.el true).kk];rfl
  ·have:=tup2 e
   injection this with this
   exact h0 (List.map_eq_nil_iff.mp this)
inductive Dj (W:List Str) (P:A→Prop) (den:Fn→Prop):D→Prop
 | yes (h:∀ v,den v):Dj W P den (con true [])
 | of (L:List (List A)) (h:∀ la∈L,la≠[]∧(∀ a∈la,P a)∧la.length≤4) (hl:L.length≤sizeLine) (hd:∀ v,den v↔∃ la∈L,∀ a∈la,a.ok W v):Dj W P den (cj false (some (L.map fun la=>cj true (some (la.map (A.d W))))))
theorem Dj.den {W:List Str} {P:A→Prop} {den den':Fn→Prop} {q:D} (h:Dj W P den q) (hv:∀ v,den v↔den' v):Dj W P den' q:=by
 cases h with
 | yes h=>exact .yes fun v=>(hv v).mp (h v)
 | of L h hl hd=>exact .of L h hl fun v=>(hv v).symm.trans (hd v)
theorem Dj.tr {W:List Str} {P:A→Prop} {den:Fn→Prop} {q:D} (h:Dj W P den q):Tr W P 2 q den:=by
 cases h with
 | yes h=>exact .inr ⟨true,[],rfl,Nat.zero_le _,nilAll,fun v=>⟨fun _=>nilAll,fun _=>h v⟩⟩
 | of L h hl hd =>
  have one:∀ la∈L,Tr W P 1 (cj true (some (la.map (A.d W)))) fun v=>∀ a∈la,a.ok W v:=fun la hl=>(Cj.all (N:=4) la (h la hl).2.1 (h la hl).2.2 fun v=>Iff.rfl).tr (by decide)
  by_cases q:L.length=1
  ·refine e1_1 (len1 q) ?_
   intro la ez7
   subst ez7
   exact (one la (List.mem_cons_self ..)).succ.den fun v=>⟨fun z=>(hd v).mpr ⟨la,List.mem_cons_self ..,z⟩,fun z=>by
    refine e1_2 ((hd v).mp z) ?_
    intro d' hd z
    cases List.mem_singleton.mp hd;exact z⟩
  ·rw [cj_con (by rw [List.length_map];exact q)]
   refine .inr ⟨false,L.map fun la=>(cj true (some (la.map (A.d W))),fun v=>∀ a∈la,a.ok W v),by rw [List.map_map];rfl,by rw [List.length_map];exact hl,fun p hp=>?_,fun v=>(hd v).trans ⟨fun hz2=>e1_2 hz2 fun la hl z=>⟨_,List.mem_map.mpr ⟨la,hl,rfl⟩,z⟩,fun ⟨p,hp,z⟩=>?_⟩⟩
   ·refine e1_2 (List.mem_map.mp hp) ?_
    intro la hl ez8
    subst ez8
    exact one la hl
   ·refine e1_2 (List.mem_map.mp hp) ?_
    intro la hl ez9
    subst ez9
    exact ⟨la,hl,z⟩
theorem lift_of {α:Type} {C:α→D} {Pr:α→Prop}:∀ {L:List D},(∀ d∈L,∃ a,Pr a∧d=C a)→∃ l:List α,L=l.map C∧∀ a∈l,Pr a
 | [],_=>⟨[],rfl,nilAll⟩
 | d::L,h=>by
  refine e1_2 (h _ (List.mem_cons_self ..)) ?_
  intro a ha ez10
  subst ez10
  refine e1_2 (lift_of fun d hd=>h d (List.mem_cons_of_mem _ hd)) ?_
  intro l ez11 hl
  clear h;subst ez11
  exact ⟨a::l,rfl,fun b hb=>(List.mem_cons.mp hb).elim (fun q=>q▸ha) (hl b)⟩
section
variable {B:Bs} (C:Cx B) {W:List Str} (w:Wd W) {P:A→Prop}
include C
theorem sp_joinOr {α:Type} {l:List α} {g:α→D} {den:α→Fn→Prop} (h:∀ a∈l,Cj W P 4 (den a) (g a)) (hs:l.length≤sizeLine) :
  Spec B "joined" NoX 3 [.im (.str (cw false)),.ct (.lst (l.map g))] fun q=>∃ q',q=.im q'∧Dj W P (fun v=>∃ a∈l,den a v) q':=by
 have ex:∀ a,∃ o:Option (List D),a∈l→g a=cj false o∧((o=none∧∀ v,den a v)∨(o=some []∧∀ v,¬ den a v)∨(o=some [g a]∧∃ la:List A,g a=cj true (some (la.map (A.d W)))∧la≠[]∧(∀ b∈la,P b)∧la.length≤4∧∀ v,den a v↔∀ b∈la,b.ok W v)):=fun a=>by
  by_cases ha:a∈l
  ·rcases (h a ha).inv with ⟨e,z⟩ | ⟨la,e,h1,h2,hd⟩
   ·exact ⟨some [],fun _=>⟨e,.inr (.inl ⟨rfl,z⟩)⟩⟩
   ·by_cases q:la=[]
    ·clear h2 h1;subst q
     exact ⟨none,fun _=>⟨e,.inl ⟨rfl,fun v=>(hd v).mpr nilAll⟩⟩⟩
    ·exact ⟨some [g a],fun _=>⟨rfl,.inr (.inr ⟨rfl,la,e,q,h1,h2,hd⟩)⟩⟩
  ·exact ⟨none,fun q=>absurd q ha⟩
 refine e1_1 (Classical.axiomOfChoice ex) ?_
 intro φ hφ
 have e:l.map g=(l.map φ).map (cj false):=by
  rw [List.map_map]
  exact List.map_congr_left fun a ha=>(hφ a ha).1
 have ht:∀ m:List α,(∀ a∈m,a∈l)→tot (m.map φ)≤m.length:=fun m=>by
  induction m with
  | nil=>intro _;exact Nat.zero_le _
  | cons a m ih =>
   intro hm'
   have h1:((φ a).getD []).length≤1:=by
    rcases (hφ a (hm' a (List.mem_cons_self ..))).2 with ⟨p,_⟩ | ⟨p,_⟩ | ⟨p,_⟩ <;> rw [p] <;> first | exact Nat.zero_le _ | exact Nat.le_refl 1
   have h2:=ih fun x hx=>hm' x (List.mem_cons_of_mem _ hx)
   rw [List.map_cons,List.length_cons]
   show ((φ a).getD []).length+tot (m.map φ)≤_
   (clear hs;lia)
 have ht:=ht l fun _ x=>x
 have hm:∀ ls d,some ls∈l.map φ→d∈ls→∃ a∈l,d=g a∧∃ la:List A,g a=cj true (some (la.map (A.d W)))∧la≠[]∧(∀ b∈la,P b)∧la.length≤4∧∀ v,den a v↔∀ b∈la,b.ok W v:=fun ls d hl hd=>by
  refine e1_2 (List.mem_map.mp hl) ?_
  intro a ha q
  rcases (hφ a ha).2 with ⟨p,_⟩ | ⟨p,_⟩ | ⟨p,hE⟩
  ·rw [p] at q;clear hl;cases q
  ·rw [p] at q;cases q;cases hd
  ·rw [p] at q;clear p hl e ex;cases q
   cases List.mem_singleton.mp hd
   exact ⟨a,ha,rfl,hE⟩
 rw [e]
 refine (sp_joined C (a:=false) (os:=l.map φ) (fun ls hl d hd=>by obtain ⟨_,_,rfl,la,q,q0,_⟩:=hm ls d hl hd;rw [q];exact elC q0) (Nat.le_trans ht hs)).ex fun o hr=>?_
 refine ⟨_,rfl,?_⟩
 cases hr with
 | no hn =>
  refine e1_2 (List.mem_map.mp hn) ?_
  intro a ha q
  rcases (hφ a ha).2 with ⟨p,hv⟩ | ⟨p,_⟩ | ⟨p,_⟩
  ·exact .yes fun v=>⟨a,ha,hv v⟩
  ·rw [p] at q;cases q
  ·rw [p] at q;cases q
 | all L hn he hl =>
  have he:=he
  obtain ⟨L',rfl,hL⟩:=lift_of (C:=fun la:List A=>cj true (some (la.map (A.d W)))) (Pr:=fun la=>la≠[]∧(∀ b∈la,P b)∧la.length≤4∧∃ a∈l,∀ v,den a v↔∀ b∈la,b.ok W v) (L:=L) fun d hd=>by
   refine e1_2 ((he d).mp hd) ?_
   intro ls h1 h2
   refine e1_3 (hm ls d h1 h2) ?_
   intro a ha ez12 ez13
   subst ez12
   refine e1_5 ez13 ?_
   clear ez13
   intro la q1 q2 q3 q4 q5
   exact ⟨la,⟨q2,q3,q4,a,ha,q5⟩,q1⟩
  rw [List.length_map] at hl
  refine .of L' (fun la hl=>⟨(hL la hl).1,(hL la hl).2.1,(hL la hl).2.2.1⟩) (Nat.le_trans hl (Nat.le_trans ht hs)) fun v=>⟨fun ⟨a,ha,q⟩=>?_,fun ⟨la,hl,q⟩=>?_⟩
  ·rcases (hφ a ha).2 with ⟨p,_⟩ | ⟨p,z⟩ | ⟨p,la,q1,q2,q3,q4,q5⟩
   ·exact absurd (List.mem_map.mpr ⟨a,ha,p⟩) hn
   ·exact absurd q (z v)
   ·refine e1_2 (List.mem_map.mp ((he _).mpr ⟨_,List.mem_map.mpr ⟨a,ha,p⟩,List.mem_singleton.mpr rfl⟩)) ?_
    intro lb hb z
    have hc:Cj W P 4 (fun v=>∀ b∈lb,b.ok W v) (g a):=z▸.all lb (hL lb hb).2.1 (hL lb hb).2.2.1 fun v=>Iff.rfl
    exact ⟨lb,hb,(h a ha).congr hc q⟩
  ·refine e0_4 (hL la hl) ?_
   intro _ _ _ ez14
   refine e1_2 ez14 ?_
   clear ez14
   intro a ha z
   exact ⟨a,ha,(z v).mpr q⟩
theorem sp_join1 {o:Option (List D)} (hE:∀ ls,o=some ls→∀ e∈ls,El true e) (hs:(o.getD []).length≤sizeLine) :
  Spec B "joined" NoX 3 [.im (.str (cw true)),.ct (.lst [cj true o])] fun q=>∃ o',q=.im (cj true o')∧((o=none∧o'=none)∨∃ ls ls',o=some ls∧o'=some ls'∧(∀ e,e∈ls'↔e∈ls)∧ls'.length≤ls.length):=by
 refine (sp_joined C (a:=true) (os:=[o]) (fun ls hl=>hE ls (List.mem_singleton.mp hl).symm) ?_).ex fun o' hr=>?_
 ·show (o.getD []).length+0≤sizeLine
  exact hs
 ·refine ⟨_,rfl,?_⟩
  clear hs hE;cases hr with
  | no hn=>exact .inl ⟨(List.mem_singleton.mp hn).symm,rfl⟩
  | all L hn he hl =>
   (try clear hs;try clear hE);cases o with
   | none=>exact absurd (List.mem_singleton.mpr rfl) hn
   | some ls=>exact .inr ⟨ls,L,rfl,rfl,fun e=>(he e).trans ⟨fun hz6=>by obtain ⟨l,h1,h2⟩:=hz6;cases List.mem_singleton.mp h1;exact h2,fun h=>⟨ls,List.mem_singleton.mpr rfl,h⟩⟩,hl⟩
omit C in
theorem elD {L:List (List A)} (h0:L≠[]):El true (con false (L.map fun la=>cj true (some (la.map (A.d W))))):=by
 have cd:∀ la:List A,(cj true (some (la.map (A.d W)))).dep≤6∧(cj true (some (la.map (A.d W)))).kk=true:=fun la=>by
  by_cases q:la.length=1
  ·refine e1_1 (len1 q) ?_
   intro a ez15
   clear q;subst ez15
   exact ⟨Nat.le_trans a.dep (by decide),(a.el true).kk⟩
  ·rw [cj_con (by rw [List.length_map];exact q)]
   refine ⟨Nat.succ_le_succ (Nat.max_le.mpr ⟨Nat.zero_le _,Nat.max_le.mpr ⟨Nat.succ_le_succ (depL_of fun e he=>?_),Nat.zero_le _⟩⟩),?_⟩
   ·obtain ⟨a,_,rfl⟩:=List.mem_map.mp he;exact a.dep
   ·show (D.kkL (la.map (A.d W))&&true)=true
    rw [kkL_of fun e he=>e1_2 (List.mem_map.mp he) fun a _ rz3=>by clear he;obtain rfl:=rz3;exact (a.el true).kk];rfl
 refine ⟨cw false,[.tup (L.map fun la=>cj true (some (la.map (A.d W))))],rfl,by decide +kernel,?_,?_,fun e=>?_⟩
 ·exact Nat.max_le.mpr ⟨Nat.succ_le_succ (depL_of fun e he=>e1_2 (List.mem_map.mp he) fun la _ rz4=>by clear he;obtain rfl:=rz4;exact (cd la).1),Nat.zero_le _⟩
 ·show (D.kkL (L.map _)&&true)=true
  rw [kkL_of fun e he=>e1_2 (List.mem_map.mp he) fun la _ rz5=>by clear he;obtain rfl:=rz5;exact (cd la).2];rfl
 ·have:=tup2 e
  injection this with this
  exact h0 (List.map_eq_nil_iff.mp this)
theorem sp_andD {den:Fn→Prop} {q0:D} (h:Dj W P den q0):Spec B "joined" NoX 3 [.im (.str (cw true)),.ct (.lst [q0])] fun q=>∃ q',q=.im q'∧Tr W P 2 q' den:=by
 have h0:=h
 cases h with
 | yes hv =>
  refine (sp_join1 C (o:=some []) (fun ls e=>by cases e;exact nilAll) (Nat.zero_le _)).ex fun o' hr=>?_
  obtain ⟨q,_⟩ | ⟨ls,ls',q,rfl,q1,q2⟩:=hr
  ·cases q
  ·cases q
   have:ls'=[]:=List.length_eq_zero_iff.mp (Nat.le_zero.mp q2)
   subst this
   exact ⟨_,rfl,h0.tr⟩
 | of L h hl hd =>
  by_cases e0:L=[]
  ·clear hl;subst e0
   refine (sp_join1 C (o:=none) (fun ls e=>by cases e) (Nat.zero_le _)).ex fun o' hr=>?_
   obtain ⟨_,rfl⟩ | ⟨ls,ls',q,_⟩:=hr
   ·exact ⟨_,rfl,h0.tr⟩
   ·clear right;cases q
  ·by_cases e1:L.length=1
   ·refine e1_1 (len1 e1) ?_
    intro la ez16
    clear e1 hl;subst ez16
    refine e0_3 (h la (List.mem_cons_self ..)) ?_
    intro g0 g1 g2
    refine (sp_join1 C (o:=some (la.map (A.d W))) (fun ls e=>by (try clear g2;try clear g1;try clear g0;try clear e1;try clear hl;try clear h);cases e;intro e he;obtain ⟨a,_,rfl⟩:=List.mem_map.mp he;exact a.el true) (show (la.map (A.d W)).length≤_ by rw [List.length_map];exact Nat.le_trans g2 (by decide))).ex fun o' hr=>?_
    obtain ⟨q,_⟩ | ⟨ls,ls',q,rfl,q1,q2⟩:=hr
    ·cases q
    ·cases q
     obtain ⟨lb,rfl,hb⟩:=lift_of (C:=A.d W) (Pr:=fun b=>b∈la) (L:=ls') fun d hd=>by
      refine e1_2 (List.mem_map.mp ((q1 d).mp hd)) ?_
      intro a ha e
      exact ⟨a,ha,e.symm⟩
     rw [List.length_map,List.length_map] at q2
     refine ⟨_,rfl,((Cj.all (N:=4) lb (fun b h=>g1 b (hb b h)) (Nat.le_trans q2 g2) fun v=>Iff.rfl).tr (by decide)).succ.den fun v=>⟨fun z=>(hd v).mpr ⟨la,List.mem_cons_self ..,fun a ha=>?_⟩,fun z=>?_⟩⟩
     ·refine e1_2 (List.mem_map.mp ((q1 _).mpr (List.mem_map.mpr ⟨a,ha,rfl⟩))) ?_
      intro b hb e
      exact A.ok_congr e (z b hb)
     ·refine e1_2 ((hd v).mp z) ?_
      intro la' hl' z
      cases List.mem_singleton.mp hl'
      exact fun b h=>z b (hb b h)
   ·have ec:cj false (some (L.map fun la=>cj true (some (la.map (A.d W)))))=con false (L.map fun la=>cj true (some (la.map (A.d W)))):=cj_con (by rw [List.length_map];exact e1)
    rw [ec]
    refine (sp_join1 C (o:=some [con false (L.map fun la=>cj true (some (la.map (A.d W))))]) (fun ls e=>by clear e1 hd hl h;cases e;intro e he;cases List.mem_singleton.mp he;exact elD e0) (show 1≤sizeLine by decide)).to (n:=3) (fun r hr=>?_) (Nat.le_refl _)
    refine e1_2 hr ?_
    clear hr
    intro o' ez17 ez18
    subst ez17
    obtain ⟨q,_⟩ | ⟨ls,ls',q,rfl,q1,q2⟩:=ez18
    ·clear e1 e0 hd hl h;cases q
    ·clear e1 e0 hd hl h;cases q
     have hm:=(q1 _).mpr (List.mem_singleton.mpr rfl)
     have:ls'.length=1:=Nat.le_antisymm q2 (List.length_pos_of_mem hm)
     refine e1_1 (len1 this) ?_
     intro e ez19
     clear this q2 q1;subst ez19
     cases List.mem_singleton.mp hm
     exact ⟨_,rfl,ec▸h0.tr⟩
end
end Mine
end

section
open PySem PySem.W PyProof.Rows PySem.Calls PyProof
set_option backward.match.sparseCases false
set_option tactic.hygienic false
namespace Mine
noncomputable def tln:Nat→Sm→Sm
 | 0,s=>s
 | n+1,.cons _ r=>tln n r
 | n+1,.frz _ r=>tln n r
 | _+1,s=>s
theorem dep_cj {W:List Str} {P:A→Prop} {N:Nat} {den:Fn→Prop} {q:D} (h:Cj W P N den q):q.dep≤8∧q.kk=true:=by
 rcases h.inv with ⟨rfl,_⟩ | ⟨la,rfl,_⟩
 ·exact ⟨by decide,rfl⟩
 ·by_cases q:la=[]
  ·clear h right;subst q;exact ⟨(show (con true []).dep≤8 by decide),rfl⟩
  ·exact ⟨(elC q).dep,(elC q).kk⟩
noncomputable def seen (W:List Str) (x:Str) (side:Int) (lb:List A) (es:List (Int×Fn)) (J:Int) (v:Fn):Prop :=
 ∃ j,1≤j∧j≤J∧((∀ b∈lb,farDen W x side b (upd v x (side*j)))∨∃ e∈es,∀ b∈lb,b.ok W (upd v x (val W e.1 e.2 v+side*j)))
theorem seen_succ {W:List Str} {x:Str} {side:Int} {lb:List A} {es:List (Int×Fn)} {J:Int} {v:Fn} (hJ:0≤J) :
  seen W x side lb es (J+1) v↔seen W x side lb es J v∨((∀ b∈lb,farDen W x side b (upd v x (side*(J+1))))∨∃ e∈es,∀ b∈lb,b.ok W (upd v x (val W e.1 e.2 v+side*(J+1)))):=by
 constructor
 ·intro rz1
  obtain ⟨j,h1,h2,h⟩:=rz1
  by_cases q:j=J+1
  ·exact .inr (q▸h)
  ·exact .inl ⟨j,h1,by (clear h h1 hJ;lia),h⟩
 ·rintro (⟨j,h1,h2,h⟩ | h)
  ·exact ⟨j,h1,by (clear h h1 hJ;lia),h⟩
  ·exact ⟨J+1,by (clear h;lia),by (clear h hJ;lia),h⟩
structure Fnd (W:List Str) (P:A→Prop) (fs:List (D×(Fn→Prop))):Prop where
 cj:∀ p∈fs,Cj W P 4 p.2 p.1
theorem Fnd.add {W:List Str} {P:A→Prop} {fs:List (D×(Fn→Prop))} {q:D} {den:Fn→Prop} (h:Fnd W P fs) (hq:Cj W P 4 den q):Fnd W P (fs++[(q,den)]):=⟨fun p hp=>by
 rcases List.mem_append.mp hp with hp | hp
 ·exact h.cj p hp
 ·cases List.mem_singleton.mp hp;exact hq⟩
theorem any_add {fs:List (D×(Fn→Prop))} {q:D} {den:Fn→Prop} {v:Fn}:(∃ p∈fs++[(q,den)],p.2 v)↔(∃ p∈fs,p.2 v)∨den v:=by
 constructor
 ·intro rz2
  obtain ⟨p,hp,h⟩:=rz2
  rcases List.mem_append.mp hp with hp | hp
  ·exact .inl ⟨p,hp,h⟩
  ·cases List.mem_singleton.mp hp;exact .inr h
 ·rintro (⟨p,hp,h⟩ | h)
  ·exact ⟨p,List.mem_append_left _ hp,h⟩
  ·exact ⟨_,List.mem_append_right _ (List.mem_singleton.mpr rfl),h⟩
noncomputable def gFr (x:Str) (stm:D) (x2:Option Sl) (whole:D) (T:Int) (es:List D) (far:D) (fs:List D) (x8 x9:Option Sl) (many side:Int):List (Option Sl):=[some (.im (.str x)),some (.im stm),x2,some (.im whole),some (.im (.int T)),some (.fz (.lst es)),some (.im far),some (.own (.lst fs)),x8,x9,some (.im (.int many)),some (.im (.int side))]
section
variable {B:Bs} (C:Cx B) {W:List Str} (w:Wd W) {P:A→Prop}
include C w
theorem gone_loop {n:Nat} (hn:6≤n) {x:Str} {T side many:Int} {lb:List A} {es:List (Int×Fn)} {farD stm whole:D} (hT:0≤T) (hT2:T≤2000) (hes:es.length≤4) (x2 x8 x9:Option Sl)
  (hfar:∀ j,1≤j→j≤T→Spec B "set_in" NoX n [.im farD,.im (.str x),.im (sD W (side*j) fun _=>0)] fun q=>∃ q',q=.im q'∧Cj W P 4 (fun v=>∀ b∈lb,farDen W x side b (upd v x (side*j))) q')
  (hadd:∀ e∈es,∀ j,1≤j→j≤T→Spec B "set_in" NoX n [.im whole,.im (.str x),.im (sD W (e.1+side*j) fun y=>e.2 y+0)] fun q=>∃ q',q=.im q'∧Cj W P 4 (fun v=>∀ b∈lb,b.ok W (upd v x (val W e.1 e.2 v+side*j))) q')
  (hside:Lv 40 side) :
  wpSs B n (tln 12 b_gone) (gFr x stm x2 whole T (es.map fun e=>sD W e.1 e.2) farD [] x8 x9 many side)
   (RetOk fun q=>∃ q',q=.im q'∧Dj W P (seen W x side lb es T) q'):=by
 refine ⟨(Int.natCast_nonneg _),(Int.natCast_nonneg _),by (clear hes hn;lia),by (clear hes hn;lia),?_⟩
 rw [Int.add_sub_cancel]
 refine loopI (fun l ρ=>∃ (j:Nat) (fs:List (D×(Fn→Prop))) (x8 x9:Option Sl),ρ=(gFr x stm x2 whole T (es.map fun e=>sD W e.1 e.2) farD (fs.map (·.1)) x8 x9 many side) ∧
   j≤T.toNat∧l=intsFrom (1+j) (T.toNat-j)∧Fnd W P fs∧fs.length≤j*5∧∀ v,(∃ p∈fs,p.2 v)↔seen W x side lb es j v) (fun ρ h=>?_) (fun d l ρ h K hK=>?_) _ _ ⟨0,[],_,_,rfl,Nat.zero_le _,rfl,⟨nilAll⟩,Nat.zero_le _,fun v=>⟨fun hz1=>e1_2 hz1 fun _ q _=>(by cases q),fun hz2=>by obtain ⟨j,h1,h2,_⟩:=hz2;exact absurd (Int.le_trans h1 h2) (by decide)⟩⟩
 ·refine e4_6 h ?_
  clear h
  intro j fs x8 x9 ez1 h1 h2 h3 h4 h5
  subst ez1
  have hj:j=T.toNat:=by
   cases q:T.toNat-j with
   | zero=>exact sb0 h1 q
   | succ k=>rw [q] at h2;clear q;cases h2
  have hl:fs.length≤sizeLine:=Nat.le_trans h4 (Nat.le_trans (Nat.mul_le_mul_right 5 (Nat.le_trans h1 (tn_le (m:=2000) hT2))) (by decide))
  refine (sp_joinOr C (l:=fs) (g:=fun p=>p.1) (den:=fun p=>p.2) h3.cj hl).ex (fun q' hr=>?_) (Nat.le_trans (by decide) hn)
  refine ⟨q',rfl,hr.den fun v=>?_⟩
  have e:(j:Int)=T:=sb4 hT hj
  rw [← e];exact h5 v
 ·refine e4_6 h ?_
  clear h
  intro j fs x8 x9 ez2 h1 h2 h3 h4 h5
  clear hT;subst ez2
  cases hk:T.toNat-j with
  | zero=>rw [hk] at h2;cases h2
  | succ k =>
  rw [hk] at h2
  have h2:d::l=.int (1+j)::intsFrom (1+j+1) k:=h2
  injection h2 with hd hl'
  clear h2;subst hd
  have hjT:(1:Int)+j≤T:=sb3 (sb2 hk)
  have h1j:(1:Int)≤1+j:=Int.le_add_of_nonneg_right (Int.natCast_nonneg _)
  have hj5:=Nat.mul_le_mul_right 5 (Nat.le_trans h1 (tn_le (m:=2000) hT2))
  have ls:IntMulOk side (1+j):=(hside.mono (by decide)).ok (Lv.mono (j:=1) (Nat.lt_of_le_of_lt (na_pos (k:=2000) (Int.le_trans (by decide) h1j) (Int.le_trans hjT hT2)) (by decide)) (by decide))
  have hfl:fs.length≤sizeLine:=Nat.le_trans h4 (Nat.le_trans hj5 (by decide))
  have hf:=hfar (1+j) h1j hjT
  rw [sD_const] at hf
  refine ⟨ls,?_⟩
  refine hf.ex (fun q1 hq1=>?_) (Nat.le_refl _)
  refine ⟨by rw [List.length_map];exact hfl,?_⟩
  refine loopM (fun r ρ=>∃ (pre:List (Int×Fn)) (fs':List (D×(Fn→Prop))) (x9:Option Sl),ρ=(gFr x stm x2 whole T (es.map fun e=>sD W e.1 e.2) farD (fs'.map (·.1)) (some (.im (.int (1+j)))) x9 many side) ∧
    es=pre++r∧Fnd W P fs'∧fs'.length≤j*5+1+pre.length∧∀ v,(∃ p∈fs',p.2 v)↔seen W x side lb es j v∨((∀ b∈lb,farDen W x side b (upd v x (side*(1+j))))∨∃ e∈pre,∀ b∈lb,b.ok W (upd v x (val W e.1 e.2 v+side*(1+j)))))
   (fun ρ h=>?_) (fun e r ρ h K' hK'=>?_) es _ ⟨[],fs++[(q1,_)],_,by rw [List.map_append];rfl,rfl,h3.add hq1,by rw [List.length_append];exact Nat.add_le_add_right h4 1,fun v=>?_⟩
  ·refine e3_5 h ?_
   clear h
   intro pre fs' x9 ez3 e1 g1 g2 g3
   (try clear hq1;try clear hf;try clear hj5;try clear h1j;try clear h2;try clear hk;try clear h4;try clear h3;try clear h1;try clear hside;try clear hfar;try clear hT2;try clear hT);subst ez3
   rw [List.append_nil] at e1
   subst e1
   have g4:∀ v,(∃ p∈fs',p.2 v)↔seen W x side lb es ((j+1:Nat):Int) v:=fun v=>by
    rw [g3 v,show ((j+1:Nat):Int)=(j:Int)+1 from rfl,seen_succ (Int.natCast_nonneg _),Int.add_comm 1 (j:Int)]
   refine ⟨Nat.le_trans (by decide) hn,Nat.le_trans (depL_of fun e he=>?_) (show 8≤16 by decide),rfl,D.ksL_of _ (kkL_of fun e he=>?_),iB (fun q=>?_) fun q=>?_⟩
   ·refine e1_2 (List.mem_map.mp he) ?_
    intro p hp ez4
    clear he;subst ez4
    exact (dep_cj (g1.cj p hp)).1
   ·refine e1_2 (List.mem_map.mp he) ?_
    intro p hp ez5
    clear he;subst ez5
    exact (dep_cj (g1.cj p hp)).2
   ·refine e1_2 (List.any_eq_true.mp q) ?_
    intro d hd q
    refine e1_2 (List.mem_map.mp hd) ?_
    intro p hp ez6
    subst ez6
    rw [D.beq_iff] at q
    have hc:=g1.cj p hp
    have yes:∀ v,p.2 v:=fun v=>(show Cj W P 4 (fun _=>True) p.1 from q▸.all [] nilAll (by decide) fun v=>⟨fun _=>nilAll,fun _=>trivial⟩).congr hc trivial
    refine ⟨_,rfl,.yes fun v=>?_⟩
    refine e1_3 ((g4 v).mp ⟨p,hp,yes v⟩) ?_
    intro i h6 h7 h8
    exact ⟨i,h6,Int.le_trans h7 (show (j:Int)+1≤T from Int.add_comm 1 (j:Int)▸hjT),h8⟩
   ·refine hK _ ⟨j+1,fs',_,_,rfl,sb2 hk,?_,g1,Nat.le_trans g2 (Nat.le_trans (Nat.add_le_add_left hes _) (Nat.le_of_eq (Nat.succ_mul j 5).symm)),g4⟩
    rw [hl',sb1 hk,show (1:Int)+((j+1:Nat):Int)=1+j+1 from (Int.add_assoc 1 j 1).symm]
  ·refine e3_5 h ?_
   clear h
   intro pre fs' x9 ez7 e1 g1 g2 g3
   subst ez7
   have he:e∈es:=by rw [e1];exact List.mem_append_right _ (List.mem_cons_self ..)
   have hpl:pre.length≤4:=by rw [e1,List.length_append] at hes;exact Nat.le_trans (Nat.le_add_right _ _) hes
   refine ⟨ls,?_⟩
   have ha:=sp_added C w (c:=e.1) (f:=e.2) (d:=side*(1+j)) (g:=fun _=>0)
   rw [sD_const] at ha
   refine ha.eq ?_ (Nat.le_trans (by decide) hn)
   refine (hadd e he (1+j) h1j hjT).ex (fun q2 hq2=>?_) (Nat.le_refl _)
   refine ⟨by rw [List.length_map];exact Nat.le_trans g2 (Nat.le_trans (Nat.add_le_add (Nat.add_le_add_right hj5 1) hpl) (by decide)),hK' _ ⟨pre++[e],fs'++[(q2,_)],_,by rw [List.map_append];rfl,by rw [e1,List.append_assoc];rfl,g1.add hq2,by rw [List.length_append,List.length_append];exact Nat.add_le_add_right g2 1,fun v=>?_⟩⟩
   rw [any_add,g3]
   constructor
   ·rintro ((z | z | ⟨e',z1,z2⟩) | z)
    ·exact .inl z
    ·exact .inr (.inl z)
    ·exact .inr (.inr ⟨e',List.mem_append_left _ z1,z2⟩)
    ·exact .inr (.inr ⟨e,List.mem_append_right _ (List.mem_singleton.mpr rfl),z⟩)
   ·rintro (z | z | ⟨e',z1,z2⟩)
    ·exact .inl (.inl z)
    ·exact .inl (.inr (.inl z))
    ·rcases List.mem_append.mp z1 with z1 | z1
     ·exact .inl (.inr (.inr ⟨e',z1,z2⟩))
     ·cases List.mem_singleton.mp z1;exact .inr z2
  ·rw [any_add,h5]
   exact ⟨fun z=>z.imp id .inl,fun z=>z.imp id fun z=>z.elim id fun hz3=>e1_2 hz3 fun _ q _=>(by cases q)⟩
end
end Mine
end

section
open PySem PySem.W PyProof.Rows PySem.Calls PyProof
set_option backward.match.sparseCases false
set_option tactic.hygienic false
namespace Mine
section
variable {B:Bs} (C:Cx B) {W:List Str} (w:Wd W) {P:A→Prop}
include C w
theorem gone_many {n:Nat} (hn:4≤n) {x:Str} (hx:x∈W) {la:List A} (hl:la.length≤4) {K1:Int} (hK:0<K1) (lK:Lv 1 K1) (h0:∀ a∈la,a.f x≠0) (hd:∀ a∈la,a.f x ∣ K1) {Q:Post} {stm:D} (hs:stm=cj true (some (la.map (A.d W))))
  (h:∀ M x2,0<M→M ∣ K1→(∀ a∈la,a.f x ∣ M)→wpSs B n (tln 2 b_gone) [some (.im (.str x)),some (.im stm),x2,none,none,none,none,none,none,none,some (.im (.int M)),none] Q) :
  wpSs B n b_gone [some (.im (.str x)),some (.im stm),none,none,none,none,none,none,none,none,none,none] Q:=by
 subst hs
 refine (sp_atoms C hl).eq ?_ (le_up (by assumption) (by decide))
 refine loopM (fun l ρ=>∃ (M:Int) (pre:List A) (x2:Option Sl),ρ=[some (.im (.str x)),some (.im (cj true (some (la.map (A.d W))))),x2,none,none,none,none,none,none,none,some (.im (.int M)),none]∧la=pre++l∧0<M∧M ∣ K1∧∀ a∈pre,a.f x ∣ M)
  (fun ρ h'=>?_) (fun a l ρ h' K hK'=>?_) la _ ⟨1,[],_,rfl,rfl,by decide,Int.one_dvd _,nilAll⟩
 ·refine e3_5 h' ?_
  clear h'
  intro M pre x2 ez1 e h1 h2 h3
  subst ez1
  rw [List.append_nil] at e
  subst e
  exact h M x2 h1 h2 h3
 ·refine e3_5 h' ?_
  clear h'
  intro M pre x2 ez2 e h1 h2 h3
  subst ez2
  have ha:a∈la:=by rw [e];exact List.mem_append_right _ (List.mem_cons_self ..)
  have hsh:=fun {Q:Rs→Prop} (q:Q (.im (.int (a.f x))))=>(sp_share C (W:=W) (c:=a.c) (f:=a.f) (x:=x) (.inl hx)).eq (n:=n) (Q:=Q) q (le_up (by assumption) (by decide))
  have hf:=h0 a ha
  have hfd:=hd a ha
  have hpos:(0:Int)<(a.f x).natAbs:=(na_ne' (by assumption))
  have lM:Lv 40 M:=(lK.le (natAbs_le_dvd h2 (ne_p (by assumption)))).mono (by decide)
  have lf:Lv 40 ((a.f x).natAbs:Int):=(lK.le (by rw [Int.natAbs_natCast];exact natAbs_le_dvd hfd (ne_p (by assumption)))).mono (by decide)
  have hlcm:∀ {Q:Rs→Prop},Q (.im (.int (M.lcm (a.f x).natAbs)))→Spec B "lcm" NoX n [.im (.int M),.im (.int (a.f x).natAbs)] Q:=fun {Q} q=>(sp_lcm C w h1 hpos lM lf).eq q (le_up (by assumption) (by decide))
  have fin:∀ x2:Option Sl,K [some (.im (.str x)),some (.im (cj true (some (la.map (A.d W))))),x2,none,none,none,none,none,none,none,some (.im (.int (M.lcm (a.f x).natAbs))),none]:=fun x2 =>
   hK' _ ⟨_,pre++[a],_,rfl,by rw [e,List.append_assoc];rfl,Int.ofNat_lt.mpr (Int.lcm_pos (ne_p (by assumption)) (ne_p (by assumption))),Int.coe_lcm_dvd h2 (Int.natAbs_dvd.mpr hfd),fun b hb=>by
    rcases List.mem_append.mp hb with hb | hb
    ·exact Int.dvd_trans (h3 b hb) (Int.dvd_lcm_left ..)
    ·cases List.mem_singleton.mp hb
     exact Int.dvd_trans (Int.dvd_natAbs.mpr (Int.dvd_refl _)) (Int.dvd_lcm_right ..)⟩
  obtain ⟨t,c,f⟩:=a
  cases t with
  | ab =>
   refine hsh ?_
   refine iT (bne_iff_ne.mpr hf) ?_
   refine hsh ?_
   exact hlcm (fin _)
  | no =>
   refine hsh ?_
   refine iT (bne_iff_ne.mpr hf) ?_
   refine hsh ?_
   exact hlcm (fin _)
  | go m =>
   refine hsh ?_
   refine iT (bne_iff_ne.mpr hf) ?_
   refine hsh ?_
   exact hlcm (fin _)
theorem gone_turn {n:Nat} (hn:4≤n) {x:Str} (hx:x∈W) {lb:List A} (hl:lb.length≤4) {K2:Int} (hK:0<K2) (lK:Lv 1 K2) (h0:∀ a∈lb,a.f x≠0) (hd:∀ a∈lb,∀ m,a.t=.go m→0<m∧m ∣ K2) {Q:Post} {stm whole:D} (hs:whole=cj true (some (lb.map (A.d W)))) {M:Int} {x2:Option Sl}
  (h:∀ T x2,0<T→T ∣ K2→(∀ a∈lb,∀ m,a.t=.go m→m ∣ T)→wpSs B n (tln 6 b_gone) [some (.im (.str x)),some (.im stm),x2,some (.im whole),some (.im (.int T)),none,none,none,none,none,some (.im (.int M)),none] Q) :
  wpSs B n (tln 4 b_gone) [some (.im (.str x)),some (.im stm),x2,some (.im whole),none,none,none,none,none,none,some (.im (.int M)),none] Q:=by
 subst hs
 refine (sp_atoms C hl).eq ?_ (le_up (by assumption) (by decide))
 refine loopM (fun l ρ=>∃ (T:Int) (pre:List A) (x2:Option Sl),ρ=[some (.im (.str x)),some (.im stm),x2,some (.im (cj true (some (lb.map (A.d W))))),some (.im (.int T)),none,none,none,none,none,some (.im (.int M)),none]∧lb=pre++l∧0<T∧T ∣ K2∧∀ a∈pre,∀ m,a.t=.go m→m ∣ T)
  (fun ρ h'=>?_) (fun a l ρ h' K hK'=>?_) lb _ ⟨1,[],_,rfl,rfl,by decide,Int.one_dvd _,nilAll⟩
 ·refine e3_5 h' ?_
  clear h'
  intro T pre x2 ez3 e h1 h2 h3
  subst ez3
  rw [List.append_nil] at e
  subst e
  exact h T x2 h1 h2 h3
 ·refine e3_5 h' ?_
  clear h'
  intro T pre x2 ez4 e h1 h2 h3
  subst ez4
  have ha:a∈lb:=by rw [e];exact List.mem_append_right _ (List.mem_cons_self ..)
  have hsh:=fun {Q:Rs→Prop} (q:Q (.im (.int (a.f x))))=>(sp_share C (W:=W) (c:=a.c) (f:=a.f) (x:=x) (.inl hx)).eq (n:=n) (Q:=Q) q (le_up (by assumption) (by decide))
  have hf:=h0 a ha
  have hda:=hd a ha
  have e2:lb=(pre++[a])++l:=by rw [e,List.append_assoc];rfl
  have lT:Lv 40 T:=(lK.le (natAbs_le_dvd h2 (ne_p (by assumption)))).mono (by decide)
  have skip:(∀ m,a.t≠.go m)→∀ x2:Option Sl,K [some (.im (.str x)),some (.im stm),x2,some (.im (cj true (some (lb.map (A.d W))))),some (.im (.int T)),none,none,none,none,none,some (.im (.int M)),none]:=fun q x2 =>
   hK' _ ⟨T,pre++[a],_,rfl,e2,h1,h2,fun b hb m hm=>by
    rcases List.mem_append.mp hb with hb | hb
    ·exact h3 b hb m hm
    ·cases List.mem_singleton.mp hb;exact absurd hm (q m)⟩
  obtain ⟨t,c,f⟩:=a
  cases t with
  | ab=>exact skip nofun _
  | no=>exact skip nofun _
  | go m =>
   refine e0_2 (hda m rfl) ?_
   intro hm hmK
   have lm:Lv 40 m:=(lK.le (natAbs_le_dvd hmK (ne_p (by assumption)))).mono (by decide)
   refine hsh ?_
   refine iP (bne_iff_ne.mpr hf) ?_
   refine (sp_lcm C w h1 hm lT lm).eq ?_ (le_up (by assumption) (by decide))
   exact hK' _ ⟨_,pre++[⟨.go m,c,f⟩],_,rfl,e2,Int.ofNat_lt.mpr (Int.lcm_pos (ne_p (by assumption)) (ne_p (by assumption))),Int.coe_lcm_dvd h2 hmK,fun b hb m' hm'=>by
    rcases List.mem_append.mp hb with hb | hb
    ·exact Int.dvd_trans (h3 b hb m' hm') (Int.dvd_lcm_left ..)
    ·cases List.mem_singleton.mp hb
     cases hm'
     exact Int.dvd_lcm_right ..⟩
theorem gone_side {n:Nat} (hn:4≤n) {x:Str} (hx:x∈W) {lb:List A} (hl:lb.length≤4) (ht:∀ a∈lb,a.t≠.no) (hb:∀ a∈lb,Bd 34 a.c a.f) {Q:Post} {stm whole:D} (hs:whole=cj true (some (lb.map (A.d W)))) {M T:Int} {x2:Option Sl}
  (h:∀ side es,side=1∨side = -1→EdgR W x side lb es→wpSs B n (tln 10 b_gone) [some (.im (.str x)),some (.im stm),x2,some (.im whole),some (.im (.int T)),some (.fz (.lst (es.map fun e=>sD W e.1 e.2))),none,none,none,none,some (.im (.int M)),some (.im (.int side))] Q) :
  wpSs B n (tln 6 b_gone) [some (.im (.str x)),some (.im stm),x2,some (.im whole),some (.im (.int T)),none,none,none,none,none,some (.im (.int M)),none] Q:=by
 subst hs
 have sz:∀ {side:Int} {es:List (Int×Fn)},EdgR W x side lb es→(es.map fun e=>sD W e.1 e.2).length<2 ^ 63:=fun {_ es} e=>by
  rw [List.length_map];exact Nat.lt_of_le_of_lt (Nat.le_trans e.len hl) (by decide)
 refine (sp_edges C w hl hx (.inl rfl) ht hb).ex (fun es he=>?_) (le_up (by assumption) (by decide))
 refine (sp_edges C w hl hx (.inr rfl) ht hb).ex (fun es2 he2=>?_) (le_up (by assumption) (by decide))
 refine ⟨sz he2,sz he,iB (fun q=>?_) fun q=>?_⟩
 ·refine (sp_edges C w hl hx (.inr rfl) ht hb).ex (fun es3 he3=>?_) (le_up (by assumption) (by decide))
  exact h (-1) es3 (.inr rfl) he3
 ·exact h 1 es (.inl rfl) he
theorem gone_far {n:Nat} (hn:6≤n) {x:Str} (hx:x∈W) {lb:List A} (hl:lb.length≤4) (ht:∀ a∈lb,a.t≠.no) (h1:∀ a∈lb,a.f x=1∨a.f x = -1) {Q:Post} {stm whole:D} (hs:whole=cj true (some (lb.map (A.d W)))) {M T side:Int} {x2:Option Sl} {c5:Cont}
  (h:∀ farD,Cj W (fun a=>a∈lb∧∃ m,a.t=.go m) (lb.length*1) (fun v=>∀ b∈lb,farDen W x side b v) farD →
   wpSs B n (tln 12 b_gone) [some (.im (.str x)),some (.im stm),x2,some (.im whole),some (.im (.int T)),some (.fz c5),some (.im farD),some (.own (.lst [])),none,none,some (.im (.int M)),some (.im (.int side))] Q) :
  wpSs B n (tln 10 b_gone) [some (.im (.str x)),some (.im stm),x2,some (.im whole),some (.im (.int T)),some (.fz c5),none,none,none,none,some (.im (.int M)),some (.im (.int side))] Q:=by
 subst hs
 refine ⟨rfl,fun hp hk ht' g hc=>?_⟩
 refine (sp_mapped C.wide (W:=W) (P:=fun a=>a∈lb∧∃ m,a.t=.go m) (N:=1) (den:=farDen W x side) (n:=3) (by decide) (by rw [Nat.mul_one];exact Nat.le_trans hl (by decide)) (Nat.le_trans hl (by decide)) fun a ha=>?_).ex (fun q' hr=>?_) (le_up (by assumption) (by decide))
 ·exact clo2 C.wide.toEn hc (sp_far_atom C.wide w hx (h1 a ha) (ht a ha) fun m hm=>⟨ha,m,hm⟩)
 ·exact ⟨q',rfl,h q' hr⟩
end
end Mine
end

section
open PySem PySem.W PyProof.Rows PySem.Calls PyProof
set_option backward.match.sparseCases false
set_option tactic.hygienic false
namespace Mine
section
variable {B:Bs} (C:Cx B) {W:List Str} (w:Wd W)
include C
theorem sp_joinS {ls:List (List A)} (hs:(ls.map List.length).sum≤sizeLine):Spec B "joined" NoX 3 [.im (.str (cw true)),.ct (.lst (ls.map fun l=>cj true (some (l.map (A.d W)))))] fun q=>∃ lb:List A,q=.im (cj true (some (lb.map (A.d W)))) ∧
  (∀ b∈lb,∃ l∈ls,b∈l)∧(∀ l∈ls,∀ a∈l,∃ b∈lb,b.d W=a.d W)∧lb.length≤(ls.map List.length).sum:=by
 have e:(ls.map fun l=>cj true (some (l.map (A.d W))))=(ls.map fun l=>some (l.map (A.d W))).map (cj true):=by rw [List.map_map];rfl
 have ht:∀ ls:List (List A),tot (ls.map fun l=>some (l.map (A.d W)))=(ls.map List.length).sum:=fun ls=>by
  induction ls with
  | nil=>rfl
  | cons l ls ih =>
   show (l.map (A.d W)).length+tot _=_
   rw [ih,List.length_map,List.map_cons,List.sum_cons]
 rw [e]
 refine (sp_joined C (a:=true) (fun l hl e he=>?_) (by rw [ht];exact hs)).ex fun o hr=>?_
 ·refine e1_2 (List.mem_map.mp hl) ?_
  intro l' _ q
  clear a hl;cases q
  refine e1_2 (List.mem_map.mp he) ?_
  intro a _ ez1
  (try clear a_1;try clear he;try clear hl);subst ez1
  exact a.el true
 ·clear e hs;cases hr with
  | no hn=>obtain ⟨_,_,q⟩:=List.mem_map.mp hn;cases q
  | all L hn he hl =>
   obtain ⟨lb,rfl,hb⟩:=lift_list (W:=W) (P:=fun b=>∃ l∈ls,b∈l) (L:=L) fun e h=>by
    refine e1_2 ((he e).mp h) ?_
    intro l' h1 h2
    refine e1_2 (List.mem_map.mp h1) ?_
    intro l hl q
    cases q
    refine e1_2 (List.mem_map.mp h2) ?_
    intro b hb ez2
    subst ez2
    exact ⟨b,⟨l,hl,hb⟩,rfl⟩
   rw [ht,List.length_map] at hl
   refine ⟨lb,rfl,hb,fun l hl a ha=>?_,hl⟩
   refine e1_2 (List.mem_map.mp ((he (a.d W)).mpr ⟨_,List.mem_map.mpr ⟨l,hl,rfl⟩,List.mem_map.mpr ⟨a,ha,rfl⟩⟩)) ?_
   intro b hb q
   exact ⟨b,hb,q⟩
theorem sp_mappedA {g:Addr} {n:Nat} (hn:2≤n) {la:List A} (hl:la.length≤4) {φ:A→A} (hg:∀ a∈la,SpecA B g NoX n [.im (a.d W)] fun q=>∃ q',q=.im q'∧q'=(φ a).d W) :
  Spec B "mapped" NoX (n+2) [.im (cj true (some (la.map (A.d W)))),.ct (.fn g)] fun q=>∃ lb:List A,q=.im (cj true (some (lb.map (A.d W))))∧(∀ b∈lb,∃ a∈la,b=φ a)∧(∀ a∈la,∃ b∈lb,b.d W=(φ a).d W)∧lb.length≤la.length:=by
 by_cases h1:la.length=1
 ·refine e1_1 (len1 h1) ?_
  intro a ez3
  subst ez3
  exact (sp_mapped1 C (hg a (List.mem_cons_self ..))).to fun r h=>by
   refine e1_2 h ?_
   clear h
   intro q' ez4 ez5
   subst ez4
   clear h1 hg hl;subst ez5
   exact ⟨[φ a],rfl,fun b hb=>⟨a,List.mem_cons_self ..,List.mem_singleton.mp hb⟩,fun b hb=>⟨φ a,List.mem_cons_self ..,by cases List.mem_singleton.mp hb;rfl⟩,Nat.le_refl 1⟩
 ·rw [cj_con (by rw [List.length_map];exact h1)]
  refine .of_vc C.toEn F_mapped b_mapped C.f_mapped k_mapped rfl ?_
  have e:la.filterMap (fun a=>some ((φ a).d W))=(la.map fun a=>[φ a]).map fun l=>cj true (some (l.map (A.d W))):=by rw [fm_some (fun a=>(φ a).d W),List.map_map];rfl
  have hsz:(la.map fun a=>(φ a).d W).length≤sizeLine:=by rw [List.length_map];exact Nat.le_trans hl (by decide)
  have hsum:((la.map fun a=>[φ a]).map List.length).sum=la.length:=by
   rw [List.map_map]
   clear hg hl h1 e hsz
   induction la with
   | nil=>rfl
   | cons a la ih=>rw [List.map_cons,List.sum_cons,ih,List.length_cons,Nat.add_comm];rfl
  refine comp_of (fun a=>some ((φ a).d W)) (fun a ha K hK=>?_) (by rw [fm_some (fun a=>(φ a).d W)];exact hsz) ?_
  ·refine (sp_mapped1 C (hg a ha)).ex fun q' h=>?_
   clear hsum hsz e hg;subst h
   exact hK
  ·rw [e]
   refine (sp_joinS C (by rw [hsum];exact Nat.le_trans hl (by decide))).ex fun lb h=>?_
   refine e0_3 h ?_
   clear h
   intro h2 h3 h4
   refine ⟨lb,rfl,fun b hb=>?_,fun a ha=>h3 _ (List.mem_map.mpr ⟨a,ha,rfl⟩) _ (List.mem_cons_self ..),by rw [hsum] at h4;exact h4⟩
   refine e1_2 (h2 b hb) ?_
   intro l hl' hb
   refine e1_2 (List.mem_map.mp hl') ?_
   intro a ha ez6
   subst ez6
   exact ⟨a,ha,List.mem_singleton.mp hb⟩
end
end Mine
end

section
open PySem PySem.W PyProof.Rows PySem.Calls PyProof
set_option backward.match.sparseCases false
set_option tactic.hygienic false
namespace Mine
noncomputable def goX (x:Str) (M:Int):A:=⟨.go M,0,su [(x,1)]⟩
section
variable {B:Bs} (C:Cx B) {W:List Str} (w:Wd W)
include C w
theorem gone_whole {n:Nat} (hn:6≤n) {x:Str} (hx:x∈W) {la:List A} (hl:la.length≤3) {M:Int} (hM:0<M) (lM:Lv 1 M) (ha:∀ a∈la,a.t≠.no∧a.f x≠0∧a.f x ∣ M∧Bd 28 a.c a.f∧∀ m,a.t=.go m→Lv 28 m) {Q:Post} {stm:D} (hs:stm=cj true (some (la.map (A.d W)))) {x2:Option Sl}
  (h:∀ lb:List A,lb.length≤4→(∀ b∈lb,(∃ a∈la,b=a.oneOf x M)∨1<M∧b=goX x M)→(∀ a∈la,∃ b∈lb,b.d W=(a.oneOf x M).d W)→(1<M→∃ b∈lb,b.d W=(goX x M).d W) →
   wpSs B n (tln 4 b_gone) [some (.im (.str x)),some (.im stm),x2,some (.im (cj true (some (lb.map (A.d W))))),none,none,none,none,none,none,some (.im (.int M)),none] Q) :
  wpSs B n (tln 2 b_gone) [some (.im (.str x)),some (.im stm),x2,none,none,none,none,none,none,none,some (.im (.int M)),none] Q:=by
 subst hs
 refine ⟨rfl,fun hp hk ht' g hc=>?_⟩
 refine (sp_mappedA C.wide (W:=W) (n:=4) (by decide) (Nat.le_succ_of_le hl) (φ:=fun a=>a.oneOf x M) fun a h'=>?_).ex (fun lb hr=>?_) (by assumption)
 ·refine e0_5 (ha a h') ?_
  intro h1 h2 h3 h4 h5
  exact clo2 C.wide.toEn hc ((sp_of_share_one C.wide w hx h1 hM h2 h3 lM h4 h5).eq ⟨_,rfl,rfl⟩)
 ·refine e0_3 hr ?_
  clear hr
  intro h1 h2 h3
  refine ⟨_,rfl,?_⟩
  refine iB (fun q=>?_) fun q=>?_
  ·have q:1<M:=of_decide_eq_true q
   refine (sp_made C w (ps:=[(x,1)]) fun p hp=>by cases List.mem_singleton.mp hp;exact hx).eq ?_ (le_up (by assumption) (by decide))
   refine (sp_joinS C (W:=W) (ls:=[lb,[goX x M]]) ?_).ex (fun lc hr=>?_) (le_up (by assumption) (by decide))
   ·show lb.length+(1+0)≤sizeLine
    exact Nat.le_trans (show lb.length+(1+0)≤4 by (clear q hM hn;lia)) (by decide)
   ·refine e0_3 hr ?_
    clear hr
    intro g1 g2 g3
    have g3:lc.length≤lb.length+(1+0):=g3
    refine h lc (by (clear q hM hn;lia)) (fun b hb=>?_) (fun a ha'=>?_) fun _=>g2 _ (List.mem_cons_of_mem _ (List.mem_cons_self ..)) _ (List.mem_cons_self ..)
    ·refine e1_2 (g1 b hb) ?_
     intro l hl' hb
     rcases List.mem_cons.mp hl' with rfl | hl'
     ·exact .inl (h1 b hb)
     ·cases List.mem_singleton.mp hl'
      exact .inr ⟨q,List.mem_singleton.mp hb⟩
    ·refine e1_2 (h2 a ha') ?_
     intro b hb e
     refine e1_2 (g2 lb (List.mem_cons_self ..) b hb) ?_
     intro b' hb' e'
     exact ⟨b',hb',e'.trans e⟩
  ·exact h lb (Nat.le_trans (by assumption) (Nat.le_trans (by assumption) (by decide))) (fun b hb=>.inl (h1 b hb)) h2 fun z=>absurd z (of_decide_eq_false q)
end
end Mine
end

section
open PySem PySem.W PyProof.Rows PySem.Calls PyProof
set_option backward.match.sparseCases false
set_option tactic.hygienic false
namespace Mine
theorem dot0 (v:Fn):∀ W:List Str,dot W (fun _=>0) v=0
 | []=>rfl
 | w::W=>by rw [dot_cons,dot0 v W,Int.zero_mul];rfl
theorem su1 {x y:Str} {s:Int} (h:y≠x):su [(x,s)] y=0:=by
 show (if y=x then s else 0)+0=0
 rw [if_neg h];rfl
theorem su1x {x:Str} {s:Int}:su [(x,s)] x=s:=by
 show (if x=x then s else 0)+0=s
 rw [if_pos rfl];exact Int.add_zero s
theorem upd_x {f:Fn} {x:Str} {k:Int}:upd f x k x=k:=if_pos rfl
theorem upd_ne {f:Fn} {x y:Str} {k:Int} (h:y≠x):upd f x k y=f y:=if_neg h
theorem goX_at {W:List Str} (w:Wd W) {x:Str} (hx:x∈W) {M k:Int} {v:Fn}:(goX x M).at W x v k↔M ∣ k:=by
 rw [at_go w hx rfl]
 have e1:(goX x M).f x=1:=su1x
 have e2:(goX x M).rs W x v=0:=by
  show 0+dot W (upd (su [(x,1)]) x 0) v=0
  rw [dot_congr (f:=upd (su [(x,1)]) x 0) (v:=v) (g:=fun _=>0) (u:=v),dot0]
  ·rfl
  ·intro y _
   by_cases q:y=x
   ·clear a e1 hx;subst q;rw [upd_x]
   ·rw [upd_ne q,su1 q]
 rw [e1,e2,Int.one_mul,Int.add_zero]
theorem edge_val {W:List Str} {a:A} {x:Str} {side:Int} {v:Fn}:val W (a.edge x side).1 (a.edge x side).2 v = -side*a.rs W x v:=by
 show -side*a.c+dot W (fun y => -side*upd a.f x 0 y) v = -side*(a.c+dot W (upd a.f x 0) v)
 rw [dot_mul,Int.mul_add]
structure WhP (W:List Str) (x:Str) (K2:Int) (tg:Prop) (Z:Str→Prop) (b:A):Prop where
 one:b.f x=1∨b.f x = -1
 t:b.t=.ab∨tg∧∃ m,b.t=.go m∧0<m∧m ∣ K2
 bd:Bd 30 b.c b.f
 z:∀ y∈W,Z y→y=x∨b.f y=0
section
variable {B:Bs} (C:Cx B) {W:List Str} (w:Wd W)
include w
theorem gone_den {x:Str} (hx:x∈W) {la lb:List A} {M T side:Int} (hT:0<T) (hM:0<M) (hs:side=1∨side = -1) {es:List (Int×Fn)} (R:∀ a∈la,OneR W x M a (a.oneOf x M))
  (hof:∀ b∈lb,(∃ a∈la,b=a.oneOf x M)∨1<M∧b=goX x M) (hto:∀ a∈la,∃ b∈lb,b.d W=(a.oneOf x M).d W) (hgo:1<M→∃ b∈lb,b.d W=(goX x M).d W) (hb:∀ b∈lb,One1 x T b) (he:EdgR W x side lb es) (v:Fn) :
  (∃ k,∀ a∈la,a.at W x v k)↔seen W x side lb es T v:=by
 have h1:(∃ k,∀ a∈la,a.at W x v k)↔∃ k,∀ b∈lb,b.at W x v k:=by
  constructor
  ·intro rz1
   obtain ⟨k,hk⟩:=rz1
   refine ⟨M*k,fun b h=>?_⟩
   rcases hof b h with ⟨a,ha,rfl⟩ | ⟨_,rfl⟩
   ·exact ((R a ha).eq v k).mpr (hk a ha)
   ·exact (goX_at w hx).mpr ⟨k,rfl⟩
  ·intro rz2
   obtain ⟨X,hX⟩:=rz2
   obtain ⟨k,rfl⟩:M ∣ X:=by
    by_cases q:1<M
    ·refine e1_2 (hgo q) ?_
     intro b h e
     exact (goX_at w hx).mp (A.ok_congr e (hX b h))
    ·rw [show M=1 by (clear hs hT;lia)];exact Int.one_dvd _
   refine ⟨k,fun a ha=>?_⟩
   refine e1_2 (hto a ha) ?_
   intro b h e
   exact ((R a ha).eq v k).mp (A.ok_congr e (hX b h))
 rw [h1,cooperL w hx hT hs hb (es:=es.map fun e=>val W e.1 e.2 v) fun b h e1 e2=>by
  refine e1_2 (he.to b h e1 e2) ?_
  intro e h2 h3
  exact List.mem_map.mpr ⟨e,h2,(h3 v).trans edge_val⟩]
 constructor
 ·intro rz3
  obtain ⟨j,h1,h2,h3⟩:=rz3
  refine ⟨j,h1,h2,h3.imp id ?_⟩
  intro rz4
  obtain ⟨e',h4,h5⟩:=rz4
  refine e1_2 (List.mem_map.mp h4) ?_
  intro e h6 ez1
  clear h4 h3 he hgo hto R hx;subst ez1
  exact ⟨e,h6,h5⟩
 ·intro rz5
  obtain ⟨j,h1,h2,h3⟩:=rz5
  exact ⟨j,h1,h2,h3.imp id fun hz1=>e1_2 hz1 fun e h4 h5=>⟨_,List.mem_map.mpr ⟨e,h4,rfl⟩,h5⟩⟩
include C
theorem WhP.set {x:Str} {K2:Int} {tg:Prop} {Z:Str→Prop} (hx:x∈W) (h2:K2≠0) (l2:Lv 1 K2) {lb:List A} (hl:lb.length≤4) (hb:∀ b∈lb,WhP W x K2 tg Z b) {d:Int} {g:Fn} (hg:Bd 34 d g) (hz:∀ y∈W,Z y→g y=0) :
  Spec B "set_in" NoX 6 [.im (cj true (some (lb.map (A.d W)))),.im (.str x),.im (sD W d g)] fun q=>∃ q',q=.im q'∧Cj W (SetP W 36 tg Z) 4 (fun v=>∀ a∈lb,a.ok W (upd v x (val W d g v))) q' :=
 sp_set C w hl hx (fun b h=>by
  have hb:=hb b h
  refine ⟨hb.bd.mono (by decide),?_,hb.t.imp id fun hz2=>by obtain ⟨q,m,e,h1,h3⟩:=hz2;exact ⟨q,m,e,h1,(l2.le (natAbs_le_dvd h3 h2)).mono (by decide)⟩,fun y hy z=>?_⟩
  ·rcases hb.one with e | e <;> rw [e]
   ·exact lv1.2
   ·exact lvM1
  ·show upd b.f x 0 y+b.f x*g y=0
   rw [hz y hy z,Int.mul_zero,Int.add_zero]
   by_cases q:y=x
   ·clear z hy hb hx;subst q;exact upd_x
   ·rw [upd_ne q];exact (hb.z y hy z).resolve_left q) hg
theorem sp_gone (hlam:LamAt B "gone") {x:Str} (hx:x∈W) {la:List A} (hl:la.length≤3) {tg:Prop} {Z:Str→Prop} {K1 K2:Int} (hK1:0<K1) (h12:K1 ∣ K2) (h20:0<K2) (hK2:K2≤2000) (htg:1<K1→tg)
  (ha:∀ a∈la,(a.t=.ab∨tg∧∃ m,a.t=.go m∧0<m∧m*K1 ∣ K2)∧a.f x≠0∧a.f x ∣ K1∧Bd 28 a.c a.f) (hz:∀ y∈W,Z y→y=x∨∀ a∈la,a.f y=0) :
  Spec B "gone" NoX 7 [.im (.str x),.im (cj true (some (la.map (A.d W))))] fun q=>∃ q',q=.im q'∧Dj W (SetP W 36 tg Z) (fun v=>∃ k,∀ a∈la,a.at W x v k) q' :=
 .of_vc C.toEn F_gone b_gone C.f_gone k_gone rfl (hlam:=fun _=>hlam) <| by
  have l2:Lv 1 K2:=Nat.lt_of_le_of_lt (show K2.natAbs≤2000 from (na_pos (k:=2000) (Int.le_of_lt (by assumption)) (by assumption))) (by decide)
  have l1:Lv 1 K1:=l2.le (natAbs_le_dvd h12 (ne_p (by assumption)))
  have nt:∀ a∈la,a.t≠.no:=fun a h e=>by
   rcases (ha a h).1 with q | ⟨_,m,q,_⟩ <;> rw [e] at q <;> cases q
  refine gone_many C w (by decide) hx (Nat.le_trans (by assumption) (by decide)) hK1 l1 (fun a h=>(ha a h).2.1) (fun a h=>(ha a h).2.2.1) rfl fun M x2 hM hMK hMa=>?_
  have lM:Lv 1 M:=l1.le (natAbs_le_dvd hMK (ne_p (by assumption)))
  have lm:∀ a∈la,∀ m,a.t=.go m→0<m∧m*K1 ∣ K2:=fun a h m e=>by
   rcases (ha a h).1 with q | ⟨_,m',q,h3⟩ <;> rw [e] at q <;> cases q
   exact h3
  refine gone_whole C w (by decide) hx hl hM lM (fun a h=>⟨nt a h,(ha a h).2.1,hMa a h,(ha a h).2.2.2,fun m e=>?_⟩) rfl fun lb hlb hof hto hgo=>?_
  ·refine e0_2 (lm a h m e) ?_
   intro h3 h4
   exact (l2.le (natAbs_le_dvd (Int.dvd_trans ⟨K1,rfl⟩ h4) (ne_p (by assumption)))).mono (by decide)
  have R:∀ a∈la,OneR W x M a (a.oneOf x M):=fun a h=>A.oneOf_R w hx (nt a h) hM (ha a h).2.1 (hMa a h) lM (ha a h).2.2.2
  have hb:∀ b∈lb,WhP W x K2 tg Z b:=fun b h=>by
   rcases hof b h with ⟨a,h',rfl⟩ | ⟨q,rfl⟩
   ·have R:=R a h'
    refine ⟨R.one,?_,R.bd,fun y hy z=>(hz y hy z).imp id fun h0=>?_⟩
    ·rcases R.t with ⟨_,e⟩ | ⟨m,r,e,e',hr,hd⟩
     ·exact .inl e
     ·refine e0_2 (lm a h' m e) ?_
      intro h3 h4
      refine .inr ⟨?_,_,e',Int.mul_pos h3 hr,Int.dvd_trans (Int.mul_dvd_mul_left m (Int.dvd_trans hd hMK)) h4⟩
      rcases (ha a h').1 with q | ⟨q,_⟩
      ·rw [e] at q;clear h3 e' e;cases q
      ·exact q
    ·by_cases q:y=x
     ·clear z hy h R hgo hto hof hMa hz;subst q;exact absurd (h0 a h') (ha a h').2.1
     ·show a.mr x M*upd a.f x 0 y+su [(x,a.sg x)] y=0
      rw [upd_ne q,h0 a h',su1 q,Int.mul_zero];rfl
   ·refine ⟨.inl su1x,.inr ⟨htg (Int.lt_of_lt_of_le q (Int.le_of_dvd hK1 hMK)),M,rfl,hM,Int.dvd_trans hMK h12⟩,⟨lv1.1.mono (by decide),fun y=>?_⟩,fun y hy z=>?_⟩
    ·by_cases q:y=x
     ·clear h R hgo hto hof hMa hz ha;subst q
      show Lv 30 (su [(y,1)] y)
      rw [su1x];exact lv1.2.mono (by decide)
     ·show Lv 30 (su [(x,1)] y)
      rw [su1 q];exact lv1.1.mono (by decide)
    ·by_cases q:y=x
     ·exact .inl q
     ·exact .inr (su1 q)
  have nb:∀ b∈lb,b.t≠.no:=fun b h e=>by
   rcases (hb b h).t with q | ⟨_,m,q,_⟩ <;> rw [e] at q <;> cases q
  refine gone_turn C w (by decide) hx hlb h20 l2 (fun b h=>by have:=(hb b h).one;(clear hlb hMK hM hK2 h20 h12 hK1 hl;lia)) (fun b h m e=>?_) rfl fun T x2 hT hTK hTm=>?_
  ·rcases (hb b h).t with q | ⟨_,m',q,h3⟩ <;> rw [e] at q <;> cases q
   exact h3
  refine gone_side C w (by decide) hx hlb nb (fun b h=>(hb b h).bd.mono (by decide)) rfl fun side es hs he=>?_
  refine gone_far C w (by decide) hx hlb nb (fun b h=>(hb b h).one) rfl fun farD hf=>?_
  have hT2:T≤2000:=Int.le_trans (Int.le_of_dvd h20 hTK) hK2
  have ls:Lv 1 side:=by
   rcases hs with rfl | rfl
   ·exact lv1.2
   ·exact lvM1
  have lj:∀ j,1≤j→j≤T→Lv 2 (side*j):=fun j h1 h2=>ls.mul (k:=1) (Nat.lt_of_le_of_lt (show j.natAbs≤2000 by (clear hs hTK hlb hMK hM hK2 h20 h12 hK1 hl;lia)) (by decide))
  have hden:(fun v=>∃ k,∀ a∈la,a.at W x v k)=seen W x side lb es T:=funext fun v=>propext (gone_den w hx hT hM hs R hof hto hgo (fun b h=>⟨(hb b h).one,(hb b h).t.imp id fun hz3=>by obtain ⟨_,m,e,_⟩:=hz3;exact ⟨m,e,hTm b h m e⟩⟩) he v)
  rw [hden]
  refine gone_loop C w (Nat.le_refl 6) (Int.le_of_lt hT) hT2 (Nat.le_trans he.len hlb) x2 none none (fun j h1 h2=>?_) (fun e h3 j h1 h2=>?_) (ls.mono (by decide))
  ·rcases hf.inv with ⟨rfl,z⟩ | ⟨lc,rfl,h3,h4,h5⟩
   ·exact (sp_set0 C w).eq ⟨_,rfl,.no fun v=>z _⟩
   ·refine (WhP.set C w hx (ne_p (by assumption)) l2 (by rw [Nat.mul_one] at h4;exact Nat.le_trans h4 hlb) (fun b h=>hb b (h3 b h).1) (d:=side*j) (g:=fun _=>0) ⟨(lj j h1 h2).mono (by decide),fun _=>lv1.1.mono (by decide)⟩ fun _ _ _=>rfl).ex fun q' hr=>?_
    refine ⟨q',rfl,hr.imp (fun _ x=>x) (Nat.le_refl _) fun v=>?_⟩
    have:val W (side*j) (fun _=>0) v=side*j:=by unfold val;rw [dot0,Int.add_zero]
    rw [this]
    exact (h5 _).symm
  ·refine e1_2 (he.of e h3) ?_
   intro a h4 ez2
   clear h3 hden hf he R hgo hto hof hMa hz ha;subst ez2
   have hba:=hb a h4
   have ln:Lv 1 (-side):=ls.neg
   refine (WhP.set C w hx (ne_p (by assumption)) l2 hlb hb (d:=(a.edge x side).1+side*j) (g:=fun y=>(a.edge x side).2 y+0) ⟨?_,fun y=>?_⟩ fun y hy z=>?_).ex fun q' hr=>?_
   ·exact (Lv.add (k:=31) (ln.mul hba.bd.1) ((lj j h1 h2).mono (by decide))).mono (by decide)
   ·show Lv 34 (-side*upd a.f x 0 y+0)
    rw [Int.add_zero];exact (ln.mul ((hba.bd.upd x).2 y)).mono (by decide)
   ·show -side*upd a.f x 0 y+0=0
    by_cases q:y=x
    ·(try clear z;try clear hy;try clear hba;try clear h3;try clear hden;try clear hf;try clear he;try clear hb;try clear R;try clear hgo;try clear hto;try clear hof;try clear hMa;try clear hz;try clear ha;try clear hx);subst q;rw [upd_x,Int.mul_zero];rfl
    ·rw [upd_ne q,(hba.z y hy z).resolve_left q,Int.mul_zero];rfl
   ·refine ⟨q',rfl,hr.imp (fun _ x=>x) (Nat.le_refl _) fun v=>?_⟩
    have:val W ((a.edge x side).1+side*j) (fun y=>(a.edge x side).2 y+0) v=val W (a.edge x side).1 (a.edge x side).2 v+side*j:=by
     unfold val;rw [dot_add,dot0];(clear h2 h1 hT2 hs hTK hT hlb hMK hM hK2 h20 h12 hK1 hl;lia)
    rw [this]
end
end Mine
end

section
open PySem PySem.W PyProof.Rows PySem.Calls PyProof
set_option backward.match.sparseCases false
set_option tactic.hygienic false
namespace Mine
theorem loopEM {t:Tg} {body:List (Option Sl)→Post→Prop} {Q:Post} {α:Type} {g:α→D} (I:List α→List (Option Sl)→Prop) (h0:∀ ρ,I [] ρ→Q .next ρ)
  (h1:∀ (k:Nat) a l ρ,I (a::l) ρ→∀ K:List (Option Sl)→Prop,(∀ ρ',I l ρ'→K ρ')→tgW t (.tup [.int k,g a]) ρ fun ρ2=>body ρ2 (flW Q K)):∀ l k ρ,I l ρ→loopE t body Q k (l.map g) ρ
 | [],_,ρ,h=>h0 ρ h
 | a::l,k,ρ,h=>h1 k a l ρ h _ fun ρ' h'=>loopEM I h0 h1 l (k+1) ρ' h'
structure AwP (W:List Str) (x:Str) (K1 K2:Int) (tg:Prop) (Z:Str→Prop) (b:A):Prop where
 t:b.t=.ab∨tg∧∃ m,b.t=.go m∧0<m∧m*K1 ∣ K2
 x0:b.f x≠0
 dv:b.f x ∣ K1
 bd:Bd 28 b.c b.f
 z:∀ y∈W,Z y→y=x∨b.f y=0
section
variable {B:Bs} (C:Cx B) {W:List Str} (w:Wd W)
include C w
theorem sp_by_nought {a:A} {x:Str} {tg:Prop} {Z:Str→Prop} (hx:x∈W) (ht:a.t=.no) (h0:a.f x≠0) (hb:Bd 36 a.c a.f) (htg:tg) (hz:∀ y∈W,Z y→y=x∨a.f y=0) :
  Spec B "by_nought" NoX 4 [.im (.str x),.im (a.d W),.ct (.lst [])] fun q=>∃ q',q=.im q'∧Cj W (SetP W 36 tg Z) 1 (fun v=>∃ k,a.at W x v k) q' :=
 .of_vc C.toEn F_by_nought b_by_nought C.f_by_nought k_by_nought rfl <| by
  have hn:(0:Int)<(a.f x).natAbs:=(na_ne' (by assumption))
  have ln:Lv 36 ((a.f x).natAbs:Int):=(hb.2 x).le na_na
  have hat:∀ v k,a.at W x v k↔a.f x*k+a.rs W x v=0:=fun v k=>by
   unfold A.at A.ok;rw [val_at w hx,ht];exact Iff.rfl
  obtain ⟨t,c,f⟩:=a
  have ht:t=.no:=ht
  subst ht
  refine (sp_share C (W:=W) (.inl hx)).eq ?_
  refine (sp_without C w).eq ?_
  refine (sp_neat_goes C w hn ln (by decide)).ex fun o hr=>?_
  have hc:Cj W (SetP W 36 tg Z) 1 (fun v=>∃ k,(⟨.no,c,f⟩:A).at W x v k) (cj true o) :=
   (NeatR.cj (a:=⟨.go (f x).natAbs,c,upd f x 0⟩) hr (.inr ⟨htg,_,rfl,hn,ln⟩) fun y hy z=>by
    by_cases q:y=x
    ·clear z hy hr hat ln hn hz h0 hx;subst q;exact upd_x
    ·exact (upd_ne q).trans ((hz y hy z).resolve_left q)).imp (fun _ x=>x) (Nat.le_refl _) fun v=>by
    show ((f x).natAbs:Int) ∣ (⟨.no,c,f⟩:A).rs W x v↔_
    rw [Int.natAbs_dvd]
    constructor
    ·rintro ⟨k,hk⟩
     exact ⟨-k,(hat v _).mpr (by rw [hk];show f x * -k+f x*k=0;rw [Int.mul_neg];(clear hk hn h0;lia))⟩
    ·rintro ⟨k,hk⟩
     have hk:f x*k+(⟨.no,c,f⟩:A).rs W x v=0:=(hat v k).mp hk
     exact ⟨-k,by rw [Int.mul_neg];(clear hn h0;lia)⟩
  refine (sp_joinAnd C (W:=W) (P:=SetP W 36 tg Z) (l:=[()]) (g:=fun _=>cj true o) (N:=1) (den:=fun _ v=>∃ k,(⟨.no,c,f⟩:A).at W x v k) (fun _ _=>hc) (by decide)).ex fun q' hr=>?_
  exact ⟨q',rfl,hr.imp (fun _ x=>x) (Nat.le_refl 1) fun v=>⟨fun h=>h () (List.mem_cons_self ..),fun h _ _=>h⟩⟩
theorem away_to {n:Nat} (hn:3≤n) {x:Str} (hx:x∈W) {la:List A} (h0:la≠[]) (hl:la.length≤3) (ha:∀ a∈la,a.f x≠0) {Q:Post}
  (h:wpSs B n (tln 7 b_away) [some (.im (.str x)),some (.im (cj true (some (la.map (A.d W))))),none,some (.fz (.lst (la.map (A.d W)))),some (.own (.lst [])),some (.fz (.lst (la.map (A.d W)))),none] Q) :
  wpSs B n b_away [some (.im (.str x)),some (.im (cj true (some (la.map (A.d W))))),none,none,none,none,none] Q:=by
 have hany:(la.any fun a=>a.f x != 0)=true:=by
  refine e2_1 (List.exists_cons_of_ne_nil h0) ?_
  intro a r ez1
  clear h hl h0;subst ez1
  rw [List.any_cons,bne_iff_ne.mpr (ha a (List.mem_cons_self ..))];rfl
 have hsz:(la.map (A.d W)).length≤sizeLine:=by rw [List.length_map];exact Nat.le_trans hl (by decide)
 have st1:∀ a∈la,∀ {Q:Rs→Prop},Q (.im (.bool true))→Spec B "stands" NoX n [.im (.str x),.im (a.d W)] Q:=fun a h {Q} q=>(sp_stands C (W:=W) (la:=[a]) hx (show 1≤4 by decide)).eq (by
  show Q (.im (.bool (a.f x != 0||false)))
  rw [bne_iff_ne.mpr (ha a h)];exact q) hn
 have e1:la.filterMap (fun _:A=>(none:Option D))=[]:=List.filterMap_eq_nil_iff.mpr fun _ _=>rfl
 have e2:la.filterMap (fun a=>some (a.d W))=la.map (A.d W):=fm_some ..
 have fin:wpSs B n (tln 3 b_away) [some (.im (.str x)),some (.im (cj true (some (la.map (A.d W))))),none,some (.own (.lst (la.map (A.d W)))),none,none,none] Q:=by
  refine comp_of (g:=A.d W) (fun _=>none) (fun a h K hK=>?_) (by rw [e1];exact Nat.zero_le _) ?_
  ·refine st1 a h ?_
   exact hK
  ·rw [e1]
   refine comp_of (g:=A.d W) (fun a=>some (a.d W)) (fun a h K hK=>?_) (by rw [e2];exact hsz) ?_
   ·refine st1 a h ?_
    exact hK
   ·rw [e2];exact h
 refine (sp_stands C hx (Nat.le_trans (by assumption) (by decide))).eq ?_ hn
 rw [hany]
 by_cases h1:la.length=1
 ·refine e1_1 (len1 h1) ?_
  intro a ez2
  clear h1 e2 e1 st1 hsz hany h ha hl h0;subst ez2
  obtain ⟨t,c,f⟩:=a
  cases t with
  | ab=>exact fin
  | no=>exact fin
  | go m=>exact fin
 ·rw [cj_con (by rw [List.length_map];exact h1)] at fin ⊢
  exact ⟨hsz,fin⟩
theorem sp_away (hlam:LamAt B "gone") {x:Str} (hx:x∈W) {tg:Prop} {Z:Str→Prop} {K1 K2:Int} (hK1:0<K1) (h12:K1 ∣ K2) (h20:0<K2) (hK2:K2≤2000) (htg:1<K1→tg) {den:Fn→Prop} {q0:D} (h:Cj W (AwP W x K1 K2 tg Z) 3 den q0) :
  Spec B "away" NoX 8 [.im (.str x),.im q0] fun q=>∃ q',q=.im q'∧Tr W (SetP W 36 tg Z) 2 q' fun v=>∃ k,den (upd v x k) :=
 .of_vc C.toEn F_away b_away C.f_away k_away rfl <| by
  rcases h.inv with ⟨rfl,z⟩ | ⟨la,rfl,hP,hl,hd⟩
  ·refine (sp_stands0 C hx).eq ?_
   exact ⟨_,rfl,.inr ⟨false,[],rfl,Nat.zero_le _,nilAll,fun v=>⟨fun hz1=>by obtain ⟨k,q⟩:=hz1;exact absurd q (z _),fun hz2=>by obtain ⟨_,q,_⟩:=hz2;clear right;cases q⟩⟩⟩
  ·by_cases h0:la=[]
   ·subst h0
    refine (sp_stands C (la:=[]) hx (by decide)).eq ?_
    exact ⟨_,rfl,.inr ⟨true,[],rfl,Nat.zero_le _,nilAll,fun v=>⟨fun _=>nilAll,fun _=>⟨0,(hd _).mpr nilAll⟩⟩⟩⟩
   ·have nt:∀ a∈la,a.t≠.no:=fun a h e=>by
     rcases (hP a h).t with q | ⟨_,m,q,_⟩ <;> rw [e] at q <;> cases q
    have hsz:(la.map (A.d W)).length≤sizeLine:=by rw [List.length_map];exact Nat.le_trans hl (by decide)
    refine away_to C w (by decide) hx h0 hl (fun a h=>(hP a h).x0) ?_
    have e:la.map (A.d W)=(la.map fun a=>[a]).map fun l=>cj true (some (l.map (A.d W))):=by rw [List.map_map];rfl
    have hsum:((la.map fun a=>[a]).map List.length).sum=la.length:=by
     rw [List.map_map]
     clear hd hP hl h h0 nt hsz e
     induction la with
     | nil=>rfl
     | cons a la ih=>rw [List.map_cons,List.sum_cons,ih,List.length_cons,Nat.add_comm];rfl
    have hj:∀ {Q:Rs→Prop},(∀ lb:List A,(∀ b∈lb,b∈la)→(∀ a∈la,∃ b∈lb,b.d W=a.d W)→lb.length≤3→Q (.im (cj true (some (lb.map (A.d W))))))→Spec B "joined" NoX 7 [.im (.str (cw true)),.ct (.lst (la.map (A.d W)))] Q:=fun {Q} q=>by
     rw [e]
     refine (sp_joinS C (by rw [hsum];exact Nat.le_trans hl (by decide))).ex fun lb hr=>?_
     refine e0_3 hr ?_
     clear hr
     intro g1 g2 g3
     refine q lb (fun b hb=>?_) (fun a ha=>g2 _ (List.mem_map.mpr ⟨a,ha,rfl⟩) _ (List.mem_cons_self ..)) (by rw [hsum] at g3;exact Nat.le_trans g3 hl)
     refine e1_2 (g1 b hb) ?_
     intro l hl' hb
     refine e1_2 (List.mem_map.mp hl') ?_
     intro a ha ez3
     subst ez3
     exact List.mem_singleton.mp hb▸ha
    have jn:∀ x2 x6:Option Sl,wpSs B 7 (tln 9 b_away) [some (.im (.str x)),some (.im (cj true (some (la.map (A.d W))))),x2,some (.fz (.lst (la.map (A.d W)))),some (.own (.lst [])),some (.fz (.lst (la.map (A.d W)))),x6] (RetOk fun q=>∃ q',q=.im q'∧Tr W (SetP W 36 tg Z) 2 q' fun v=>∃ k,den (upd v x k)):=fun x2 x6=>by
     refine hj fun lb g1 g2 g3=>?_
     refine (sp_gone C w hlam (Z:=Z) hx g3 hK1 h12 h20 hK2 htg (fun b h=>⟨(hP b (g1 b h)).t,(hP b (g1 b h)).x0,(hP b (g1 b h)).dv,(hP b (g1 b h)).bd⟩) fun y hy z=>?_).ex (fun q1 hr=>?_) (by decide)
     ·by_cases q:y=x
      ·exact .inl q
      ·exact .inr fun b h=>((hP b (g1 b h)).z y hy z).resolve_left q
     ·refine ⟨show 0+1≤sizeLine by decide,?_⟩
      refine (sp_andD C (den:=fun v=>∃ k,den (upd v x k)) (hr.den fun v=>?_)).to fun r hr=>by obtain ⟨q',rfl,hr⟩:=hr;exact ⟨q',rfl,hr⟩
      constructor
      ·rintro ⟨k,hk⟩
       refine ⟨k,(hd _).mpr fun a ha=>?_⟩
       refine e1_2 (g2 a ha) ?_
       intro b hb e
       exact A.ok_congr e (hk b hb)
      ·rintro ⟨k,hk⟩
       exact ⟨k,fun b hb=>(hd _).mp hk b (g1 b hb)⟩
    have fin:∀ x2 x6:Option Sl,wpSs B 7 (tln 8 b_away) [some (.im (.str x)),some (.im (cj true (some (la.map (A.d W))))),x2,some (.fz (.lst (la.map (A.d W)))),some (.own (.lst [])),some (.fz (.lst (la.map (A.d W)))),x6] (RetOk fun q=>∃ q',q=.im q'∧Tr W (SetP W 36 tg Z) 2 q' fun v=>∃ k,den (upd v x k)):=fun x2 x6=>by
     refine ⟨Nat.lt_of_le_of_lt hsz (by decide),?_⟩
     have jn:=jn x2 x6
     by_cases h1:la.length=1
     ·refine e1_1 (len1 h1) ?_
      intro a ez4
      subst ez4
      refine ⟨by decide,?_⟩
      clear hj hP hd nt e hsum hl h0 h
      obtain ⟨t,c,f⟩:=a
      cases t <;> exact jn
     ·have hne:¬ ((((la.map (A.d W)).length:Nat):Int) == 1)=true:=fun q=>h1 (by have:=eq_of_beq q;rw [List.length_map] at this;(clear h1 hsz h0 hl hK2 h20 h12 hK1;lia))
      refine iN hne ?_
      exact iN hne jn
    refine loopEM (g:=A.d W) (fun l ρ=>(∀ a∈l,a∈la)∧∃ x2 x6:Option Sl,ρ=[some (.im (.str x)),some (.im (cj true (some (la.map (A.d W))))),x2,some (.fz (.lst (la.map (A.d W)))),some (.own (.lst [])),some (.fz (.lst (la.map (A.d W)))),x6]) (fun ρ h=>?_) (fun k a l ρ h K hK=>?_) la 0 _ ⟨fun _ x=>x,_,_,rfl⟩
    ·refine e0_2 h ?_
     clear h
     intro _ ez5
     refine e2_1 ez5 ?_
     clear ez5
     intro x2 x6 ez6
     clear a jn hj hsum e hsz h0 hd hl hP h hx;subst ez6
     exact fin x2 x6
    ·refine e0_2 h ?_
     clear h
     intro h ez7
     refine e2_1 ez7 ?_
     clear ez7
     intro x2 x6 ez8
     subst ez8
     have hk:∀ y2 y6:Option Sl,K [some (.im (.str x)),some (.im (cj true (some (la.map (A.d W))))),y2,some (.fz (.lst (la.map (A.d W)))),some (.own (.lst [])),some (.fz (.lst (la.map (A.d W)))),y6]:=fun y2 y6=>hK _ ⟨fun b hb=>h b (List.mem_cons_of_mem _ hb),_,_,rfl⟩
     have nt:=nt a (h a (List.mem_cons_self ..))
     clear h hK
     obtain ⟨t,c,f⟩:=a
     cases t with
     | no=>exact absurd rfl nt
     | ab=>exact hk _ _
     | go m=>exact hk _ _
theorem sp_awayN {x:Str} (hx:x∈W) {tg:Prop} {Z:Str→Prop} (htg:tg) {den:Fn→Prop} {q0:D} (h:Cj W (fun a=>a.t=.no∧a.f x≠0∧Bd 36 a.c a.f∧∀ y∈W,Z y→y=x∨a.f y=0) 1 den q0) :
  Spec B "away" NoX 5 [.im (.str x),.im q0] fun q=>∃ q',q=.im q'∧Tr W (SetP W 36 tg Z) 2 q' fun v=>∃ k,den (upd v x k) :=
 .of_vc C.toEn F_away b_away C.f_away k_away rfl <| by
  rcases h.inv with ⟨rfl,z⟩ | ⟨la,rfl,hP,hl,hd⟩
  ·refine (sp_stands0 C hx).eq ?_
   exact ⟨_,rfl,.inr ⟨false,[],rfl,Nat.zero_le _,nilAll,fun v=>⟨fun hz3=>by obtain ⟨k,q⟩:=hz3;exact absurd q (z _),fun hz4=>by obtain ⟨_,q,_⟩:=hz4;clear right;cases q⟩⟩⟩
  ·by_cases h0:la=[]
   ·clear hl;subst h0
    refine (sp_stands C (la:=[]) hx (by decide)).eq ?_
    exact ⟨_,rfl,.inr ⟨true,[],rfl,Nat.zero_le _,nilAll,fun v=>⟨fun _=>nilAll,fun _=>⟨0,(hd _).mpr nilAll⟩⟩⟩⟩
   ·refine e1_1 (len1 (Nat.le_antisymm hl (List.length_pos_iff.mpr h0))) ?_
    intro a ez9
    subst ez9
    refine e0_4 (hP a (List.mem_cons_self ..)) ?_
    intro ht p1 p2 p3
    refine away_to C w (by decide) hx h0 (show 1≤3 by decide) (fun a h=>(hP a h).2.1) ?_
    have hby:=sp_by_nought C w hx ht p1 p2 htg p3
    have hd:∀ v,(∃ k,a.at W x v k)↔∃ k,den (upd v x k):=fun v=>⟨fun hz5=>by obtain ⟨k,q⟩:=hz5;exact ⟨k,(hd _).mpr fun b hb=>by cases List.mem_singleton.mp hb;exact q⟩,fun hz6=>by obtain ⟨k,q⟩:=hz6;exact ⟨k,(hd _).mp q a (List.mem_cons_self ..)⟩⟩
    clear hP h h0 hl p1 p2 p3
    obtain ⟨t,c,f⟩:=a
    have ht:t=.no:=ht
    subst ht
    refine ⟨show 1≤sizeLine by decide,show 1≤sizeLine by decide,show 0+0≤sizeLine by decide,?_⟩
    refine hby.ex fun q1 hr=>?_
    refine ⟨show 0+1≤sizeLine by decide,?_⟩
    refine (sp_joinAnd C (W:=W) (P:=SetP W 36 tg Z) (l:=[()]) (g:=fun _=>q1) (N:=1) (den:=fun _ v=>∃ k,(⟨.no,c,f⟩:A).at W x v k) (fun _ _=>hr) (by decide)).ex fun q' hr=>?_
    exact ⟨q',rfl,(hr.tr (by decide)).succ.den fun v=>⟨fun q=>(hd v).mp (q () (List.mem_cons_self ..)),fun q _ _=>(hd v).mpr q⟩⟩
end
end Mine
end

section
open PySem PySem.W PyProof.Rows PySem.Calls PyProof
set_option backward.match.sparseCases false
set_option tactic.hygienic false
namespace Mine
theorem Tr.imp {W:List Str} {P P':A→Prop} (hP:∀ a,P a→P' a):∀ {n:Nat} {d:D} {den:Fn→Prop},Tr W P n d den→Tr W P' n d den
 | 0,_,_,⟨a,e,h,q⟩=>⟨a,e,hP a h,q⟩
 | n+1,_,_,.inl ⟨a,e,h,q⟩=>.inl ⟨a,e,hP a h,q⟩
 | n+1,_,_,.inr ⟨b,ps,e,hl,hp,h⟩=>.inr ⟨b,ps,e,hl,fun p hq=>Tr.imp hP (hp p hq),h⟩
structure LeP (W:List Str) (x:Str) (K1 K2:Int) (tg:Prop) (Z:Str→Prop) (a:A):Prop where
 t:(a.t=.ab∧a.f x≠0∧a.f x ∣ K1)∨tg∧∃ m,a.t=.go m∧0<m∧m*K1 ∣ K2∧a.f x=1
 bd:Bd 28 a.c a.f
 z:∀ y∈W,Z y→y=x∨a.f y=0
theorem LeP.aw {W:List Str} {x:Str} {K1 K2:Int} {tg:Prop} {Z:Str→Prop} {a b:A} (hx:x∈W) (h:LeP W x K1 K2 tg Z a) (hb:Bd 28 b.c b.f) (hk:NeatK W a.f b.f b.t a.t):AwP W x K1 K2 tg Z b:=by
 rcases h.t with ⟨e,h0,hd⟩ | ⟨htg,m,e,hm,hd,h1⟩
 ·rw [e] at hk
  refine e1_2 (hk.2 x hx) ?_
  intro g hg q
  refine ⟨.inl hk.1,fun z=>h0 (by rw [q,z,Int.mul_zero]),Int.dvd_trans ⟨g,by rw [q,Int.mul_comm]⟩ hd,hb,fun y hy z=>(h.z y hy z).imp id fun q=>?_⟩
  refine e1_2 (hk.2 y hy) ?_
  intro g hg e
  rw [q] at e;exact mul_zero_r hg e.symm.symm
 ·rw [e] at hk
  refine e0_2 hk ?_
  clear hk
  intro hm1 ez1
  refine e1_4 ez1 ?_
  clear ez1
  intro m' e' hm' hdm hk
  refine e1_3 (hk x hx) ?_
  intro g hg _ q
  have e1:(1:Int).fmod m=1:=by rw [Int.fmod_eq_emod_of_nonneg _ (by (clear q hg hdm hm' h1 hd hm;lia))];exact Int.emod_eq_of_lt (by decide) hm1
  rw [h1,e1] at q
  refine ⟨.inr ⟨htg,m',e',hm',Int.dvd_trans (Int.mul_dvd_mul hdm (Int.dvd_refl K1)) hd⟩,fun z=>?_,Int.dvd_trans (b:=1) ⟨g,by rw [q,Int.mul_comm]⟩ (Int.one_dvd _),hb,fun y hy z=>(h.z y hy z).imp id fun q=>?_⟩
  ·rw [z,Int.mul_zero] at q;cases q
  ·refine e1_3 (hk y hy) ?_
   intro g hg _ e
   rw [q,Int.zero_fmod] at e;exact mul_zero_r hg e
section
variable {B:Bs} (C:Cx B) {W:List Str} (w:Wd W)
include C w
theorem sp_pushFC {i:Nat} {Z:Str→Prop} {b k:Bool} {la:List A} (hi:i≤40) (hl:la.length≤4) (h:∀ a∈la,Ab W Z i a):Spec B "pushed" NoX 4 [.im (con b (la.map (A.d W))),.im (.bool false),.im (.bool k)] fun q=>q=.im (con (!b) ((la.map A.ng).map (A.d W))) :=
 .of_vc C.toEn F_pushed b_pushed C.f_pushed k_pushed rfl <| by
  have e:la.filterMap (fun a=>some (a.ng.d W))=(la.map A.ng).map (A.d W):=by rw [fm_some (fun a:A=>a.ng.d W),List.map_map];rfl
  have hs:((la.map A.ng).map (A.d W)).length≤sizeLine:=by rw [List.length_map,List.length_map];exact Nat.le_trans hl (by decide)
  cases b with
  | true =>
   refine comp_of (fun a=>some (a.ng.d W)) (fun a ha K hK=>?_) (by rw [e];exact hs) (by rw [e];exact ⟨hs,rfl⟩)
   exact (sp_pushFa C w hi (h a ha)).eq hK
  | false =>
   refine comp_of (fun a=>some (a.ng.d W)) (fun a ha K hK=>?_) (by rw [e];exact hs) (by rw [e];exact ⟨hs,rfl⟩)
   exact (sp_pushFa C w hi (h a ha)).eq hK
theorem sp_pushN {d:D} {n:Nat} {k:Bool} {Q:Rs→Prop} (h:Spec B "pushed" NoX n [.im d,.im (.bool false),.im (.bool k)] fun q=>∃ d',q=.im d'∧Q (.im d')):Spec B "pushed" NoX (n+1) [.im (neg d),.im (.bool true),.im (.bool k)] Q :=
 .of_vc C.toEn F_pushed b_pushed C.f_pushed k_pushed rfl <| h.to fun r hr=>by obtain ⟨d',rfl,hr⟩:=hr;exact hr
theorem sp_leftS {x:Str} {la:List A} (hl:la.length≤3) (hok:∀ a∈la,a.Ok 28) {R:D→Prop} (haw:∀ q0,Cj W (NeatP W 28 la) la.length (fun v=>∀ a∈la,a.ok W v) q0→Spec B "away" NoX 8 [.im (.str x),.im q0] fun q=>∃ q',q=.im q'∧R q') :
  Spec B "left" NoX 9 [.im (bnd true x (cj true (some (la.map (A.d W)))))] fun q=>∃ q',q=.im q'∧R q' :=
 .of_vc C.toEn F_left b_left C.f_left k_left rfl <| by
  have h1:∀ {Q:Rs→Prop},Q (.im (cj true (some (la.map (A.d W)))))→Spec B "left" NoX 8 [.im (cj true (some (la.map (A.d W))))] Q:=fun {Q} q=>by
   by_cases h:la.length=1
   ·refine e1_1 (len1 h) ?_
    intro a ez2
    clear h haw hok hl;subst ez2
    exact (sp_left1 C w).eq q
   ·rw [cj_con (by rw [List.length_map];exact h)] at q ⊢
    exact (sp_leftC C w (by (clear h;lia))).eq q
  have h2:∀ {Q:Rs→Prop},Q (.im (cj true (some (la.map (A.d W)))))→Spec B "pushed" NoX 8 [.im (cj true (some (la.map (A.d W)))),.im (.bool true),.im (.bool true)] Q:=fun {Q} q=>by
   by_cases h:la.length=1
   ·refine e1_1 (len1 h) ?_
    intro a ez3
    clear h h1 haw hok hl;subst ez3
    exact (sp_pushT C w (.inl rfl)).eq q
   ·rw [cj_con (by rw [List.length_map];exact h)] at q ⊢
    exact (sp_pushTC C w (by (clear h;lia)) fun _ _=>.inl rfl).eq q
  refine h1 ?_
  refine h2 ?_
  refine (sp_neat C w (by decide) (by lia) hok).ex fun q0 hr=>?_
  refine (haw q0 hr).ex fun q' hr=>?_
  exact ⟨q',rfl,hr⟩
theorem sp_leftA {x:Str} {la:List A} (hl:la.length≤3) (hl1:la.length≠1) (hb:∀ a∈la,Ab W (fun _=>False) 26 a) {den:Fn→Prop} {Z:Str→Prop} (haw:∀ q0,Cj W (NeatP W 28 (la.map A.ng)) (la.map A.ng).length (fun v=>∀ a∈la.map A.ng,a.ok W v) q0→Spec B "away" NoX 8 [.im (.str x),.im q0] fun q=>∃ q',q=.im q'∧Tr W (Ab W Z 36) 2 q' den) :
  Spec B "left" NoX 9 [.im (bnd false x (con false (la.map (A.d W))))] fun q=>∃ q',q=.im q'∧Tr W (Ab W Z 38) 2 q' fun v=>¬ den v :=
 .of_vc C.toEn F_left b_left C.f_left k_left rfl <| by
  refine (sp_leftC C w (by (clear hl1;lia))).eq ?_
  refine (sp_pushFC C w (by decide) (by (clear hl1;lia)) hb).eq ?_
  have e:con true ((la.map A.ng).map (A.d W))=cj true (some ((la.map A.ng).map (A.d W))):=(cj_con (by rw [List.length_map,List.length_map];exact hl1)).symm
  show Spec B "neat" NoX 8 [.im (con true ((la.map A.ng).map (A.d W)))] _
  rw [e]
  refine (sp_neat C w (k:=28) (by decide) (by rw [List.length_map];(clear hl1;lia)) fun a ha=>?_).ex fun q0 hr=>?_
  ·refine e1_2 (List.mem_map.mp ha) ?_
   intro a h ez4
   clear ha;subst ez4
   exact ⟨((hb a h).ng).2.1,nofun⟩
  ·refine (haw q0 hr).ex fun q' hr=>?_
   refine (sp_pushF C w (by decide) hr).ex fun q' hr=>?_
   exact ⟨q',rfl,hr⟩
structure LR (W:List Str) (tg:Prop) (Z:Str→Prop) (den:Fn→Prop) (q:D):Prop where
 tr:Tr W (SetP W 38 tg Z) 2 q den
omit C in
theorem SetP.up {tg:Prop} {Z:Str→Prop} {a:A} (h:SetP W 36 tg Z a):SetP W 38 tg Z a:=⟨h.bd.mono (by decide),h.t.imp id fun hz1=>by obtain ⟨q,m,e,h1,h2⟩:=hz1;exact ⟨q,m,e,h1,h2.mono (by decide)⟩,h.z⟩
theorem sp_leftG (hlam:LamAt B "gone") {x:Str} (hx:x∈W) {la:List A} (hl:la.length≤3) {tg:Prop} {Z:Str→Prop} {K1 K2:Int} (hK1:0<K1) (h12:K1 ∣ K2) (h20:0<K2) (hK2:K2≤2000) (htg:1<K1→tg) (ha:∀ a∈la,LeP W x K1 K2 tg Z a) :
  Spec B "left" NoX 9 [.im (bnd true x (cj true (some (la.map (A.d W)))))] fun q=>∃ q',q=.im q'∧LR W tg Z (fun v=>∃ k,∀ a∈la,a.ok W (upd v x k)) q':=by
 have l2:Lv 28 K2:=Lv.mono (j:=1) (Nat.lt_of_le_of_lt (show K2.natAbs≤2000 by (clear h12 hK1 hl;lia)) (by decide)) (by decide)
 refine sp_leftS C w hl (fun a h=>⟨(ha a h).bd,fun m e=>?_⟩) fun q0 hq=>?_
 ·rcases (ha a h).t with ⟨q,_⟩ | ⟨_,m',q,h1,h2,_⟩ <;> rw [e] at q <;> cases q
  exact ⟨h1,l2.le (natAbs_le_dvd (Int.dvd_trans ⟨K1,rfl⟩ h2) (by (clear h2 h1 h12 hK1 hl;lia)))⟩
 ·refine (sp_away C w hlam hx (Z:=Z) hK1 h12 h20 hK2 htg (hq.imp (fun b hb=>?_) hl fun v=>Iff.rfl)).ex fun q' hr=>?_
  ·refine e1_3 hb ?_
   clear hb
   intro a h h1 h2
   exact (ha a h).aw hx h1 h2
  ·exact ⟨q',rfl,⟨hr.imp fun _ h=>h.up w⟩⟩
theorem sp_leftNo {x:Str} (hx:x∈W) {a:A} {tg:Prop} {Z:Str→Prop} (htg:tg) (ht:a.t=.no) (h0:a.f x≠0) (hb:Bd 28 a.c a.f) (hz:∀ y∈W,Z y→y=x∨a.f y=0) :
  Spec B "left" NoX 9 [.im (bnd true x (cj true (some ([a].map (A.d W)))))] fun q=>∃ q',q=.im q'∧LR W tg Z (fun v=>∃ k,∀ b∈[a],b.ok W (upd v x k)) q':=by
 refine sp_leftS C w (la:=[a]) (show 1≤3 by decide) (fun b h=>by cases List.mem_singleton.mp h;exact ⟨hb,fun m e=>by rw [ht] at e;cases e⟩) fun q0 hq=>?_
 refine (sp_awayN C w hx (tg:=tg) (Z:=Z) htg (hq.imp (fun b hb=>?_) (Nat.le_refl 1) fun v=>Iff.rfl)).ex fun q' hr=>?_
 ·refine e1_3 hb ?_
  clear hb
  intro a' h h1 h2
  cases List.mem_singleton.mp h
  rw [ht] at h2
  refine e1_2 (h2.2 x hx) ?_
  intro g hg q
  refine ⟨h2.1,fun z=>h0 (by rw [q,z,Int.mul_zero]),h1.mono (by decide),fun y hy z=>(hz y hy z).imp id fun q=>?_⟩
  refine e1_2 (h2.2 y hy) ?_
  intro g hg e
  rw [q] at e;exact mul_zero_r hg e
 ·exact ⟨q',rfl,⟨hr.imp fun _ h=>h.up w⟩⟩
theorem sp_leftU (hlam:LamAt B "gone") {x:Str} (hx:x∈W) {la:List A} (hl:la.length≤3) (hl1:la.length≠1) {Z:Str→Prop} (hb:∀ a∈la,Ab W (fun _=>False) 26 a∧(a.f x=1∨a.f x = -1)∧∀ y∈W,Z y→y=x∨a.f y=0) :
  Spec B "left" NoX 9 [.im (bnd false x (con false (la.map (A.d W))))] fun q=>∃ q',q=.im q'∧LR W False Z (fun v=>∀ k,∃ a∈la,a.ok W (upd v x k)) q':=by
 refine (sp_leftA C w (Z:=Z) hl hl1 (fun a h=>(hb a h).1) (den:=fun v=>∃ k,∀ a∈la.map A.ng,a.ok W (upd v x k)) fun q0 hq=>?_).to fun r hr=>?_
 ·refine (sp_away C w hlam hx (tg:=False) (Z:=Z) (K1:=1) (K2:=1) (by decide) (Int.dvd_refl _) (by decide) (by decide) (fun q=>absurd q (by decide)) (hq.imp (fun b hb'=>?_) (by rw [List.length_map];exact hl) fun v=>Iff.rfl)).ex fun q' hr=>?_
  ·refine e1_3 hb' ?_
   clear hb'
   intro a' h h1 h2
   refine e1_2 (List.mem_map.mp h) ?_
   intro a ha ez5
   subst ez5
   refine e0_3 (hb a ha) ?_
   intro g1 g2 g3
   have e:a.ng.f x = -1*a.f x:=rfl
   refine LeP.aw hx ⟨.inl ⟨rfl,by rw [e];(clear e hl1 hl;lia),?_⟩,g1.ng.2.1,fun y hy z=>(g3 y hy z).imp id fun q=>?_⟩ h1 h2
   ·rw [e]
    rcases g2 with q | q <;> rw [q] <;> decide
   ·show -1*a.f y=0
    rw [q];rfl
  ·exact ⟨q',rfl,hr.imp fun a h=>⟨h.t.resolve_right fun q=>q.1,h.bd,h.z⟩⟩
 ·refine e1_2 hr ?_
  clear hr
  intro q' ez6 hr
  subst ez6
  refine ⟨q',rfl,⟨(hr.imp fun a h=>⟨h.2.1,.inl h.1,h.2.2⟩).den fun v=>⟨fun q k=>Classical.byContradiction fun z=>q ⟨k,fun b h=>?_⟩,fun q ⟨k,z⟩=>?_⟩⟩⟩
  ·refine e1_2 (List.mem_map.mp h) ?_
   intro a ha ez7
   subst ez7
   exact (ng_ok (hb a ha).1.1).mpr fun y=>z ⟨a,ha,y⟩
  ·refine e1_2 (q k) ?_
   intro a h y
   exact (ng_ok (hb a h).1.1).mp (z _ (List.mem_map.mpr ⟨a,h,rfl⟩)) y
end
end Mine
end

section
open PySem PySem.W PyProof.Rows PySem.Calls PyProof
set_option backward.match.sparseCases false
set_option tactic.hygienic false
namespace Mine
structure Knw (S:Str→Prop) (v:Fn) (l:List (Str×D)):Prop where
 yes:∀ y,S y→dAt l y=some (.int (v y))
 no:∀ y,¬ S y→dAt l y=none
 len:l.length≤3
theorem dSto_len (l:List (Str×D)) (k:Str) (d:D):(dSto l k d).length≤l.length+1:=by
 unfold dSto
 split
 ·rw [List.length_map];exact Nat.le_succ _
 ·rw [List.length_append];exact Nat.le_refl _
theorem Knw.add {ks:List Str} {S:Str→Prop} {v:Fn} {pre l:List Str} {m:List (Str×D)} {y:Str} (h1:∀ z,z∈pre→dAt m z=some (.int (v z))) (h2:∀ z,z∉pre→dAt m z=none) :
  (∀ z,z∈pre++[y]→dAt (dSto m y (.int (v y))) z=some (.int (v z)))∧∀ z,z∉pre++[y]→dAt (dSto m y (.int (v y))) z=none:=by
 refine ⟨fun z hz=>?_,fun z hz=>?_⟩
 ·rw [dAt_sto]
  by_cases q:z=y
  ·rw [if_pos q,q]
  ·rw [if_neg q]
   rcases List.mem_append.mp hz with hz | hz
   ·exact h1 z hz
   ·exact absurd (List.mem_singleton.mp hz) q
 ·rw [dAt_sto,if_neg fun q=>hz (List.mem_append_right _ (List.mem_singleton.mpr q))]
  exact h2 z fun q=>hz (List.mem_append_left _ q)
section
variable {B:Bs} (C:Cx B) {W:List Str} (w:Wd W)
include C w
theorem sp_holds {a:Bool} {x:Str} {d:D} {S:Str→Prop} {vs:List (Str×D)} {v:Fn} (hN:TrN W 1 d S) (hv:∀ y,S y→y≠x→dAt vs y=some (.int (v y))) (hl:∀ y,Lv 10 (v y)) {tg:Prop} {den:Fn→Prop}
  (hf:∀ ks,Knw (fun y=>S y∧y≠x) v ks→Spec B "filled" NoX 6 [.im (bnd a x d),.ct (.dct ks)] fun q=>∃ d',q=.im d'∧Spec B "left" NoX 9 [.im d'] fun q=>∃ q',q=.im q'∧LR W tg (fun _=>True) den q') :
  Spec B "holds" NoX 10 [.im (bnd a x d),.ct (.dct vs)] fun q=>∃ b,q=.im (.bool b)∧(b=true↔den v) :=
 .of_vc C.toEn F_holds b_holds C.f_holds k_holds rfl <| by
  refine (sp_unknownsB C w hN).ex fun ks hr=>?_
  refine e0_2 hr ?_
  clear hr
  intro h1 h2
  have hk:∀ y∈ks,dAt vs y=some (.int (v y)):=fun y hy=>by
   refine e0_2 ((h2 y).mp hy) ?_
   intro q1 q2
   exact hv y q1 fun q=>q2 (List.mem_singleton.mpr q)
  refine (sp_need_values C (fun y hy=>by rw [hk y hy];rfl)).eq ?_
  refine loopM (fun l ρ=>∃ (pre:List Str) (m:List (Str×D)) (x4:Option Sl),ρ=[some (.im (bnd a x d)),some (.fz (.dct vs)),some (.fz (.lst (ks.map .str))),some (.own (.dct m)),x4]∧ks=pre++l∧(∀ z,z∈pre→dAt m z=some (.int (v z)))∧(∀ z,z∉pre→dAt m z=none)∧m.length≤pre.length)
   (fun ρ h=>?_) (fun y l ρ h K hK=>?_) ks _ ⟨[],[],_,rfl,rfl,nilAll,fun _ _=>rfl,Nat.le_refl _⟩
  ·refine e3_5 h ?_
   clear h
   intro pre m x4 ez1 e g1 g2 g3
   subst ez1
   rw [List.append_nil] at e
   subst e
   have hm:∀ y,y∈ks↔S y∧y≠x:=fun y=>(h2 y).trans ⟨fun q=>⟨q.1,fun z=>q.2 (List.mem_singleton.mpr z)⟩,fun q=>⟨q.1,fun z=>q.2 (List.mem_singleton.mp z)⟩⟩
   refine (hf m ⟨fun y hy=>g1 y ((hm y).mpr hy),fun y hy=>g2 y fun z=>hy ((hm y).mp z),Nat.le_trans g3 h1⟩).ex fun d' hr=>?_
   refine hr.ex fun q' hr=>?_
   refine (sp_truth C (P:=SetP W 38 tg fun _=>True) (vs:=[]) (v:=v) (fun y=>(hl y).mono (by decide)) w (fun a ha=>⟨fun y hy h0=>absurd (ha.z y hy trivial) h0,fun y=>(ha.bd.2 y).mono (by decide),fun m e=>?_⟩) hr.tr).ex fun b hr=>?_
   ·rcases ha.t with q | ⟨_,m',q,h,_⟩ <;> rw [e] at q <;> cases q
    exact h
   ·exact ⟨b,rfl,hr⟩
  ·refine e3_5 h ?_
   clear h
   intro pre m x4 ez2 e g1 g2 g3
   subst ez2
   have hy:y∈ks:=by rw [e];exact List.mem_append_right _ (List.mem_cons_self ..)
   refine optW.of (hk y hy) ?_
   refine e0_2 (Knw.add (ks:=ks) (S:=S) (l:=l) (y:=y) g1 g2) ?_
   intro n1 n2
   have hpl:pre.length≤3:=by rw [e,List.length_append] at h1;(clear g3;lia)
   exact ⟨Nat.le_trans (Nat.le_trans g3 hpl) (by decide),hK _ ⟨pre++[y],_,_,rfl,by rw [e,List.append_assoc];rfl,n1,n2,by have:=dSto_len m y (.int (v y));rw [List.length_append,List.length_singleton];(clear hpl h1;lia)⟩⟩
end
end Mine
end

section
open PySem PySem.W PyProof.Rows PySem.Calls PyProof
set_option backward.match.sparseCases false
set_option tactic.hygienic false
namespace Mine
theorem window {P:Int→Prop} {T:Int} (hT:0<T) {bs:List Int} (h0:bs≠[]) (hp:∀ k,(∀ b∈bs,¬ (k≤b∧b<k+T))→(P k↔P (k+T))) {k:Int} (hk:P k) :
  ∃ b∈bs,∃ j,0≤j∧j<2*T∧P (b+1-T+j):=by
 have at1:∀ b∈bs,∀ k,P k→b+1-T≤k→k≤b+T→∃ b∈bs,∃ j,0≤j∧j<2*T∧P (b+1-T+j):=fun b hb k hk h1 h2=>⟨b,hb,k-(b+1-T),by (clear h2 hT;lia),by (clear h1 hT;lia),by rw [show b+1-T+(k-(b+1-T))=k by (clear h2 h1 hT;lia)];exact hk⟩
 have up:∀ (n:Nat) (k:Int),P k→(∃ b∈bs,k≤b∧b-k<n)→∃ b∈bs,∃ j,0≤j∧j<2*T∧P (b+1-T+j):=fun n=>by
  induction n with
  | zero=>rintro k _ ⟨b,_,h1,h2⟩;(clear hT;lia)
  | succ n ih =>
   intro k hk rz1
   obtain ⟨b,hb,h1,h2⟩:=rz1
   by_cases q:∃ b∈bs,k≤b∧b<k+T
   ·refine e1_3 q ?_
    clear q
    intro b hb q1 q2
    exact at1 b hb k hk (by (clear q1 h2 h1 hT;lia)) (by (clear h2 h1 hT;lia))
   ·have q':∀ b∈bs,¬ (k≤b∧b<k+T):=fun b hb z=>q ⟨b,hb,z⟩
    have:=q' b hb
    exact ih (k+T) ((hp k q').mp hk) ⟨b,hb,by (clear q h2 hT;lia),by (clear this q h1;lia)⟩
 have dn:∀ (n:Nat) (k:Int),P k→(∀ b∈bs,b<k)→(∃ b∈bs,k-b<n)→∃ b∈bs,∃ j,0≤j∧j<2*T∧P (b+1-T+j):=fun n=>by
  induction n with
  | zero=>rintro k _ ha ⟨b,hb,h1⟩;have:=ha b hb;(clear hT;lia)
  | succ n ih =>
   intro k hk ha rz2
   obtain ⟨b,hb,h1⟩:=rz2
   by_cases q:∃ b∈bs,k≤b+T
   ·refine e1_2 q ?_
    clear q
    intro b hb q1
    have:=ha b hb
    exact at1 b hb k hk (by (clear q1 h1;lia)) (by assumption)
   ·have q':∀ b∈bs,b<k-T:=fun b hb=>Classical.byContradiction fun z=>q ⟨b,hb,by (clear q h1 hT;lia)⟩
    have e:k-T+T=k:=by (clear q h1 hT;lia)
    refine ih (k-T) ((hp (k-T) fun b hb z=>by have:=q' b hb;(clear e q h1 hT;lia)).mpr (by rw [e];exact hk)) q' ⟨b,hb,by (clear e q;lia)⟩
 refine e2_1 (List.exists_cons_of_ne_nil h0) ?_
 intro b r ez1
 clear at1 hp h0;subst ez1
 by_cases q:∃ b'∈b::r,k≤b'
 ·refine e1_2 q ?_
  clear q
  intro b' hb q
  exact up (b'-k+1).toNat k hk ⟨b',hb,q,by (clear hT;lia)⟩
 ·exact dn (k-b+1).toNat k hk (fun b' hb=>Classical.byContradiction fun z=>q ⟨b',hb,(Int.not_lt.mp (by assumption))⟩) ⟨b,List.mem_cons_self ..,by (clear q hT;lia)⟩
noncomputable def A.brk (a:A) (x:Str):Int:=if 0<a.f x then (-a.c).fdiv (a.f x) else -(-a.c).fdiv (-a.f x)-1
theorem brk_ok {c p k:Int} (h0:p≠0):0<p*k+c↔(if 0<p then (-c).fdiv p<k else k ≤ -(-c).fdiv (-p)-1):=by
 by_cases q:0<p
 ·rw [if_pos q,Int.fdiv_eq_ediv_of_nonneg _ (Int.le_of_lt (by assumption)),Int.ediv_lt_iff_lt_mul q,Int.mul_comm k p];(clear q h0;lia)
 ·rw [if_neg q,Int.fdiv_eq_ediv_of_nonneg _ (by (clear h0;lia))]
  have h1:k ≤ -(-c / -p)-1 ↔ -c / -p < -k:=by (clear q h0;lia)
  rw [h1,Int.ediv_lt_iff_lt_mul (by lia),Int.neg_mul_neg,Int.mul_comm k p];(clear h1 q h0;lia)
theorem flip1 {b k T:Int} (hT:0<T) (hn:¬ (k≤b∧b<k+T)):b<k↔b<k+T:=⟨fun h=>Int.lt_trans h (Int.lt_add_of_pos_right _ hT),fun h=>Int.not_le.mp fun q=>hn ⟨q,h⟩⟩
theorem flip2 {b k T:Int} (hT:0<T) (hn:¬ (k≤b∧b<k+T)):k≤b↔k+T≤b:=⟨fun h=>Int.not_lt.mp fun q=>hn ⟨h,q⟩,fun h=>Int.le_trans (Int.le_of_lt (Int.lt_add_of_pos_right _ hT)) h⟩
theorem brk_flip {c p k T b:Int} (h0:p≠0) (hb:b=if 0<p then (-c).fdiv p else -(-c).fdiv (-p)-1) (hT:0<T) (hn:¬ (k≤b∧b<k+T)):0<p*k+c↔0<p*(k+T)+c:=by
 rw [brk_ok h0,brk_ok h0]
 by_cases q:0<p
 ·rw [if_pos q] at hb;rw [if_pos q,if_pos q,← hb];exact flip1 hT hn
 ·rw [if_neg q] at hb;rw [if_neg q,if_neg q,← hb];exact flip2 hT hn
section
variable {B:Bs} (C:Cx B) {W:List Str} (w:Wd W)
include C w
theorem sp_break {c:Int} {f:Fn} {x:Str} (hx:x∈W) (h0:f x≠0) (hl:Lv 80 (f x)):Spec B "break_of" NoX 2 [.im (sD W c f),.im (.str x)] fun q=>q=.im (.int ((⟨.ab,c,f⟩:A).brk x)) :=
 .of_vc C.toEn F_break_of b_break_of C.f_break_of k_break_of rfl <| by
  refine (sp_share C (W:=W) (.inl hx)).eq ?_
  refine iB (fun q=>?_) fun q=>?_
  ·refine ⟨h0,hl.fd,?_⟩
   show Rs.im (.int ((-c).fdiv (f x)))=Rs.im (.int (if 0<f x then (-c).fdiv (f x) else -(-c).fdiv (-f x)-1))
   rw [if_pos (of_decide_eq_true q)]
  ·refine ⟨by lia,hl.neg.fd,?_⟩
   show Rs.im (.int (-(-c).fdiv (-f x)-1))=Rs.im (.int (if 0<f x then (-c).fdiv (f x) else -(-c).fdiv (-f x)-1))
   rw [if_neg (of_decide_eq_false q)]
end
end Mine
end

section
open PySem PySem.W PyProof.Rows PySem.Calls PyProof
set_option backward.match.sparseCases false
set_option tactic.hygienic false
namespace Mine
theorem mem_iAdd {l:List Int} {i j:Int}:j∈iAdd l i↔j∈l∨j=i:=by
 unfold iAdd
 split
 ·rename_i h
  exact ⟨.inl,fun q=>q.elim id fun q=>q▸List.contains_iff_mem.mp h⟩
 ·rw [List.mem_append,List.mem_singleton]
theorem iAdd_len {l:List Int} {i:Int}:(iAdd l i).length≤l.length+1:=by
 unfold iAdd
 split
 ·exact Nat.le_succ _
 ·rw [List.length_append];exact Nat.le_refl _
theorem gcd_turn {m p:Int} (hm:0<m):0<m.fdiv (m.gcd p)∧m.fdiv (m.gcd p) ∣ m∧m ∣ p*m.fdiv (m.gcd p)∧(0:Int)<m.gcd p:=by
 have hg:(0:Int)<m.gcd p:=Int.ofNat_lt.mpr (Int.gcd_pos_of_ne_zero_left _ (ne_p (by assumption)))
 refine e1_1 (Int.gcd_dvd_left m p) ?_
 intro r hr
 refine e1_1 (Int.gcd_dvd_right m p) ?_
 intro s hs
 generalize hG:((m.gcd p:Nat):Int)=g at *
 have e:m.fdiv g=r:=by rw [hr,Int.mul_comm,Int.mul_fdiv_cancel _ (ne_p (by assumption))]
 rw [e]
 refine ⟨?_,⟨g,by rw [Int.mul_comm];exact hr⟩,⟨s,?_⟩,hg⟩
 ·refine Classical.byContradiction fun q=>?_
  have:=Int.mul_le_mul_of_nonneg_left (show r≤0 from (Int.not_lt.mp (by assumption))) (show 0≤g from (Int.le_of_lt (by assumption)))
  (clear q e hs hg hG;lia)
 ·rw [hs,hr,Int.mul_right_comm]
section
variable {B:Bs} (C:Cx B) {W:List Str} (w:Wd W)
include C w
theorem nf_loop {n:Nat} {x:Str} {T:Int} (hT:0<T) (hT2:T≤2000) {bs:List Int} (hbs:bs.length≤4) (hlb:∀ b∈bs,Lv 38 b) {P:Int→Prop} {q0:D} (htr:∀ k,Lv 40 k→Spec B "truth" NoX n [.im q0,.ct (.dct [(x,.int k)])] fun q=>∃ b,q=.im (.bool b)∧(b=true↔P k)) (x4 x5:Option Sl) {R:D→Prop} (r0:(∀ b∈bs,∀ j,0≤j→j<2*T→¬ P (b+1-T+j))→R .none) (r1:∀ k,Lv 40 k→P k→R (.int k)) :
  wpSs B n (tln 4 b_number_for) [some (.im q0),some (.im (.str x)),some (.im (.int T)),some (.own (.idc bs)),x4,x5,none,none] (RetOk fun q=>∃ r,q=.im r∧R r):=by
 refine ⟨Nat.le_trans hbs (by decide),.inr (.inl ⟨bs,rfl,(Nat.lt_of_le_of_lt (by assumption) (by decide)),?_⟩)⟩
 refine loopM (g:=.int) (fun l ρ=>∃ (pre:List Int) (x6 x7:Option Sl),ρ=[some (.im q0),some (.im (.str x)),some (.im (.int T)),some (.own (.idc bs)),x4,x5,x6,x7]∧srtI bs=pre++l∧∀ b∈pre,∀ j,0≤j→j<2*T→¬ P (b+1-T+j))
  (fun ρ h=>?_) (fun b l ρ h K hK=>?_) (srtI bs) _ ⟨[],_,_,rfl,rfl,nilAll⟩
 ·refine e3_3 h ?_
  clear h
  intro pre x6 x7 ez1 e g
  subst ez1
  rw [List.append_nil] at e
  exact ⟨_,rfl,r0 fun b hb=>g b (e▸(srtI_perm bs).mem_iff.mpr hb)⟩
 ·refine e3_3 h ?_
  clear h
  intro pre x6 x7 ez2 e g
  subst ez2
  have hb:b∈bs:=(srtI_perm bs).mem_iff.mp (by rw [e];exact List.mem_append_right _ (List.mem_cons_self ..))
  have lT:Lv 1 T:=Nat.lt_of_le_of_lt (na_pos (k:=2000) (Int.le_of_lt hT) hT2) (by decide)
  refine ⟨(Lv.mono (j:=1) (show Lv 1 2 by unfold Lv;decide +kernel) (by decide)).ok (lT.mono (by decide)),(Int.natCast_nonneg _),(Int.natCast_nonneg _),by (clear hbs;lia),by (clear hbs;lia),?_⟩
  rw [Int.sub_zero]
  refine loopI (fun l' ρ=>∃ (j:Nat) (x7:Option Sl),ρ=[some (.im q0),some (.im (.str x)),some (.im (.int T)),some (.own (.idc bs)),x4,x5,some (.im (.int b)),x7]∧j≤(2*T).toNat∧l'=intsFrom j ((2*T).toNat-j)∧∀ i:Int,0≤i→i<j→¬ P (b+1-T+i))
   (fun ρ h=>?_) (fun d l' ρ h K' hK'=>?_) _ _ ⟨0,_,rfl,Nat.zero_le _,rfl,fun i h1 h2=>(Int.not_lt.mpr h1 h2).elim⟩
  ·refine e2_4 h ?_
   clear h
   intro j x7 ez3 h1 h2 h3
   clear lT r0 hT2;subst ez3
   have hj:j=(2*T).toNat:=by
    cases q:(2*T).toNat-j with
    | zero=>exact sb0 h1 q
    | succ k=>rw [q] at h2;cases h2
   refine hK _ ⟨pre++[b],_,_,rfl,by rw [e,List.append_assoc];rfl,fun b' hb'=>?_⟩
   rcases List.mem_append.mp hb' with hb' | hb'
   ·exact g b' hb'
   ·cases List.mem_singleton.mp hb'
    exact fun i h4 h5=>h3 i h4 (sb4 (Int.mul_nonneg (by decide) (Int.le_of_lt hT)) hj▸h5)
  ·refine e2_4 h ?_
   clear h
   intro j x7 ez4 h1 h2 h3
   subst ez4
   cases hk:(2*T).toNat-j with
   | zero=>rw [hk] at h2;cases h2
   | succ k =>
   rw [hk] at h2
   have h2:d::l'=.int j::intsFrom (j+1) k:=h2
   injection h2 with hd hl'
   subst hd
   have lk:Lv 40 (b+1-T+j):=by
    have hj2:=sb3 (sb2 hk)
    have e1:b+1-T+j=b+(1-T+j):=by rw [Int.add_sub_assoc,Int.add_assoc]
    rw [e1]
    exact Lv.add (k:=39) ((hlb b hb).mono (by decide)) (Lv.mono (j:=1) (Nat.lt_of_le_of_lt (na_le (i:=1-T+(j:Int)) (k:=10000) (by (clear e1 hbs hk h1;lia)) (by (clear e1 hbs hk h1;lia))) (by decide)) (by decide))
   refine (htr _ lk).ex (fun z hr=>?_) (Nat.le_refl _)
   refine iB (fun q=>?_) fun q=>?_
   ·exact ⟨_,rfl,r1 _ lk (hr.mp q)⟩
   ·refine hK' _ ⟨j+1,_,rfl,sb2 hk,?_,fun i h4 h5=>?_⟩
    ·rw [hl',sb1 hk];rfl
    ·by_cases q':i=j
     ·rw [q'];exact fun y=>by rw [hr.mpr y] at q;cases q
     ·exact h3 i h4 (Int.lt_iff_le_and_ne.mpr ⟨Int.le_of_lt_add_one h5,q'⟩)
theorem nf_first {n:Nat} (hn:2≤n) {x:Str} (hx:x∈W) {la:List A} (hl:la.length≤3) {tg:Prop} {Z:Str→Prop} {K1 K2:Int} (h20:0<K2) (hK2:K2≤2000) (hP:∀ a∈la,AwP W x K1 K2 tg Z a) {q0:D} (hat:Spec B "atoms_of" NoX 2 [.im q0] fun q=>q=.fr (.lst (la.map (A.d W)))) {Q:Post}
  (h:∀ T bs x4 x5,0<T→T ∣ K2→(∀ a∈la,∀ m,a.t=.go m→m ∣ a.f x*T)→bs≠[]→bs.length≤4→(∀ b∈bs,Lv 38 b)→(∀ a∈la,a.t=.ab→a.brk x∈bs)→wpSs B n (tln 4 b_number_for) [some (.im q0),some (.im (.str x)),some (.im (.int T)),some (.own (.idc bs)),x4,x5,none,none] Q) :
  wpSs B n b_number_for [some (.im q0),some (.im (.str x)),none,none,none,none,none,none] Q:=by
 have l2:Lv 1 K2:=Nat.lt_of_le_of_lt (show K2.natAbs≤2000 from (na_pos (k:=2000) (Int.le_of_lt (by assumption)) (by assumption))) (by decide)
 refine hat.eq ?_ hn
 refine loopM (fun l ρ=>∃ (T:Int) (bs:List Int) (pre:List A) (x4 x5:Option Sl),ρ=[some (.im q0),some (.im (.str x)),some (.im (.int T)),some (.own (.idc bs)),x4,x5,none,none]∧la=pre++l∧0<T∧T ∣ K2∧(∀ a∈pre,∀ m,a.t=.go m→m ∣ a.f x*T)∧bs.length≤pre.length∧(∀ b∈bs,Lv 38 b)∧∀ a∈pre,a.t=.ab→a.brk x∈bs)
  (fun ρ h'=>?_) (fun a l ρ h' K hK=>?_) la _ ⟨1,[],[],_,_,rfl,rfl,by decide,Int.one_dvd _,nilAll,Nat.le_refl _,nilAll,nilAll⟩
 ·refine e5_8 h' ?_
  clear h'
  intro T bs pre x4 x5 ez5 e h1 h2 h3 h4 h5 h6
  clear hat;subst ez5
  rw [List.append_nil] at e
  subst e
  refine iB (fun q=>?_) fun q=>?_
  ·have:=List.isEmpty_iff.mp q
   subst this
   exact ⟨Nat.zero_le _,h T [0] x4 x5 h1 h2 h3 nofun (by decide) (fun b hb=>by cases List.mem_singleton.mp hb;exact lv1.1.mono (by decide)) fun a ha e=>by cases h6 a ha e⟩
  ·exact h T bs x4 x5 h1 h2 h3 (fun z=>by rw [z] at q;cases q) (Nat.le_trans (by assumption) (Nat.le_trans (by assumption) (by decide))) h5 h6
 ·refine e5_8 h' ?_
  clear h'
  intro T bs pre x4 x5 ez6 e h1 h2 h3 h4 h5 h6
  clear h hat;subst ez6
  have ha:a∈la:=by rw [e];exact List.mem_append_right _ (List.mem_cons_self ..)
  have e2:la=(pre++[a])++l:=by rw [e,List.append_assoc];rfl
  have hpl:pre.length+1≤3:=by rw [e,List.length_append,List.length_cons] at hl;(clear h4 h2 h1 hK2 h20 hn;lia)
  have hpa:=hP a ha
  have hsh:=fun {Q:Rs→Prop} (q:Q (.im (.int (a.f x))))=>(sp_share C (W:=W) (c:=a.c) (f:=a.f) (x:=x) (.inl hx)).eq (n:=n) (Q:=Q) q (le_up (by assumption) (by decide))
  obtain ⟨t,c,f⟩:=a
  cases t with
  | no=>rcases hpa.t with q | ⟨_,_,q,_⟩ <;> cases q
  | ab =>
   refine hsh ?_
   refine iP (bne_iff_ne.mpr hpa.x0) ?_
   refine (sp_break C w hx hpa.x0 ((hpa.bd.2 x).mono (by decide))).eq ?_ (by assumption)
   have lb:Lv 38 ((⟨.ab,c,f⟩:A).brk x):=by
    have hc:Lv 28 (-c):=hpa.bd.1.neg
    have hx0:f x≠0:=hpa.x0
    show Lv 38 (if 0<f x then (-c).fdiv (f x) else -(-c).fdiv (-f x)-1)
    by_cases q:0<f x
    ·rw [if_pos q];exact (hc.fdiv q).mono (by decide)
    ·rw [if_neg q];exact (Lv.add (k:=28) (hc.fdiv (g := -f x) (by (clear hpl h4 h2 h1 hK2 h20 hl hn;lia))).neg (lvM1.mono (by decide))).mono (by decide)
   refine ⟨Nat.le_trans h4 (Nat.le_trans (show pre.length≤3 from (Nat.le_of_lt (by assumption))) (by decide)),hK _ ⟨T,_,pre++[⟨.ab,c,f⟩],_,_,rfl,e2,h1,h2,fun b hb m hm=>?_,?_,fun b hb=>?_,fun b hb hm=>?_⟩⟩
   ·rcases List.mem_append.mp hb with hb | hb
    ·exact h3 b hb m hm
    ·cases List.mem_singleton.mp hb;clear hb lb e2 ha e;cases hm
   ·exact Nat.le_trans iAdd_len (by rw [List.length_append];exact Nat.succ_le_succ h4)
   ·rcases mem_iAdd.mp hb with hb | rfl
    ·exact h5 b hb
    ·exact lb
   ·rcases List.mem_append.mp hb with hb | hb
    ·exact mem_iAdd.mpr (.inl (h6 b hb hm))
    ·cases List.mem_singleton.mp hb;exact mem_iAdd.mpr (.inr rfl)
  | go m =>
   obtain ⟨hm,hmK⟩:0<m∧m ∣ K2:=by
    rcases hpa.t with q | ⟨_,m',q,q1,q2⟩
    ·clear hpa e2 ha e;cases q
    ·cases q;exact ⟨q1,Int.dvd_trans ⟨K1,rfl⟩ q2⟩
   refine e0_4 (gcd_turn (p:=f x) hm) ?_
   intro r0 rm rp g0
   have lm:Lv 1 m:=l2.le (natAbs_le_dvd hmK (ne_p (by assumption)))
   have lr:Lv 40 (m.fdiv (m.gcd (f x))):=(lm.le (natAbs_le_dvd rm (ne_p (by assumption)))).mono (by decide)
   have lT:Lv 40 T:=(l2.le (natAbs_le_dvd h2 (ne_p (by assumption)))).mono (by decide)
   have lg:Lv 80 ((m.gcd (f x):Nat):Int):=(lm.le (natAbs_le_dvd (Int.gcd_dvd_left m (f x)) (ne_p (by assumption)))).mono (by decide)
   refine hsh ?_
   refine iP (bne_iff_ne.mpr hpa.x0) ?_
   refine (sp_gcd C w).eq ?_ (le_up (by assumption) (by decide))
   refine ⟨Int.ne_of_gt g0,lg.fd,?_⟩
   refine (sp_lcm C w h1 r0 lT lr).eq ?_ (by assumption)
   refine hK _ ⟨_,bs,pre++[⟨.go m,c,f⟩],_,_,rfl,e2,Int.ofNat_lt.mpr (Int.lcm_pos (ne_p (by assumption)) (ne_p (by assumption))),Int.coe_lcm_dvd h2 (Int.dvd_trans rm hmK),fun b hb m' hm'=>?_,by rw [List.length_append];(clear g0 rp rm r0 hmK hm hpl h2 h1 hK2 h20 hl hn;lia),h5,fun b hb hm'=>?_⟩
   ·rcases List.mem_append.mp hb with hb | hb
    ·exact Int.dvd_trans (h3 b hb m' hm') (Int.mul_dvd_mul_left _ (Int.dvd_lcm_left ..))
    ·cases List.mem_singleton.mp hb
     clear hb lg lr lm g0 rm r0 hmK hm hsh hpa e2 ha e;cases hm'
     exact Int.dvd_trans rp (Int.mul_dvd_mul_left _ (Int.dvd_lcm_right ..))
   ·rcases List.mem_append.mp hb with hb | hb
    ·exact h6 b hb hm'
    ·cases List.mem_singleton.mp hb;clear hb lg lr lm g0 rp rm r0 hmK hm hsh hpa e2 ha e;cases hm'
omit C w in
theorem dotv0 (f:Fn):∀ W:List Str,dot W f (fun _=>0)=0
 | []=>rfl
 | w::W=>by rw [dot_cons,dotv0 f W,Int.mul_zero];rfl
theorem sp_number_for {x:Str} (hx:x∈W) {tg:Prop} {K1 K2:Int} (h20:0<K2) (hK2:K2≤2000) {den:Fn→Prop} {q0:D} (h:Cj W (AwP W x K1 K2 tg fun _=>True) 3 den q0) :
  Spec B "number_for" NoX 5 [.im q0,.im (.str x)] fun q=>∃ r,q=.im r∧((r=.none∧∀ k,¬ den (upd (fun _=>0) x k))∨∃ k,r=.int k∧Lv 40 k∧den (upd (fun _=>0) x k)):=by
 have main:∀ la:List A,la.length≤3→(∀ a∈la,AwP W x K1 K2 tg (fun _=>True) a)→(Spec B "atoms_of" NoX 2 [.im q0] fun q=>q=.fr (.lst (la.map (A.d W))))→((∀ v,¬ den v)∨∀ v,den v↔∀ a∈la,a.ok W v) →
   Spec B "number_for" NoX 5 [.im q0,.im (.str x)] fun q=>∃ r,q=.im r∧((r=.none∧∀ k,¬ den (upd (fun _=>0) x k))∨∃ k,r=.int k∧Lv 40 k∧den (upd (fun _=>0) x k)):=fun la hl hP hat hd=>by
  refine (Spec.of_vc (n:=4) C.toEn F_number_for b_number_for C.f_number_for k_number_for rfl (nf_first (Q:=RetOk fun q=>∃ r,q=.im r∧((r=.none∧∀ k,¬ den (upd (fun _=>0) x k))∨∃ k,r=.int k∧Lv 40 k∧den (upd (fun _=>0) x k))) C w (by decide) hx hl h20 hK2 hP hat fun T bs x4 x5 h1 h2 h3 h4 h5 h6 h7=>?_))
  have hp:∀ k,(∀ b∈bs,¬ (k≤b∧b<k+T))→(den (upd (fun _=>0) x k)↔den (upd (fun _=>0) x (k+T))):=fun k hb=>by
   rcases hd with z | hd
   ·exact ⟨fun q=>absurd q (z _),fun q=>absurd q (z _)⟩
   ·rw [hd,hd]
    have:∀ a∈la,a.at W x (fun _=>0) k↔a.at W x (fun _=>0) (k+T):=fun a ha=>by
     have er:a.rs W x (fun _=>0)=a.c:=by unfold A.rs;rw [dotv0,Int.add_zero]
     rcases (hP a ha).t with e | ⟨_,m,e,_⟩
     ·rw [at_ab w hx e,at_ab w hx e,er]
      exact brk_flip (hP a ha).x0 rfl h1 (hb _ (h7 a ha e))
     ·rw [at_go w hx e,at_go w hx e,Int.mul_add,Int.add_right_comm]
      exact (Int.dvd_add_left (h3 a ha m e)).symm
    exact ⟨fun q a ha=>(this a ha).mp (q a ha),fun q a ha=>(this a ha).mpr (q a ha)⟩
  have hT2:T≤2000:=Int.le_trans (Int.le_of_dvd h20 h2) hK2
  refine nf_loop C w (n:=4) (x:=x) h1 hT2 h5 h6 (P:=fun k=>den (upd (fun _=>0) x k)) (q0:=q0) (fun k lk=>?_) x4 x5 (fun hn=>.inl ⟨rfl,fun k hk=>?_⟩) fun k lk hk=>.inr ⟨k,rfl,lk,hk⟩
  rotate_left
  ·refine e1_2 (window (P:=fun k=>den (upd (fun _=>0) x k)) h1 h4 hp hk) ?_
   intro b hb ez7
   refine e1_3 ez7 ?_
   clear ez7
   intro j q1 q2 q3
   exact hn b hb j q1 q2 q3
  ·refine (sp_truth C (P:=AwP W x K1 K2 tg fun _=>True) (vs:=[(x,.int k)]) (v:=upd (fun _=>0) x k) (fun y=>?_) w (fun a ha=>⟨fun y hy h0=>?_,fun y=>(ha.bd.2 y).mono (by decide),fun m e=>?_⟩) (h.tr (by decide))).to fun r hr=>hr
   ·by_cases q:y=x
    ·clear hp h7 h3 hP h hx;subst q;rw [upd_x];exact lk
    ·rw [upd_ne q];exact lv1.1.mono (by decide)
   ·obtain rfl:y=x:=(ha.z y hy trivial).resolve_right h0
    rw [dAt_cons,if_pos rfl,upd_x]
   ·rcases ha.t with q | ⟨_,m',q,h,_⟩ <;> rw [e] at q <;> cases q
    exact h
 rcases h.inv with ⟨rfl,z⟩ | ⟨la,rfl,hP,hl,hd⟩
 ·exact main [] (by decide) nilAll (sp_atomsC C (la:=[]) (by decide)) (.inl z)
 ·exact main la hl hP (sp_atoms C (Nat.le_trans (by assumption) (by decide))) (.inr hd)
end
end Mine
end

section
open PySem PySem.W PyProof.Rows PySem.Calls PyProof
set_option backward.match.sparseCases false
set_option tactic.hygienic false
namespace Mine
section
variable {B:Bs} (C:Cx B) {W:List Str} (w:Wd W)
include C w
theorem sp_innerN {d:D}:Spec B "inner" NoX 1 [.im (neg d)] fun q=>q=.fr (.lst [d]) :=
 .of_vc C.toEn F_inner b_inner C.f_inner k_inner rfl rfl
omit C w in
theorem fm_ne {x:Str}:∀ ks:List Str,ks.filterMap (fun y=>if (y != x)=true then some (D.str y) else none)=(ks.filter (· != x)).map .str
 | []=>rfl
 | y::ks=>by
  by_cases q:(y != x)=true
  ·rw [List.filterMap_cons_some (by rw [if_pos q]),List.filter_cons_of_pos (p:=fun z=>z != x) q,List.map_cons,fm_ne ks]
  ·rw [List.filterMap_cons_none (by rw [if_neg q]),List.filter_cons_of_neg (p:=fun z=>z != x) q,fm_ne ks]
theorem sp_unknownsN {n:Nat} {d:D} {S:Str→Prop} (h:TrN W n d S):Spec B "unknowns" NoX (n+4) [.im (neg d)] fun q=>∃ ks:List Str,q=.fr (.lst (ks.map .str))∧ks.length≤3∧∀ y,y∈ks↔S y:=by
 refine sp_unknownsL C w (.of_vc (n:=n+2) C.toEn F_gather b_gather C.f_gather k_gather rfl rfl rfl fun m=>?_)
 have fin:∀ {Q:Rs→Prop},Q (.fr (.lst [d]))→Spec B "inner" NoX (n+2) [.im (neg d)] Q:=fun {Q} q=>(sp_innerN C w).eq q
 have g:=fun {Q:List (Str×D)→Prop} (q:∀ l',KS W l' S→Q l')=>(sp_gather C w (bs:=[]) h (l:=[]) (K:=fun _=>False) ⟨.nil,fun y=>⟨nofun,nofun⟩,nofun⟩).mono (m:=n+2) (Q':=Q) (Nat.le_refl _) fun l' h'=>q l' (h'.imp fun y=>⟨fun z=>z.elim nofun (·.1),fun z=>.inr ⟨z,nofun⟩⟩)
 exact ⟨["above","nought","goes"],rfl,["some","all"],rfl,fin ⟨[_,_],rfl,g fun l' h=>⟨rfl,l',rfl,h⟩⟩⟩
theorem sp_told {x:Str} (hx:x∈W) {d:D} {S:Str→Prop} {vs:List (Str×D)} {v:Fn} {tg:Prop} {K1 K2:Int} (h20:0<K2) (hK2:K2≤2000)
  (hU:Spec B "unknowns" NoX 6 [.im d] fun q=>∃ ks:List Str,q=.fr (.lst (ks.map .str))∧ks.length≤3∧∀ y,y∈ks↔S y) (hv:∀ y,S y→y≠x→dAt vs y=some (.int (v y))) {R:D→Prop}
  (hf:∀ ks,Knw (fun y=>S y∧y≠x) v ks→Spec B "filled" NoX 7 [.im d,.ct (.dct ks)] fun q=>∃ d',q=.im d'∧(Spec B "left" NoX 7 [.im d'] fun q=>q=.im d')∧Spec B "pushed" NoX 7 [.im d',.im (.bool true),.im (.bool false)] fun q=>∃ la:List A,q=.im (cj true (some (la.map (A.d W))))∧la.length≤3∧(∀ a∈la,LeP W x K1 K2 tg (fun _=>True) a) ∧
   ((∀ k,¬ ∀ a∈la,a.ok W (upd (fun _=>0) x k))→R .none)∧∀ k,Lv 40 k→(∀ a∈la,a.ok W (upd (fun _=>0) x k))→R (.int k)) :
  Spec B "told" NoX 9 [.im (.str x),.im d,.ct (.dct vs)] fun q=>∃ r,q=.im r∧R r :=
 .of_vc C.toEn F_told b_told C.f_told k_told rfl <| by
  have l2:Lv 28 K2:=Lv.mono (j:=1) (Nat.lt_of_le_of_lt (na_pos (k:=2000) (Int.le_of_lt h20) hK2) (by decide)) (by decide)
  refine hU.ex fun ks0 hr=>?_
  refine e0_2 hr ?_
  clear hr
  intro h1 h2
  have e:=fm_ne (x:=x) ks0
  have hlen:(ks0.filter (· != x)).length≤3:=Nat.le_trans (List.length_filter_le ..) h1
  refine comp_of (g:=.str) (fun y=>if (y != x)=true then some (.str y) else none) (fun y hy K hK=>?_) (by rw [e,List.length_map];exact Nat.le_trans hlen (by decide)) ?_
  ·refine iB (fun q=>?_) fun q=>?_
   ·rw [if_pos q] at hK;exact hK
   ·rw [if_neg (by rw [q];nofun)] at hK;exact hK
  ·rw [e]
   have hm:∀ y,y∈ks0.filter (· != x)↔S y∧y≠x:=fun y=>by rw [List.mem_filter,h2,bne_iff_ne]
   generalize ks0.filter (· != x)=ks at *
   have hk:∀ y∈ks,dAt vs y=some (.int (v y)):=fun y hy=>hv y ((hm y).mp hy).1 ((hm y).mp hy).2
   refine (sp_need_values C (fun y hy=>by rw [hk y hy];rfl)).eq ?_
   refine loopM (fun l ρ=>∃ (pre:List Str) (m:List (Str×D)) (x3:Option Sl),ρ=[some (.im (.str x)),some (.im d),some (.fz (.dct vs)),x3,some (.fz (.lst (ks.map .str))),some (.own (.dct m))]∧ks=pre++l∧(∀ z,z∈pre→dAt m z=some (.int (v z)))∧(∀ z,z∉pre→dAt m z=none)∧m.length≤pre.length)
    (fun ρ h=>?_) (fun y l ρ h K hK=>?_) ks _ ⟨[],[],_,rfl,rfl,nilAll,fun _ _=>rfl,Nat.le_refl _⟩
   ·refine e3_5 h ?_
    clear h
    intro pre m x4 ez1 e g1 g2 g3
    subst ez1
    rw [List.append_nil] at e
    subst e
    refine (hf m ⟨fun y hy=>g1 y ((hm y).mpr hy),fun y hy=>g2 y fun z=>hy ((hm y).mp z),Nat.le_trans g3 hlen⟩).ex fun d' hr=>?_
    refine e0_2 hr ?_
    clear hr
    intro hL hr
    refine hL.eq ?_
    refine hr.ex fun la hr=>?_
    refine e0_4 hr ?_
    clear hr
    intro q1 q2 q3 q4
    refine (sp_neat C w (k:=28) (by decide) (by omega) fun a h=>⟨(q2 a h).bd,fun m e=>?_⟩).ex fun q0 hr=>?_
    ·rcases (q2 a h).t with ⟨q,_⟩ | ⟨_,m',q,h1,h2,_⟩ <;> rw [e] at q <;> cases q
     exact ⟨h1,l2.le (natAbs_le_dvd (Int.dvd_trans ⟨K1,rfl⟩ h2) (Int.ne_of_gt h20))⟩
    ·refine (sp_number_for C w hx (tg:=tg) (K1:=K1) h20 hK2 (hr.imp (fun b hb=>?_) q1 fun v=>Iff.rfl)).ex fun r hr=>?_
     ·refine e1_3 hb ?_
      clear hb
      intro a h p1 p2
      exact (q2 a h).aw hx p1 p2
     ·obtain ⟨rfl,hr⟩ | ⟨k,rfl,lk,hr⟩:=hr
      ·exact ⟨_,rfl,q3 hr⟩
      ·exact ⟨_,rfl,q4 k lk hr⟩
   ·refine e3_5 h ?_
    clear h
    intro pre m x4 ez2 e g1 g2 g3
    subst ez2
    have hy:y∈ks:=by rw [e];exact List.mem_append_right _ (List.mem_cons_self ..)
    refine optW.of (hk y hy) ?_
    refine e0_2 (Knw.add (ks:=ks) (S:=S) (l:=l) (y:=y) g1 g2) ?_
    intro n1 n2
    have hpl:pre.length≤3:=by rw [e,List.length_append] at hlen;exact Nat.le_trans (Nat.le_add_right _ _) hlen
    exact ⟨Nat.le_trans (Nat.le_trans g3 hpl) (by decide),hK _ ⟨pre++[y],_,_,rfl,by rw [e,List.append_assoc];rfl,n1,n2,by have:=dSto_len m y (.int (v y));rw [List.length_append,List.length_singleton];exact Nat.le_trans this (Nat.succ_le_succ g3)⟩⟩
end
end Mine
end

section
open PySem PySem.W PyProof.Rows PySem.Calls PyProof
set_option backward.match.sparseCases false
set_option tactic.hygienic false
namespace Mine
theorem fmod_in {a m:Int} (h:0<m):0≤a.fmod m∧a.fmod m<m:=by
 rw [Int.fmod_eq_emod_of_nonneg _ (Int.le_of_lt h)]
 exact ⟨Int.emod_nonneg _ (Int.ne_of_gt h),Int.emod_lt_of_pos _ h⟩
section
variable {B:Bs} (C:Cx B) {W:List Str} (w:Wd W)
include C
theorem sp_cell {l:List Int} {k:Int} (hl:l.length≤63) (h0:0≤k) (hk:k<100):Spec B "_law_cell_at" NoX 1 [.ct (.lst (l.map .int)),.im (.int k)] fun q=>∃ i,q=.im (.int i) :=
 .of_vc C.toEn F_cell_at b_cell_at C.f_cell_at k_cell_at rfl <| by
  refine ⟨by rw [List.length_map];exact Nat.lt_of_le_of_lt hl (by decide),?_⟩
  refine iB (fun q=>?_) fun q=>⟨_,rfl⟩
  have q:k<((l.map D.int).length:Nat):=of_decide_eq_true q
  rw [List.length_map] at q
  have h:k.toNat<l.length:=tn_lt' h0 q
  exact ⟨h0,Int.lt_trans hk (by decide),optW.of (by rw [List.getElem?_map,List.getElem?_eq_getElem h];rfl) ⟨_,rfl⟩⟩
theorem sp_whole {i:Int}:Spec B "_law_whole" NoX 1 [.im (.int i)] fun q=>q=.im (.bool true) :=
 .of_vc C.toEn F_whole b_whole C.f_whole k_whole rfl rfl
theorem sp_same {b:Bool}:Spec B "_law_same" NoX 1 [.im (.bool b),.im (.bool b)] fun q=>q=.im (.bool true) :=
 .of_vc C.toEn F_same b_same C.f_same k_same rfl <| by cases b <;> rfl
omit C in
theorem num_lt {x d:Int} {j:Nat} (h0:0≤x) (h:x<16 ^ j) (hd:0≤d) (hd2:d<10):0≤x*10+d∧x*10+d<16 ^ (j+1):=by
 rw [Int.pow_succ];exact ⟨Int.add_nonneg (Int.mul_nonneg h0 (by decide)) hd,nl16 h h0 hd2⟩
omit C in
theorem lv16 {x:Int} {j:Nat} (h0:0≤x) (h:x<16 ^ j) (hj:j≤60):Lv 3 x:=by
 have h1:(16:Int) ^ j≤16 ^ 60:=by
  have:(16:Nat) ^ j≤16 ^ 60:=Nat.pow_le_pow_right (by decide) hj
  exact_mod_cast this
 unfold Lv
 have h2:((16:Int) ^ 60)<((2 ^ (100*3):Nat):Int):=by decide +kernel
 (clear h2 hj;omega)
theorem sp_big {c:Int}:Spec B "_law_big_by" NoX 1 [.im (.int c)] fun q=>∃ i,q=.im (.int i)∧Lv 3 i :=
 .of_vc C.toEn F_big_by b_big_by C.f_big_by k_big_by rfl <| by
  have m60:=fmod_in (a:=c.fdiv 8) (m:=60) (by decide)
  refine ⟨by decide,iB (fun q=>?_) fun q=>?_⟩
  ·refine ⟨by decide,by decide,by decide,_,rfl,?_⟩
   have:=fmod_in (a:=c.fdiv 4) (m:=19) (by decide)
   exact Nat.lt_of_le_of_lt (na9 this) (by decide)
  ·refine ⟨by decide,by decide,by decide,by decide,by decide,by omega,by omega,?_⟩
   refine loopI (fun l ρ=>∃ (j:Nat) (x y:Int) (x3:Option Sl),ρ=[some (.im (.int c)),some (.im (.int x)),some (.im (.int y)),x3]∧j+l.length≤60∧0≤x∧x<16 ^ j) (fun ρ h=>?_) (fun d l ρ h K hK=>?_) _ _ ⟨0,0,c,_,rfl,?_,by decide,by decide⟩
   ·refine e4_4 h ?_
    clear h
    intro j x y x3 ez1 h1 h2 h3
    subst ez1
    have lx:=lv16 h2 h3 h1
    have m2:=fmod_in (a:=c.fdiv 4) (m:=2) (by decide)
    refine ⟨by decide,by decide,by decide,m2.1,Int.lt_trans m2.2 (by decide),?_⟩
    generalize (c.fdiv 4).fmod 2=i at m2
    obtain rfl | rfl:i=0∨i=1:=is01 m2
    ·refine ⟨(lv1.2.mono (by decide)).ok (lx.mono (by decide)),_,rfl,?_⟩
     rw [Int.one_mul];exact lx
    ·refine ⟨(lvM1.mono (by decide)).ok (lx.mono (by decide)),_,rfl,?_⟩
     rw [Int.neg_mul,Int.one_mul];exact lx.neg
   ·refine e4_4 h ?_
    clear h
    intro j x y x3 ez2 h1 h2 h3
    subst ez2
    have lx:=lv16 h2 h3 (Nat.le_trans (Nat.le_add_right _ _) h1)
    rw [List.length_cons] at h1
    have m10:=fmod_in (a:=((y*48271+11).fmod 2147483647).fdiv 7) (m:=10) (by decide)
    refine e0_2 (num_lt h2 h3 m10.1 m10.2) ?_
    intro n1 n2
    exact ⟨IntMulOk.of_right (by decide),by decide,(lx.mono (by decide)).ok (Lv.mono (j:=1) (show Lv 1 10 by unfold Lv;decide +kernel) (by decide)),by decide,by decide,by decide,hK _ ⟨j+1,_,_,_,rfl,by rw [Nat.add_assoc,Nat.add_comm 1];exact h1,n1,n2⟩⟩
   ·rw [intsFrom_length];exact tn60 m60
include w
omit C w in
theorem dot_sN {f v:Fn}:∀ W:List Str,dot (sN W f) f v=dot W f v:=fun W=>by
 induction W with
 | nil=>rfl
 | cons y W ih =>
  unfold sN at *
  rw [List.filter_cons]
  by_cases h1:f y=0
  ·rw [if_neg (by rw [h1];nofun),dot_cons,h1,Int.zero_mul,Int.zero_add,ih]
  ·rw [if_pos (bne_iff_ne.mpr h1),dot_cons,dot_cons,ih]
theorem sp_lvalue {c:Int} {f v:Fn} {vs:List (Str×D)} (hv:∀ x∈W,f x≠0→dAt vs x=some (.int (v x))) (hf:∀ x,Lv 40 (f x)) (hl:∀ x,Lv 40 (v x)) :
  Spec B "_law_value" NoX 1 [.im (sD W c f),.ct (.dct vs)] fun q=>q=.im (.int (val W c f v)) :=
 .of_vc C.toEn F_lvalue b_lvalue C.f_lvalue k_lvalue rfl <| loopM (fun l ρ=>(∀ x∈l,dAt vs x=some (.int (v x)))∧∃ k a,ρ=[some (.im (sD W c f)),some (.fz (.dct vs)),some (.im (.int k)),a]∧k+dot l f v=val W c f v)
  (fun ρ h=>by
   refine e0_2 h ?_
   clear h
   intro _ ez3
   refine e2_2 ez3 ?_
   clear ez3
   intro k a ez4 h
   subst ez4
   rw [← h];exact congrArg (fun i=>Rs.im (.int i)) (Int.add_zero k).symm)
  (fun x l ρ h K hK=>by
   refine e0_2 h ?_
   clear h
   intro h1 ez5
   refine e2_2 ez5 ?_
   clear ez5
   intro k a ez6 h
   subst ez6
   have hx:=h1 x (List.mem_cons_self ..)
   refine optW.of hx ?_
   refine ⟨((hf x).mono (by decide)).ok ((hl x).mono (by decide)),hK _ ⟨fun y hy=>h1 y (List.mem_cons_of_mem _ hy),_,_,rfl,?_⟩⟩
   rw [← h,dot_cons,Int.add_assoc]) _ _ ⟨fun x hx=>hv x (mem_sN.mp hx).1 (mem_sN.mp hx).2,c,_,rfl,by unfold val;rw [dot_sN]⟩
theorem sp_ltrue1 {vs:List (Str×D)} {v:Fn} (hl:∀ x,Lv 40 (v x)) {a:A} (h:Vals W vs v a):Spec B "_law_true" NoX 2 [.im (a.d W),.ct (.dct vs)] fun q=>∃ b,q=.im (.bool b)∧(b=true↔a.ok W v) :=
 .of_vc C.toEn F_true b_true C.f_true k_true rfl <| by
  have hv:=fun {Q:Rs→Prop} (q:Q (.im (.int (val W a.c a.f v))))=>(sp_lvalue C w (c:=a.c) h.1 h.2.1 hl).eq (n:=1) (Q:=Q) q
  have hm:=h.2.2
  obtain ⟨t,c,f⟩:=a
  cases t with
  | ab =>
   refine hv ?_
   exact ⟨_,rfl,decide_eq_true_iff⟩
  | no =>
   refine hv ?_
   exact ⟨_,rfl,beq_iff_eq⟩
  | go m =>
   have hm:0<m:=hm m rfl
   refine hv ?_
   refine ⟨(ne_p (by assumption)),_,rfl,?_⟩
   rw [beq_iff_eq,Int.fmod_eq_emod_of_nonneg _ (Int.le_of_lt (by assumption))]
   exact (Int.dvd_iff_emod_eq_zero).symm
theorem sp_ltrueC {b:Bool} {la:List A} {vs:List (Str×D)} {v:Fn} (hl:∀ x,Lv 40 (v x)) (h:∀ a∈la,Vals W vs v a):Spec B "_law_true" NoX 3 [.im (con b (la.map (A.d W))),.ct (.dct vs)] fun q=>∃ z,q=.im (.bool z)∧(z=true↔bif b then ∀ a∈la,a.ok W v else ∃ a∈la,a.ok W v) :=
 .of_vc C.toEn F_true b_true C.f_true k_true rfl <| by
  cases b with
  | true =>
   refine loopM (fun l ρ=>∃ (pre:List A) (x3:Option Sl),ρ=[some (.im (con true (la.map (A.d W)))),some (.fz (.dct vs)),some (.im (.str "and")),x3,none]∧la=pre++l∧∀ a∈pre,a.ok W v) (fun ρ h'=>?_) (fun a l ρ h' K hK=>?_) la _ ⟨[],_,rfl,rfl,nilAll⟩
   ·refine e2_3 h' ?_
    clear h'
    intro pre x3 ez7 e g
    subst ez7
    rw [List.append_nil] at e
    subst e
    exact ⟨_,rfl,fun _=>g,fun _=>rfl⟩
   ·refine e2_3 h' ?_
    clear h'
    intro pre x3 ez8 e g
    subst ez8
    have ha:a∈la:=by rw [e];exact List.mem_append_right _ (List.mem_cons_self ..)
    refine (sp_ltrue1 C w hl (h a ha)).ex fun z hr=>?_
    refine iB (fun q=>?_) fun q=>?_
    ·have q:z=false:=eq_of_beq q
     exact ⟨_,rfl,nofun,fun y=>by have:=hr.mpr (y a ha);rw [q] at this;cases this⟩
    ·have q:z=true:=by cases z with
      | true=>rfl
      | false=>cases q
     exact hK _ ⟨pre++[a],_,rfl,by rw [e,List.append_assoc];rfl,fun b hb=>(List.mem_append.mp hb).elim (g b) fun hb=>List.mem_singleton.mp hb▸hr.mp q⟩
  | false =>
   refine loopM (fun l ρ=>∃ (pre:List A) (x3:Option Sl),ρ=[some (.im (con false (la.map (A.d W)))),some (.fz (.dct vs)),some (.im (.str "or")),x3,none]∧la=pre++l∧∀ a∈pre,¬ a.ok W v) (fun ρ h'=>?_) (fun a l ρ h' K hK=>?_) la _ ⟨[],_,rfl,rfl,nilAll⟩
   ·refine e2_3 h' ?_
    clear h'
    intro pre x3 ez9 e g
    subst ez9
    rw [List.append_nil] at e
    subst e
    exact ⟨_,rfl,nofun,fun hz1=>e1_2 hz1 fun a ha q=>absurd q (g a ha)⟩
   ·refine e2_3 h' ?_
    clear h'
    intro pre x3 ez10 e g
    subst ez10
    have ha:a∈la:=by rw [e];exact List.mem_append_right _ (List.mem_cons_self ..)
    refine (sp_ltrue1 C w hl (h a ha)).ex fun z hr=>?_
    refine iB (fun q=>?_) fun q=>?_
    ·have q:z=true:=eq_of_beq q
     exact ⟨_,rfl,fun _=>⟨a,ha,hr.mp q⟩,fun _=>rfl⟩
    ·have q:z=false:=by cases z with
      | true=>cases q
      | false=>rfl
     exact hK _ ⟨pre++[a],_,rfl,by rw [e,List.append_assoc];rfl,fun b hb=>(List.mem_append.mp hb).elim (g b) fun hb=>List.mem_singleton.mp hb▸fun y=>by rw [hr.mpr y] at q;cases q⟩
theorem sp_ltrueN {d:D} {n:Nat} {vs:List (Str×D)} {P:Prop} (h:Spec B "_law_true" NoX n [.im d,.ct (.dct vs)] fun q=>∃ z,q=.im (.bool z)∧(z=true↔P)):Spec B "_law_true" NoX (n+1) [.im (neg d),.ct (.dct vs)] fun q=>∃ z,q=.im (.bool z)∧(z=true↔¬ P) :=
 .of_vc C.toEn F_true b_true C.f_true k_true rfl <| h.to fun r hr=>by
  refine e1_2 hr ?_
  clear hr
  intro z ez11 hr
  subst ez11
  refine ⟨_,rfl,?_⟩
  rw [← hr]
  cases z <;> decide
end
end Mine
end

section
open PySem PySem.W PyProof.Rows PySem.Calls PyProof
set_option backward.match.sparseCases false
set_option tactic.hygienic false
namespace Mine
theorem srt2 {x y:Str}:srt [x,y]=if sle x y then [x,y] else [y,x]:=by
 by_cases h:sle x y=true
 ·rw [if_pos h]
  exact (srt_unique (.refl _) (by simp [h])).symm
 ·rw [if_neg h]
  have h':sle y x=true:=by
   have:=sle_total x y
   rw [Bool.eq_false_iff.mpr h] at this;exact this
  exact (srt_unique (.swap ..) (by simp [h'])).symm
theorem su2 {x y:Str} {i j:Int} (h:x≠y):su [(x,i),(y,j)] x=i∧su [(x,i),(y,j)] y=j∧∀ z,z≠x→z≠y→su [(x,i),(y,j)] z=0:=by
 refine ⟨?_,?_,fun z h1 h2=>?_⟩
 ·show (if x=x then i else 0)+((if x=y then j else 0)+0)=i
  rw [if_pos rfl,if_neg h];lia
 ·show (if y=x then i else 0)+((if y=y then j else 0)+0)=j
  rw [if_neg (Ne.symm h),if_pos rfl];lia
 ·show (if z=x then i else 0)+((if z=y then j else 0)+0)=0
  rw [if_neg h1,if_neg h2];rfl
theorem sle_empty {y:Str} (h:1≤y.length):sle y ""=false:=by
 unfold sle
 have:("":Str).cps.toList=[]:=rfl
 rw [this]
 cases q:y.cps.toList with
 | nil =>
  have:y.cps.size=0:=by rw [← Array.length_toList,q];rfl
  unfold Str.length at h;lia
 | cons a l=>rfl
section
variable {B:Bs} (C:Cx B) {W:List Str} (w:Wd W)
include C w
theorem sp_lsum' {x y:Str} {i j:Int} (hx:x∈W) (hy:y∈W) (hxy:x≠y) (hi:i≠0) (hj:j≠0) {ps:List (Str×Int)} (hps:ps=[(x,i),(y,j)]):Spec B "_law_sum" NoX 1 [.im (.int 0),.ct (.lst (ps.map fun p=>pD p.1 p.2))] fun q=>q=.im (sD W 0 (su [(x,i),(y,j)])) :=
 .of_vc C.toEn F_sum b_sum C.f_sum k_sum rfl <| by
  have e0:ps.filterMap (fun p=>some (pD p.1 p.2))=[pD x i,pD y j]:=by rw [hps];rfl
  refine comp_of (g:=fun p:Str×Int=>pD p.1 p.2) (fun p=>some (pD p.1 p.2)) (fun p hp K hK=>?_) (by rw [e0];exact (show 2≤sizeLine by decide)) ?_
  ·have:p.2≠0:=by
    rw [hps] at hp
    rcases List.mem_cons.mp hp with rfl | hp
    ·exact hi
    ·cases List.mem_singleton.mp hp;exact hj
   exact iT (bne_iff_ne.mpr this) hK
  ·rw [e0]
   refine .inr (.inr ⟨x,y,i,j,rfl,hxy,?_⟩)
   refine e0_3 (su2 (i:=i) (j:=j) hxy) ?_
   intro s1 s2 s3
   have e:sL W (su [(x,i),(y,j)])=if sle x y then [pD x i,pD y j] else [pD y j,pD x i]:=by
    unfold sL
    rw [← srt_keys (K:=[x,y]) w (by simp [hxy]) (fun z hz=>by
     rcases List.mem_cons.mp hz with rfl | hz
     ·exact hx
     ·cases List.mem_singleton.mp hz;exact hy) fun z hz=>s3 z (fun q=>hz (by simp [q])) fun q=>hz (by simp [q]),srt2]
    have b1:(su [(x,i),(y,j)] x != 0)=true:=bne_iff_ne.mpr (by rw [s1];exact hi)
    have b2:(su [(x,i),(y,j)] y != 0)=true:=bne_iff_ne.mpr (by rw [s2];exact hj)
    by_cases q:sle x y=true
    ·rw [if_pos q,if_pos q,List.filter_eq_self.mpr fun z hz=>(List.mem_cons.mp hz).elim (fun e=>e▸b1) fun hz=>List.mem_singleton.mp hz▸b2,List.map_cons,List.map_cons,s1,s2];rfl
    ·rw [if_neg q,if_neg q,List.filter_eq_self.mpr fun z hz=>(List.mem_cons.mp hz).elim (fun e=>e▸b2) fun hz=>List.mem_singleton.mp hz▸b1,List.map_cons,List.map_cons,s1,s2];rfl
   refine ⟨?_,?_⟩
   ·split <;> exact (show 2≤sizeLine by decide)
   ·show Rs.im (.tup [.int 0,.tup _])=Rs.im (.tup [.int 0,.tup (sL W (su [(x,i),(y,j)]))])
    rw [e];rfl
theorem sp_lsum {x y:Str} {i j:Int} (hx:x∈W) (hy:y∈W) (hxy:x≠y) (hi:i≠0) (hj:j≠0):Spec B "_law_sum" NoX 1 [.im (.int 0),.ct (.lst [pD x i,pD y j])] fun q=>q=.im (sD W 0 (su [(x,i),(y,j)])):=sp_lsum' C w hx hy hxy hi hj rfl
omit C w in
theorem n23:2<2 ^ 63∧3<2 ^ 63:=by decide
theorem sp_sum_is {c:Int} {f:Fn} {ns:List Str} (hn:∀ y∈W,1≤y.length) (hf:∀ y∈W,f y≠0→y∈ns):Spec B "_law_sum_is" NoX 2 [.im (sD W c f),.ct (.lst (ns.map .str))] fun q=>q=.im (.bool true) :=
 .of_vc C.toEn F_sum_is b_sum_is C.f_sum_is k_sum_is rfl <| by
  refine ⟨n23.1,?_⟩
  refine (sp_whole C).eq ?_
  have hp:(sN W f).Pairwise fun a b=>sle b a=false:=List.Pairwise.filter _ ((List.Pairwise.and w.srt w.nd).imp fun h=>Bool.eq_false_iff.mpr fun q=>h.2 (sle_anti h.1 q))
  refine loopM (fun l ρ=>∃ (last:Str) (x3:Option Sl),ρ=[some (.im (sD W c f)),some (.fz (.lst (ns.map .str))),some (.im (.str last)),x3]∧(∀ y∈l,sle y last=false∧f y≠0∧y∈ns)∧l.Pairwise fun a b=>sle b a=false)
   (fun ρ h=>?_) (fun y l ρ h K hK=>?_) _ _ ⟨"",_,rfl,fun y hy=>⟨?_,(mem_sN.mp hy).2,hf y (mem_sN.mp hy).1 (mem_sN.mp hy).2⟩,hp⟩
  ·refine e2_2 h ?_
   clear h
   intro last x3 ez1 _
   clear a hp hf hn;subst ez1
   rfl
  ·refine e2_3 h ?_
   clear h
   intro last x3 ez2 h1 h2
   clear hp hf hn;subst ez2
   refine e0_3 (h1 y (List.mem_cons_self ..)) ?_
   intro q1 q2 q3
   refine ⟨n23.1,?_⟩
   refine (sp_whole C).eq ?_
   refine iP (beq_eq_false_iff_ne.mpr q2) ?_
   refine iP q1 ?_
   refine ⟨ns,rfl,?_⟩
   have q3:(!ns.contains y)=false:=by rw [List.contains_iff_mem.mpr q3];rfl
   refine iP q3 ?_
   have h2:=List.pairwise_cons.mp h2
   exact hK _ ⟨y,_,rfl,fun z hz=>⟨h2.1 z hz,(h1 z (List.mem_cons_of_mem _ hz)).2⟩,h2.2⟩
  ·exact sle_empty (hn y (mem_sN.mp hy).1)
theorem sp_plain_is {ns:List Str} {tg:Prop} {Z:Str→Prop} (hn:∀ y∈W,1≤y.length) (hz:∀ y∈W,y∉ns→Z y) {k:Nat} {n:Nat}:∀ {d:D} {den:Fn→Prop},Tr W (SetP W k tg Z) n d den→Spec B "_law_plain_is" NoX (n+3) [.im d,.ct (.lst (ns.map .str))] fun q=>q=.im (.bool true):=by
 have at1:∀ (a:A) {n:Nat},SetP W k tg Z a→Spec B "_law_plain_is" NoX (n+3) [.im (a.d W),.ct (.lst (ns.map .str))] fun q=>q=.im (.bool true):=fun a n h =>
  .of_vc C.toEn F_plain_is b_plain_is C.f_plain_is k_plain_is rfl <| by
   have hs:=fun {Q:Rs→Prop} (q:Q (.im (.bool true)))=>(sp_sum_is C w (c:=a.c) (f:=a.f) (ns:=ns) hn fun y hy h0=>Classical.byContradiction fun q=>h0 (h.z y hy (hz y hy q))).eq (n:=n+2) (Q:=Q) q
   have ht:=h.t
   obtain ⟨t,c,f⟩:=a
   cases t with
   | no=>rcases ht with q | ⟨_,_,q,_⟩ <;> cases q
   | ab =>
    refine ⟨n23.1,n23.1,?_⟩
    refine hs ?_
    rfl
   | go m =>
    have hm:0<m:=by
     rcases ht with q | ⟨_,_,q,h,_⟩ <;> cases q
     exact h
    refine ⟨n23.2,n23.2,?_⟩
    refine (sp_whole C).eq ?_
    refine iT (decide_eq_true hm) ?_
    exact hs rfl
 induction n with
 | zero =>
  intro d den rz1
  obtain ⟨a,rfl,ha,_⟩:=rz1
  exact at1 a ha
 | succ n ih =>
  intro d den h
  rcases h with ⟨a,rfl,ha,_⟩ | ⟨b,ps,rfl,hl,hp,_⟩
  ·exact at1 a ha
  ·refine .of_vc C.toEn F_plain_is b_plain_is C.f_plain_is k_plain_is rfl ?_
   clear right;cases b with
   | true =>
    refine ⟨n23.1,n23.1,?_⟩
    refine loopM (g:=fun p:D×(Fn→Prop)=>p.1) (fun l ρ=>(∀ p∈l,p∈ps)∧∃ x3:Option Sl,ρ=[some (.im (con true (ps.map (·.1)))),some (.fz (.lst (ns.map .str))),some (.im (.str "and")),x3]) (fun ρ h=>?_) (fun p l ρ h K hK=>?_) ps _ ⟨fun _ x=>x,_,rfl⟩
    ·refine e0_2 h ?_
     clear h
     intro _ ez3
     refine e1_1 ez3 ?_
     clear ez3
     intro x3 ez4
     (try clear a;try clear right;try clear hp;try clear hl;try clear ih;try clear at1;try clear hz);subst ez4
     rfl
    ·refine e0_2 h ?_
     clear h
     intro h1 ez5
     refine e1_1 ez5 ?_
     clear ez5
     intro x3 ez6
     (try clear right;try clear hp;try clear hl;try clear ih;try clear at1;try clear hz);subst ez6
     refine (ih (hp p (h1 p (List.mem_cons_self ..)))).eq ?_
     exact hK _ ⟨fun q hq=>h1 q (List.mem_cons_of_mem _ hq),_,rfl⟩
   | false =>
    refine ⟨n23.1,n23.1,?_⟩
    refine loopM (g:=fun p:D×(Fn→Prop)=>p.1) (fun l ρ=>(∀ p∈l,p∈ps)∧∃ x3:Option Sl,ρ=[some (.im (con false (ps.map (·.1)))),some (.fz (.lst (ns.map .str))),some (.im (.str "or")),x3]) (fun ρ h=>?_) (fun p l ρ h K hK=>?_) ps _ ⟨fun _ x=>x,_,rfl⟩
    ·refine e0_2 h ?_
     clear h
     intro _ ez7
     refine e1_1 ez7 ?_
     clear ez7
     intro x3 ez8
     (try clear a;try clear right;try clear hp;try clear hl;try clear ih;try clear at1;try clear hz);subst ez8
     rfl
    ·refine e0_2 h ?_
     clear h
     intro h1 ez9
     refine e1_1 ez9 ?_
     clear ez9
     intro x3 ez10
     (try clear right;try clear hp;try clear hl;try clear ih;try clear at1;try clear hz);subst ez10
     refine (ih (hp p (h1 p (List.mem_cons_self ..)))).eq ?_
     exact hK _ ⟨fun q hq=>h1 q (List.mem_cons_of_mem _ hq),_,rfl⟩
end
end Mine
end

section
open PySem PySem.W PyProof.Rows PySem.Calls PyProof
set_option backward.match.sparseCases false
set_option tactic.hygienic false
namespace Mine
theorem fill_ok {W:List Str} {ks:List (Str×D)} {v u:Fn} {a a':A} {i:Nat} {S:Str→Prop} {x:Str} {k:Int} (h:FillR W ks v i a a') (hk:Knw (fun y=>S y∧y≠x) v ks) (hS:∀ y∈W,a.f y≠0→S y):a'.ok W (upd u x k)↔a.ok W (upd v x k):=by
 unfold A.ok
 rw [h.t,h.ok]
 have:val W a.c a.f (mix ks v (upd u x k))=val W a.c a.f (upd v x k):=by
  unfold val
  rw [dot_congr (f:=a.f) (g:=a.f) (v:=mix ks v (upd u x k)) (u:=upd v x k)]
  intro y hy
  by_cases h0:a.f y=0
  ·rw [h0,Int.zero_mul,Int.zero_mul]
  ·congr 1
   unfold mix
   by_cases q:y=x
   ·clear h0 hy;subst q
    rw [hk.no y fun z=>z.2 rfl,if_neg nofun,upd_x,upd_x]
   ·rw [hk.yes y ⟨hS y hy h0,q⟩,if_pos (show (some (D.int (v y))).isSome=true from rfl),upd_ne q]
 rw [this]
theorem fill_f {W:List Str} {ks:List (Str×D)} {v:Fn} {a a':A} {i:Nat} {S:Str→Prop} {x:Str} (h:FillR W ks v i a a') (hk:Knw (fun y=>S y∧y≠x) v ks) (hS:∀ y∈W,a.f y≠0→S y) (hx:x∈W):a'.f x=a.f x∧∀ y∈W,y=x∨a'.f y=0:=by
 refine ⟨?_,fun y hy=>?_⟩
 ·rw [h.f x hx,hk.no x fun z=>z.2 rfl,if_neg nofun]
 ·by_cases q:y=x
  ·exact .inl q
  ·refine .inr ?_
   rw [h.f y hy]
   by_cases h0:a.f y=0
   ·rw [h0];split <;> rfl
   ·rw [hk.yes y ⟨hS y hy h0,q⟩,if_pos (show (some (D.int (v y))).isSome=true from rfl)]
theorem LeP.fill {W:List Str} {ks:List (Str×D)} {v:Fn} {a a':A} {S:Str→Prop} {x:Str} {K1 K2:Int} {tg:Prop} {Z:Str→Prop} (h:FillR W ks v 24 a a') (hk:Knw (fun y=>S y∧y≠x) v ks) (hS:∀ y∈W,a.f y≠0→S y) (hx:x∈W) (p:LeP W x K1 K2 tg Z a):LeP W x K1 K2 tg (fun _=>True) a':=by
 refine e0_2 (fill_f h hk hS hx) ?_
 intro e hz
 exact ⟨by rw [h.t,e];exact p.t,h.bd.mono (by decide),fun y hy _=>hz y hy⟩
noncomputable def nmS (W:List Str) (la:List A) (y:Str):Prop:=∃ a∈la,y∈sN W a.f
theorem nmS_of {W:List Str} {la:List A} {a:A} (h:a∈la):∀ y∈W,a.f y≠0→nmS W la y:=fun y hy h0=>⟨a,h,mem_sN.mpr ⟨hy,h0⟩⟩
theorem trN_con {W:List Str} {b:Bool} {la:List A} (hl:la.length≤4):TrN W 1 (con b (la.map (A.d W))) (nmS W la):=by
 refine .inr ⟨b,la.map fun a=>(a.d W,fun y=>y∈sN W a.f),by rw [List.map_map];rfl,by rw [List.length_map];exact Nat.le_trans hl (by decide),fun p hp=>?_,fun y=>⟨fun hz1=>e1_2 hz1 fun a ha q=>⟨_,List.mem_map.mpr ⟨a,ha,rfl⟩,q⟩,fun ⟨p,hp,q⟩=>?_⟩⟩
 ·refine e1_2 (List.mem_map.mp hp) ?_
  intro a ha ez1
  clear hp;subst ez1
  exact ⟨a,rfl,fun y=>Iff.rfl⟩
 ·refine e1_2 (List.mem_map.mp hp) ?_
  intro a ha ez2
  clear hp;subst ez2
  exact ⟨a,ha,q⟩
theorem trN_cj {W:List Str} {la:List A} (hl:la.length≤4):TrN W 1 (cj true (some (la.map (A.d W)))) (nmS W la):=by
 by_cases h:la.length=1
 ·refine e1_1 (len1 h) ?_
  intro a ez3
  clear h;subst ez3
  exact .inl ⟨a,rfl,fun y=>⟨fun hz3=>by obtain ⟨b,hb,q⟩:=hz3;cases List.mem_singleton.mp hb;exact q,fun q=>⟨a,List.mem_cons_self ..,q⟩⟩⟩
 ·rw [cj_con (by rw [List.length_map];exact h)]
  exact trN_con hl
section
variable {B:Bs} (C:Cx B) {W:List Str} (w:Wd W) {x:Str} (hx:x∈W) {v:Fn} (hl:∀ y,Lv 10 (v y)) {la:List A} (hla:la.length≤3) (hb:∀ a∈la,Bd 10 a.c a.f)
include C w hl hla hb
theorem fill_con {b:Bool} {ks:List (Str×D)} {S:Str→Prop} (hk:Knw S v ks):Spec B "filled" NoX 5 [.im (con b (la.map (A.d W))),.ct (.dct ks)] fun q=>∃ d',q=.im d'∧∃ lb:List A,d'=con b (lb.map (A.d W))∧lb.length=la.length∧(∀ b∈lb,∃ a∈la,FillR W ks v 24 a b)∧∀ a∈la,∃ b∈lb,FillR W ks v 24 a b:=by
 have hv:∀ y,(dAt ks y).isSome=true→dAt ks y=some (.int (v y)):=fun y h=>by
  by_cases q:S y
  ·exact hk.yes y q
  ·rw [hk.no y q] at h;cases h
 refine (sp_filledC C w (by lia) hv hl hb).ex fun ps hr=>?_
 refine e0_2 hr ?_
 clear hr
 intro e hr
 refine ⟨_,rfl,ps.map (·.2),by rw [List.map_map];rfl,by rw [e,List.length_map,List.length_map],fun b hb=>?_,fun a ha=>?_⟩
 ·refine e1_2 (List.mem_map.mp hb) ?_
  intro p hp ez4
  subst ez4
  exact ⟨p.1,by rw [e];exact List.mem_map.mpr ⟨p,hp,rfl⟩,hr p hp⟩
 ·rw [e] at ha
  refine e1_2 (List.mem_map.mp ha) ?_
  intro p hp ez5
  clear ha;subst ez5
  exact ⟨p.2,List.mem_map.mpr ⟨p,hp,rfl⟩,hr p hp⟩
theorem fill_cj {ks:List (Str×D)} {S:Str→Prop} (hk:Knw S v ks):Spec B "filled" NoX 5 [.im (cj true (some (la.map (A.d W)))),.ct (.dct ks)] fun q=>∃ d',q=.im d'∧∃ lb:List A,d'=cj true (some (lb.map (A.d W)))∧lb.length=la.length∧(∀ b∈lb,∃ a∈la,FillR W ks v 24 a b)∧∀ a∈la,∃ b∈lb,FillR W ks v 24 a b:=by
 by_cases h:la.length=1
 ·refine e1_1 (len1 h) ?_
  intro a ez6
  subst ez6
  have hv:∀ y,(dAt ks y).isSome=true→dAt ks y=some (.int (v y)):=fun y h=>by
   by_cases q:S y
   ·exact hk.yes y q
   ·rw [hk.no y q] at h;cases h
  refine (sp_filled1 C w hv hl (hb a (List.mem_cons_self ..))).ex fun a' hr=>?_
  exact ⟨_,rfl,[a'],rfl,rfl,fun b hb=>⟨a,List.mem_cons_self ..,by cases List.mem_singleton.mp hb;exact hr⟩,fun b hb=>⟨a',List.mem_cons_self ..,by cases List.mem_singleton.mp hb;exact hr⟩⟩
 ·rw [cj_con (by rw [List.length_map];exact h)]
  refine (fill_con C w hl hla hb hk).ex fun d' hr=>?_
  refine e1_3 hr ?_
  clear hr
  intro lb ez7 e hr
  subst ez7
  exact ⟨_,rfl,lb,(cj_con (by rw [List.length_map,e];exact h)).symm,e,hr⟩
end
end Mine
end

section
open PySem PySem.W PyProof.Rows PySem.Calls PyProof
set_option backward.match.sparseCases false
set_option tactic.hygienic false
namespace Mine
structure Law9 (B:Bs) (W:List Str) (x:Str) (vs:List (Str×D)) (v:Fn) (a:Bool) (d:D) (bdy:Int→Prop):Prop where
 holds:Spec B "holds" NoX 10 [.im (bnd a x d),.ct (.dct vs)] fun q=>∃ b,q=.im (.bool b)∧(b=true↔(a=true↔∃ k,bdy k))
 left:∃ tg den,(den v↔(a=true↔∃ k,bdy k))∧Spec B "left" NoX 9 [.im (bnd a x d)] fun q=>∃ q',q=.im q'∧LR W tg (fun y=>y=x) den q'
 told:Spec B "told" NoX 9 [.im (.str x),.im (bif a then d else neg d),.ct (.dct vs)] fun q=>∃ r,q=.im r∧((r=.none∧∀ k,¬ bdy k)∨∃ k,r=.int k∧Lv 40 k∧bdy k)
 ltrue:∀ k vs',Lv 40 k→(∀ y∈W,(y=x∧dAt vs' y=some (.int k))∨y≠x∧((∃ e,dAt vs y=some e)→dAt vs' y=dAt vs y))→Spec B "_law_true" NoX 5 [.im (bif a then d else neg d),.ct (.dct vs')] fun q=>∃ z,q=.im (.bool z)∧(z=true↔bdy k)
section
variable {B:Bs} (C:Cx B) {W:List Str} (w:Wd W)
include C w
theorem sp_leftCj {la:List A} (hl:la.length≤3):Spec B "left" NoX 2 [.im (cj true (some (la.map (A.d W))))] fun q=>q=.im (cj true (some (la.map (A.d W)))):=by
 by_cases h:la.length=1
 ·refine e1_1 (len1 h) ?_
  intro a ez1
  clear h;subst ez1
  exact (sp_left1 C w).eq rfl
 ·rw [cj_con (by rw [List.length_map];exact h)]
  exact sp_leftC C w (Nat.le_trans (by assumption) (by decide))
theorem sp_pushCj {la:List A} {k:Bool} (hl:la.length≤3) (h:∀ a∈la,k=true∨a.t≠.no):Spec B "pushed" NoX 2 [.im (cj true (some (la.map (A.d W)))),.im (.bool true),.im (.bool k)] fun q=>q=.im (cj true (some (la.map (A.d W)))):=by
 by_cases h1:la.length=1
 ·refine e1_1 (len1 h1) ?_
  intro a ez2
  clear h1;subst ez2
  exact (sp_pushT C w (h a (List.mem_cons_self ..))).eq rfl
 ·rw [cj_con (by rw [List.length_map];exact h1)]
  exact sp_pushTC C w (Nat.le_trans (by assumption) (by decide)) h
variable {x:Str} (hx:x∈W) {v:Fn} (hl:∀ y,Lv 10 (v y)) {la:List A} (hla:la.length≤3) (hb:∀ a∈la,Bd 10 a.c a.f) {vs:List (Str×D)} (hv:∀ y∈W,y≠x→nmS W la y→dAt vs y=some (.int (v y)))
include hl hla hb hv
omit C in
theorem hv_of:∀ y,nmS W la y→y≠x→dAt vs y=some (.int (v y)):=fun y h q=>by
 have h0:=h
 refine e1_2 h ?_
 clear h
 intro a _ h
 exact hv y (mem_sN.mp h).1 q h0
omit C w hla in
theorem vals_of {k:Int} {vs':List (Str×D)} (hm:∀ a∈la,∀ m,a.t=.go m→0<m) (h:∀ y∈W,(y=x∧dAt vs' y=some (.int k))∨y≠x∧((∃ e,dAt vs y=some e)→dAt vs' y=dAt vs y)):∀ a∈la,Vals W vs' (upd v x k) a:=fun a ha=>by
 refine ⟨fun y hy h0=>?_,fun y=>((hb a ha).2 y).mono (by decide),hm a ha⟩
 rcases h y hy with ⟨rfl,q⟩ | ⟨q,q'⟩
 ·rw [q,upd_x]
 ·have:=hv y hy q (nmS_of ha y hy h0)
  rw [q' ⟨_,this⟩,this,upd_ne q]
include hx
theorem law_G (hlam:LamAt B "gone") {tg:Prop} {K1 K2:Int} (hK1:0<K1) (h12:K1 ∣ K2) (h20:0<K2) (hK2:K2≤2000) (htg:1<K1→tg) (hp:∀ a∈la,LeP W x K1 K2 tg (fun y=>y=x) a) :
  Law9 B W x vs v true (cj true (some (la.map (A.d W)))) fun k=>∀ a∈la,a.ok W (upd v x k):=by
 have nt:∀ a,LeP W x K1 K2 tg (fun _=>True) a→a.t≠.no:=fun a h e=>by
  rcases h.t with ⟨q,_⟩ | ⟨_,m,q,_⟩ <;> rw [e] at q <;> cases q
 have fin:∀ ks,Knw (fun y=>nmS W la y∧y≠x) v ks→Spec B "filled" NoX 5 [.im (cj true (some (la.map (A.d W)))),.ct (.dct ks)] fun q=>∃ d',q=.im d'∧∃ lb:List A,d'=cj true (some (lb.map (A.d W)))∧lb.length≤3∧(∀ b∈lb,LeP W x K1 K2 tg (fun _=>True) b)∧∀ u k,(∀ b∈lb,b.ok W (upd u x k))↔∀ a∈la,a.ok W (upd v x k):=fun ks hk=>by
  refine (fill_cj C w hl hla hb hk).ex fun d' hr=>?_
  refine e1_4 hr ?_
  clear hr
  intro lb ez3 e h1 h2
  subst ez3
  refine ⟨_,rfl,lb,rfl,by (clear hK2 h20 h12 hK1;lia),fun b hb=>?_,fun u k=>⟨fun h a ha=>?_,fun h b hb=>?_⟩⟩
  ·refine e1_2 (h1 b hb) ?_
   intro a ha q
   exact (hp a ha).fill q hk (nmS_of ha) hx
  ·refine e1_2 (h2 a ha) ?_
   intro b hb q
   exact (fill_ok q hk (nmS_of ha)).mp (h b hb)
  ·refine e1_2 (h1 b hb) ?_
   intro a ha q
   exact (fill_ok q hk (nmS_of ha)).mpr (h a ha)
 refine ⟨?_,⟨tg,fun u=>∃ k,∀ a∈la,a.ok W (upd u x k),⟨fun q=>⟨fun _=>q,fun _=>rfl⟩,fun q=>q.mp rfl⟩,sp_leftG C w hlam hx hla hK1 h12 h20 hK2 htg hp⟩,?_,fun k vs' lk h=>?_⟩
 ·refine (sp_holds C w (tg:=tg) (den:=fun _=>∃ k,∀ a∈la,a.ok W (upd v x k)) (trN_cj (Nat.le_trans (by assumption) (by decide))) (hv_of w hl hla hb hv) hl fun ks hk=>?_).to fun r hr=>?_
  ·refine (sp_filledB C w (hk.no x fun z=>z.2 rfl) (Nat.le_trans hk.len (by decide)) (fin ks hk)).ex fun d' hr=>?_
   refine e1_4 hr ?_
   clear hr
   intro lb ez4 h1 h2 h3
   clear hk fin hp;subst ez4
   refine ⟨_,rfl,(sp_leftG C w hlam hx h1 hK1 h12 h20 hK2 htg h2).to fun r hr=>?_⟩
   refine e1_2 hr ?_
   clear hr
   intro q' ez5 hr
   subst ez5
   exact ⟨q',rfl,⟨hr.tr.den fun u=>⟨fun hz1=>e1_1 hz1 fun k q=>⟨k,(h3 u k).mp q⟩,fun hz2=>e1_1 hz2 fun k q=>⟨k,(h3 u k).mpr q⟩⟩⟩⟩
  ·refine e1_2 hr ?_
   clear hr
   intro b ez6 hr
   subst ez6
   exact ⟨b,rfl,hr.trans ⟨fun q=>⟨fun _=>q,fun _=>rfl⟩,fun q=>q.mp rfl⟩⟩
 ·refine (sp_told C w hx (d:=cj true (some (la.map (A.d W)))) (S:=nmS W la) (tg:=tg) (K1:=K1) h20 hK2 ((sp_unknowns C w (trN_cj (Nat.le_trans (by assumption) (by decide)))).to fun _ h=>h) (hv_of w hl hla hb hv) (R:=fun r=>(r=.none∧∀ k,¬ ∀ a∈la,a.ok W (upd v x k))∨∃ k,r=.int k∧Lv 40 k∧∀ a∈la,a.ok W (upd v x k)) fun ks hk=>?_).to fun _ h=>h
  refine (fin ks hk).ex fun d' hr=>?_
  refine e1_4 hr ?_
  clear hr
  intro lb ez7 h1 h2 h3
  clear hk fin hp;subst ez7
  refine ⟨_,rfl,(sp_leftCj C w h1).eq rfl,(sp_pushCj C w h1 fun b hb=>.inr (nt b (h2 b hb))).eq ⟨lb,rfl,h1,h2,fun q=>.inl ⟨rfl,fun k z=>q k ((h3 _ k).mpr z)⟩,fun k lk q=>.inr ⟨k,rfl,lk,(h3 _ k).mp q⟩⟩⟩
 ·have hV:=vals_of hl hb hv (vs':=vs') (k:=k) (fun a ha m e=>by rcases (hp a ha).t with ⟨q,_⟩ | ⟨_,m',q,h,_⟩ <;> rw [e] at q <;> cases q;exact h) h
  have l40:∀ y,Lv 40 (upd v x k y):=fun y=>by
   by_cases q:y=x
   ·clear h fin nt hp;subst q;rw [upd_x];exact lk
   ·rw [upd_ne q];exact (hl y).mono (by decide)
  by_cases h1:la.length=1
  ·refine e1_1 (len1 h1) ?_
   intro a ez8
   clear h1 fin hp;subst ez8
   refine (sp_ltrue1 C w l40 (hV a (List.mem_cons_self ..))).ex fun z hr=>?_
   exact ⟨z,rfl,hr.trans ⟨fun q b hb=>List.mem_singleton.mp hb▸q,fun q=>q a (List.mem_cons_self ..)⟩⟩
  ·show Spec B "_law_true" NoX 5 [.im (cj true (some (la.map (A.d W)))),.ct (.dct vs')] _
   rw [cj_con (by rw [List.length_map];exact h1)]
   exact (sp_ltrueC C w (b:=true) l40 hV).to fun r hr=>hr
end
end Mine
end

section
open PySem PySem.W PyProof.Rows PySem.Calls PyProof
set_option backward.match.sparseCases false
set_option tactic.hygienic false
namespace Mine
section
variable {B:Bs} (C:Cx B) {W:List Str} (w:Wd W)
variable {x:Str} (hx:x∈W) {v:Fn} (hl:∀ y,Lv 10 (v y))
include C w hl hx
theorem law_N {a:A} (hb:Bd 10 a.c a.f) {vs:List (Str×D)} (hv:∀ y∈W,y≠x→nmS W [a] y→dAt vs y=some (.int (v y))) {K1:Int} (hK1:0<K1) (hK2:K1≤2000) (ht:a.t=.no) (h0:a.f x≠0) (hd:a.f x ∣ K1) :
  Law9 B W x vs v true (a.d W) fun k=>a.ok W (upd v x k):=by
 have hb1:∀ b∈[a],Bd 10 b.c b.f:=fun b h=>List.mem_singleton.mp h▸hb
 have ex:∀ {u:Fn},(∃ k,∀ b∈[a],b.ok W (upd u x k))↔∃ k,a.ok W (upd u x k):=⟨fun hz1=>e1_1 hz1 fun k q=>⟨k,q a (List.mem_cons_self ..)⟩,fun hz2=>e1_1 hz2 fun k q=>⟨k,fun b hb=>List.mem_singleton.mp hb▸q⟩⟩
 have fin:∀ ks,Knw (fun y=>nmS W [a] y∧y≠x) v ks→Spec B "filled" NoX 5 [.im (a.d W),.ct (.dct ks)] fun q=>∃ d',q=.im d'∧∃ b:A,d'=b.d W∧b.t=.no∧b.f x=a.f x∧Bd 24 b.c b.f∧(∀ y∈W,y=x∨b.f y=0)∧∀ u k,b.ok W (upd u x k)↔a.ok W (upd v x k):=fun ks hk=>by
  refine (fill_cj C w hl (la:=[a]) (Nat.le_add_left 1 _) hb1 hk).ex fun d' hr=>?_
  refine e1_4 hr ?_
  clear hr
  intro lb ez1 e h1 h2
  clear ex hv;subst ez1
  refine e1_1 (len1 e) ?_
  intro b ez2
  clear e;subst ez2
  refine e1_2 (h1 b (List.mem_cons_self ..)) ?_
  intro a' ha q
  cases List.mem_singleton.mp ha
  refine e0_2 (fill_f q hk (nmS_of (List.mem_cons_self ..)) hx) ?_
  intro f1 f2
  exact ⟨_,rfl,b,rfl,q.t.trans ht,f1,q.bd,f2,fun u k=>fill_ok q hk (nmS_of (List.mem_cons_self ..))⟩
 refine ⟨?_,⟨True,fun u=>∃ k,∀ b∈[a],b.ok W (upd u x k),ex.trans ⟨fun q=>⟨fun _=>q,fun _=>rfl⟩,fun q=>q.mp rfl⟩,sp_leftNo C w hx (a:=a) (Z:=fun y=>y=x) trivial ht h0 (hb.mono (by decide)) fun y _ z=>.inl z⟩,?_,fun k vs' lk h=>?_⟩
 ·refine (sp_holds C w (tg:=True) (d:=a.d W) (den:=fun _=>∃ k,a.ok W (upd v x k)) (trN_cj (la:=[a]) (Nat.le_add_left 1 _)) (hv_of w hl (la:=[a]) (Nat.le_add_left 1 _) hb1 hv) hl fun ks hk=>?_).to fun r hr=>?_
  ·refine (sp_filledB C w (hk.no x fun z=>z.2 rfl) (Nat.le_trans hk.len (by decide)) (fin ks hk)).ex fun d' hr=>?_
   refine e1_6 hr ?_
   clear hr
   intro b ez3 h1 h2 h3 h4 h5
   clear hk fin ex hv;subst ez3
   refine ⟨_,rfl,(sp_leftNo C w hx (a:=b) (tg:=True) (Z:=fun _=>True) trivial h1 (by rw [h2];exact h0) (h3.mono (by decide)) fun y hy _=>h4 y hy).to fun r hr=>?_⟩
   refine e1_2 hr ?_
   clear hr
   intro q' ez4 hr
   subst ez4
   exact ⟨q',rfl,⟨hr.tr.den fun u=>⟨fun hz3=>e1_1 hz3 fun k q=>⟨k,(h5 u k).mp (q b (List.mem_cons_self ..))⟩,fun hz4=>e1_1 hz4 fun k q=>⟨k,fun b' hb'=>List.mem_singleton.mp hb'▸(h5 u k).mpr q⟩⟩⟩⟩
  ·refine e1_2 hr ?_
   clear hr
   intro b ez5 hr
   subst ez5
   exact ⟨b,rfl,hr.trans ⟨fun q=>⟨fun _=>q,fun _=>rfl⟩,fun q=>q.mp rfl⟩⟩
 ·refine (sp_told C w hx (d:=a.d W) (S:=nmS W [a]) (tg:=False) (K1:=K1) (K2:=K1) hK1 hK2 ((sp_unknowns C w (trN_cj (la:=[a]) (Nat.le_add_left 1 _))).to fun _ h=>h) (hv_of w hl (la:=[a]) (Nat.le_add_left 1 _) hb1 hv) (R:=fun r=>(r=.none∧∀ k,¬ a.ok W (upd v x k))∨∃ k,r=.int k∧Lv 40 k∧a.ok W (upd v x k)) fun ks hk=>?_).to fun _ h=>h
  refine (fin ks hk).ex fun d' hr=>?_
  refine e1_6 hr ?_
  clear hr
  intro b ez6 h1 h2 h3 h4 h5
  clear hk fin ex hv;subst ez6
  refine ⟨_,rfl,(sp_left1 C w).eq rfl,?_⟩
  have hp:=sp_pushNo C w (c:=b.c) (f:=b.f) (h3.mono (by decide))
  have key:∀ u,(∀ e∈[(⟨.ab,1+b.c,b.f⟩:A),b.ng],e.ok W u)↔b.ok W u:=fun u=>by
   have e1:(⟨.ab,1+b.c,b.f⟩:A).ok W u↔0<1+val W b.c b.f u:=by
    show 0<1+b.c+dot W b.f u↔_
    unfold val;(clear h2 hd h0 hK2 hK1;lia)
   have e2:b.ng.ok W u↔0<1-val W b.c b.f u:=by
    show 0<val W b.ng.c b.ng.f u↔_
    rw [val_ng]
   have e3:b.ok W u↔val W b.c b.f u=0:=by unfold A.ok;rw [h1];exact Iff.rfl
   rw [e3]
   constructor
   ·intro h
    have q1:=e1.mp (h _ (List.mem_cons_self ..))
    have q2:=e2.mp (h _ (List.mem_cons_of_mem _ (List.mem_cons_self ..)))
    (clear e3 e2 e1 h2 hd h0 hK2 hK1;lia)
   ·intro h e he
    rcases List.mem_cons.mp he with rfl | he
    ·exact e1.mpr (by (clear e3 e2 e1 h2 hd h0 hK2 hK1;lia))
    ·cases List.mem_singleton.mp he;exact e2.mpr (by (clear e3 e2 e1 h2 hd h0 hK2 hK1;lia))
  have e0:b.d W=aD W .no b.c b.f:=by unfold A.d;rw [h1]
  rw [e0]
  refine hp.eq ⟨[⟨.ab,1+b.c,b.f⟩,b.ng],rfl,Nat.le_add_left 2 1,fun e he=>?_,fun q=>.inl ⟨rfl,fun k z=>q k ((key _).mpr ((h5 _ k).mpr z))⟩,fun k lk q=>.inr ⟨k,rfl,lk,(h5 _ k).mp ((key _).mp q)⟩⟩
  have hdx:b.f x ∣ K1:=by rw [h2];exact hd
  have h0x:b.f x≠0:=by rw [h2];exact h0
  rcases List.mem_cons.mp he with rfl | he
  ·exact ⟨.inl ⟨rfl,h0x,hdx⟩,⟨(Lv.add (k:=24) (lv1.2.mono (by decide)) h3.1).mono (by decide),fun y=>(h3.2 y).mono (by decide)⟩,fun y hy _=>h4 y hy⟩
  ·cases List.mem_singleton.mp he
   have e:b.ng.f x = -1*b.f x:=rfl
   have n1:∀ {j:Int},Lv 24 j→Lv 25 (-1*j):=fun {j} h=>by have:=lvM1.mul h;exact this
   refine ⟨.inl ⟨rfl,by rw [e];(clear hdx hd h0 hK2 hK1;lia),?_⟩,⟨(Lv.add (k:=25) (lv1.2.mono (by decide)) (n1 h3.1)).mono (by decide),fun y=>(n1 (h3.2 y)).mono (by decide)⟩,fun y hy _=>(h4 y hy).imp id fun q=>?_⟩
   ·rw [e,Int.neg_mul,Int.one_mul];exact Int.neg_dvd.mpr hdx
   ·show -1*b.f y=0
    rw [q];rfl
 ·have hV:=vals_of hl hb1 hv (vs':=vs') (k:=k) (fun b hb m e=>by cases List.mem_singleton.mp hb;rw [ht] at e;cases e) h
  have l40:∀ y,Lv 40 (upd v x k y):=fun y=>by
   by_cases q:y=x
   ·clear hV h fin ex hd h0 hv;subst q;rw [upd_x];exact lk
   ·rw [upd_ne q];exact (hl y).mono (by decide)
  exact (sp_ltrue1 C w l40 (hV a (List.mem_cons_self ..))).to fun r hr=>hr
theorem law_U {la:List A} (hla:la.length≤3) (hl1:la.length≠1) (hlam:LamAt B "gone") (hb:∀ a∈la,Bd 10 a.c a.f∧a.t=.ab∧(a.f x=1∨a.f x = -1)) {vs:List (Str×D)} (hv:∀ y∈W,y≠x→nmS W la y→dAt vs y=some (.int (v y))) :
  Law9 B W x vs v false (con false (la.map (A.d W))) fun k=>∀ a∈la,¬ a.ok W (upd v x k):=by
 have hb1:∀ a∈la,Bd 10 a.c a.f:=fun a h=>(hb a h).1
 have ex:∀ {u:Fn},(∀ k,∃ a∈la,a.ok W (upd u x k))↔(false=true↔∃ k,∀ a∈la,¬ a.ok W (upd u x k)):=fun {u}=>by
  constructor
  ·intro q
   exact ⟨nofun,fun hz5=>by obtain ⟨k,z⟩:=hz5;obtain ⟨a,ha,y⟩:=q k;exact absurd y (z a ha)⟩
  ·intro q k
   refine Classical.byContradiction fun z=>?_
   have:=q.mpr ⟨k,fun a ha y=>z ⟨a,ha,y⟩⟩
   cases this
 have fin:∀ ks,Knw (fun y=>nmS W la y∧y≠x) v ks→Spec B "filled" NoX 5 [.im (con false (la.map (A.d W))),.ct (.dct ks)] fun q=>∃ d',q=.im d'∧∃ lb:List A,d'=con false (lb.map (A.d W))∧lb.length=la.length∧(∀ b∈lb,Ab W (fun _=>False) 24 b∧(b.f x=1∨b.f x = -1)∧∀ y∈W,y=x∨b.f y=0)∧(∀ u k,(∃ b∈lb,b.ok W (upd u x k))↔∃ a∈la,a.ok W (upd v x k)):=fun ks hk=>by
  refine (fill_con C w hl hla hb1 hk).ex fun d' hr=>?_
  refine e1_4 hr ?_
  clear hr
  intro lb ez7 e h1 h2
  subst ez7
  refine ⟨_,rfl,lb,rfl,e,fun b hb'=>?_,fun u k=>⟨fun ⟨b,hb',h⟩=>?_,fun ⟨a,ha,h⟩=>?_⟩⟩
  ·refine e1_2 (h1 b hb') ?_
   intro a ha q
   refine e0_2 (fill_f q hk (nmS_of ha) hx) ?_
   intro f1 f2
   exact ⟨⟨q.t.trans (hb a ha).2.1,q.bd,nofun⟩,by rw [f1];exact (hb a ha).2.2,f2⟩
  ·refine e1_2 (h1 b hb') ?_
   intro a ha q
   exact ⟨a,ha,(fill_ok q hk (nmS_of ha)).mp h⟩
  ·refine e1_2 (h2 a ha) ?_
   intro b hb' q
   exact ⟨b,hb',(fill_ok q hk (nmS_of ha)).mpr h⟩
 have up:∀ {b:A},Ab W (fun _=>False) 24 b→Ab W (fun _=>False) 26 b:=fun h=>⟨h.1,h.2.1.mono (by decide),nofun⟩
 refine ⟨?_,⟨False,fun u=>∀ k,∃ a∈la,a.ok W (upd u x k),ex,sp_leftU C w hlam hx hla hl1 (Z:=fun y=>y=x) fun a h=>⟨⟨(hb a h).2.1,(hb a h).1.mono (by decide),nofun⟩,(hb a h).2.2,fun y _ z=>.inl z⟩⟩,?_,fun k vs' lk h=>?_⟩
 ·refine (sp_holds C w (tg:=False) (den:=fun _=>∀ k,∃ a∈la,a.ok W (upd v x k)) (trN_con (Nat.le_trans (by assumption) (by decide))) (hv_of w hl hla hb1 hv) hl fun ks hk=>?_).to fun r hr=>?_
  ·refine (sp_filledB C w (hk.no x fun z=>z.2 rfl) (Nat.le_trans hk.len (by decide)) (fin ks hk)).ex fun d' hr=>?_
   refine e1_4 hr ?_
   clear hr
   intro lb ez8 h1 h2 h3
   subst ez8
   refine ⟨_,rfl,(sp_leftU C w hlam hx (by (clear hl1;lia)) (by (clear hla;lia)) (Z:=fun _=>True) fun b hb'=>⟨up (h2 b hb').1,(h2 b hb').2.1,fun y hy _=>(h2 b hb').2.2 y hy⟩).to fun r hr=>?_⟩
   refine e1_2 hr ?_
   clear hr
   intro q' ez9 hr
   subst ez9
   exact ⟨q',rfl,⟨hr.tr.den fun u=>⟨fun q k=>(h3 u k).mp (q k),fun q k=>(h3 u k).mpr (q k)⟩⟩⟩
  ·refine e1_2 hr ?_
   clear hr
   intro b ez10 hr
   subst ez10
   exact ⟨b,rfl,hr.trans ex⟩
 ·refine (sp_told C w hx (d:=neg (con false (la.map (A.d W)))) (S:=nmS W la) (tg:=False) (K1:=1) (K2:=1) (by decide) (by decide) ((sp_unknownsN C w (trN_con (Nat.le_trans (by assumption) (by decide)))).to fun _ h=>h) (hv_of w hl hla hb1 hv) (R:=fun r=>(r=.none∧∀ k,¬ ∀ a∈la,¬ a.ok W (upd v x k))∨∃ k,r=.int k∧Lv 40 k∧∀ a∈la,¬ a.ok W (upd v x k)) fun ks hk=>?_).to fun _ h=>h
  refine (sp_filledN C w (fin ks hk)).ex fun d' hr=>?_
  refine e1_4 hr ?_
  clear hr
  intro lb ez11 h1 h2 h3
  clear hk up fin ex hv;subst ez11
  refine ⟨_,rfl,(sp_leftN C w (sp_leftC C w (by (clear hl1;lia)))).to fun _ h=>h,?_⟩
  have key:∀ k,(∀ e∈lb.map A.ng,e.ok W (upd (fun _=>0) x k))↔∀ a∈la,¬ a.ok W (upd v x k):=fun k=>by
   constructor
   ·intro q a ha z
    refine e1_2 ((h3 (fun _=>0) k).mpr ⟨a,ha,z⟩) ?_
    intro b hb' y
    exact (ng_ok (h2 b hb').1.1).mp (q _ (List.mem_map.mpr ⟨b,hb',rfl⟩)) y
   ·intro q e he
    refine e1_2 (List.mem_map.mp he) ?_
    intro b hb' ez12
    clear he;subst ez12
    refine (ng_ok (h2 b hb').1.1).mpr fun y=>?_
    refine e1_2 ((h3 (fun _=>0) k).mp ⟨b,hb',y⟩) ?_
    intro a ha z
    exact q a ha z
  refine (sp_pushN C w (n:=6) ((sp_pushFC C w (k:=false) (b:=false) (i:=24) (Z:=fun _=>False) (by decide) (by (clear hl1;lia)) fun b hb'=>(h2 b hb').1).eq (n:=6) ⟨_,rfl,lb.map A.ng,?_,by rw [List.length_map];(clear hl1;lia),fun e he=>?_,fun q=>.inl ⟨rfl,fun k z=>q k ((key k).mpr z)⟩,fun k lk q=>.inr ⟨k,rfl,lk,(key k).mp q⟩⟩)).to fun _ h=>h
  ·show Rs.im (con true ((lb.map A.ng).map (A.d W)))=_
   rw [cj_con (by rw [List.length_map,List.length_map];(clear hla;lia))]
  ·refine e1_2 (List.mem_map.mp he) ?_
   intro b hb' ez13
   clear he;subst ez13
   refine e0_3 (h2 b hb') ?_
   intro g1 g2 g3
   have e:b.ng.f x = -1*b.f x:=rfl
   refine ⟨.inl ⟨rfl,by rw [e];(clear e h1 hl1 hla;lia),?_⟩,(g1.ng.2.1).mono (by decide),fun y hy _=>(g3 y hy).imp id fun q=>?_⟩
   ·rw [e]
    rcases g2 with q | q <;> rw [q] <;> decide
   ·show -1*b.f y=0
    rw [q];rfl
 ·have hV:=vals_of hl hb1 hv (vs':=vs') (k:=k) (fun a ha m e=>by rw [(hb a ha).2.1] at e;cases e) h
  have l40:∀ y,Lv 40 (upd v x k y):=fun y=>by
   by_cases q:y=x
   ·clear hV h fin ex hv hb;subst q;rw [upd_x];exact lk
   ·rw [upd_ne q];exact (hl y).mono (by decide)
  refine (sp_ltrueN C w (sp_ltrueC C w (b:=false) l40 hV)).ex fun z hr=>?_
  exact ⟨z,rfl,hr.trans ⟨fun q a ha y=>q ⟨a,ha,y⟩,fun q hz8=>e1_2 hz8 fun a ha y=>q a ha y⟩⟩
end
end Mine
end

section
open PySem PySem.W PyProof.Rows PySem.Calls PyProof
set_option backward.match.sparseCases false
set_option tactic.hygienic false
namespace Mine
theorem val2 {W:List Str} (w:Wd W) {x y:Str} (hx:x∈W) (hy:y∈W) (h:x≠y) {i j k:Int} {v:Fn}:val W 0 (su [(x,i),(y,j)]) (upd v x k)=i*k+j*v y:=by
 refine e0_3 (su2 (i:=i) (j:=j) h) ?_
 intro s1 s2 s3
 rw [val_at w hx (a:=⟨.ab,0,su [(x,i),(y,j)]⟩)]
 show su [(x,i),(y,j)] x*k+(0+dot W (upd (su [(x,i),(y,j)]) x 0) v)=_
 rw [s1,dot_split w.nd hy,upd_ne (Ne.symm h),s2,dot_congr (f:=upd (upd (su [(x,i),(y,j)]) x 0) y 0) (g:=fun _=>0) (v:=v) (u:=v),dot0]
 ·(clear s2 s1;lia)
 ·intro z _
  by_cases q:z=y
  ·clear a s3 s2 s1 h hy;subst q;rw [upd_x]
  ·rw [upd_ne q]
   by_cases q':z=x
   ·clear q a s3 s2 s1 h hx;subst q';rw [upd_x]
   ·rw [upd_ne q',s3 z q' q]
theorem ar0 {b l h:Int} (hb:0<b):(l.fdiv b+1)*b<h↔∃ k,0<b*k + -1*l∧0<(0-b)*k+1*h:=by
 have h1:=Int.mul_ediv_add_emod l b
 have h2:=Int.emod_lt_of_pos l hb
 have h3:=Int.emod_nonneg l (Int.ne_of_gt hb)
 rw [Int.fdiv_eq_ediv_of_nonneg _ (Int.le_of_lt hb)]
 constructor
 ·intro q
  refine ⟨l / b+1,?_,?_⟩
  ·rw [Int.mul_add];(clear q h3 hb;lia)
  ·rw [Int.sub_mul,Int.zero_mul,Int.mul_comm b];(clear h3 h2 h1 hb;lia)
 ·intro rz1
  obtain ⟨k,q1,q2⟩:=rz1
  rw [Int.sub_mul,Int.zero_mul] at q2
  have:l / b+1≤k:=by
   refine Classical.byContradiction fun z=>?_
   have:=Int.mul_le_mul_of_nonneg_left (show k≤l / b from (Int.not_lt.mp (by assumption))) (Int.le_of_lt hb)
   (clear z q2 h2 hb;lia)
  have:=Int.mul_le_mul_of_nonneg_left this (Int.le_of_lt hb)
  rw [Int.mul_comm];(clear q1 h3 h2 h1 hb;lia)
theorem ar1 {b l:Int} (hb:0<b):l.fmod b=0↔∃ k,b*k + -1*l=0:=by
 rw [Int.fmod_eq_emod_of_nonneg _ (Int.le_of_lt hb),← Int.dvd_iff_emod_eq_zero]
 exact ⟨fun hz1=>e1_1 hz1 fun k q=>⟨k,by (clear hb;lia)⟩,fun hz2=>e1_1 hz2 fun k q=>⟨k,by (clear hb;lia)⟩⟩
theorem ar2 {b l h:Int} (hb:0<b):∃ k,b ∣ 1*k+1*l∧0<1*k + -1*h:=by
 refine ⟨-l+b*((l+h).natAbs+1),⟨(l+h).natAbs+1,by (clear hb;lia)⟩,?_⟩
 have:=Int.mul_le_mul_of_nonneg_right (show 1≤b from (by assumption)) (show 0≤((l+h).natAbs:Int)+1 from (Int.natCast_nonneg _))
 have hn:l+h≤(l+h).natAbs:=Int.le_natAbs
 generalize ((l+h).natAbs:Int)=N at *
 (clear hb;lia)
theorem ar3 {l h:Int}:l<h↔(false=true↔∃ k,¬ 0<1*k + -1*l∧¬ 0 < -1*k+1*h):=by
 constructor
 ·intro q
  exact ⟨nofun,fun hz3=>by obtain ⟨k,q1,q2⟩:=hz3;lia⟩
 ·intro q
  refine Classical.byContradiction fun z=>?_
  have:=q.mpr ⟨l,by (clear z q;lia),by (clear q;lia)⟩
  cases this
theorem lv_small {i:Int} (h:i.natAbs≤2000):Lv 1 i:=Nat.lt_of_le_of_lt h (by decide)
theorem bd2 {x y:Str} {i j:Int} (hi:i.natAbs≤2000) (hj:j.natAbs≤2000):Bd 10 0 (su [(x,i),(y,j)]):=by
 refine ⟨lv1.1.mono (by decide),fun z=>Lv.mono (j:=1) ?_ (by decide)⟩
 refine Nat.lt_of_le_of_lt (?_:_≤4000) (by decide)
 show ((if z=x then i else 0)+((if z=y then j else 0)+0)).natAbs≤4000
 exact na_add (na_ite hi) (na_add (j:=0) (b:=0) (na_ite hj) (Nat.le_refl 0))
theorem pair_all {α:Type} {P:α→Prop} {a b:α}:(∀ e∈[a,b],P e)↔P a∧P b:=⟨fun h=>⟨h a (List.mem_cons_self ..),h b (List.mem_cons_of_mem _ (List.mem_cons_self ..))⟩,fun h e he=>by
 rcases List.mem_cons.mp he with rfl | he
 ·exact h.1
 ·exact List.mem_singleton.mp he▸h.2⟩
section
variable {B:Bs} (C:Cx B) {W:List Str} (w:Wd W)
include C w
theorem kind_tail (hlam:LamAt B "gone") {l:List Int} (hlen:l.length≤63) {x y z u:Str} (hx:x∈W) (hy:y∈W) (hz:z∈W) (hxy:x≠y) (hxz:x≠z) (hW:∀ t∈W,t=x∨t=y∨t=z) {v:Fn} (hl:∀ t,Lv 10 (v t)) {vs:List (Str×D)} (vy:dAt vs y=some (.int (v y))) (vz:dAt vs z=some (.int (v z))) {b:Int} (b0:0<b) (b40:b≤40) :
  wpSs B 2 (tln 1 b_kind) [some (.fz (.lst (l.map .int))),some (.fz (.lst [.str x,.str y,.str z,.str u])),some (.fz (.dct vs)),some (.im (.int b)),none,none,none,none,none,none,none,none,none] (RetOk fun q=>∃ (a:Bool) (d:D) (due:Bool) (bdy:Int→Prop),q=.im (.tup [.str (bif a then "some" else "all"),d,.bool due])∧Law9 B W x vs v a d bdy∧(due=true↔(a=true↔∃ k,bdy k))):=by
 have hv:∀ {la:List A},∀ t∈W,t≠x→nmS W la t→dAt vs t=some (.int (v t)):=fun {la} t ht q _=>by
  rcases hW t ht with rfl | rfl | rfl
  ·exact absurd rfl q
  ·exact vy
  ·exact vz
 have sy:=fun {i j:Int} {v:Fn} {k:Int}=>val2 w hx hy hxy (i:=i) (j:=j) (v:=v) (k:=k)
 have sz:=fun {i j:Int} {v:Fn} {k:Int}=>val2 w hx hz hxz (i:=i) (j:=j) (v:=v) (k:=k)
 refine ⟨show 4≤sizeLine by decide,?_⟩
 refine optW.of vy ?_
 refine optW.of vz ?_
 refine (sp_lsum C w hx hy hxy (ne_p (by assumption)) (by decide)).eq ?_
 refine (sp_lsum C w hx hz hxz (by (clear hlen;lia)) (by decide)).eq ?_
 refine (sp_cell C hlen (by decide) (by decide)).ex0 fun i2=>?_
 have tt:∀ {P:Prop},P↔(true=true↔P):=⟨fun q=>⟨fun _=>q,fun _=>rfl⟩,fun q=>q.mp rfl⟩
 have lb:Lv 1 b:=lv_small (by (clear hlen;lia))
 refine ⟨by decide,iB (fun _=>?_) fun _=>iB (fun _=>?_) fun _=>iB (fun _=>?_) fun _=>?_⟩
 ·-- the times of a number between two values
  refine ⟨show 2≤sizeLine by decide,(ne_p (by assumption)),(lb.mono (by decide)).fd,((Lv.add ((hl y).fdiv b0) (lv1.2.mono (by decide))).mono (by decide)).ok (lb.mono (by decide)),true,_,_,fun k=>∀ a∈[(⟨.ab,0,su [(x,b),(y,-1)]⟩:A),⟨.ab,0,su [(x,0-b),(z,1)]⟩],a.ok W (upd v x k),rfl,?_,?_⟩
  ·refine law_G C w hx hl (la:=[(⟨.ab,0,su [(x,b),(y,-1)]⟩:A),⟨.ab,0,su [(x,0-b),(z,1)]⟩]) (Nat.le_add_left 2 1) (pair_all.mpr ⟨bd2 (by (clear hlen;lia)) (by decide),bd2 (by (clear hlen;lia)) (by decide)⟩) hv hlam (tg:=True) (K1:=b) (K2:=b) b0 (Int.dvd_refl b) b0 (Int.le_trans (by assumption) (by decide)) (fun _=>trivial) (pair_all.mpr ⟨⟨.inl ⟨rfl,?_,?_⟩,(bd2 (by (clear hlen;lia)) (by decide)).mono (by decide),fun _ _ e=>.inl e⟩,⟨.inl ⟨rfl,?_,?_⟩,(bd2 (by (clear hlen;lia)) (by decide)).mono (by decide),fun _ _ e=>.inl e⟩⟩)
   ·show su _ x≠0
    rw [(su2 hxy).1];(clear hlen;lia)
   ·show su _ x ∣ b
    rw [(su2 hxy).1];exact Int.dvd_refl b
   ·show su _ x≠0
    rw [(su2 hxz).1];(clear hlen;lia)
   ·show su _ x ∣ b
    rw [(su2 hxz).1,Int.zero_sub];exact Int.neg_dvd.mpr (Int.dvd_refl b)
  ·refine decide_eq_true_iff.trans ((ar0 b0).trans ((exists_congr fun k=>?_).trans tt))
   rw [pair_all]
   show _↔0<val W _ _ _∧0<val W _ _ _
   rw [sy,sz]
 ·-- a value that is a number of times
  refine (sp_lsum C w hx hy hxy (ne_p (by assumption)) (by decide)).eq ?_
  refine ⟨(ne_p (by assumption)),true,_,_,fun k=>(⟨.no,0,su [(x,b),(y,-1)]⟩:A).ok W (upd v x k),rfl,?_,?_⟩
  ·refine law_N C w hx hl (a:=⟨.no,0,su [(x,b),(y,-1)]⟩) (bd2 (by (clear hlen;lia)) (by decide)) hv (K1:=b) b0 (Int.le_trans (by assumption) (by decide)) rfl ?_ ?_
   ·show su _ x≠0
    rw [(su2 hxy).1];(clear hlen;lia)
   ·show su _ x ∣ b
    rw [(su2 hxy).1];exact Int.dvd_refl b
  ·refine beq_iff_eq.trans ((ar1 b0).trans ((exists_congr fun k=>?_).trans tt))
   show _↔val W _ _ _=0
   rw [sy]
 ·-- a rest above a value
  refine (sp_lsum C w hx hy hxy (by decide) (by decide)).eq ?_
  refine (sp_lsum C w hx hz hxz (by decide) (by decide)).eq ?_
  refine ⟨true,_,_,fun k=>∀ a∈[(⟨.go b,0,su [(x,1),(y,1)]⟩:A),⟨.ab,0,su [(x,1),(z,-1)]⟩],a.ok W (upd v x k),rfl,?_,?_⟩
  ·refine law_G C w hx hl (la:=[(⟨.go b,0,su [(x,1),(y,1)]⟩:A),⟨.ab,0,su [(x,1),(z,-1)]⟩]) (Nat.le_add_left 2 1) (pair_all.mpr ⟨bd2 (by decide) (by decide),bd2 (by decide) (by decide)⟩) hv hlam (tg:=True) (K1:=1) (K2:=b) (by decide) (Int.one_dvd b) b0 (Int.le_trans (by assumption) (by decide)) (fun _=>trivial) (pair_all.mpr ⟨⟨.inr ⟨trivial,b,rfl,b0,by rw [Int.mul_one];exact Int.dvd_refl b,(su2 hxy).1⟩,(bd2 (by decide) (by decide)).mono (by decide),fun _ _ e=>.inl e⟩,⟨.inl ⟨rfl,?_,?_⟩,(bd2 (by decide) (by decide)).mono (by decide),fun _ _ e=>.inl e⟩⟩)
   ·show su _ x≠0
    rw [(su2 hxz).1];decide
   ·show su _ x ∣ 1
    rw [(su2 hxz).1];decide
  ·refine ⟨fun _=>tt.mp ?_,fun _=>rfl⟩
   refine e1_1 (ar2 (l:=v y) (h:=v z) b0) ?_
   intro k hk
   refine ⟨k,pair_all.mpr ?_⟩
   show b ∣ val W _ _ _∧0<val W _ _ _
   rw [sy,sz];exact hk
 ·-- all numbers above one value or below another
  refine (sp_lsum C w hx hy hxy (by decide) (by decide)).eq ?_
  refine (sp_lsum C w hx hz hxz (by decide) (by decide)).eq ?_
  refine ⟨false,_,_,fun k=>∀ a∈[(⟨.ab,0,su [(x,1),(y,-1)]⟩:A),⟨.ab,0,su [(x,-1),(z,1)]⟩],¬ a.ok W (upd v x k),rfl,?_,?_⟩
  ·refine law_U C w hx hl (la:=[(⟨.ab,0,su [(x,1),(y,-1)]⟩:A),⟨.ab,0,su [(x,-1),(z,1)]⟩]) (Nat.le_add_left 2 1) (show 2≠1 by decide) hlam (pair_all.mpr ⟨⟨bd2 (by decide) (by decide),rfl,.inl (su2 hxy).1⟩,bd2 (by decide) (by decide),rfl,.inr (su2 hxz).1⟩) hv
  ·refine decide_eq_true_iff.trans (ar3.trans (iff_congr Iff.rfl (exists_congr fun k=>?_)))
   rw [pair_all]
   show _↔¬ 0<val W _ _ _∧¬ 0<val W _ _ _
   rw [sy,sz]
theorem sp_kind (hlam:LamAt B "gone") {l:List Int} (hlen:l.length≤63) {x y z u:Str} (hx:x∈W) (hy:y∈W) (hz:z∈W) (hxy:x≠y) (hxz:x≠z) (hW:∀ t∈W,t=x∨t=y∨t=z) {v:Fn} (hl:∀ t,Lv 10 (v t)) {vs:List (Str×D)} (vy:dAt vs y=some (.int (v y))) (vz:dAt vs z=some (.int (v z))) :
  Spec B "_law_kind" NoX 3 [.ct (.lst (l.map .int)),.ct (.lst [.str x,.str y,.str z,.str u]),.ct (.dct vs)] fun q=>∃ (a:Bool) (d:D) (due:Bool) (bdy:Int→Prop),q=.im (.tup [.str (bif a then "some" else "all"),d,.bool due])∧Law9 B W x vs v a d bdy∧(due=true↔(a=true↔∃ k,bdy k)) :=
 .of_vc C.toEn F_kind b_kind C.f_kind k_kind rfl <| by
  refine (sp_cell C hlen (by decide) (by decide)).ex0 fun i=>?_
  have hm:=fmod_in (a:=i) (m:=40) (by decide)
  refine ⟨by decide,?_⟩
  exact kind_tail C w hlam hlen hx hy hz hxy hxz hW hl vy vz (by (clear hlen;lia)) (by (clear hlen;lia))
end
end Mine
end

section
open PySem PySem.W PyProof.Rows PySem.Calls PyProof
set_option backward.match.sparseCases false
set_option tactic.hygienic false
namespace Mine
theorem foldl_rep (x:Array Nat):∀ (n:Nat) (acc:Array Nat),((List.replicate n x).foldl (·++·) acc).size=acc.size+n*x.size
 | 0,acc=>by rw [Nat.zero_mul];rfl
 | n+1,acc=>by rw [List.replicate_succ,List.foldl_cons,foldl_rep x n,Array.size_append,Nat.add_one_mul,Nat.add_assoc,Nat.add_comm x.size]
theorem mul_length {x:Str} {n:Int} (h:1≤n):(Txt.mul x n).length=n.toNat*x.length:=by
 unfold Txt.mul
 rw [if_neg (Int.not_lt.mpr h)]
 split
 ·rename_i q
  rcases Bool.or_eq_true_iff.mp q with q | q
  ·rw [eq_of_beq q];exact (Nat.one_mul _).symm
  ·rw [eq_of_beq q,Nat.mul_zero]
 ·show Array.size _=_
  rw [foldl_rep];exact Nat.zero_add _
theorem slice1 {x:Str} (h:1≤x.length):(Txt.slice x none (some 1)).length=1:=by
 unfold Txt.slice
 have e:PySem.Builtin.Str.strSliceIndices none (some 1) 1 x.length=[0]:=by
  unfold PySem.Builtin.Str.strSliceIndices sliceRange
  have:max (0:Int) (min 1 (x.length:Int))=1:=by rw [Int.min_eq_left (show (1:Int)≤x.length from Int.ofNat_le.mpr h)];rfl
  simp [this]
 rw [e]
 split
 ·rename_i q;simp at q;(clear h;omega)
 ·show ([0].filterMap (x.cps[·]?)).toArray.size=1
  have:x.cps[0]?=some x.cps[0]:=Array.getElem?_eq_getElem (by unfold Str.length at h;omega)
  simp [this]
theorem nodup4 {α:Type} {f:Int→α} (h:∀ i j:Int,0≤i→i<j→j<4→f i≠f j):[f 0,f 1,f 2,f 3].Nodup:=by
 have h01:=h 0 1 (by decide) (by decide) (by decide)
 have h02:=h 0 2 (by decide) (by decide) (by decide)
 have h03:=h 0 3 (by decide) (by decide) (by decide)
 have h12:=h 1 2 (by decide) (by decide) (by decide)
 have h13:=h 1 3 (by decide) (by decide) (by decide)
 have h23:=h 2 3 (by decide) (by decide) (by decide)
 simp [h01,h02,h03,h12,h13,h23]
noncomputable def nmA (w:Str) (q k:Int):Str:=Txt.mul w (1+(k+q).fmod 8)
theorem nmA_len {w:Str} {q k:Int} (hw:w.length=1):((nmA w q k).length:Int)=1+(k+q).fmod 8:=by
 have:=fmod_in (a:=k+q) (m:=8) (by decide)
 unfold nmA
 rw [mul_length (Int.le_add_of_nonneg_right this.1),hw,Nat.mul_one,tn_eq (Int.add_nonneg (by decide) this.1)]
theorem mod8 {q i j:Int} (h0:0≤i) (h1:i<j) (h2:j<4) (e:(j+q) % 8=(i+q) % 8):False:=by
 rw [Int.add_comm j,Int.add_comm i] at e
 have:=md_sub e
 rw [Int.emod_eq_of_lt (by (clear e this;lia)) (by (clear e this;lia))] at this
 (clear e;lia)
theorem mod26 {q i j:Int} (h0:0≤i) (h1:i<j) (h2:j<4) (e:(q+7*i) % 26=(q+7*j) % 26):False:=by
 have:=md_sub e.symm
 rw [Int.emod_eq_of_lt (by (clear e this;lia)) (by (clear e this;lia))] at this
 (clear e;lia)
theorem nmA_nodup {w:Str} {q:Int} (hw:w.length=1):[nmA w q 0,nmA w q 1,nmA w q 2,nmA w q 3].Nodup:=by
 refine nodup4 (f:=nmA w q) fun i j h0 h1 h2 e=>?_
 have h3:=nmA_len (q:=q) (k:=i) hw
 rw [e,nmA_len hw,Int.fmod_eq_emod_of_nonneg _ (by decide),Int.fmod_eq_emod_of_nonneg _ (by decide)] at h3
 exact mod8 h0 h1 h2 (Int.add_left_cancel h3)
noncomputable def nmC (a b:Str) (q k:Int):Str:=a++(⟨#[97+((q+7*k).fmod 26).toNat]⟩:Str)++b
theorem nmC_nodup {a b:Str} {q:Int}:[nmC a b q 0,nmC a b q 1,nmC a b q 2,nmC a b q 3].Nodup:=by
 refine nodup4 (f:=nmC a b q) fun i j h0 h1 h2 e=>?_
 have e2:=congrArg Str.cps e
 have e3:(a.cps++#[97+((q+7*i).fmod 26).toNat]++b.cps).toList=(a.cps++#[97+((q+7*j).fmod 26).toNat]++b.cps).toList:=congrArg Array.toList e2
 rw [Int.fmod_eq_emod_of_nonneg _ (by decide),Int.fmod_eq_emod_of_nonneg _ (by decide)] at e3
 simp at e3
 exact mod26 h0 h1 h2 (tn_inj (Int.emod_nonneg _ (by decide)) (Int.emod_nonneg _ (by decide)) e3)
noncomputable def usualL:List Str:=["new","k","t","x","y","z","step","size","bound","some","and","above","nought","goes","not","or","all","far","low","high","name","newone","number","it","lined"]
theorem usual_nodup:usualL.Nodup:=by decide +kernel
theorem usual_ne:∀ s∈usualL,1≤s.length:=by decide +kernel
noncomputable def offs:Int→Int
 | 0=>0
 | 1=>7
 | 2=>12
 | _=>18
noncomputable def nmB (q k:Int):Str:=(usualL[((q+offs k).fmod 25).toNat]?).getD default
theorem nmB_at (q k:Int):∃ h:((q+offs k).fmod 25).toNat<usualL.length,nmB q k=usualL[((q+offs k).fmod 25).toNat]:=by
 have hm:=fmod_in (a:=q+offs k) (m:=25) (by decide)
 have h:((q+offs k).fmod 25).toNat<usualL.length:=by exact tn_lt hm
 exact ⟨h,by unfold nmB;rw [List.getElem?_eq_getElem h];rfl⟩
theorem nmB_nodup {q:Int}:[nmB q 0,nmB q 1,nmB q 2,nmB q 3].Nodup:=by
 have key:∀ i j:Int,nmB q i=nmB q j→(offs i-offs j) % 25=0:=fun i j e=>by
  refine e1_1 (nmB_at q i) ?_
  intro h1 e1
  refine e1_1 (nmB_at q j) ?_
  intro h2 e2
  rw [e1,e2] at e
  have:=(List.getElem_inj usual_nodup).mp e
  rw [Int.fmod_eq_emod_of_nonneg _ (by decide),Int.fmod_eq_emod_of_nonneg _ (by decide)] at this
  exact md_sub (tn_inj (Int.emod_nonneg _ (by decide)) (Int.emod_nonneg _ (by decide)) this)
 have no:∀ i j:Int,(offs i-offs j) % 25≠0→nmB q i≠nmB q j:=fun i j h e=>h (key i j e)
 simp [no 0 1 (by decide),no 0 2 (by decide),no 0 3 (by decide),no 1 2 (by decide),no 1 3 (by decide),no 2 3 (by decide)]
theorem tn18 {m:Int} (h:0≤m∧m<8):1≤(1+m).toNat∧(1+m).toNat≤8:=⟨Int.lt_toNat.mpr (Int.lt_of_lt_of_le (by decide:(0:Int)<1) (Int.le_add_of_nonneg_right h.1)),tn_le (m:=8) (by rw [Int.add_comm];exact h.2)⟩
theorem mulOk1 {x:Str} {m:Int} (hx:x.length=1) (h1:1≤m) (h8:m≤8):MulOk x m:=by
 refine ⟨?_,fun _ _=>?_,fun _ _=>?_⟩
 ·simp;(clear hx;omega)
 ·rw [hx]
  exact Int.not_lt.mpr (Int.le_ediv_of_mul_le (by (clear hx;omega)) (by (clear hx;omega)))
 ·rw [hx]
  have:1*m.toNat≤sizeLine:=Nat.le_trans (show _≤8 by (clear hx;omega)) (by decide)
  unfold PySem.Builtin.Str.tooLong
  simpa using this
theorem letters_at:∀ j:Nat,j<26→("abcdefghijklmnopqrstuvwxyz":Str).cps[j]?=some (97+j):=by decide +kernel
section
variable {B:Bs} (C:Cx B)
include C
theorem sp_names {c:Int}:Spec B "_law_names_by" NoX 1 [.im (.int c)] fun q=>∃ f:Int→Str,[f 0,f 1,f 2,f 3].Nodup∧(∀ k,1≤(f k).length)∧q=.fr (.lst [.str (f 0),.str (f 1),.str (f 2),.str (f 3)]) :=
 .of_vc C.toEn F_names_by b_names_by C.f_names_by k_names_by rfl <| by
  have m8:=fmod_in (a:=c) (m:=8) (by decide)
  have e8:=tn18 m8
  refine ⟨by decide,by decide,by decide,by omega,by omega,?_⟩
  refine loopI (fun l ρ=>∃ (w:Str) (num:Int) (x5:Option Sl),w.length+l.length=(1+c.fmod 8).toNat∧ρ=[some (.im (.int c)),some (.im (.str "abcdefghijklmnopqrstuvwxyz")),some (.im (.int (1+c.fmod 8))),some (.im (.str w)),some (.im (.int num)),x5,none,none]) (fun ρ h=>?_) (fun d l ρ h K hK=>?_) _ _ ⟨"",c,_,?_,rfl⟩
  ·refine e3_2 h ?_
   clear h
   intro w num x5 h1 ez2
   subst ez2
   rw [List.length_nil,Nat.add_zero] at h1
   have hw8:w.length≤8:=Nat.le_trans (Nat.le_of_eq h1) e8.2
   have hwl:w.length≤sizeLine:=Nat.le_trans hw8 (by decide)
   refine ⟨by decide,by decide,by decide,iB (fun q=>?_) fun q=>?_⟩
   ·refine ⟨by decide,by decide,by decide,by decide,?_⟩
    refine comp_of (g:=.int) (l:=[0,1,2,3]) (fun k=>some (.str (nmA (Txt.slice w none (some 1)) (c.fdiv 24) k))) (fun k hk K hK=>?_) (show 4≤sizeLine by decide) ?_
    ·have m:=fmod_in (a:=k+c.fdiv 24) (m:=8) (by decide)
     exact ⟨hwl,by decide,by decide,by decide,mulOk1 (slice1 (h1▸e8.1)) (by (clear hwl h1 m8;omega)) (by (clear hwl h1 m8;omega)),hK⟩
    ·exact ⟨nmA (Txt.slice w none (some 1)) (c.fdiv 24),nmA_nodup (slice1 (h1▸e8.1)),fun k=>by exact Int.ofNat_le.mp (nmA_len (q:=c.fdiv 24) (k:=k) (slice1 (x:=w) (h1▸e8.1))▸Int.le_add_of_nonneg_right (fmod_in (a:=k+c.fdiv 24) (m:=8) (by decide)).1),rfl⟩
   ·refine ⟨by decide,by decide,by decide,[1,4,7],rfl,iB (fun q=>?_) fun q=>?_⟩
    ·refine ⟨by decide,by decide,by decide,by decide,by decide,?_⟩
     refine comp_of (g:=.int) (l:=[0,1,2,3]) (fun k=>some (.str (nmB (c.fdiv 72) k))) (fun k hk K hK=>?_) (show 4≤sizeLine by decide) ?_
     ·have m:=fmod_in (a:=c.fdiv 72+offs k) (m:=25) (by decide)
      have hu:(usualL.map D.str)[((c.fdiv 72+offs k).fmod 25).toNat]?=some (.str (nmB (c.fdiv 72) k)):=by
       refine e1_1 (nmB_at (c.fdiv 72) k) ?_
       intro h e
       rw [List.getElem?_map,List.getElem?_eq_getElem h,e];rfl
      have hk':k=0∨k=1∨k=2∨k=3:=by simpa using hk
      rcases hk' with rfl | rfl | rfl | rfl <;> exact ⟨by decide,by decide,by decide,by decide,by decide,m.1,Int.lt_trans m.2 (by decide),optW.of hu hK⟩
     ·exact ⟨nmB (c.fdiv 72),nmB_nodup,fun k=>by obtain ⟨h,e⟩:=nmB_at (c.fdiv 72) k;rw [e];exact usual_ne _ (List.getElem_mem h),rfl⟩
    ·refine ⟨by decide,by decide,by (clear hwl h1;omega),by decide,by decide,by decide,by decide,?_⟩
     refine comp_of (g:=.int) (l:=[0,1,2,3]) (fun k=>some (.str (nmC (Txt.slice w none (some ((c.fdiv 24).fmod (1+c.fmod 8)))) (Txt.slice w (some ((c.fdiv 24).fmod (1+c.fmod 8)+1)) none) (c.fdiv 192) k))) (fun k hk K hK=>?_) (show 4≤sizeLine by decide) ?_
     ·have m:=fmod_in (a:=c.fdiv 192+7*k) (m:=26) (by decide)
      have hs1:=Txt.slice_le w none (some ((c.fdiv 24).fmod (1+c.fmod 8)))
      have hs2:=Txt.slice_le w (some ((c.fdiv 24).fmod (1+c.fmod 8)+1)) none
      refine ⟨hwl,by decide,by decide,IntMulOk.of_left (by decide),by decide,m.1,Int.lt_trans m.2 (by decide),optW.of (letters_at _ (tn_lt m)) ⟨?_,hwl,?_,hK⟩⟩
      ·exact Nat.le_trans (show _≤64 from Nat.le_trans (Nat.succ_le_succ (Nat.le_trans hs1 hw8)) (by decide)) (by decide)
      ·refine Nat.le_trans (show _≤64 from ?_) (by decide)
       have:(Txt.slice w none (some ((c.fdiv 24).fmod (1+c.fmod 8)))++(⟨#[97+((c.fdiv 192+7*k).fmod 26).toNat]⟩:Str)).length=(Txt.slice w none (some ((c.fdiv 24).fmod (1+c.fmod 8)))).length+1:=Array.size_append
       rw [this];exact Nat.le_trans (Nat.add_le_add (Nat.succ_le_succ (Nat.le_trans hs1 hw8)) (Nat.le_trans hs2 hw8)) (by decide)
     ·exact ⟨nmC _ _ (c.fdiv 192),nmC_nodup,fun k=>by
       show 1≤(_++#[_]++_:Array Nat).size
       rw [Array.size_append,Array.size_append]
       show 1≤_+1+_
       exact Nat.le_trans (Nat.le_add_left 1 _) (Nat.le_add_right _ _),rfl⟩
  ·refine e3_2 h ?_
   clear h
   intro w num x5 h1 ez3
   clear m8;subst ez3
   rw [List.length_cons] at h1
   refine ⟨IntMulOk.of_right (by decide),by decide,by decide,by decide,by decide,?_⟩
   generalize (num*48271+11).fmod 2147483647=num'
   have m:=fmod_in (a:=num'.fdiv 7) (m:=26) (by decide)
   refine ⟨m.1,Int.lt_trans m.2 (by decide),optW.of (letters_at _ (tn_lt m)) ⟨?_,hK _ ⟨_,_,_,?_,rfl⟩⟩⟩
   ·exact Nat.le_trans (show _≤64 from Nat.le_trans (Nat.le_trans (Nat.add_le_add_left (Nat.le_add_left 1 _) _) (h1▸e8.2)) (by decide:8≤64)) (by decide)
   ·have:(w++(⟨#[97+((num'.fdiv 7).fmod 26).toNat]⟩:Str)).length=w.length+1:=Array.size_append
    rw [this,Nat.add_assoc,Nat.add_comm 1];exact h1
  ·rw [intsFrom_length]
   show 0+_=_
   rw [Nat.zero_add,Int.sub_zero]
end
end Mine
end

section
open PySem PySem.W PyProof.Rows PySem.Calls PyProof
set_option backward.match.sparseCases false
set_option tactic.hygienic false
namespace Mine
section
variable {B:Bs} (C:Cx B)
include C
theorem law_rest (hlam:LamAt B "gone") {l:List Int} (hlen:l.length≤63) {x y z u:Str} (hxy:x≠y) (hxz:x≠z) (hyz:y≠z) (h1:1≤x.length) (h2:1≤y.length) (h3:1≤z.length) {v:Fn} (hl:∀ t,Lv 10 (v t)) {vs:List (Str×D)} (vy:dAt vs y=some (.int (v y))) (vz:dAt vs z=some (.int (v z))) (hvs:vs.length≤3) :
  wpSs B 10 (tln 5 b_law) [some (.fz (.lst (l.map .int))),some (.own (.lst [.str x,.str y,.str z,.str u])),some (.own (.dct vs)),none,none,none,none,none,none] (RetOk fun q=>q=.im (.bool true)):=by
 have w:Wd (srt [x,y,z]):=⟨(srt_perm _).nodup_iff.mpr (by simp [hxy,hxz,hyz]),srt_sorted _,by rw [(srt_perm _).length_eq];exact Nat.le_refl 3⟩
 have hm:∀ t,t∈srt [x,y,z]↔t=x∨t=y∨t=z:=fun t=>by rw [(srt_perm _).mem_iff];simp
 generalize srt [x,y,z]=W at w hm
 have hx:=(hm x).mpr (.inl rfl)
 have hy:=(hm y).mpr (.inr (.inl rfl))
 have hz:=(hm z).mpr (.inr (.inr rfl))
 refine (sp_kind C w hlam hlen hx hy hz hxy hxz (fun t ht=>(hm t).mp ht) hl vy vz).to fun r hr=>?_
 refine e4_3 hr ?_
 clear hr
 intro a d due bdy ez1 L hd
 subst ez1
 have tail:∀ (d2:Bool) (x3 x6 x7:Option Sl),(d2=true↔∃ k,bdy k)→wpSs B 10 (tln 11 b_law) [some (.fz (.lst (l.map .int))),some (.own (.lst [.str x,.str y,.str z,.str u])),some (.own (.dct vs)),x3,some (.im (bif a then d else neg d)),some (.im (.bool d2)),x6,x7,none] (RetOk fun q=>q=.im (.bool true)):=fun d2 x3 x6 x7 h=>by
  refine ⟨by decide,?_⟩
  refine L.told.ex fun r hr=>?_
  obtain ⟨rfl,hr⟩ | ⟨k,rfl,lk,hr⟩:=hr
  ·have:d2=false:=Bool.eq_false_iff.mpr fun q=>e1_1 (h.mp q) fun k z=>hr k z
   clear h;subst this
   rfl
  ·have:d2=true:=h.mpr ⟨k,hr⟩
   clear h;subst this
   refine (sp_whole C).eq ?_
   refine ⟨by decide,Nat.le_trans hvs (by decide),?_⟩
   refine (L.ltrue k _ lk fun t ht=>?_).to (fun r hr'=>?_) (by decide)
   ·by_cases q:t=x
    ·clear ht hx hm h1 hxz hxy;subst q
     exact .inl ⟨rfl,by rw [dAt_sto,if_pos rfl]⟩
    ·exact .inr ⟨q,fun _=>by rw [dAt_sto,if_neg q]⟩
   ·refine e1_2 hr' ?_
    clear hr'
    intro z ez2 hr'
    subst ez2
    have:z=true:=hr'.mpr hr
    clear hr';subst this
    rfl
 refine e2_2 L.left ?_
 intro tg den hden hL
 refine ⟨by decide,?_⟩
 refine L.holds.ex fun b hb=>?_
 have:b=due:=Bool.eq_iff_iff.mpr (hb.trans hd.symm)
 clear hd;subst this
 refine (sp_same C).eq ?_
 refine hL.ex fun q' hq=>?_
 refine ⟨show 4≤sizeLine by decide,?_⟩
 refine (sp_plain_is C w (ns:=[y,z]) (fun t ht=>?_) (fun t ht q=>?_) hq.tr).eq ?_
 ·rcases (hm t).mp ht with rfl | rfl | rfl
  ·exact h1
  ·exact h2
  ·exact h3
 ·rcases (hm t).mp ht with rfl | rfl | rfl
  ·rfl
  ·exact absurd (List.mem_cons_self ..) q
  ·exact absurd (List.mem_cons_of_mem _ (List.mem_cons_self ..)) q
 ·refine (sp_is_true C w (vs:=vs) (v:=v) (P:=SetP W 38 tg fun y=>y=x) (fun t=>(hl t).mono (by decide)) (fun e he=>⟨fun t ht h0=>?_,fun t=>(he.bd.2 t).mono (by decide),fun m e'=>?_⟩) hq.tr).ex fun b2 hb2=>?_
  ·rcases (hm t).mp ht with rfl | rfl | rfl
   ·exact absurd (he.z _ ht rfl) h0
   ·exact vy
   ·exact vz
  ·rcases he.t with q | ⟨_,m',q,h,_⟩ <;> rw [e'] at q <;> cases q
   exact h
  ·have:b2=b:=Bool.eq_iff_iff.mpr ((hb2.trans hden).trans hb.symm)
   (try clear hb2;try clear hd);subst this
   refine (sp_same C).eq ?_
   cases a with
   | true=>exact tail b2 _ _ _ (hb.trans ⟨fun q=>q.mp rfl,fun q=>⟨fun _=>q,fun _=>rfl⟩⟩)
   | false =>
    refine tail (!b2) _ _ _ ?_
    rw [Bool.not_eq_true',Bool.eq_false_iff,ne_eq,hb]
    exact ⟨fun q=>Classical.byContradiction fun z=>q ⟨nofun,fun y=>absurd y z⟩,fun q z=>by cases z.mpr q⟩
theorem sp_law (hlam:LamAt B "gone") {l:List Int} (hlen:l.length≤63):Spec B "law" NoX 11 [.ct (.lst (l.map .int))] fun q=>q=.im (.bool true) :=
 .of_vc C.toEn F_law b_law C.f_law k_law rfl <| by
  have cell:∀ {k:Int} {Q:Rs→Prop},0≤k→k<100→(∀ i,Q (.im (.int i)))→Spec B "_law_cell_at" NoX 10 [.ct (.lst (l.map .int)),.im (.int k)] Q:=fun {k Q} h0 h1 q=>(sp_cell C hlen h0 h1).to fun r hr=>e1_1 hr fun i rz1=>by clear hr;obtain rfl:=rz1;exact q i
  have big:∀ {c:Int} {Q:Rs→Prop},(∀ i,Lv 3 i→Q (.im (.int i)))→Spec B "_law_big_by" NoX 10 [.im (.int c)] Q:=fun {c Q} q=>(sp_big C).to fun r hr=>e1_2 hr fun i rz2 h=>by clear hr;obtain rfl:=rz2;exact q i h
  refine cell (by decide) (by decide) fun i0=>?_
  refine (sp_names C).to fun r hr=>?_
  refine e1_3 hr ?_
  clear hr
  intro f nd ne ez3
  subst ez3
  have d01:f 0≠f 1:=fun e=>by rw [e] at nd;simp at nd
  have d02:f 0≠f 2:=fun e=>by rw [e] at nd;simp at nd
  have d12:f 1≠f 2:=fun e=>by rw [e] at nd;simp at nd
  have go:∀ (i1 i2:Int) (vs:List (Str×D)),Lv 4 i1→Lv 4 i2→(∀ t,dAt vs t=if t=f 2 then some (.int i2) else if t=f 1 then some (.int i1) else none)→vs.length≤3 →
    wpSs B 10 (tln 5 b_law) [some (.fz (.lst (l.map .int))),some (.own (.lst [.str (f 0),.str (f 1),.str (f 2),.str (f 3)])),some (.own (.dct vs)),none,none,none,none,none,none] (RetOk fun q=>q=.im (.bool true)):=fun i1 i2 vs l1 l2 hv hs =>
   law_rest C hlam hlen d01 d02 d12 (ne 0) (ne 1) (ne 2) (v:=fun t=>if t=f 2 then i2 else if t=f 1 then i1 else 0) (fun t=>by
    show Lv 10 (if t=f 2 then i2 else if t=f 1 then i1 else 0)
    split
    ·exact l2.mono (by decide)
    ·split
     ·exact l1.mono (by decide)
     ·exact lv1.1.mono (by decide)) (by rw [hv,if_neg d12,if_pos rfl];show _=some (D.int (if f 1=f 2 then i2 else if f 1=f 1 then i1 else 0));rw [if_neg d12,if_pos rfl]) (by rw [hv,if_pos rfl];show _=some (D.int (if f 2=f 2 then i2 else if f 2=f 1 then i1 else 0));rw [if_pos rfl]) hs
  refine cell (by decide) (by decide) fun i1=>?_
  refine big fun v1 l1=>?_
  refine ⟨by decide,by decide,?_⟩
  refine cell (by decide) (by decide) fun i2=>?_
  refine big fun v2 l2=>?_
  have n1:∀ t,dAt (dSto [] (f 1) (.int v1)) t=if t=f 1 then some (.int v1) else none:=fun t=>dAt_sto [] (f 1) t (.int v1)
  have n2:∀ t,dAt (dSto (dSto [] (f 1) (.int v1)) (f 2) (.int v2)) t=if t=f 2 then some (.int v2) else if t=f 1 then some (.int v1) else none:=fun t=>by rw [dAt_sto,n1]
  have s1:=dSto_len [] (f 1) (.int v1)
  have s2:=dSto_len (dSto [] (f 1) (.int v1)) (f 2) (.int v2)
  have s1:(dSto [] (f 1) (.int v1)).length≤0+1:=s1
  refine ⟨by decide,Nat.le_trans s1 (by decide),?_⟩
  refine cell (by decide) (by decide) fun i5=>?_
  refine ⟨by decide,iB (fun q=>?_) fun q=>?_⟩
  ·refine ⟨by decide,optW.of rfl (optW.of ((n2 (f 1)).trans (by rw [if_neg d12,if_pos rfl])) ?_)⟩
   refine cell (by decide) (by decide) fun i6=>?_
   refine ⟨by decide,by decide,by decide,by decide,Nat.le_trans (Nat.le_trans s2 (Nat.succ_le_succ s1)) (by decide),?_⟩
   have m:=fmod_in (a:=i6.fdiv 2) (m:=13) (by decide)
   have s3:=dSto_len (dSto (dSto [] (f 1) (.int v1)) (f 2) (.int v2)) (f 2) (.int (v1+(i6.fdiv 2).fmod 13))
   refine go v1 (v1+(i6.fdiv 2).fmod 13) _ (l1.mono (by decide)) (Lv.add l1 (Lv.mono (j:=1) (lv_small (na_lt (m:=13) m (by decide))) (by decide))) (fun t=>?_) (Nat.le_trans s3 (Nat.succ_le_succ (Nat.le_trans s2 (Nat.succ_le_succ s1))))
   rw [dAt_sto,n2]
   by_cases q:t=f 2
   ·rw [if_pos q,if_pos q]
   ·rw [if_neg q,if_neg q,if_neg q]
  ·exact go v1 v2 _ (l1.mono (by decide)) (l2.mono (by decide)) n2 (Nat.le_trans (Nat.le_trans s2 (Nat.succ_le_succ s1)) (by decide))
end
end Mine
end

section
open PySem PySem.W PyProof.Rows PySem.Calls PyProof
namespace Mine
section
variable {p:Program} {loose:List Str} {mean:ExcName→Option Value} {mg mb:Str→Option Value} {h:Heap} {c P:Addr} (T:Top p loose mean mg mb h) (hT:TabsAt [(c,P)] h) (prog:Program) (w:World)
noncomputable def Bs.ofTop:Bs :=
 {prog:=prog,w:=w,hB:=ghostOf h [(c,P)],mg:=mg,mb:=mb,g:=ghost_ns hT T.g,b:=ghost_ns hT T.b,bu:=T.builtins,lim:=(ghost_top hT T).nolimit,quiet:=true,
  tab:=fun Q=>Q=P,qn:=fun _=>"gone.<locals>.<lambda>",tabNew:=fun Q e=>e▸hideAll_none _ (List.mem_cons_self ..) }
theorem FnAt.ofTop (d:DefRec) {i:Nat} (hd:(recsOf p)[i]?=Option.some d) {f names body scope} (h1:d.name=f) (h2:d.body=body) (h3:d.scope=scope)
  (hb:∀ pm code doc vs,vs.length=names.length→bindArgs (docDef d.name d.params d.body d.scope pm code doc) ⟨vs,[]⟩=pure (names.zip vs))
  (co:scope.isCoroutine=false) (gen:scope.isGenerator=false) (cells:((cellsFrom 0 scope.names []).map (·.1)).Nodup):FnAt (Bs.ofTop T hT prog w) f names body scope:=by
 refine e5_4 (T.fn d (List.mem_of_getElem? hd)) ?_
 intro a o pm code doc e1 e2 e3 ez1
 refine e4_4 ez1 ?_
 clear ez1
 intro c' o' vs t q1 q2 q3 q4
 subst h1 h2 h3
 exact ⟨⟨a,o,_,e1,ghost_get hT e2 (fun q=>by rw [q] at e3;cases e3),e3,rfl,rfl,rfl,rfl,rfl,⟨c',o',vs,t,q1,ghost_get hT q2 (fun q=>by rw [q] at q3;cases q3;cases q4),q3,q4⟩,fun vs hv=>hb pm code doc vs hv⟩,co,gen,cells⟩
include T in
theorem tabOf (d:DefRec) {i:Nat} (hd:(recsOf p)[i]?=Option.some d):∃ a o pm doc c P,mg d.name=some (.ref a)∧h.get? a=some o∧o.data=.func (docDef d.name d.params d.body d.scope pm (.ref c) doc)∧TabsAt [(c,P)] h:=by
 refine e5_6 (T.tab d (List.mem_of_getElem? hd)) ?_
 intro a o fd c P e1 e2 e3 e4 e5 e6
 refine e5_4 (T.fn d (List.mem_of_getElem? hd)) ?_
 intro a' o' pm code doc f1 f2 f3 _
 rw [e1] at f1;cases f1
 rw [e2] at f2;cases f2
 rw [e3] at f3;cases f3
 have e4:code=.ref c:=e4
 subst e4
 exact ⟨a,o,pm,doc,c,P,e1,e2,e3,fun q hq=>by cases List.mem_singleton.mp hq;exact ⟨.of e5 e6,e6.2⟩⟩
theorem LamAt.ofTop {f:Str} {a:Addr} {o:Obj} {params body scope pm doc} (hq:f++".<locals>."++"<lambda>"="gone.<locals>.<lambda>") (e1:mg f=some (.ref a)) (e2:h.get? a=some o) (e3:o.data=.func (docDef f params body scope pm (.ref c) doc)):LamAt (Bs.ofTop T hT prog w) f:=by
 refine e2_6 T.bmain ?_
 intro bm ob b1 b2 b3 b4 b5 b6
 refine ⟨a,o,_,c,P,e1,ghost_get hT e2 (fun q=>by rw [q] at e3;cases e3),e3,rfl,rfl,(ghost_code hT).1,hq,bm,ob,b1,b2,fun q=>?_,fun q=>?_,ghost_get hT b3 (fun q=>by rw [q] at b4;cases b4),b4,b5,b6⟩
 ·refine e3_3 T.g ?_
  intro o' es ep g1 g2 _
  rw [q,g1] at b3;cases b3
  rw [g2] at b6;cases b6
 ·have:=(hT _ (List.mem_cons_self ..)).2
  rw [q] at b3
  rw [this] at b3;cases b3
  cases b4
end
theorem IntsAre.ims {h:Heap}:∀ {vs:List Value} {is:List Int},IntsAre vs is→Ims h vs (is.map .int)
 | _,_,.nil=>.nil
 | _,_,.cons _ t r=>.cons (.int _ t) (IntsAre.ims r)
theorem script {P:Params} {h:Heap} {B:Bs} {a:Addr} {vs:List Value} {is:List Int} {x:WData} (w1:Well P h (.ref a) x) (hx:∃ xs,x=.list xs) (hl:h.IsList a vs.toArray) (hi:IntsAre vs is):ContAt B h a (.lst (is.map .int)):=by
 refine e1_1 hx ?_
 clear hx
 intro xs ez2
 subst ez2
 cases w1 with
 | list e hw =>
  refine e1_3 hl ?_
  clear hl
  intro o ho hc ez3
  refine e1_1 ez3 ?_
  clear ez3
  intro k hd
  rw [e] at ho;cases ho
  exact ⟨_,_,_,e,⟨rfl,rfl⟩,hd,IntsAre.ims hi⟩
theorem post_ok (l:OpenLaw) (args:List WData):l.row.claim.post args (.bool true) args=true:=by
 show (WShape.has [] (.bool true) .bool&&WTm.holds [] (.eq .res (.lit (.bool true))) { args:=args,res:=some (.bool true),after:=args })=true
 rw [Bool.and_eq_true]
 refine ⟨by decide +kernel,?_⟩
 unfold WTm.holds
 simp only [WTm.value]
 rw [show PySem.W.same (WData.bool true) (WData.bool true)=true by decide +kernel]
theorem ends {l:OpenLaw} {p:Program} {loose mean mg mb} {s₁:Shared} {w:World} (T:Top p loose mean mg mb s₁.heap) {c P:Addr} (hT:TabsAt [(c,P)] s₁.heap) {f:Str} {fa a:Addr} {is:List Int} {cl:Str→Option Addr} {args:List WData} (N:Nat) (hN:N<600)
  (sp:Spec (Bs.ofTop T hT l.row.prog w) f NoX N [.ct (.lst (is.map .int))] fun q=>q=.im (.bool true)) (hm:mg f=some (.ref fa)) (ha:ContAt (Bs.ofTop T hT l.row.prog w) s₁.heap a (.lst (is.map .int))) (hg:s₁.gens=#[])
  (hp:l.row.claim.post args (.bool true) args=true) (hr:∀ a cls,l.row.claim.raises a cls=false) :
  wpAny (model l.row.prog w) callerA (call (.ref fa) [.ref a]) (fun v s'=>GoodWG l.row.claim cl mean args s₁ (Except.ok (Flow.ret v)) s') (fun e s'=>GoodWG l.row.claim cl mean args s₁ (Except.error e) s') s₁:=by
 refine e3_4 sp ?_
 clear sp
 intro fa' o fd h1 h2 h3 h4
 have:fa'=fa:=by
  have e:mg f=some (.ref fa'):=h1
  rw [hm] at e;cases e;rfl
 subst this
 have hP:=(hT _ (List.mem_cons_self ..)).2
 refine wpAny_call (codeAny_mono (kn_post (cl:=cl) (mean:=mean) (args:=args) hT hr (codeAny_mono (h4 callerA s₁ [.ref a] (fun b o e=>of_hideAll _ e) ⟨?_,?_,fun _=>rfl,⟨[],rfl,trivial,fun L hL=>by cases hL⟩,fun Q e=>by cases e;exact ⟨#[],hP,trivial,fun pos v hv=>by cases hv⟩⟩ rfl ?_) fun r s' x=>?_)) fun r s' x=>?_)
 ·show 1+claimMargin+N<recursionLimit
  have:claimMargin=300:=rfl
  have:recursionLimit=1000:=rfl
  omega
 ·show 4+10*N<cLine
  have:cLine=9900:=rfl
  omega
 ·intro i v g e1 e2
  match i,e1,e2 with
  | 0,e1,e2=>cases e1;cases e2;exact ⟨a,rfl,ha⟩
  | i+1,e1,e2=>simp at e1
 ·match r,x with
  | .ok (.ret v),⟨q,hq,k,hv⟩ =>
   subst hq
   cases hv
   refine ⟨⟨.inl ⟨_,.bool true,[],rfl,hr _,.bool true,hp,fun _=>⟨List.nodup_nil,fun a ha=>by cases ha⟩⟩,fun b o e=>k.keep b o (of_hideAll _ e) (fun x=>x) (.inr ?_),k.os,k.gens.trans hg⟩,?_,trivial⟩
   ·show ((ghostOf s₁.heap [(c,P)]).get? b).isSome=true
    rw [show (ghostOf s₁.heap [(c,P)]).get? b=some o from e];rfl
   ·obtain ⟨ps,q,_⟩:=k.tabs (fun Q e=>by cases e;exact ⟨#[],hP,trivial,fun pos v hv=>by cases hv⟩) P rfl
    exact ⟨ps,q⟩
  | .ok .next,x=>exact x.elim
  | .ok .brk,x=>exact x.elim
  | .ok .cont,x=>exact x.elim
  | .error e,x=>exact (EP.no (B:=Bs.ofTop T hT l.row.prog w) (s:=s₁) (e:=e) (s':=s') x).elim
 ·have no:∀ fl,r=.ok fl→(∀ v,fl≠.ret v)→False:=fun fl e hn=>by
   subst e
   refine e0_2 x ?_
   clear x
   intro ez4 _
   obtain ⟨v,_,_,q,_⟩ | ⟨_,_,_,q,_⟩:=ez4
   ·cases q;exact hn v rfl
   ·cases q
  match r,x,no with
  | .ok (.ret v),x,_=>exact x
  | .ok .next,x,no=>exact no _ rfl nofun
  | .ok .brk,x,no=>exact no _ rfl nofun
  | .ok .cont,x,no=>exact no _ rfl nofun
  | .error e,x,_=>exact x
end Mine
end

section
open PySem PySem.W PyProof.Rows PySem.Calls PyProof
namespace Mine
section
variable {B:Bs} (X:(kf B.w.params).In B.hB)
include X
theorem c_YES:∃ v,B.mg "YES"=some v∧Im B.hB v (.tup [.str "and",.tup []]):=⟨.ref 96,mgOf X B.g (by kernel_rfl),Im.tup (X 96 ({ cls:=Value.type "tuple",data:=Data.seq #[Value.str (Str.ofString "and") 299,Value.ref 95] }:Obj) (by kernel_rfl)) rfl rfl (.cons (.str _ _) (.cons (Im.tup (X 95 ({ cls:=Value.type "tuple",data:=Data.seq #[] }:Obj) (by kernel_rfl)) rfl rfl (.nil)) (.nil)))⟩
theorem c_NO:∃ v,B.mg "NO"=some v∧Im B.hB v (.tup [.str "or",.tup []]):=⟨.ref 98,mgOf X B.g (by kernel_rfl),Im.tup (X 98 ({ cls:=Value.type "tuple",data:=Data.seq #[Value.str (Str.ofString "or") 301,Value.ref 97] }:Obj) (by kernel_rfl)) rfl rfl (.cons (.str _ _) (.cons (Im.tup (X 97 ({ cls:=Value.type "tuple",data:=Data.seq #[] }:Obj) (by kernel_rfl)) rfl rfl (.nil)) (.nil)))⟩
theorem c_ATOMS:∃ v,B.mg "ATOMS"=some v∧Im B.hB v (.tup [.str "above",.str "nought",.str "goes"]):=⟨.ref 199,mgOf X B.g (by kernel_rfl),Im.tup (X 199 ({ cls:=Value.type "tuple",data:=Data.seq #[Value.str (Str.ofString "above") 427,Value.str (Str.ofString "nought") 428,Value.str (Str.ofString "goes") 429] }:Obj) (by kernel_rfl)) rfl rfl (.cons (.str _ _) (.cons (.str _ _) (.cons (.str _ _) (.nil))))⟩
theorem c_BINDING:∃ v,B.mg "BINDING"=some v∧Im B.hB v (.tup [.str "some",.str "all"]):=⟨.ref 200,mgOf X B.g (by kernel_rfl),Im.tup (X 200 ({ cls:=Value.type "tuple",data:=Data.seq #[Value.str (Str.ofString "some") 431,Value.str (Str.ofString "all") 432] }:Obj) (by kernel_rfl)) rfl rfl (.cons (.str _ _) (.cons (.str _ _) (.nil)))⟩
theorem c_glo:∀ (k:Nat) (p:Str×D),G9[k]?=some p→∃ v,B.mg p.1=some v∧Im B.hB v p.2
 | 0,_,rfl=>c_YES X
 | 1,_,rfl=>c_NO X
 | 2,_,rfl=>c_ATOMS X
 | 3,_,rfl=>c_BINDING X
theorem c_neat:∃ fa o fd,B.mg "neat_atom"=some (.ref fa)∧B.hB.get? fa=some o∧o.cls=.type "function"∧o.data=.func fd :=
 ⟨155,_,_,mgOf X B.g (by kernel_rfl),X 155 ({ cls:=Value.type "function",data:=Data.func (docDef (recOf pw 23).name (recOf pw 23).params (recOf pw 23).body (recOf pw 23).scope (Value.str (Str.ofString "somenumber.neats") 297) (Value.ref 154) Value.none) }:Obj) (by kernel_rfl),rfl,rfl⟩
end
end Mine
end

section
open PySem PySem.W PyProof.Rows PySem.Calls PyProof
set_option maxHeartbeats 8000000
namespace Mine
theorem recs9:recsOf view9=[recOf pw 5,recOf pw 6,recOf pw 7,recOf pw 8,recOf pw 9,recOf pw 10,recOf pw 11,recOf pw 15,recOf pw 16,recOf pw 17,recOf pw 18,recOf pw 19,recOf pw 20,recOf pw 21,recOf pw 22,recOf pw 23,recOf pw 24,recOf pw 25,recOf pw 26,recOf pw 27,recOf pw 28,recOf pw 29,recOf pw 30,recOf pw 34,recOf pw 35,recOf pw 36,recOf pw 37,recOf pw 38,recOf pw 39,recOf pw 40,recOf pw 41,recOf pw 42,recOf pw 44,recOf pw 45,recOf pw 46,recOf pw 47,recOf pw 48,recOf pw 49,recOf pw 50,recOf pw 51,recOf pw 52,recOf pw 54,recOf pw 55,recOf pw 56,recOf pw 57,recOf pw 59,recOf pw 60,recOf pw 61,recOf pw 62,recOf pw 63,recOf pw 64,recOf pw 65,recOf pw 66,recOf pw 67,recOf pw 68,recOf pw 69,recOf pw 70]:=by kernel_rfl
section
variable {loose:List Str} {mean:ExcName→Option Value} {mg mb:Str→Option Value} {h:Heap} {c P:Addr} (T:Top view9 loose mean mg mb h) (hT:TabsAt [(c,P)] h) (prog:Program) (w:World)
include T in
theorem non_of {f:Str} (hlo:loose=looseW view9 []) (hf:non9.contains f=true):mg f=none:=by
 have key:∀ x∈non9,x∉startupNames∧x∉looseW view9 []∧x∉(recsOf view9).map (·.name)∧x∉(litsOf view9).map (·.1)∧x∉(clssOf view9 (looseW view9 [])).map (·.name):=by decide +kernel
 subst hlo
 obtain ⟨h1,h0,h2,h3,h4⟩:=key f (List.contains_iff_mem.mp hf)
 exact T.free f h1 h0 h2 h3 h4
theorem t_made:FnAt (Bs.ofTop T hT prog w) "made" ["number","pairs"] (bodyOf pw 5) (scopeOf pw 5):=FnAt.ofTop T hT prog w (recOf pw 5) (i:=0) (congrArg (·[0]?) recs9) (by kernel_rfl) rfl rfl (fun pm code doc vs hv=>by obtain ⟨a,b,rfl⟩:=len2 hv;rfl) rfl rfl (by decide +kernel)
theorem t_added:FnAt (Bs.ofTop T hT prog w) "added" ["one","other"] (bodyOf pw 6) (scopeOf pw 6):=FnAt.ofTop T hT prog w (recOf pw 6) (i:=1) (congrArg (·[1]?) recs9) (by kernel_rfl) rfl rfl (fun pm code doc vs hv=>by obtain ⟨a,b,rfl⟩:=len2 hv;rfl) rfl rfl (by decide +kernel)
theorem t_times:FnAt (Bs.ofTop T hT prog w) "times" ["number","one"] (bodyOf pw 7) (scopeOf pw 7):=FnAt.ofTop T hT prog w (recOf pw 7) (i:=2) (congrArg (·[2]?) recs9) (by kernel_rfl) rfl rfl (fun pm code doc vs hv=>by obtain ⟨a,b,rfl⟩:=len2 hv;rfl) rfl rfl (by decide +kernel)
theorem t_share:FnAt (Bs.ofTop T hT prog w) "share" ["one","name"] (bodyOf pw 8) (scopeOf pw 8):=FnAt.ofTop T hT prog w (recOf pw 8) (i:=3) (congrArg (·[3]?) recs9) (by kernel_rfl) rfl rfl (fun pm code doc vs hv=>by obtain ⟨a,b,rfl⟩:=len2 hv;rfl) rfl rfl (by decide +kernel)
theorem t_without:FnAt (Bs.ofTop T hT prog w) "without" ["one","name"] (bodyOf pw 9) (scopeOf pw 9):=FnAt.ofTop T hT prog w (recOf pw 9) (i:=4) (congrArg (·[4]?) recs9) (by kernel_rfl) rfl rfl (fun pm code doc vs hv=>by obtain ⟨a,b,rfl⟩:=len2 hv;rfl) rfl rfl (by decide +kernel)
theorem t_put_in:FnAt (Bs.ofTop T hT prog w) "put_in" ["one","name","other"] (bodyOf pw 10) (scopeOf pw 10):=FnAt.ofTop T hT prog w (recOf pw 10) (i:=5) (congrArg (·[5]?) recs9) (by kernel_rfl) rfl rfl (fun pm code doc vs hv=>by obtain ⟨a,b,c,rfl⟩:=len3 hv;rfl) rfl rfl (by decide +kernel)
theorem t_value:FnAt (Bs.ofTop T hT prog w) "value" ["one","values"] (bodyOf pw 11) (scopeOf pw 11):=FnAt.ofTop T hT prog w (recOf pw 11) (i:=6) (congrArg (·[6]?) recs9) (by kernel_rfl) rfl rfl (fun pm code doc vs hv=>by obtain ⟨a,b,rfl⟩:=len2 hv;rfl) rfl rfl (by decide +kernel)
theorem t_gcd:FnAt (Bs.ofTop T hT prog w) "gcd" ["one","other"] (bodyOf pw 15) (scopeOf pw 15):=FnAt.ofTop T hT prog w (recOf pw 15) (i:=7) (congrArg (·[7]?) recs9) (by kernel_rfl) rfl rfl (fun pm code doc vs hv=>by obtain ⟨a,b,rfl⟩:=len2 hv;rfl) rfl rfl (by decide +kernel)
theorem t_lcm:FnAt (Bs.ofTop T hT prog w) "lcm" ["one","other"] (bodyOf pw 16) (scopeOf pw 16):=FnAt.ofTop T hT prog w (recOf pw 16) (i:=8) (congrArg (·[8]?) recs9) (by kernel_rfl) rfl rfl (fun pm code doc vs hv=>by obtain ⟨a,b,rfl⟩:=len2 hv;rfl) rfl rfl (by decide +kernel)
theorem t_common_of:FnAt (Bs.ofTop T hT prog w) "common_of" ["one","first"] (bodyOf pw 17) (scopeOf pw 17):=FnAt.ofTop T hT prog w (recOf pw 17) (i:=9) (congrArg (·[9]?) recs9) (by kernel_rfl) rfl rfl (fun pm code doc vs hv=>by obtain ⟨a,b,rfl⟩:=len2 hv;rfl) rfl rfl (by decide +kernel)
theorem t_divided:FnAt (Bs.ofTop T hT prog w) "divided" ["one","number"] (bodyOf pw 18) (scopeOf pw 18):=FnAt.ofTop T hT prog w (recOf pw 18) (i:=10) (congrArg (·[10]?) recs9) (by kernel_rfl) rfl rfl (fun pm code doc vs hv=>by obtain ⟨a,b,rfl⟩:=len2 hv;rfl) rfl rfl (by decide +kernel)
theorem t_turned:FnAt (Bs.ofTop T hT prog w) "turned" ["statement"] (bodyOf pw 19) (scopeOf pw 19):=FnAt.ofTop T hT prog w (recOf pw 19) (i:=11) (congrArg (·[11]?) recs9) (by kernel_rfl) rfl rfl (fun pm code doc vs hv=>by obtain ⟨a,rfl⟩:=len1 hv;rfl) rfl rfl (by decide +kernel)
theorem t_neat_above:FnAt (Bs.ofTop T hT prog w) "neat_above" ["one"] (bodyOf pw 20) (scopeOf pw 20):=FnAt.ofTop T hT prog w (recOf pw 20) (i:=12) (congrArg (·[12]?) recs9) (by kernel_rfl) rfl rfl (fun pm code doc vs hv=>by obtain ⟨a,rfl⟩:=len1 hv;rfl) rfl rfl (by decide +kernel)
theorem t_neat_nought:FnAt (Bs.ofTop T hT prog w) "neat_nought" ["one"] (bodyOf pw 21) (scopeOf pw 21):=FnAt.ofTop T hT prog w (recOf pw 21) (i:=13) (congrArg (·[13]?) recs9) (by kernel_rfl) rfl rfl (fun pm code doc vs hv=>by obtain ⟨a,rfl⟩:=len1 hv;rfl) rfl rfl (by decide +kernel)
theorem t_neat_goes:FnAt (Bs.ofTop T hT prog w) "neat_goes" ["number","one"] (bodyOf pw 22) (scopeOf pw 22):=FnAt.ofTop T hT prog w (recOf pw 22) (i:=14) (congrArg (·[14]?) recs9) (by kernel_rfl) rfl rfl (fun pm code doc vs hv=>by obtain ⟨a,b,rfl⟩:=len2 hv;rfl) rfl rfl (by decide +kernel)
theorem t_neat_atom:FnAt (Bs.ofTop T hT prog w) "neat_atom" ["statement"] (bodyOf pw 23) (scopeOf pw 23):=FnAt.ofTop T hT prog w (recOf pw 23) (i:=15) (congrArg (·[15]?) recs9) (by kernel_rfl) rfl rfl (fun pm code doc vs hv=>by obtain ⟨a,rfl⟩:=len1 hv;rfl) rfl rfl (by decide +kernel)
theorem t_joined:FnAt (Bs.ofTop T hT prog w) "joined" ["word","parts"] (bodyOf pw 24) (scopeOf pw 24):=FnAt.ofTop T hT prog w (recOf pw 24) (i:=16) (congrArg (·[16]?) recs9) (by kernel_rfl) rfl rfl (fun pm code doc vs hv=>by obtain ⟨a,b,rfl⟩:=len2 hv;rfl) rfl rfl (by decide +kernel)
theorem t_mapped:FnAt (Bs.ofTop T hT prog w) "mapped" ["statement","work"] (bodyOf pw 25) (scopeOf pw 25):=FnAt.ofTop T hT prog w (recOf pw 25) (i:=17) (congrArg (·[17]?) recs9) (by kernel_rfl) rfl rfl (fun pm code doc vs hv=>by obtain ⟨a,b,rfl⟩:=len2 hv;rfl) rfl rfl (by decide +kernel)
theorem t_neat:FnAt (Bs.ofTop T hT prog w) "neat" ["statement"] (bodyOf pw 26) (scopeOf pw 26):=FnAt.ofTop T hT prog w (recOf pw 26) (i:=18) (congrArg (·[18]?) recs9) (by kernel_rfl) rfl rfl (fun pm code doc vs hv=>by obtain ⟨a,rfl⟩:=len1 hv;rfl) rfl rfl (by decide +kernel)
theorem t_atoms_of:FnAt (Bs.ofTop T hT prog w) "atoms_of" ["statement"] (bodyOf pw 27) (scopeOf pw 27):=FnAt.ofTop T hT prog w (recOf pw 27) (i:=19) (congrArg (·[19]?) recs9) (by kernel_rfl) rfl rfl (fun pm code doc vs hv=>by obtain ⟨a,rfl⟩:=len1 hv;rfl) rfl rfl (by decide +kernel)
theorem t_stands:FnAt (Bs.ofTop T hT prog w) "stands" ["name","statement"] (bodyOf pw 28) (scopeOf pw 28):=FnAt.ofTop T hT prog w (recOf pw 28) (i:=20) (congrArg (·[20]?) recs9) (by kernel_rfl) rfl rfl (fun pm code doc vs hv=>by obtain ⟨a,b,rfl⟩:=len2 hv;rfl) rfl rfl (by decide +kernel)
theorem t_as_above:FnAt (Bs.ofTop T hT prog w) "as_above" ["one","good"] (bodyOf pw 29) (scopeOf pw 29):=FnAt.ofTop T hT prog w (recOf pw 29) (i:=21) (congrArg (·[21]?) recs9) (by kernel_rfl) rfl rfl (fun pm code doc vs hv=>by obtain ⟨a,b,rfl⟩:=len2 hv;rfl) rfl rfl (by decide +kernel)
theorem t_pushed:FnAt (Bs.ofTop T hT prog w) "pushed" ["statement","good","keeps"] (bodyOf pw 30) (scopeOf pw 30):=FnAt.ofTop T hT prog w (recOf pw 30) (i:=22) (congrArg (·[22]?) recs9) (by kernel_rfl) rfl rfl (fun pm code doc vs hv=>by obtain ⟨a,b,c,rfl⟩:=len3 hv;rfl) rfl rfl (by decide +kernel)
theorem t_inner:FnAt (Bs.ofTop T hT prog w) "inner" ["statement"] (bodyOf pw 34) (scopeOf pw 34):=FnAt.ofTop T hT prog w (recOf pw 34) (i:=23) (congrArg (·[23]?) recs9) (by kernel_rfl) rfl rfl (fun pm code doc vs hv=>by obtain ⟨a,rfl⟩:=len1 hv;rfl) rfl rfl (by decide +kernel)
theorem t_is_plain:FnAt (Bs.ofTop T hT prog w) "is_plain" ["statement"] (bodyOf pw 35) (scopeOf pw 35):=FnAt.ofTop T hT prog w (recOf pw 35) (i:=24) (congrArg (·[24]?) recs9) (by kernel_rfl) rfl rfl (fun pm code doc vs hv=>by obtain ⟨a,rfl⟩:=len1 hv;rfl) rfl rfl (by decide +kernel)
theorem t_need_plain:FnAt (Bs.ofTop T hT prog w) "need_plain" ["statement"] (bodyOf pw 36) (scopeOf pw 36):=FnAt.ofTop T hT prog w (recOf pw 36) (i:=25) (congrArg (·[25]?) recs9) (by kernel_rfl) rfl rfl (fun pm code doc vs hv=>by obtain ⟨a,rfl⟩:=len1 hv;rfl) rfl rfl (by decide +kernel)
theorem t_gather:FnAt (Bs.ofTop T hT prog w) "gather" ["statement","bound","found"] (bodyOf pw 37) (scopeOf pw 37):=FnAt.ofTop T hT prog w (recOf pw 37) (i:=26) (congrArg (·[26]?) recs9) (by kernel_rfl) rfl rfl (fun pm code doc vs hv=>by obtain ⟨a,b,c,rfl⟩:=len3 hv;rfl) rfl rfl (by decide +kernel)
theorem t_unknowns:FnAt (Bs.ofTop T hT prog w) "unknowns" ["statement"] (bodyOf pw 38) (scopeOf pw 38):=FnAt.ofTop T hT prog w (recOf pw 38) (i:=27) (congrArg (·[27]?) recs9) (by kernel_rfl) rfl rfl (fun pm code doc vs hv=>by obtain ⟨a,rfl⟩:=len1 hv;rfl) rfl rfl (by decide +kernel)
theorem t_need_values:FnAt (Bs.ofTop T hT prog w) "need_values" ["names","values"] (bodyOf pw 39) (scopeOf pw 39):=FnAt.ofTop T hT prog w (recOf pw 39) (i:=28) (congrArg (·[28]?) recs9) (by kernel_rfl) rfl rfl (fun pm code doc vs hv=>by obtain ⟨a,b,rfl⟩:=len2 hv;rfl) rfl rfl (by decide +kernel)
theorem t_truth:FnAt (Bs.ofTop T hT prog w) "truth" ["statement","values"] (bodyOf pw 40) (scopeOf pw 40):=FnAt.ofTop T hT prog w (recOf pw 40) (i:=29) (congrArg (·[29]?) recs9) (by kernel_rfl) rfl rfl (fun pm code doc vs hv=>by obtain ⟨a,b,rfl⟩:=len2 hv;rfl) rfl rfl (by decide +kernel)
theorem t_is_true:FnAt (Bs.ofTop T hT prog w) "is_true" ["statement","values"] (bodyOf pw 41) (scopeOf pw 41):=FnAt.ofTop T hT prog w (recOf pw 41) (i:=30) (congrArg (·[30]?) recs9) (by kernel_rfl) rfl rfl (fun pm code doc vs hv=>by obtain ⟨a,b,rfl⟩:=len2 hv;rfl) rfl rfl (by decide +kernel)
theorem t_filled:FnAt (Bs.ofTop T hT prog w) "filled" ["statement","values"] (bodyOf pw 42) (scopeOf pw 42):=FnAt.ofTop T hT prog w (recOf pw 42) (i:=31) (congrArg (·[31]?) recs9) (by kernel_rfl) rfl rfl (fun pm code doc vs hv=>by obtain ⟨a,b,rfl⟩:=len2 hv;rfl) rfl rfl (by decide +kernel)
theorem t_solved:FnAt (Bs.ofTop T hT prog w) "solved" ["atom","name","many","rest"] (bodyOf pw 44) (scopeOf pw 44):=FnAt.ofTop T hT prog w (recOf pw 44) (i:=32) (congrArg (·[32]?) recs9) (by kernel_rfl) rfl rfl (fun pm code doc vs hv=>by obtain ⟨a,b,c,d,rfl⟩:=len4 hv;rfl) rfl rfl (by decide +kernel)
theorem t_by_nought:FnAt (Bs.ofTop T hT prog w) "by_nought" ["name","told","others"] (bodyOf pw 45) (scopeOf pw 45):=FnAt.ofTop T hT prog w (recOf pw 45) (i:=33) (congrArg (·[33]?) recs9) (by kernel_rfl) rfl rfl (fun pm code doc vs hv=>by obtain ⟨a,b,c,rfl⟩:=len3 hv;rfl) rfl rfl (by decide +kernel)
theorem t_of_share_one:FnAt (Bs.ofTop T hT prog w) "of_share_one" ["atom","name","many"] (bodyOf pw 46) (scopeOf pw 46):=FnAt.ofTop T hT prog w (recOf pw 46) (i:=34) (congrArg (·[34]?) recs9) (by kernel_rfl) rfl rfl (fun pm code doc vs hv=>by obtain ⟨a,b,c,rfl⟩:=len3 hv;rfl) rfl rfl (by decide +kernel)
theorem t_set_in:FnAt (Bs.ofTop T hT prog w) "set_in" ["statement","name","other"] (bodyOf pw 47) (scopeOf pw 47):=FnAt.ofTop T hT prog w (recOf pw 47) (i:=35) (congrArg (·[35]?) recs9) (by kernel_rfl) rfl rfl (fun pm code doc vs hv=>by obtain ⟨a,b,c,rfl⟩:=len3 hv;rfl) rfl rfl (by decide +kernel)
theorem t_far_atom:FnAt (Bs.ofTop T hT prog w) "far_atom" ["atom","name","side"] (bodyOf pw 48) (scopeOf pw 48):=FnAt.ofTop T hT prog w (recOf pw 48) (i:=36) (congrArg (·[36]?) recs9) (by kernel_rfl) rfl rfl (fun pm code doc vs hv=>by obtain ⟨a,b,c,rfl⟩:=len3 hv;rfl) rfl rfl (by decide +kernel)
theorem t_edges_of:FnAt (Bs.ofTop T hT prog w) "edges_of" ["statement","name","side"] (bodyOf pw 49) (scopeOf pw 49):=FnAt.ofTop T hT prog w (recOf pw 49) (i:=37) (congrArg (·[37]?) recs9) (by kernel_rfl) rfl rfl (fun pm code doc vs hv=>by obtain ⟨a,b,c,rfl⟩:=len3 hv;rfl) rfl rfl (by decide +kernel)
theorem t_gone:FnAt (Bs.ofTop T hT prog w) "gone" ["name","statement"] (bodyOf pw 50) (scopeOf pw 50):=FnAt.ofTop T hT prog w (recOf pw 50) (i:=38) (congrArg (·[38]?) recs9) (by kernel_rfl) rfl rfl (fun pm code doc vs hv=>by obtain ⟨a,b,rfl⟩:=len2 hv;rfl) rfl rfl (by decide +kernel)
theorem t_away:FnAt (Bs.ofTop T hT prog w) "away" ["name","statement"] (bodyOf pw 51) (scopeOf pw 51):=FnAt.ofTop T hT prog w (recOf pw 51) (i:=39) (congrArg (·[39]?) recs9) (by kernel_rfl) rfl rfl (fun pm code doc vs hv=>by obtain ⟨a,b,rfl⟩:=len2 hv;rfl) rfl rfl (by decide +kernel)
theorem t_left:FnAt (Bs.ofTop T hT prog w) "left" ["statement"] (bodyOf pw 52) (scopeOf pw 52):=FnAt.ofTop T hT prog w (recOf pw 52) (i:=40) (congrArg (·[40]?) recs9) (by kernel_rfl) rfl rfl (fun pm code doc vs hv=>by obtain ⟨a,rfl⟩:=len1 hv;rfl) rfl rfl (by decide +kernel)
theorem t_holds:FnAt (Bs.ofTop T hT prog w) "holds" ["statement","values"] (bodyOf pw 54) (scopeOf pw 54):=FnAt.ofTop T hT prog w (recOf pw 54) (i:=41) (congrArg (·[41]?) recs9) (by kernel_rfl) rfl rfl (fun pm code doc vs hv=>by obtain ⟨a,b,rfl⟩:=len2 hv;rfl) rfl rfl (by decide +kernel)
theorem t_break_of:FnAt (Bs.ofTop T hT prog w) "break_of" ["one","name"] (bodyOf pw 55) (scopeOf pw 55):=FnAt.ofTop T hT prog w (recOf pw 55) (i:=42) (congrArg (·[42]?) recs9) (by kernel_rfl) rfl rfl (fun pm code doc vs hv=>by obtain ⟨a,b,rfl⟩:=len2 hv;rfl) rfl rfl (by decide +kernel)
theorem t_number_for:FnAt (Bs.ofTop T hT prog w) "number_for" ["plain","name"] (bodyOf pw 56) (scopeOf pw 56):=FnAt.ofTop T hT prog w (recOf pw 56) (i:=43) (congrArg (·[43]?) recs9) (by kernel_rfl) rfl rfl (fun pm code doc vs hv=>by obtain ⟨a,b,rfl⟩:=len2 hv;rfl) rfl rfl (by decide +kernel)
theorem t_told:FnAt (Bs.ofTop T hT prog w) "told" ["name","statement","values"] (bodyOf pw 57) (scopeOf pw 57):=FnAt.ofTop T hT prog w (recOf pw 57) (i:=44) (congrArg (·[44]?) recs9) (by kernel_rfl) rfl rfl (fun pm code doc vs hv=>by obtain ⟨a,b,c,rfl⟩:=len3 hv;rfl) rfl rfl (by decide +kernel)
theorem t_cell_at:FnAt (Bs.ofTop T hT prog w) "_law_cell_at" ["_law_script","_law_k"] (bodyOf pw 59) (scopeOf pw 59):=FnAt.ofTop T hT prog w (recOf pw 59) (i:=45) (congrArg (·[45]?) recs9) (by kernel_rfl) rfl rfl (fun pm code doc vs hv=>by obtain ⟨a,b,rfl⟩:=len2 hv;rfl) rfl rfl (by decide +kernel)
theorem t_whole:FnAt (Bs.ofTop T hT prog w) "_law_whole" ["_law_got"] (bodyOf pw 60) (scopeOf pw 60):=FnAt.ofTop T hT prog w (recOf pw 60) (i:=46) (congrArg (·[46]?) recs9) (by kernel_rfl) rfl rfl (fun pm code doc vs hv=>by obtain ⟨a,rfl⟩:=len1 hv;rfl) rfl rfl (by decide +kernel)
theorem t_names_by:FnAt (Bs.ofTop T hT prog w) "_law_names_by" ["_law_cell"] (bodyOf pw 61) (scopeOf pw 61):=FnAt.ofTop T hT prog w (recOf pw 61) (i:=47) (congrArg (·[47]?) recs9) (by kernel_rfl) rfl rfl (fun pm code doc vs hv=>by obtain ⟨a,rfl⟩:=len1 hv;rfl) rfl rfl (by decide +kernel)
theorem t_big_by:FnAt (Bs.ofTop T hT prog w) "_law_big_by" ["_law_cell"] (bodyOf pw 62) (scopeOf pw 62):=FnAt.ofTop T hT prog w (recOf pw 62) (i:=48) (congrArg (·[48]?) recs9) (by kernel_rfl) rfl rfl (fun pm code doc vs hv=>by obtain ⟨a,rfl⟩:=len1 hv;rfl) rfl rfl (by decide +kernel)
theorem t_lvalue:FnAt (Bs.ofTop T hT prog w) "_law_value" ["_law_one","_law_values"] (bodyOf pw 63) (scopeOf pw 63):=FnAt.ofTop T hT prog w (recOf pw 63) (i:=49) (congrArg (·[49]?) recs9) (by kernel_rfl) rfl rfl (fun pm code doc vs hv=>by obtain ⟨a,b,rfl⟩:=len2 hv;rfl) rfl rfl (by decide +kernel)
theorem t_true:FnAt (Bs.ofTop T hT prog w) "_law_true" ["_law_statement","_law_values"] (bodyOf pw 64) (scopeOf pw 64):=FnAt.ofTop T hT prog w (recOf pw 64) (i:=50) (congrArg (·[50]?) recs9) (by kernel_rfl) rfl rfl (fun pm code doc vs hv=>by obtain ⟨a,b,rfl⟩:=len2 hv;rfl) rfl rfl (by decide +kernel)
theorem t_sum_is:FnAt (Bs.ofTop T hT prog w) "_law_sum_is" ["_law_one","_law_names"] (bodyOf pw 65) (scopeOf pw 65):=FnAt.ofTop T hT prog w (recOf pw 65) (i:=51) (congrArg (·[51]?) recs9) (by kernel_rfl) rfl rfl (fun pm code doc vs hv=>by obtain ⟨a,b,rfl⟩:=len2 hv;rfl) rfl rfl (by decide +kernel)
theorem t_plain_is:FnAt (Bs.ofTop T hT prog w) "_law_plain_is" ["_law_statement","_law_names"] (bodyOf pw 66) (scopeOf pw 66):=FnAt.ofTop T hT prog w (recOf pw 66) (i:=52) (congrArg (·[52]?) recs9) (by kernel_rfl) rfl rfl (fun pm code doc vs hv=>by obtain ⟨a,b,rfl⟩:=len2 hv;rfl) rfl rfl (by decide +kernel)
theorem t_sum:FnAt (Bs.ofTop T hT prog w) "_law_sum" ["_law_number","_law_pairs"] (bodyOf pw 67) (scopeOf pw 67):=FnAt.ofTop T hT prog w (recOf pw 67) (i:=53) (congrArg (·[53]?) recs9) (by kernel_rfl) rfl rfl (fun pm code doc vs hv=>by obtain ⟨a,b,rfl⟩:=len2 hv;rfl) rfl rfl (by decide +kernel)
theorem t_kind:FnAt (Bs.ofTop T hT prog w) "_law_kind" ["_law_script","_law_names","_law_values"] (bodyOf pw 68) (scopeOf pw 68):=FnAt.ofTop T hT prog w (recOf pw 68) (i:=54) (congrArg (·[54]?) recs9) (by kernel_rfl) rfl rfl (fun pm code doc vs hv=>by obtain ⟨a,b,c,rfl⟩:=len3 hv;rfl) rfl rfl (by decide +kernel)
theorem t_same:FnAt (Bs.ofTop T hT prog w) "_law_same" ["_law_got","_law_due"] (bodyOf pw 69) (scopeOf pw 69):=FnAt.ofTop T hT prog w (recOf pw 69) (i:=55) (congrArg (·[55]?) recs9) (by kernel_rfl) rfl rfl (fun pm code doc vs hv=>by obtain ⟨a,b,rfl⟩:=len2 hv;rfl) rfl rfl (by decide +kernel)
theorem t_law:FnAt (Bs.ofTop T hT prog w) "law" ["_law_script"] (bodyOf pw 70) (scopeOf pw 70):=FnAt.ofTop T hT prog w (recOf pw 70) (i:=56) (congrArg (·[56]?) recs9) (by kernel_rfl) rfl rfl (fun pm code doc vs hv=>by obtain ⟨a,rfl⟩:=len1 hv;rfl) rfl rfl (by decide +kernel)
theorem fns_of:∀ f,fn9.contains f=true→∃ fa o fd,(Bs.ofTop T hT prog w).mg f=some (.ref fa)∧(Bs.ofTop T hT prog w).hB.get? fa=some o∧o.data=.func fd:=fun f hf=>by
 have key:∀ x∈fn9,x∈(recsOf view9).map (·.name):=by decide +kernel
 obtain ⟨d,hd,rfl⟩:=List.mem_map.mp (key f (List.contains_iff_mem.mp hf))
 obtain ⟨a,o,pm,code,doc,e1,e2,e3,_⟩:=T.fn d hd
 exact ⟨a,o,_,e1,ghost_get hT e2 (fun q=>by rw [q] at e3;cases e3),e3⟩
theorem cx9 (X:(kf w.params).In h) (hlo:loose=looseW view9 []):Cx (Bs.ofTop T hT prog w) :=
 have X':(kf (Bs.ofTop T hT prog w).w.params).In (Bs.ofTop T hT prog w).hB:=ghost_K hT X (by kernel_rfl)
 {quiet:=rfl,glo:=c_glo X',fns:=fns_of T hT prog w,neat:=c_neat X',non:=fun f hf=>non_of T hlo hf,
  f_made:=t_made T hT prog w,
  f_added:=t_added T hT prog w,
  f_times:=t_times T hT prog w,
  f_share:=t_share T hT prog w,
  f_without:=t_without T hT prog w,
  f_put_in:=t_put_in T hT prog w,
  f_value:=t_value T hT prog w,
  f_gcd:=t_gcd T hT prog w,
  f_lcm:=t_lcm T hT prog w,
  f_common_of:=t_common_of T hT prog w,
  f_divided:=t_divided T hT prog w,
  f_turned:=t_turned T hT prog w,
  f_neat_above:=t_neat_above T hT prog w,
  f_neat_nought:=t_neat_nought T hT prog w,
  f_neat_goes:=t_neat_goes T hT prog w,
  f_neat_atom:=t_neat_atom T hT prog w,
  f_joined:=t_joined T hT prog w,
  f_mapped:=t_mapped T hT prog w,
  f_neat:=t_neat T hT prog w,
  f_atoms_of:=t_atoms_of T hT prog w,
  f_stands:=t_stands T hT prog w,
  f_as_above:=t_as_above T hT prog w,
  f_pushed:=t_pushed T hT prog w,
  f_inner:=t_inner T hT prog w,
  f_is_plain:=t_is_plain T hT prog w,
  f_need_plain:=t_need_plain T hT prog w,
  f_gather:=t_gather T hT prog w,
  f_unknowns:=t_unknowns T hT prog w,
  f_need_values:=t_need_values T hT prog w,
  f_truth:=t_truth T hT prog w,
  f_is_true:=t_is_true T hT prog w,
  f_filled:=t_filled T hT prog w,
  f_solved:=t_solved T hT prog w,
  f_by_nought:=t_by_nought T hT prog w,
  f_of_share_one:=t_of_share_one T hT prog w,
  f_set_in:=t_set_in T hT prog w,
  f_far_atom:=t_far_atom T hT prog w,
  f_edges_of:=t_edges_of T hT prog w,
  f_gone:=t_gone T hT prog w,
  f_away:=t_away T hT prog w,
  f_left:=t_left T hT prog w,
  f_holds:=t_holds T hT prog w,
  f_break_of:=t_break_of T hT prog w,
  f_number_for:=t_number_for T hT prog w,
  f_told:=t_told T hT prog w,
  f_cell_at:=t_cell_at T hT prog w,
  f_whole:=t_whole T hT prog w,
  f_names_by:=t_names_by T hT prog w,
  f_big_by:=t_big_by T hT prog w,
  f_lvalue:=t_lvalue T hT prog w,
  f_true:=t_true T hT prog w,
  f_sum_is:=t_sum_is T hT prog w,
  f_plain_is:=t_plain_is T hT prog w,
  f_sum:=t_sum T hT prog w,
  f_kind:=t_kind T hT prog w,
  f_same:=t_same T hT prog w,
  f_law:=t_law T hT prog w }
end
end Mine
end

section
open PySem PySem.W PyProof.Rows PySem.Calls PyProof
set_option maxHeartbeats 8000000
end

open PySem PySem.W PyProof.Rows
set_option Elab.async false
set_option maxRecDepth 100000 in
set_option maxHeartbeats 8000000 in
theorem PySem.Challenge.cw_uf010003_09_holds : PySem.Challenge.rw_uf010003_09.Holds := by
 w_on
 refine holds_law Mine.said9 fun said=>?_
 refine holds_open (q:=Mine.view9) (loose:=[]) (XP:=XL Mine.view9 []) (YP:=Hook.says Mine.hk9) Mine.left9 (Hook.of _) (Hook.keeps _) (fun s e=>xl_of s (Bool.and_eq_true_iff.mp e).1) XL.keeps (by rfl) (by rfl) (by rfl) (fun s e=>recFacts_of (Bool.and_eq_true_iff.mp e).2) (by rfl) (by first | assumption | decide +kernel) (by decide +kernel) ⟨rfl,rfl,rfl,rfl,rfl,by decide +kernel⟩ ?hw ?hc
 (case hw=>w_witness2)
 intro w s₀ s₁ mg mb G Y fa o pm cd doc dV kV ho hd hcd hD hmg hg args vals as hpre hlay hrd hwl hlo
 have KX:=kIn_of Y
 refine Ground.open G ?_
 intro T B D TE TW
 wrow_args hpre hlay hrd hwl hlo
 rename_i is hs1 hs2 hs3 hs4 hs5 as1 as2 a vs as3 hl ra w1 r0 hi hr hc1 hc2
 obtain ⟨ga,go,gpm,gdoc,gc,gP,t1,t2,t3,hT⟩:=Mine.tabOf T (Mine.recOf Mine.pw 50) (i:=38) (by kernel_rfl)
 exact Mine.ends T hT 11 (by decide) (Mine.sp_law (Mine.cx9 T hT _ w KX rfl) (Mine.LamAt.ofTop T hT _ w (by decide +kernel) t1 t2 t3) (by omega)) hmg (Mine.script w1 ⟨_,rfl⟩ hl hi) hg (Mine.post_ok _ _) fun _ _=>rfl
