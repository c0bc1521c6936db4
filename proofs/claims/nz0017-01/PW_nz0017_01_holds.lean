import PyProof.Rows.All
import Wide.All
import OpenK.AllK
import Wide.FinOn
import Lean
import PySem.Challenge.RW_nz0017_01
open PySem PySem.W PyProof.Rows
set_option Elab.async false
set_option linter.unusedVariables false
set_option linter.unusedSimpArgs false
section
open PySem PySem.W PyProof.Rows
namespace Mine
def view : Program := { PySem.Challenge.pw_nz0017_01 with main := { PySem.Challenge.pw_nz0017_01.main with
  body := PySem.Challenge.pw_nz0017_01.main.body.zipIdx.filterMap fun x => if [1, 16, 19, 21, 23].contains x.2 then none else some x.1 } }
abbrev theRow : RowW := OpenRow.toRowW (OpenLaw.row PySem.Challenge.rw_nz0017_01)
-- the top's objects behind its statements, so that the kernel need not run the whole top at one go: what the head writes out is looked up there
noncomputable def fo (F : Frag) : Nat → Obj := @List.rec (Addr × Obj) (fun _ => Nat → Obj) (fun _ => default) (fun p _ ih a => @Bool.rec (fun _ => Obj) (ih a) p.2 (Nat.beq p.1 a)) F
noncomputable def ft (o : Obj) : Obj := match o.data with
  | .func f => { cls := .none, data := .func { f with globals := 0, closure := [], pyModule := .none, code := .none, closureTuple := .none } }
  | _ => o
noncomputable abbrev vs (s : String) (n : Nat) : Value := .str (Str.ofString s) n
noncomputable abbrev vi (k : Int) : Value := .int k 0
noncomputable abbrev vr (a : Addr) : Value := .ref a
noncomputable abbrev en (P : Params) (s : String) (n : Nat) (v : Value) : DictEntry := ⟨PyData.keyHash P (Str.ofString s), .str (Str.ofString s) n, v⟩
noncomputable abbrev lf : Life := ⟨[], [], [], 0, [], [], false, #[], [], 0, false, false, false, 0, [2000, 10, 10], false, 0, true, [], [], 0, false⟩
noncomputable abbrev dr : Drawn := ⟨0, 0, 0, 0⟩
noncomputable abbrev oa3 (P : Params) : Obj := { cls := Value.type "dict", data := Data.dict #[en P "__name__" 165 (vs "fdsolve.store" 397), en P "__doc__" 166 (Value.none), en P "__package__" 167 (Value.none), en P "__loader__" 168 (Value.builtin "__main__.__loader__#opaque"), en P "__spec__" 169 (Value.none), en P "__annotations__" 170 (vr 6), en P "__builtins__" 171 (vr 4), en P "__file__" 173 (vs "/claim/cut.py" 172), en P "__cached__" 174 (Value.none), en P "_wall" 193 (vr 21), en P "put_behind" 204 (vr 28), en P "from_values" 213 (vr 35), en P "least" 220 (vr 42), en P "greatest" 227 (vr 49), en P "next_from" 237 (vr 56), en P "has" 245 (vr 63), en P "has_domains" 246 (vr 63), en P "up_to" 252 (vr 68), en P "from_on" 258 (vr 73), en P "without" 266 (vr 80), en P "meet" 279 (vr 87), en P "negation" 289 (vr 94), en P "struck" 299 (vr 101), en P "said_of" 308 (vr 108), en P "FdError" 348 (vr 134), en P "ProofFault" 383 (vr 163), en P "spot_of" 396 (vr 172)] 27 }
noncomputable abbrev ob11 : Obj := { cls := Value.type "tuple", data := Data.seq #[] }
noncomputable abbrev ob12 : Obj := { cls := Value.none, data := Data.fields #[vi 1, vi 0, vr 20, vi 5, vi 0, vr 27, vi 11, vi 0, vr 34, vi 16, vi 0, vr 41, vi 18, vi 0, vr 48, vi 20, vi 0, vr 55, vi 25, vi 0, vr 62, vi 28, vi 0, vr 67, vi 30, vi 0, vr 72, vi 32, vi 0, vr 79, vi 34, vi 0, vr 86, vi 45, vi 0, vr 93, vi 52, vi 0, vr 100, vi 59, vi 0, vr 107, vi 65, vi 0, vr 115, vi 73, vi 0, vr 144, vi 82, vi 0, vr 171, vi 92, vi 0, vr 178, vi 186, vi 0, vr 332, vi 190, vi 0, vr 337, vi 192, vi 0, vr 344, vi 197, vi 0, vr 351, vi 202, vi 0, vr 356, vi 210, vi 0, vr 361, vi 219, vi 0, vr 366, vi 238, vi 0, vr 373, vi 243, vi 0, vr 378, vi 254, vi 0, vr 383] }
noncomputable abbrev oa12 : Obj := { cls := Value.none, data := Data.fields #[vi 1, vi 0, vr 20, vi 5, vi 0, vr 27, vi 11, vi 0, vr 34, vi 16, vi 0, vr 41, vi 18, vi 0, vr 48, vi 20, vi 0, vr 55, vi 25, vi 0, vr 62, vi 28, vi 0, vr 67, vi 30, vi 0, vr 72, vi 32, vi 0, vr 79, vi 34, vi 0, vr 86, vi 45, vi 0, vr 93, vi 52, vi 0, vr 100, vi 59, vi 0, vr 107, vi 65, vi 0, vr 115, vi 73, vi 0, vr 144, vi 82, vi 0, vr 171] }
noncomputable abbrev oc12 : Obj := { cls := Value.none, data := Data.fields #[] }
noncomputable abbrev ob13 : Obj := { cls := Value.type "code", data := Data.fields #[vs "<module>" 182, vs "<module>" 183, vs "/claim/cut.py" 184, vi 1, vi 0, vi 0, vi 0, vi 0, vr 11, Value.bool Bool.false, vi 181, vr 12, Value.none, Value.none, Value.none, Value.none, vi 185, vi 1, vs "/claim/cut.py" 186] }
noncomputable abbrev ob14 : Obj := { cls := Value.type "frame", slots := #[Option.some (vr 13), Option.some (vr 3), Option.some (vr 3), Option.none, Option.some (vs "__main__" 164), Option.none, Option.some (vr 0)] }
noncomputable abbrev ob110 : Obj := { cls := Value.type "builtin_function_or_method", data := Data.fields #[Value.builtin "type.__prepare__", Value.type "type"] }
noncomputable abbrev ob111 (P : Params) : Obj := { cls := Value.type "dict", data := Data.dict #[en P "__module__" 318 (vs "fdsolve.errors" 309), en P "__qualname__" 320 (vs "FdError" 319), en P "__firstlineno__" 322 (Value.int 65 321), en P "__init__" 331 (vr 124), en P "told" 338 (vr 131), en P "__static_attributes__" 340 (vr 132), en P "__classcell__" 341 (vr 112)] 7 }
noncomputable abbrev ob114 : Obj := { cls := Value.none, data := Data.fields #[vi 67, vi 4, vr 123, vi 71, vi 4, vr 130] }
noncomputable abbrev ob115 : Obj := { cls := Value.type "code", data := Data.fields #[vs "FdError" 313, vs "FdError" 314, vs "/claim/cut.py" 315, vi 65, vi 0, vi 0, vi 0, vi 0, vr 113, Value.bool Bool.false, vi 181, vr 114, Value.none, Value.none, Value.none, Value.none, vi 316, vi 65, vs "/claim/cut.py" 317] }
noncomputable abbrev ob116 : Obj := { cls := Value.type "frame", slots := #[Option.some (vr 115), Option.some (vr 3), Option.some (vr 111), Option.none, Option.some (vs "fdsolve.errors" 309), Option.none, Option.some (vr 0)] }
noncomputable abbrev ob136 : Obj := { cls := Value.type "super", data := Data.fields #[vr 134, vr 134, vr 134] }
noncomputable abbrev ob137 : Obj := { cls := Value.type "builtin_function_or_method", data := Data.fields #[Value.builtin "object.__init_subclass__", vr 134] }
noncomputable abbrev ob140 (P : Params) : Obj := { cls := Value.type "dict", data := Data.dict #[en P "__module__" 356 (vs "fdsolve.errors" 309), en P "__qualname__" 358 (vs "ProofFault" 357), en P "__firstlineno__" 360 (Value.int 73 359), en P "__init__" 370 (vr 153), en P "told" 377 (vr 160), en P "__static_attributes__" 379 (vr 161), en P "__classcell__" 380 (vr 141)] 7 }
noncomputable abbrev ob143 : Obj := { cls := Value.none, data := Data.fields #[vi 75, vi 4, vr 152, vi 79, vi 4, vr 159] }
noncomputable abbrev ob144 : Obj := { cls := Value.type "code", data := Data.fields #[vs "ProofFault" 351, vs "ProofFault" 352, vs "/claim/cut.py" 353, vi 73, vi 0, vi 0, vi 0, vi 0, vr 142, Value.bool Bool.false, vi 181, vr 143, Value.none, Value.none, Value.none, Value.none, vi 354, vi 73, vs "/claim/cut.py" 355] }
noncomputable abbrev ob145 : Obj := { cls := Value.type "frame", slots := #[Option.some (vr 144), Option.some (vr 3), Option.some (vr 140), Option.none, Option.some (vs "fdsolve.errors" 309), Option.none, Option.some (vr 0)] }
noncomputable abbrev ob164 : Obj := { cls := Value.type "super", data := Data.fields #[vr 163, vr 163, vr 163] }
noncomputable abbrev ob165 : Obj := { cls := Value.type "builtin_function_or_method", data := Data.fields #[Value.builtin "object.__init_subclass__", vr 163] }
noncomputable abbrev ob175 (P : Params) : Obj := { cls := Value.type "dict", data := Data.dict #[en P "__module__" 406 (vs "fdsolve.store" 397), en P "__qualname__" 408 (vs "Store" 407), en P "__firstlineno__" 410 (Value.int 92 409), en P "__init__" 417 (vr 186), en P "new_var" 425 (vr 193), en P "size" 432 (vr 200), en P "dom" 440 (vr 207), en P "initial" 448 (vr 214), en P "low" 456 (vr 221), en P "high" 464 (vr 228), en P "has" 473 (vr 235), en P "is_fixed" 481 (vr 242), en P "value" 489 (vr 249), en P "width" 497 (vr 256), en P "holds" 505 (vr 263), en P "enter" 518 (vr 270), en P "strike" 527 (vr 277), en P "decide" 535 (vr 284), en P "fail" 543 (vr 291), en P "push" 550 (vr 298), en P "pop" 560 (vr 305), en P "depth" 567 (vr 312), en P "changed" 574 (vr 319), en P "__static_attributes__" 583 (vr 320)] 24 }
noncomputable abbrev ob177 : Obj := { cls := Value.none, data := Data.fields #[vi 94, vi 4, vr 185, vi 104, vi 4, vr 192, vi 111, vi 4, vr 199, vi 114, vi 4, vr 206, vi 117, vi 4, vr 213, vi 120, vi 4, vr 220, vi 123, vi 4, vr 227, vi 126, vi 4, vr 234, vi 129, vi 4, vr 241, vi 132, vi 4, vr 248, vi 135, vi 4, vr 255, vi 138, vi 4, vr 262, vi 141, vi 4, vr 269, vi 154, vi 4, vr 276, vi 157, vi 4, vr 283, vi 160, vi 4, vr 290, vi 165, vi 4, vr 297, vi 168, vi 4, vr 304, vi 180, vi 4, vr 311, vi 183, vi 4, vr 318] }
noncomputable abbrev ob178 : Obj := { cls := Value.type "code", data := Data.fields #[vs "Store" 401, vs "Store" 402, vs "/claim/cut.py" 403, vi 92, vi 0, vi 0, vi 0, vi 0, vr 176, Value.bool Bool.false, vi 181, vr 177, Value.none, Value.none, Value.none, Value.none, vi 404, vi 92, vs "/claim/cut.py" 405] }
noncomputable abbrev ob179 : Obj := { cls := Value.type "frame", slots := #[Option.some (vr 178), Option.some (vr 3), Option.some (vr 175), Option.none, Option.some (vs "fdsolve.store" 397), Option.none, Option.some (vr 0)] }
noncomputable abbrev ob325 : Obj := { cls := Value.type "super", data := Data.fields #[vr 322, vr 322, vr 322] }
noncomputable abbrev ob326 : Obj := { cls := Value.type "builtin_function_or_method", data := Data.fields #[Value.builtin "object.__init_subclass__", vr 322] }
noncomputable abbrev tB (P : Params) : BT := .node (boot_o_0 P) (.node (boot_o_1 P) (.node (boot_o_3 P) (.node (boot_o_7 P) .nil .nil) (.node (ob11) .nil .nil)) (.node (boot_o_5 P)
  (.node (boot_o_9 P) .nil .nil) (.node (ob13) .nil .nil))) (.node (boot_o_2 P) (.node (boot_o_4 P) (.node (boot_o_8 P) .nil .nil) (.node (oc12) .nil .nil)) (.node (boot_o_6 P)
  (.node (boot_o_10 P) .nil .nil) (.node (ob14) .nil .nil)))
noncomputable abbrev tA (F : Frag) (P : Params) : BT := .node (boot_o_0 P) (.node (boot_o_1 P) (.node (oa3 P) (.node (boot_o_7 P) (.node (fo F 15) (.node (fo F 31) (.node (fo F 63)
  (.node (fo F 127) .nil .nil) .nil) (.node (fo F 95) (.node (fo F 159) .nil .nil) .nil)) (.node (ft (fo F 49)) (.node (fo F 79) (.node (ob143) .nil .nil) .nil) (.node (ob111 P)
  .nil .nil))) (.node (oc12) (.node (fo F 39) (.node (ft (fo F 73)) (.node (fo F 135) .nil .nil) .nil) (.node (oc12) (.node (oc12) .nil .nil) .nil)) (.node (fo F 55) (.node (fo F
  87) (.node (ft (fo F 153)) .nil .nil) .nil) (.node (oc12) .nil .nil)))) (.node (ob11) (.node (ft (fo F 21)) (.node (fo F 35) (.node (fo F 67) (.node (fo F 131) .nil .nil) .nil)
  (.node (ft (fo F 101)) (.node (fo F 163) .nil .nil) .nil)) (.node (oc12) (.node (fo F 83) (.node (fo F 147) .nil .nil) .nil) (.node (ob115) .nil .nil))) (.node (fo F 27) (.node
  (fo F 43) (.node (oc12) (.node (ob110) .nil .nil) .nil) (.node (fo F 107) (.node (fo F 171) .nil .nil) .nil)) (.node (fo F 59) (.node (fo F 91) (.node (oc12) .nil .nil) .nil)
  (.node (fo F 123) .nil .nil))))) (.node (boot_o_5 P) (.node (boot_o_9 P) (.node (fo F 17) (.node (ft (fo F 35)) (.node (oc12) (.node (ft (fo F 131)) .nil .nil) .nil) (.node (fo F
  97) (.node (fo F 161) .nil .nil) .nil)) (.node (fo F 49) (.node (fo F 81) (.node (ob145) .nil .nil) .nil) (.node (ob11) .nil .nil))) (.node (fo F 25) (.node (fo F 41) (.node (fo
  F 73) (.node (ob137) .nil .nil) .nil) (.node (fo F 105) (.node (fo F 169) .nil .nil) .nil)) (.node (fo F 57) (.node (oc12) (.node (fo F 153) .nil .nil) .nil) (.node (fo F 121)
  .nil .nil)))) (.node (ob13) (.node (fo F 21) (.node (oc12) (.node (fo F 69) (.node (fo F 133) .nil .nil) .nil) (.node (fo F 101) (.node (ob165) .nil .nil) .nil)) (.node (fo F 53)
  (.node (ft (fo F 87)) (.node (fo F 149) .nil .nil) .nil) (.node (fo F 117) .nil .nil))) (.node (fo F 29) (.node (fo F 45) (.node (fo F 77) (.node (fo F 141) .nil .nil) .nil)
  (.node (fo F 109) .nil .nil)) (.node (ft (fo F 63)) (.node (fo F 93) (.node (fo F 157) .nil .nil) .nil) (.node (fo F 125) .nil .nil)))))) (.node (fo F 2) (.node (boot_o_4 P)
  (.node (boot_o_8 P) (.node (oc12) (.node (fo F 32) (.node (fo F 64) (.node (fo F 128) .nil .nil) .nil) (.node (oc12) (.node (fo F 160) .nil .nil) .nil)) (.node (fo F 48) (.node
  (fo F 80) (.node (ob144) .nil .nil) .nil) (.node (fo F 112) .nil .nil))) (.node (fo F 24) (.node (ft (fo F 42)) (.node (fo F 72) (.node (ob136) .nil .nil) .nil) (.node (fo F 104)
  (.node (fo F 168) .nil .nil) .nil)) (.node (fo F 56) (.node (fo F 88) (.node (fo F 152) .nil .nil) .nil) (.node (fo F 120) .nil .nil)))) (.node (oa12) (.node (fo F 20) (.node (fo
  F 36) (.node (fo F 68) (.node (fo F 132) .nil .nil) .nil) (.node (fo F 100) (.node (ob164) .nil .nil) .nil)) (.node (fo F 52) (.node (fo F 84) (.node (oc12) .nil .nil) .nil)
  (.node (ob116) .nil .nil))) (.node (fo F 28) (.node (oc12) (.node (fo F 76) (.node (ob140 P) .nil .nil) .nil) (.node (fo F 108) (.node (fo F 172) .nil .nil) .nil)) (.node (fo F
  60) (.node (ft (fo F 94)) (.node (fo F 156) .nil .nil) .nil) (.node (fo F 124) .nil .nil))))) (.node (boot_o_6 P) (.node (boot_o_10 P) (.node (fo F 18) (.node (fo F 34) (.node
  (ft (fo F 68)) (.node (fo F 130) .nil .nil) .nil) (.node (fo F 98) (.node (fo F 162) .nil .nil) .nil)) (.node (fo F 50) (.node (oc12) (.node (fo F 146) .nil .nil) .nil) (.node
  (ob114) .nil .nil))) (.node (ft (fo F 28)) (.node (fo F 42) (.node (fo F 74) (.node (fo F 138) .nil .nil) .nil) (.node (ft (fo F 108)) (.node (ft (fo F 172)) .nil .nil) .nil))
  (.node (oc12) (.node (fo F 90) (.node (fo F 154) .nil .nil) .nil) (.node (ft (fo F 124)) .nil .nil)))) (.node (ob14) (.node (fo F 22) (.node (fo F 38) (.node (oc12) (.node (fo F
  134) .nil .nil) .nil) (.node (fo F 102) (.node (fo F 166) .nil .nil) .nil)) (.node (ft (fo F 56)) (.node (fo F 86) (.node (fo F 150) .nil .nil) .nil) (.node (fo F 118) .nil
  .nil))) (.node (oc12) (.node (fo F 46) (.node (ft (fo F 80)) (.node (ob11) .nil .nil) .nil) (.node (ob110) .nil .nil)) (.node (fo F 62) (.node (fo F 94) (.node (ft (fo F 160))
  .nil .nil) .nil) (.node (oc12) .nil .nil))))))
noncomputable abbrev tM (F : Frag) (P : Params) : BT := .node (boot_o_0 P) (.node (boot_o_1 P) (.node (fo F 3) (.node (boot_o_7 P) (.node (fo F 15) (.node (fo F 31) (.node (fo F
  63) (.node (fo F 127) (.node (fo F 255) .nil .nil) (.node (fo F 383) .nil .nil)) (.node (ft (fo F 193)) (.node (fo F 319) .nil .nil) .nil)) (.node (fo F 95) (.node (fo F 159)
  (.node (fo F 287) .nil .nil) .nil) (.node (oc12) (.node (fo F 351) .nil .nil) .nil))) (.node (ft (fo F 49)) (.node (fo F 79) (.node (ob143) (.node (fo F 271) .nil .nil) .nil)
  (.node (fo F 207) (.node (oc12) .nil .nil) .nil)) (.node (ob111 P) (.node (ob175 P) (.node (ft (fo F 305)) .nil .nil) .nil) (.node (fo F 239) (.node (fo F 367) .nil .nil)
  .nil)))) (.node (oc12) (.node (fo F 39) (.node (ft (fo F 73)) (.node (fo F 135) (.node (fo F 263) .nil .nil) .nil) (.node (fo F 199) (.node (fo F 327) .nil .nil) .nil)) (.node
  (oc12) (.node (oc12) (.node (fo F 295) .nil .nil) .nil) (.node (fo F 231) (.node (oc12) .nil .nil) .nil))) (.node (fo F 55) (.node (fo F 87) (.node (ft (fo F 153)) (.node (oc12)
  .nil .nil) .nil) (.node (fo F 215) (.node (ft (fo F 345)) .nil .nil) .nil)) (.node (oc12) (.node (fo F 183) (.node (fo F 311) .nil .nil) .nil) (.node (ft (fo F 249)) (.node (fo F
  375) .nil .nil) .nil))))) (.node (ob11) (.node (ft (fo F 21)) (.node (fo F 35) (.node (fo F 67) (.node (fo F 131) (.node (fo F 259) .nil .nil) .nil) (.node (oc12) (.node (fo F
  323) .nil .nil) .nil)) (.node (ft (fo F 101)) (.node (fo F 163) (.node (fo F 291) .nil .nil) .nil) (.node (fo F 227) (.node (ft (fo F 357)) .nil .nil) .nil))) (.node (oc12)
  (.node (fo F 83) (.node (fo F 147) (.node (ft (fo F 277)) .nil .nil) .nil) (.node (fo F 211) (.node (fo F 339) .nil .nil) .nil)) (.node (ob115) (.node (ob179) (.node (oc12) .nil
  .nil) .nil) (.node (fo F 243) (.node (fo F 371) .nil .nil) .nil)))) (.node (fo F 27) (.node (fo F 43) (.node (oc12) (.node (ob110) (.node (fo F 267) .nil .nil) .nil) (.node (fo F
  203) (.node (ft (fo F 333)) .nil .nil) .nil)) (.node (fo F 107) (.node (fo F 171) (.node (fo F 299) .nil .nil) .nil) (.node (fo F 235) (.node (fo F 363) .nil .nil) .nil))) (.node
  (fo F 59) (.node (fo F 91) (.node (oc12) (.node (fo F 283) .nil .nil) .nil) (.node (ft (fo F 221)) (.node (oc12) .nil .nil) .nil)) (.node (fo F 123) (.node (fo F 187) (.node (fo
  F 315) .nil .nil) .nil) (.node (oc12) (.node (fo F 379) .nil .nil) .nil)))))) (.node (boot_o_5 P) (.node (boot_o_9 P) (.node (fo F 17) (.node (ft (fo F 35)) (.node (oc12) (.node
  (ft (fo F 131)) (.node (fo F 257) .nil .nil) .nil) (.node (fo F 193) (.node (fo F 321) .nil .nil) .nil)) (.node (fo F 97) (.node (fo F 161) (.node (ft (fo F 291)) .nil .nil)
  .nil) (.node (fo F 225) (.node (fo F 353) .nil .nil) .nil))) (.node (fo F 49) (.node (fo F 81) (.node (ob145) (.node (fo F 273) .nil .nil) .nil) (.node (oc12) (.node (fo F 337)
  .nil .nil) .nil)) (.node (ob11) (.node (ob177) (.node (fo F 305) .nil .nil) .nil) (.node (fo F 241) (.node (oc12) .nil .nil) .nil)))) (.node (fo F 25) (.node (fo F 41) (.node (fo
  F 73) (.node (ob137) (.node (oc12) .nil .nil) .nil) (.node (fo F 201) (.node (fo F 329) .nil .nil) .nil)) (.node (fo F 105) (.node (fo F 169) (.node (fo F 297) .nil .nil) .nil)
  (.node (ft (fo F 235)) (.node (fo F 361) .nil .nil) .nil))) (.node (fo F 57) (.node (oc12) (.node (fo F 153) (.node (fo F 281) .nil .nil) .nil) (.node (fo F 217) (.node (fo F
  345) .nil .nil) .nil)) (.node (fo F 121) (.node (fo F 185) (.node (fo F 313) .nil .nil) .nil) (.node (fo F 249) (.node (ft (fo F 379)) .nil .nil) .nil))))) (.node (ob13) (.node
  (fo F 21) (.node (oc12) (.node (fo F 69) (.node (fo F 133) (.node (ft (fo F 263)) .nil .nil) .nil) (.node (fo F 197) (.node (ob325) .nil .nil) .nil)) (.node (fo F 101) (.node
  (ob165) (.node (oc12) .nil .nil) .nil) (.node (fo F 229) (.node (fo F 357) .nil .nil) .nil))) (.node (fo F 53) (.node (ft (fo F 87)) (.node (fo F 149) (.node (fo F 277) .nil
  .nil) .nil) (.node (fo F 213) (.node (fo F 341) .nil .nil) .nil)) (.node (fo F 117) (.node (oc12) (.node (fo F 309) .nil .nil) .nil) (.node (fo F 245) (.node (fo F 373) .nil
  .nil) .nil)))) (.node (fo F 29) (.node (fo F 45) (.node (fo F 77) (.node (fo F 141) (.node (fo F 269) .nil .nil) .nil) (.node (ft (fo F 207)) (.node (fo F 333) .nil .nil) .nil))
  (.node (fo F 109) (.node (ob11) (.node (fo F 301) .nil .nil) .nil) (.node (oc12) (.node (ft (fo F 367)) .nil .nil) .nil))) (.node (ft (fo F 63)) (.node (fo F 93) (.node (fo F
  157) (.node (fo F 285) .nil .nil) .nil) (.node (fo F 221) (.node (fo F 349) .nil .nil) .nil)) (.node (fo F 125) (.node (fo F 189) (.node (ft (fo F 319)) .nil .nil) .nil) (.node
  (fo F 253) (.node (oc12) .nil .nil) .nil))))))) (.node (fo F 2) (.node (boot_o_4 P) (.node (boot_o_8 P) (.node (oc12) (.node (fo F 32) (.node (fo F 64) (.node (fo F 128) (.node
  (fo F 256) .nil .nil) (.node (fo F 384) .nil .nil)) (.node (fo F 192) (.node (fo F 320) .nil .nil) .nil)) (.node (oc12) (.node (fo F 160) (.node (fo F 288) .nil .nil) .nil)
  (.node (fo F 224) (.node (fo F 352) .nil .nil) .nil))) (.node (fo F 48) (.node (fo F 80) (.node (ob144) (.node (oc12) .nil .nil) .nil) (.node (fo F 208) (.node (ft (fo F 338))
  .nil .nil) .nil)) (.node (fo F 112) (.node (ob11) (.node (fo F 304) .nil .nil) .nil) (.node (ft (fo F 242)) (.node (fo F 368) .nil .nil) .nil)))) (.node (fo F 24) (.node (ft (fo
  F 42)) (.node (fo F 72) (.node (ob136) (.node (fo F 264) .nil .nil) .nil) (.node (fo F 200) (.node (oc12) .nil .nil) .nil)) (.node (fo F 104) (.node (fo F 168) (.node (ft (fo F
  298)) .nil .nil) .nil) (.node (fo F 232) (.node (ft (fo F 362)) .nil .nil) .nil))) (.node (fo F 56) (.node (fo F 88) (.node (fo F 152) (.node (fo F 280) .nil .nil) .nil) (.node
  (oc12) (.node (fo F 344) .nil .nil) .nil)) (.node (fo F 120) (.node (ft (fo F 186)) (.node (fo F 312) .nil .nil) .nil) (.node (fo F 248) (.node (oc12) .nil .nil) .nil))))) (.node
  (ob12) (.node (fo F 20) (.node (fo F 36) (.node (fo F 68) (.node (fo F 132) (.node (fo F 260) .nil .nil) .nil) (.node (fo F 196) (.node (fo F 324) .nil .nil) .nil)) (.node (fo F
  100) (.node (ob164) (.node (fo F 292) .nil .nil) .nil) (.node (fo F 228) (.node (fo F 356) .nil .nil) .nil))) (.node (fo F 52) (.node (fo F 84) (.node (oc12) (.node (fo F 276)
  .nil .nil) .nil) (.node (ft (fo F 214)) (.node (oc12) .nil .nil) .nil)) (.node (ob116) (.node (fo F 180) (.node (fo F 308) .nil .nil) .nil) (.node (oc12) (.node (ft (fo F 374))
  .nil .nil) .nil)))) (.node (fo F 28) (.node (oc12) (.node (fo F 76) (.node (ob140 P) (.node (ft (fo F 270)) .nil .nil) .nil) (.node (fo F 204) (.node (fo F 332) .nil .nil) .nil))
  (.node (fo F 108) (.node (fo F 172) (.node (oc12) .nil .nil) .nil) (.node (fo F 236) (.node (oc12) .nil .nil) .nil))) (.node (fo F 60) (.node (ft (fo F 94)) (.node (fo F 156)
  (.node (fo F 284) .nil .nil) .nil) (.node (fo F 220) (.node (fo F 348) .nil .nil) .nil)) (.node (fo F 124) (.node (oc12) (.node (fo F 316) .nil .nil) .nil) (.node (fo F 252)
  (.node (fo F 380) .nil .nil) .nil)))))) (.node (boot_o_6 P) (.node (boot_o_10 P) (.node (fo F 18) (.node (fo F 34) (.node (ft (fo F 68)) (.node (fo F 130) (.node (oc12) .nil
  .nil) .nil) (.node (fo F 194) (.node (fo F 322) .nil .nil) .nil)) (.node (fo F 98) (.node (fo F 162) (.node (fo F 290) .nil .nil) .nil) (.node (ft (fo F 228)) (.node (oc12) .nil
  .nil) .nil))) (.node (fo F 50) (.node (oc12) (.node (fo F 146) (.node (fo F 274) .nil .nil) .nil) (.node (fo F 210) (.node (fo F 338) .nil .nil) .nil)) (.node (ob114) (.node
  (ob178) (.node (fo F 306) .nil .nil) .nil) (.node (fo F 242) (.node (fo F 370) .nil .nil) .nil)))) (.node (ft (fo F 28)) (.node (fo F 42) (.node (fo F 74) (.node (fo F 138)
  (.node (fo F 266) .nil .nil) .nil) (.node (oc12) (.node (fo F 330) .nil .nil) .nil)) (.node (ft (fo F 108)) (.node (ft (fo F 172)) (.node (fo F 298) .nil .nil) .nil) (.node (fo F
  234) (.node (fo F 362) .nil .nil) .nil))) (.node (oc12) (.node (fo F 90) (.node (fo F 154) (.node (ft (fo F 284)) .nil .nil) .nil) (.node (fo F 218) (.node (fo F 346) .nil .nil)
  .nil)) (.node (ft (fo F 124)) (.node (fo F 186) (.node (oc12) .nil .nil) .nil) (.node (fo F 250) (.node (fo F 378) .nil .nil) .nil))))) (.node (ob14) (.node (fo F 22) (.node (fo
  F 38) (.node (oc12) (.node (fo F 134) (.node (fo F 262) .nil .nil) .nil) (.node (ft (fo F 200)) (.node (ob326) .nil .nil) .nil)) (.node (fo F 102) (.node (fo F 166) (.node (fo F
  294) .nil .nil) .nil) (.node (oc12) (.node (fo F 358) .nil .nil) .nil))) (.node (ft (fo F 56)) (.node (fo F 86) (.node (fo F 150) (.node (fo F 278) .nil .nil) .nil) (.node (fo F
  214) (.node (fo F 342) .nil .nil) .nil)) (.node (fo F 118) (.node (fo F 182) (.node (ft (fo F 312)) .nil .nil) .nil) (.node (fo F 246) (.node (fo F 374) .nil .nil) .nil))))
  (.node (oc12) (.node (fo F 46) (.node (ft (fo F 80)) (.node (ob11) (.node (fo F 270) .nil .nil) .nil) (.node (fo F 206) (.node (fo F 334) .nil .nil) .nil)) (.node (ob110) (.node
  (ob110) (.node (fo F 302) .nil .nil) .nil) (.node (fo F 238) (.node (fo F 366) .nil .nil) .nil))) (.node (fo F 62) (.node (fo F 94) (.node (ft (fo F 160)) (.node (oc12) .nil
  .nil) .nil) (.node (fo F 222) (.node (ft (fo F 352)) .nil .nil) .nil)) (.node (oc12) (.node (fo F 190) (.node (fo F 318) .nil .nil) .nil) (.node (ft (fo F 256)) (.node (ft (fo F
  384)) .nil .nil) .nil)))))))
noncomputable abbrev hB (P : Params) : Heap := ⟨⟨[(boot_o_0 P), (boot_o_1 P), (boot_o_2 P), (boot_o_3 P), (boot_o_4 P), (boot_o_5 P), (boot_o_6 P), (boot_o_7 P), (boot_o_8 P),
  (boot_o_9 P), (boot_o_10 P), (ob11), (oc12), (ob13), (ob14)]⟩, lf⟩
noncomputable abbrev hM (F : Frag) (P : Params) : Heap := ⟨⟨[(boot_o_0 P), (boot_o_1 P), (fo F 2), (fo F 3), (boot_o_4 P), (boot_o_5 P), (boot_o_6 P), (boot_o_7 P), (boot_o_8 P),
  (boot_o_9 P), (boot_o_10 P), (ob11), (ob12), (ob13), (ob14), (fo F 15), (oc12), (fo F 17), (fo F 18), (ft (fo F 21)), (fo F 20), (fo F 21), (fo F 22), (oc12), (fo F 24), (fo F
  25), (ft (fo F 28)), (fo F 27), (fo F 28), (fo F 29), (oc12), (fo F 31), (fo F 32), (ft (fo F 35)), (fo F 34), (fo F 35), (fo F 36), (oc12), (fo F 38), (fo F 39), (ft (fo F 42)),
  (fo F 41), (fo F 42), (fo F 43), (oc12), (fo F 45), (fo F 46), (ft (fo F 49)), (fo F 48), (fo F 49), (fo F 50), (oc12), (fo F 52), (fo F 53), (ft (fo F 56)), (fo F 55), (fo F
  56), (fo F 57), (oc12), (fo F 59), (fo F 60), (ft (fo F 63)), (fo F 62), (fo F 63), (fo F 64), (oc12), (ft (fo F 68)), (fo F 67), (fo F 68), (fo F 69), (oc12), (ft (fo F 73)),
  (fo F 72), (fo F 73), (fo F 74), (oc12), (fo F 76), (fo F 77), (ft (fo F 80)), (fo F 79), (fo F 80), (fo F 81), (oc12), (fo F 83), (fo F 84), (ft (fo F 87)), (fo F 86), (fo F
  87), (fo F 88), (oc12), (fo F 90), (fo F 91), (ft (fo F 94)), (fo F 93), (fo F 94), (fo F 95), (oc12), (fo F 97), (fo F 98), (ft (fo F 101)), (fo F 100), (fo F 101), (fo F 102),
  (oc12), (fo F 104), (fo F 105), (ft (fo F 108)), (fo F 107), (fo F 108), (fo F 109), (ob110), (ob111 P), (fo F 112), (ob11), (ob114), (ob115), (ob116), (fo F 117), (fo F 118),
  (oc12), (fo F 120), (fo F 121), (ft (fo F 124)), (fo F 123), (fo F 124), (fo F 125), (oc12), (fo F 127), (fo F 128), (ft (fo F 131)), (fo F 130), (fo F 131), (fo F 132), (fo F
  133), (fo F 134), (fo F 135), (ob136), (ob137), (fo F 138), (ob110), (ob140 P), (fo F 141), (ob11), (ob143), (ob144), (ob145), (fo F 146), (fo F 147), (oc12), (fo F 149), (fo F
  150), (ft (fo F 153)), (fo F 152), (fo F 153), (fo F 154), (oc12), (fo F 156), (fo F 157), (ft (fo F 160)), (fo F 159), (fo F 160), (fo F 161), (fo F 162), (fo F 163), (ob164),
  (ob165), (fo F 166), (oc12), (fo F 168), (fo F 169), (ft (fo F 172)), (fo F 171), (fo F 172), (ob11), (ob110), (ob175 P), (ob11), (ob177), (ob178), (ob179), (fo F 180), (oc12),
  (fo F 182), (fo F 183), (ft (fo F 186)), (fo F 185), (fo F 186), (fo F 187), (oc12), (fo F 189), (fo F 190), (ft (fo F 193)), (fo F 192), (fo F 193), (fo F 194), (oc12), (fo F
  196), (fo F 197), (ft (fo F 200)), (fo F 199), (fo F 200), (fo F 201), (oc12), (fo F 203), (fo F 204), (ft (fo F 207)), (fo F 206), (fo F 207), (fo F 208), (oc12), (fo F 210),
  (fo F 211), (ft (fo F 214)), (fo F 213), (fo F 214), (fo F 215), (oc12), (fo F 217), (fo F 218), (ft (fo F 221)), (fo F 220), (fo F 221), (fo F 222), (oc12), (fo F 224), (fo F
  225), (ft (fo F 228)), (fo F 227), (fo F 228), (fo F 229), (oc12), (fo F 231), (fo F 232), (ft (fo F 235)), (fo F 234), (fo F 235), (fo F 236), (oc12), (fo F 238), (fo F 239),
  (ft (fo F 242)), (fo F 241), (fo F 242), (fo F 243), (oc12), (fo F 245), (fo F 246), (ft (fo F 249)), (fo F 248), (fo F 249), (fo F 250), (oc12), (fo F 252), (fo F 253), (ft (fo
  F 256)), (fo F 255), (fo F 256), (fo F 257), (oc12), (fo F 259), (fo F 260), (ft (fo F 263)), (fo F 262), (fo F 263), (fo F 264), (oc12), (fo F 266), (fo F 267), (ft (fo F 270)),
  (fo F 269), (fo F 270), (fo F 271), (oc12), (fo F 273), (fo F 274), (ft (fo F 277)), (fo F 276), (fo F 277), (fo F 278), (oc12), (fo F 280), (fo F 281), (ft (fo F 284)), (fo F
  283), (fo F 284), (fo F 285), (oc12), (fo F 287), (fo F 288), (ft (fo F 291)), (fo F 290), (fo F 291), (fo F 292), (oc12), (fo F 294), (fo F 295), (ft (fo F 298)), (fo F 297),
  (fo F 298), (fo F 299), (oc12), (fo F 301), (fo F 302), (ft (fo F 305)), (fo F 304), (fo F 305), (fo F 306), (oc12), (fo F 308), (fo F 309), (ft (fo F 312)), (fo F 311), (fo F
  312), (fo F 313), (oc12), (fo F 315), (fo F 316), (ft (fo F 319)), (fo F 318), (fo F 319), (fo F 320), (fo F 321), (fo F 322), (fo F 323), (fo F 324), (ob325), (ob326), (fo F
  327), (oc12), (fo F 329), (fo F 330), (ft (fo F 333)), (fo F 332), (fo F 333), (fo F 334), (oc12), (ft (fo F 338)), (fo F 337), (fo F 338), (fo F 339), (oc12), (fo F 341), (fo F
  342), (ft (fo F 345)), (fo F 344), (fo F 345), (fo F 346), (oc12), (fo F 348), (fo F 349), (ft (fo F 352)), (fo F 351), (fo F 352), (fo F 353), (oc12), (ft (fo F 357)), (fo F
  356), (fo F 357), (fo F 358), (oc12), (ft (fo F 362)), (fo F 361), (fo F 362), (fo F 363), (oc12), (ft (fo F 367)), (fo F 366), (fo F 367), (fo F 368), (oc12), (fo F 370), (fo F
  371), (ft (fo F 374)), (fo F 373), (fo F 374), (fo F 375), (oc12), (ft (fo F 379)), (fo F 378), (fo F 379), (fo F 380), (oc12), (ft (fo F 384)), (fo F 383), (fo F 384)]⟩, lf⟩
noncomputable abbrev pr : Program := RowW.prog theRow
noncomputable abbrev bd : List Stmt := behindTheImports pr
noncomputable abbrev ev : Env := { scope := pr.main.scope, locals := mainNs, globals := mainNs, cells := [], code := .ref 13, frame := some 14 }
noncomputable abbrev cE : Code := .body bd ev
noncomputable abbrev p0 : Pos := ⟨0, 0, 0, 0⟩
noncomputable abbrev pA : Pos := ⟨91, 0, 91, 8⟩
noncomputable abbrev pM : Pos := ⟨254, 0, 268, 15⟩
noncomputable abbrev an : Option Value := some (.ref 6)
noncomputable abbrev S0 (w : World) (os : OsState) : Shared := ⟨boot_heap w.params, Array.mk [], boot_drawn, boot_toks, os⟩
noncomputable abbrev SC (w : World) (os : OsState) : Shared := ⟨hB w.params, Array.mk [], dr, 187, os⟩
noncomputable abbrev SB (w : World) (os : OsState) : SharedT := ⟨tB w.params, 15, lf, Array.mk [], dr, 187, os⟩
noncomputable abbrev SA (K : Params → Frag) (w : World) (os : OsState) : SharedT := ⟨tA (K w.params) w.params, 173, lf, Array.mk [], dr, 399, os⟩
noncomputable abbrev SM (K : Params → Frag) (w : World) (os : OsState) : SharedT := ⟨tM (K w.params) w.params, 385, lf, Array.mk [], dr, 669, os⟩
noncomputable abbrev SF (K : Params → Frag) (w : World) (os : OsState) : Shared := ⟨hM (K w.params) w.params, Array.mk [], dr, 669, os⟩
set_option maxRecDepth 100000 in
theorem run_pre (w : World) : (fun os => topGo treeTable pr w 11 an 12 (S0 w os) (topStub pr)) = fun os => some (SC w os, ⟨denote treeTable cE, cE, p0, [topFrame p0]⟩) := by
  kernel_rfl
theorem run_block (w : World) : (fun os => segRun treeTable pr w 11 an 1 1 (SC w os) (blockOf bd ev cE p0 [topFrame p0])) = fun os => some (Flow.next, (SB w os).abs, cE, p0) := by
  kernel_rfl
theorem boot_is (w : World) : (fencedOpening treeTable pr w 4534).map (fun s => (s.heap, s.gens, s.drawn, s.toks)) = some (boot_heap w.params, Array.mk [], boot_drawn, boot_toks) :=
  boot_open (by kernel_rfl) (by kernel_rfl) (fun s => by kernel_rfl) w
theorem boot_size (w : World) : ((boot_heap w.params).isNs mainGlobals && (Array.mk ([] : List GenState)).size == 0, (boot_heap w.params).objs.size, (boot_heap w.params).nsMap mainGlobals "__annotations__") = (true, 11, an) := by
  kernel_rfl
theorem left_of {K : Params → Frag} {q : Program} {loose : List Str} {Xt : Shared → Bool} {α : Type} {Yf : Shared → α} {Ya : World → α} {g0 : Bool}
    (hA : ∀ w : World, (fun os => segRunT treeTable pr w 11 an 1 1071 (SB w os) (piecesOf (bd.take 22) ev cE p0 [topFrame p0])) = fun os => some (Flow.next, SA K w os, cE, pA))
    (hB : ∀ w : World, (fun os => segRunT treeTable pr w 11 an 1 1135 (SA K w os) (piecesOf (bd.drop 22) ev cE pA [topFrame p0])) = fun os => some (Flow.next, SM K w os, cE, pM))
    (hF : ∀ w : World, (fun os => topRun treeTable pr w 11 an 2 (SM K w os).abs ⟨doneF .next, cE, pM, [topFrame p0]⟩) = fun os => some (SF K w os))
    (looks : ∀ w : World, (fun os => ((staticsOk (importedModules pr.main.body) (boot_heap w.params) (hM (K w.params) w.params) && namesBound pr (hM (K w.params) w.params) && gensDone (SF K w os) && laidKept (boot_heap w.params) (hM (K w.params) w.params)),
        openSeen q loose (importedModules pr.main.body) Xt g0 (SF K w os), Yf (SF K w os))) = fun _ => (true, openGood q loose, Ya w)) :
    LeftO pr q loose Xt Yf Ya 4534 g0 :=
  LeftO.of_pieces (H₀ := boot_heap) (H₁ := fun P => hM (K P) P) (gs₀ := Array.mk []) (gs₁ := Array.mk []) (d₀ := boot_drawn) (d₁ := dr) (k₀ := boot_toks) (k₁ := 669) (m₀ := 11) (ann := an)
    (M := 12 + (1 + (1071 + (1135 + 2)))) boot_is boot_size (fun w os => by
      have kB := piece_app (rest := []) (segRun_of (congrFun (hB w) os)) (piece_nil (congrFun (hF w) os))
      have kA := piece_app (segRun_of (congrFun (hA w) os)) kB
      have e : bd.take 22 ++ (bd.drop 22 ++ []) = bd := by rw [List.append_nil]; exact List.take_append_drop 22 bd
      rw [e] at kA
      exact go_top (congrFun (run_pre w) os) (piece_block (congrFun (run_block w) os) kA)) (by rfl) looks
theorem of_left {A B C : Prop} (h : A ∧ B → C) (a : A) : B → C := fun b => h ⟨a, b⟩
set_option hygiene false in
local macro_rules | `(tactic| o_head $H) => `(tactic| (
  rename_i said
  refine And.elim (fun l k => holds_open (q := Mine.view) (loose := [PySem.Str.ofString "has_domains"]) (Xt := fun s => xlAt Mine.view [] s && recOk (RowW.records Mine.theRow) s) (XP := XL Mine.view []) (Yf := Hook.obs $H) (Ya := Hook.val $H) (YP := Hook.says $H) (N := 4534)
    l (Hook.of $H) (Hook.keeps $H) (fun s e => xl_of s (Bool.and_eq_true_iff.mp e).1) XL.keeps (by rfl) (by rfl) (by rfl) (fun s e => recFacts_of (Bool.and_eq_true_iff.mp e).2) (by rfl) said (by decide +kernel) ⟨rfl, rfl, rfl, rfl, rfl, by decide +kernel⟩ ?hw k) ?hc
  all_goals clear said))
set_option maxRecDepth 100000 in
set_option maxHeartbeats 8000000 in
open_top hd for PySem.Challenge.rw_nz0017_01
theorem run_A (w : World) : (fun os => segRunT treeTable pr w 11 an 1 1071 (SB w os) (piecesOf (bd.take 22) ev cE p0 [topFrame p0])) = fun os => some (Flow.next, SA Mine.hd.heap_39 w os, cE, pA) := by
  kernel_rfl
theorem run_B (w : World) : (fun os => segRunT treeTable pr w 11 an 1 1135 (SA Mine.hd.heap_39 w os) (piecesOf (bd.drop 22) ev cE pA [topFrame p0])) = fun os => some (Flow.next, SM Mine.hd.heap_39 w os, cE, pM) := by
  kernel_rfl
theorem run_F (w : World) : (fun os => topRun treeTable pr w 11 an 2 (SM Mine.hd.heap_39 w os).abs ⟨doneF .next, cE, pM, [topFrame p0]⟩) = fun os => some (SF Mine.hd.heap_39 w os) := by
  kernel_rfl
set_option maxRecDepth 100000 in
noncomputable def hd_walk := of_left Mine.hd (left_of run_A run_B run_F (fun w => by kernel_rfl))
end Mine
end
section
open PySem PySem.W PySem.Calls PyProof.Rows
set_option maxRecDepth 100000
namespace Mine

structure Bs (w : World) (z : Heap) : Prop where
  k : (Mine.hd.heap_39 w.params).In z
  t : ∃ p loose mean mg mb, Top p loose mean mg mb z

theorem Bs.keeps {w : World} {z z' : Heap} (B : Bs w z) (i : z.StaysIn z') : Bs w z' := by
  obtain ⟨k, p, lo, me, mg, mb, t⟩ := B
  exact ⟨k.keeps i, p, lo, me, mg, mb, t.keeps i⟩

abbrev Led := List (Addr × (Obj → Prop))

structure St (w : World) (z : Heap) (l : Led) (h : Heap) : Prop where
  bs : Bs w z
  fz : z.StaysIn h
  own : ∀ p ∈ l, ∃ o, h.get? p.1 = some o ∧ p.2 o
  off : ∀ p ∈ l, z.get? p.1 = none
  nd : (l.map (·.1)).Nodup

def Sm (s : Shared) (z : Heap) (s' : Shared) (z' : Heap) : Prop := (∃ h' tk, s' = { s with heap := h', toks := tk }) ∧ z.StaysIn z'
theorem Sm.refl {s : Shared} {z : Heap} : Sm s z s z := ⟨⟨s.heap, s.toks, rfl⟩, fun _ _ e => e⟩
theorem Sm.trans {s s₁ s₂ : Shared} {z z₁ z₂ : Heap} (a : Sm s z s₁ z₁) (b : Sm s₁ z₁ s₂ z₂) : Sm s z s₂ z₂ := by
  obtain ⟨⟨h, t, rfl⟩, i⟩ := a
  obtain ⟨⟨h', t', rfl⟩, i'⟩ := b
  exact ⟨⟨h', t', rfl⟩, fun b o e => i' b o (i b o e)⟩
theorem Sm.mk' {s : Shared} {z : Heap} {h' : Heap} {tk : Nat} : Sm s z { s with heap := h', toks := tk } z := ⟨⟨h', tk, rfl⟩, fun _ _ e => e⟩

def Lft {α : Type} (w : World) (s : Shared) (z : Heap) (Q : α → Heap → Led → Prop) (a : α) (s' : Shared) : Prop :=
  ∃ z' l', Sm s z s' z' ∧ St w z' l' s'.heap ∧ Q a z' l'
abbrev NoE : Value → Shared → Prop := fun _ _ => False

/-- the triple: from every state that the frozen heap z and the ledger l describe, the tree ends without a raise in a state where Q holds -/
def T {α : Type} (prog : Program) (w : World) (A : Around) (t : Sem α) (Q : α → Heap → Led → Prop) (z : Heap) (l : Led) : Prop :=
  ∀ s : Shared, St w z l s.heap → wpAny (model prog w) A t (Lft w s z Q) NoE s
def TC (prog : Program) (w : World) (A : Around) (c : Code) (R : Result → Heap → Led → Prop) (z : Heap) (l : Led) : Prop :=
  ∀ s : Shared, St w z l s.heap → codeAny (model prog w) A c (Lft w s z R) s

section
variable {α β : Type} {prog : Program} {w : World} {A : Around} {z : Heap} {l : Led} {s : Shared}

theorem T.nest {t : Sem α} {P : α → Heap → Led → Prop} {R : α → Shared → Prop} (h : T prog w A t P z l) (S : St w z l s.heap)
    (k : ∀ a s₁ z₁ l₁, Sm s z s₁ z₁ → St w z₁ l₁ s₁.heap → P a z₁ l₁ → R a s₁) : wpAny (model prog w) A t R NoE s :=
  wpAny_mono (h s S) (fun a s₁ ⟨z₁, l₁, i, S₁, p⟩ => k a s₁ z₁ l₁ i S₁ p) fun _ _ x => x
theorem T.up {t : Sem α} {Q : α → Heap → Led → Prop} {s₁ : Shared} {z₁ : Heap} {l₁ : Led} (h : T prog w A t Q z₁ l₁) (S : St w z₁ l₁ s₁.heap) (i : Sm s z s₁ z₁) :
    wpAny (model prog w) A t (Lft w s z Q) NoE s₁ :=
  wpAny_mono (h s₁ S) (fun _ _ ⟨z₂, l₂, i₂, S₂, q⟩ => ⟨z₂, l₂, i.trans i₂, S₂, q⟩) fun _ _ x => x
theorem Lft.here {Q : α → Heap → Led → Prop} {a : α} (S : St w z l s.heap) (q : Q a z l) : Lft w s z Q a s := ⟨z, l, Sm.refl, S, q⟩
theorem Lft.at {Q : α → Heap → Led → Prop} {a : α} {s₁ : Shared} {z₁ : Heap} {l₁ : Led} (i : Sm s z s₁ z₁) (S : St w z₁ l₁ s₁.heap) (q : Q a z₁ l₁) : Lft w s z Q a s₁ := ⟨z₁, l₁, i, S, q⟩
theorem St.toks {h : Heap} (S : St w z l h) : St w z l h := S

theorem T.bind {m : Sem α} {f : α → Sem β} {Q : β → Heap → Led → Prop} (h : T prog w A m (fun a => T prog w A (f a) Q) z l) : T prog w A (m >>= f) Q z l :=
  fun s S => wpAny_bind (h.nest S fun _ _ _ _ i S₁ h₁ => h₁.up S₁ i)
theorem T.mono {t : Sem α} {Q Q' : α → Heap → Led → Prop} (h : T prog w A t Q z l) (k : ∀ a z' l', z.StaysIn z' → Q a z' l' → Q' a z' l') : T prog w A t Q' z l :=
  fun s S => h.nest S fun a s₁ z₁ l₁ i S₁ q => ⟨z₁, l₁, i, S₁, k a z₁ l₁ i.2 q⟩
theorem T.pure {a : α} {Q : α → Heap → Led → Prop} (h : Q a z l) : T prog w A (pure a) Q z l := fun _ S => wpAny_pure (Lft.here S h)

/-- weakening of the ledger -/
theorem St.sub {h : Heap} {l' : Led} (S : St w z l h) (k : l'.Sublist l) : St w z l' h :=
  ⟨S.bs, S.fz, fun p hp => S.own p (k.subset hp), fun p hp => S.off p (k.subset hp), (k.map _).nodup S.nd⟩
theorem St.perm {h : Heap} {l' : Led} (S : St w z l h) (k : l.Perm l') : St w z l' h :=
  ⟨S.bs, S.fz, fun p hp => S.own p (k.mem_iff.mpr hp), fun p hp => S.off p (k.mem_iff.mpr hp), (k.map _).nodup_iff.mp S.nd⟩
theorem T.drop {t : Sem α} {Q : α → Heap → Led → Prop} {l' : Led} (k : l'.Sublist l) (h : T prog w A t Q z l') : T prog w A t Q z l := fun s S => h s (S.sub k)
theorem T.drop1 {t : Sem α} {Q : α → Heap → Led → Prop} {p : Addr × (Obj → Prop)} (h : T prog w A t Q z l) : T prog w A t Q z (p :: l) := fun s S => h s (S.sub (List.sublist_cons_self _ _))
theorem T.perm {t : Sem α} {Q : α → Heap → Led → Prop} {l' : Led} (k : l.Perm l') (h : T prog w A t Q z l') : T prog w A t Q z l := fun s S => h s (S.perm k)

/-- everything that is not owned may be frozen -/
theorem St.freeze {h : Heap} {a : Addr} {P : Obj → Prop} (S : St w z ((a, P) :: l) h) : ∃ z' o, z.StaysIn z' ∧ z'.get? a = some o ∧ P o ∧ St w z' l h := by
  obtain ⟨o, ho, hP⟩ := S.own (a, P) List.mem_cons_self
  have hn : z.StaysIn (hideAll h (l.map (·.1))) := fun b o e => hideAll_get _ (S.fz b o e) fun hb => by
    obtain ⟨p, hp, rfl⟩ := List.mem_map.mp hb
    have := S.off p (List.mem_cons_of_mem _ hp)
    rw [this] at e; cases e
  have nd := S.nd
  rw [List.map_cons, List.nodup_cons] at nd
  exact ⟨hideAll h (l.map (·.1)), o, hn, hideAll_get _ ho nd.1, hP, S.bs.keeps hn, fun b o e => of_hideAll _ e, fun p hp => S.own p (List.mem_cons_of_mem _ hp),
    fun p hp => hideAll_none _ (List.mem_map_of_mem hp), nd.2⟩
theorem T.freeze {t : Sem α} {Q : α → Heap → Led → Prop} {a : Addr} {P : Obj → Prop} (h : ∀ z', z.StaysIn z' → (∃ o, z'.get? a = some o ∧ P o) → T prog w A t Q z' l) :
    T prog w A t Q z ((a, P) :: l) := fun s S => by
  obtain ⟨z', o, i, ho, hP, S'⟩ := S.freeze
  exact (h z' i ⟨o, ho, hP⟩).up S' ⟨⟨s.heap, s.toks, rfl⟩, i⟩

/-- the ledger with the entry at a replaced -/
inductive Upd1 (a : Addr) (P : Obj → Prop) : Led → ((Obj → Prop) → Led) → Prop
  | head {r : Led} : Upd1 a P ((a, P) :: r) (fun P' => (a, P') :: r)
  | tail {p : Addr × (Obj → Prop)} {r : Led} {g : (Obj → Prop) → Led} : Upd1 a P r g → Upd1 a P (p :: r) (fun P' => p :: g P')
theorem Upd1.split {a : Addr} {P : Obj → Prop} {l : Led} {g : (Obj → Prop) → Led} (U : Upd1 a P l g) : ∃ pre post, l = pre ++ (a, P) :: post ∧ ∀ P', g P' = pre ++ (a, P') :: post := by
  induction U with
  | @head r => exact ⟨[], r, rfl, fun _ => rfl⟩
  | @tail p r g _ ih =>
    obtain ⟨pre, post, h1, h2⟩ := ih
    exact ⟨p :: pre, post, by rw [h1]; rfl, fun P' => by show p :: g P' = _; rw [h2]; rfl⟩
theorem Upd1.mem {a : Addr} {P : Obj → Prop} {l : Led} {g : (Obj → Prop) → Led} (U : Upd1 a P l g) : (a, P) ∈ l := by
  obtain ⟨pre, post, rfl, _⟩ := U.split
  exact List.mem_append_right _ List.mem_cons_self
theorem St.get {h : Heap} {a : Addr} {P : Obj → Prop} (S : St w z l h) (m : (a, P) ∈ l) : ∃ o, h.get? a = some o ∧ P o := S.own _ m
theorem St.upd {h h' : Heap} {a : Addr} {P P' : Obj → Prop} {g : (Obj → Prop) → Led} (S : St w z l h) (U : Upd1 a P l g) (hs : ∀ b o, b ≠ a → h.get? b = some o → h'.get? b = some o) (hn : ∃ o, h'.get? a = some o ∧ P' o) :
    St w z (g P') h' := by
  obtain ⟨pre, post, rfl, hg⟩ := U.split
  rw [hg]
  have nd := S.nd
  simp only [List.map_append, List.map_cons] at nd
  have ha : z.get? a = none := S.off (a, P) (List.mem_append_right _ List.mem_cons_self)
  have ne : ∀ p, p ∈ pre ∨ p ∈ post → p.1 ≠ a := by
    intro p hp e
    have nd2 := nd
    rw [List.nodup_append] at nd2
    rcases hp with hp | hp
    · exact nd2.2.2 _ (List.mem_map_of_mem hp) a List.mem_cons_self e
    · exact (List.nodup_cons.mp nd2.2.1).1 (e ▸ List.mem_map_of_mem hp)
  refine ⟨S.bs, fun b o e => hs b o (fun q => by rw [q, ha] at e; cases e) (S.fz b o e), fun p hp => ?_, fun p hp => ?_, by simpa only [List.map_append, List.map_cons] using nd⟩
  · rcases List.mem_append.mp hp with hp | hp
    · obtain ⟨o, ho, k⟩ := S.own p (List.mem_append_left _ hp)
      exact ⟨o, hs _ _ (ne p (.inl hp)) ho, k⟩
    · rcases List.mem_cons.mp hp with rfl | hp
      · exact hn
      · obtain ⟨o, ho, k⟩ := S.own p (List.mem_append_right _ (List.mem_cons_of_mem _ hp))
        exact ⟨o, hs _ _ (ne p (.inr hp)) ho, k⟩
  · rcases List.mem_append.mp hp with hp | hp
    · exact S.off p (List.mem_append_left _ hp)
    · rcases List.mem_cons.mp hp with rfl | hp
      · exact ha
      · exact S.off p (List.mem_append_right _ (List.mem_cons_of_mem _ hp))
/-- a new object onto the ledger -/
theorem St.new {h : Heap} {o : Obj} {P : Obj → Prop} (S : St w z l h) (hf : o.isFreed = false) (hP : P o) : St w z ((h.objs.size, P) :: l) (h.push o) := by
  have fresh : h.get? h.objs.size = none := Heap.get?_none_of_le (Nat.le_refl _)
  refine ⟨S.bs, fun b o' e => Heap.get?_push_of_some _ (S.fz b o' e), fun p hp => ?_, fun p hp => ?_, ?_⟩
  · rcases List.mem_cons.mp hp with rfl | hp
    · exact ⟨o, Heap.get?_push_size _ hf, hP⟩
    · obtain ⟨o', ho', k⟩ := S.own p hp
      exact ⟨o', Heap.get?_push_of_some _ ho', k⟩
  · rcases List.mem_cons.mp hp with rfl | hp
    · cases e : z.get? h.objs.size with
      | none => rfl
      | some o' => have := S.fz _ _ e; rw [fresh] at this; cases this
    · exact S.off p hp
  · rw [List.map_cons, List.nodup_cons]
    refine ⟨fun hm => ?_, S.nd⟩
    obtain ⟨p, hp, e⟩ := List.mem_map.mp hm
    obtain ⟨o', ho', _⟩ := S.own p hp
    rw [e, fresh] at ho'; cases ho'
theorem St.grow {h h' : Heap} (S : St w z l h) (k : ∀ b o, h.get? b = some o → h'.get? b = some o) : St w z l h' :=
  ⟨S.bs, fun b o e => k b o (S.fz b o e), fun p hp => let ⟨o, ho, q⟩ := S.own p hp; ⟨o, k _ _ ho, q⟩, S.off, S.nd⟩
end
end Mine
end
section
open PySem PySem.W PySem.Calls PyProof.Rows
set_option maxRecDepth 100000
namespace Mine
section
variable {α β : Type} {prog : Program} {w : World} {A : Around} {z : Heap} {l : Led} {s : Shared} {env : Env}

abbrev Post (α : Type) := α → Heap → Led → Prop
/-- the two ways of a test -/
def Br (X Y : Heap → Led → Prop) : Post Bool := fun b z l => (b = true → X z l) ∧ (b = false → Y z l)

theorem t_nil {Q : Post Flow} (h : Q .next z l) : T prog w A (execs [] env) Q z l := fun s S => wpAny_execs_nil (Lft.here S h)
def SeqQ (prog : Program) (w : World) (A : Around) (rest : List Stmt) (env : Env) (Q : Post Flow) : Post Flow := fun f z l => match f with
  | .next => T prog w A (execs rest env) Q z l
  | f => Q f z l
theorem t_cons {st : Stmt} {rest : List Stmt} {Q : Post Flow} (h : T prog w A (exec st env) (SeqQ prog w A rest env Q) z l) : T prog w A (execs (st :: rest) env) Q z l :=
  fun s S => wpAny_execs_cons (h.nest S fun f s₁ z₁ l₁ i S₁ p => by
    cases f with
    | next => exact T.up p S₁ i
    | brk => exact ⟨z₁, l₁, i, S₁, p⟩
    | cont => exact ⟨z₁, l₁, i, S₁, p⟩
    | ret v => exact ⟨z₁, l₁, i, S₁, p⟩)
theorem t_If {test : Expr} {body orelse : List Stmt} {pos : Pos} {Q : Post Flow} (h : T prog w A (isTrue test env (eval test env)) (Br (T prog w A (execs body env) Q) (T prog w A (execs orelse env) Q)) z l) :
    T prog w A (exec (.If test body orelse pos) env) Q z l :=
  fun s S => wpAny_If (h.nest S fun b s₁ z₁ l₁ i S₁ p => by
    cases b with
    | true => exact T.up (p.1 rfl) S₁ i
    | false => exact T.up (p.2 rfl) S₁ i)
theorem t_IfExp {test body orelse : Expr} {pos : Pos} {Q : Post Value} (h : T prog w A (isTrue test env (eval test env)) (Br (T prog w A (eval body env) Q) (T prog w A (eval orelse env) Q)) z l) :
    T prog w A (eval (.IfExp test body orelse pos) env) Q z l :=
  fun s S => wpAny_IfExp (h.nest S fun b s₁ z₁ l₁ i S₁ p => by
    cases b with
    | true => exact T.up (p.1 rfl) S₁ i
    | false => exact T.up (p.2 rfl) S₁ i)
theorem t_Ret {e : Expr} {pos : Pos} {Q : Post Flow} (h : T prog w A (eval e env) (fun v => Q (.ret v)) z l) : T prog w A (exec (.Return (some e) pos) env) Q z l :=
  fun s S => wpAny_Return_some (h s S)
theorem t_RetN {pos : Pos} {Q : Post Flow} (h : Q (.ret .none) z l) : T prog w A (exec (.Return none pos) env) Q z l := fun s S => wpAny_Return_none (Lft.here S h)
theorem t_ExprS {e : Expr} {pos : Pos} {Q : Post Flow} (h : T prog w A (eval e env) (fun _ => Q .next) z l)
    (hi : interactive env = false := by rfl) (hs : swapsWith e none pos.line env = pure false := by rfl) : T prog w A (exec (.Expr e pos) env) Q z l :=
  fun s S => wpAny_Expr_any (h s S) hi hs
theorem t_AssignName {x : Str} {pos' pos : Pos} {value : Expr} {Q : Post Flow} (h : T prog w A (eval value env) (fun v => T prog w A (storeName env x v) (fun _ => Q .next)) z l)
    (hs : swapsWith value (some (.Name x pos')) pos.line env = pure false := by rfl) : T prog w A (exec (.Assign [.Name x pos'] value pos) env) Q z l :=
  fun s S => wpAny_Assign_Name (h.nest S fun v s₁ z₁ l₁ i S₁ p => T.up p S₁ i) hs
theorem t_AssignTuple {elts : List Expr} {k : Nat} {tpos pos : Pos} {value : Expr} {Q : Post Flow} (h : T prog w A (eval value env) (fun v => T prog w A (assign (.Tuple elts k tpos) env v) (fun _ => Q .next)) z l)
    (hs : swapsWithSole [.Tuple elts k tpos] value pos.line env = pure false := by rfl)
    (hw : swappedStores [.Tuple elts k tpos] value env = pure none := by rfl) : T prog w A (exec (.Assign [.Tuple elts k tpos] value pos) env) Q z l :=
  fun s S => Assign_Tuple (h.nest S fun v s₁ z₁ l₁ i S₁ p => T.up p S₁ i) hs hw
theorem t_AssignSwapped {elts : List Expr} {k : Nat} {tpos pos : Pos} {value : Expr} {names : List Str} {Q : Post Flow}
    (h : T prog w A (eval value env) (fun v => T prog w A (unpackItems v names.length none) (fun items => T prog w A (assignInOrder (names.reverse.map fun n => bindName env n) items.reverse) (fun _ => Q .next))) z l)
    (hs : swapsWithSole [.Tuple elts k tpos] value pos.line env = pure false := by rfl)
    (hw : swappedStores [.Tuple elts k tpos] value env = pure (some names) := by rfl) : T prog w A (exec (.Assign [.Tuple elts k tpos] value pos) env) Q z l :=
  fun s S => Assign_Tuple_swapped (h.nest S fun v s₁ z₁ l₁ i S₁ p => p.nest S₁ fun v s₂ z₂ l₂ i₂ S₂ p => T.up p S₂ (i.trans i₂)) hs hw
theorem t_AssignSub {o i value : Expr} {pos' pos : Pos} {Q : Post Flow} (h : T prog w A (eval value env) (fun v => T prog w A (eval o env) (fun ov => T prog w A (eval i env) (fun iv => T prog w A (setItem ov iv v) (fun _ => Q .next)))) z l)
    (hs : swapsWith value (some (.Subscript o i pos')) pos.line env = pure false := by rfl) : T prog w A (exec (.Assign [.Subscript o i pos'] value pos) env) Q z l :=
  fun s S => wpAny_Assign_Subscript (h.nest S fun v s₁ z₁ l₁ i₁ S₁ p => p.nest S₁ fun v s₂ z₂ l₂ i₂ S₂ p => p.nest S₂ fun v s₃ z₃ l₃ i₃ S₃ p => T.up p S₃ ((i₁.trans i₂).trans i₃)) hs
theorem t_AssignAttr {o value : Expr} {attr : Str} {apos pos : Pos} {Q : Post Flow}
    (h : T prog w A (eval value env) (fun v => T prog w A (eval o env) (fun ov => T prog w A (setAttr ov attr v) (fun _ => Q .next))) z l)
    (hs : swapsWith value (some (.Attribute o attr apos)) pos.line env = pure false := by rfl) : T prog w A (exec (.Assign [.Attribute o attr apos] value pos) env) Q z l :=
  fun s S => plainObj_wpAny_Assign_Attribute (h.nest S fun v s₁ z₁ l₁ i₁ S₁ p => p.nest S₁ fun v s₂ z₂ l₂ i₂ S₂ p => T.up p S₂ (i₁.trans i₂)) hs

/- expressions -/
theorem t_BinOp {a b : Expr} {op : Operator} {pos : Pos} {Q : Post Value} (h : T prog w A (eval a env) (fun x => T prog w A (eval b env) (fun y => T prog w A (binaryOp op x y) Q)) z l) :
    T prog w A (eval (.BinOp a op b pos) env) Q z l :=
  fun s S => wpAny_BinOp (h.nest S fun v s₁ z₁ l₁ i₁ S₁ p => p.nest S₁ fun v s₂ z₂ l₂ i₂ S₂ p => T.up p S₂ (i₁.trans i₂))
theorem t_UnOp {op : UnaryOp} {a : Expr} {pos : Pos} {Q : Post Value} (h : T prog w A (eval a env) (fun x => T prog w A (unaryOp op x) Q) z l) :
    T prog w A (eval (.UnaryOp op a pos) env) Q z l :=
  fun s S => wpAny_UnaryOp (h.nest S fun v s₁ z₁ l₁ i₁ S₁ p => T.up p S₁ i₁)
theorem t_Cmp {a b : Expr} {op : CmpOp} {pos : Pos} {Q : Post Value} (h : T prog w A (eval a env) (fun x => T prog w A (eval b env) (fun y => T prog w A (compareOp op x y) Q)) z l)
    (hm : behindInMarks op b = false := by with_unfolding_all rfl) : T prog w A (eval (.Compare a [op] [b] pos) env) Q z l :=
  fun s S => wpAny_Compare1 (h.nest S fun v s₁ z₁ l₁ i₁ S₁ p => p.nest S₁ fun v s₂ z₂ l₂ i₂ S₂ p => T.up p S₂ (i₁.trans i₂)) hm
theorem t_testCmp {a b : Expr} {op : CmpOp} {pos : Pos} {whole : Sem Value} {Q : Post Bool}
    (h : T prog w A (eval a env) (fun x => T prog w A (eval b env) (fun y => T prog w A (compareOp op x y) (fun c => T prog w A (truthy c) Q))) z l)
    (hm : behindInMarks op b = false := by with_unfolding_all rfl) : T prog w A (isTrue (.Compare a [op] [b] pos) env whole) Q z l :=
  fun s S => wpAny_isTrue_Compare1 (h.nest S fun v s₁ z₁ l₁ i₁ S₁ p => p.nest S₁ fun v s₂ z₂ l₂ i₂ S₂ p => p.nest S₂ fun v s₃ z₃ l₃ i₃ S₃ p => T.up p S₃ ((i₁.trans i₂).trans i₃)) hm
theorem t_testNot {a : Expr} {pos : Pos} {whole : Sem Value} {Q : Post Bool} (h : T prog w A (isTrue a env (eval a env)) (fun b => Q (!b)) z l) : T prog w A (isTrue (.UnaryOp .Not a pos) env whole) Q z l :=
  fun s S => wpAny_isTrue_Not (h s S)
theorem t_testVal {e : Expr} {whole : Sem Value} {Q : Post Bool} (h : T prog w A whole (fun v => T prog w A (truthy v) Q) z l)
    (he : isTrue e env whole = (do let v ← whole; standAt e.pos; holding [v] (truthy v)) := by rfl) : T prog w A (isTrue e env whole) Q z l :=
  fun s S => wpAny_isTrue_value (h.nest S fun v s₁ z₁ l₁ i₁ S₁ p => T.up p S₁ i₁) he
theorem t_testAnd {a b : Expr} {pos : Pos} {whole : Sem Value} {Q : Post Bool}
    (h : T prog w A (isTrue a env (eval a env)) (Br (T prog w A (isTrue b env (eval b env)) Q) (Q false)) z l) : T prog w A (isTrue (.BoolOp .And [a, b] pos) env whole) Q z l :=
  fun s S => wpAny_isTrue_BoolOp (wpAny_allTrue_And_cons (h.nest S fun v s₁ z₁ l₁ i₁ S₁ p => by
    cases v with
    | false => exact ⟨z₁, l₁, i₁, S₁, p.2 rfl⟩
    | true => exact wpAny_allTrue_And_cons ((p.1 rfl).nest S₁ fun v s₂ z₂ l₂ i₂ S₂ p => by
        cases v with
        | false => exact ⟨z₂, l₂, i₁.trans i₂, S₂, p⟩
        | true => exact wpAny_allTrue_And_nil ⟨z₂, l₂, i₁.trans i₂, S₂, p⟩)))
theorem t_testOr {a b : Expr} {pos : Pos} {whole : Sem Value} {Q : Post Bool}
    (h : T prog w A (isTrue a env (eval a env)) (Br (Q true) (T prog w A (isTrue b env (eval b env)) Q)) z l) : T prog w A (isTrue (.BoolOp .Or [a, b] pos) env whole) Q z l :=
  fun s S => wpAny_isTrue_BoolOp (wpAny_allTrue_Or_cons (h.nest S fun v s₁ z₁ l₁ i₁ S₁ p => by
    cases v with
    | true => exact ⟨z₁, l₁, i₁, S₁, p.1 rfl⟩
    | false => exact wpAny_allTrue_Or_cons ((p.2 rfl).nest S₁ fun v s₂ z₂ l₂ i₂ S₂ p => by
        cases v with
        | true => exact ⟨z₂, l₂, i₁.trans i₂, S₂, p⟩
        | false => exact wpAny_allTrue_Or_nil ⟨z₂, l₂, i₁.trans i₂, S₂, p⟩)))
theorem t_truthy {b : Bool} {Q : Post Bool} (h : Q b z l) : T prog w A (truthy (.bool b)) Q z l := fun s S => wpAny_truthy_bool (Lft.here S h)
theorem t_not {v : Value} {Q : Post Value} (h : T prog w A (truthy v) (fun b => Q (.bool (!b))) z l) : T prog w A (unaryOp .Not v) Q z l := fun s S => not_value (h s S)

theorem tok_ {Q : α → Heap → Led → Prop} {a : α} {t : Nat} (S : St w z l s.heap) (q : Q a z l) : Lft w s z Q a { s with toks := t } := ⟨z, l, ⟨⟨s.heap, t, rfl⟩, fun _ _ e => e⟩, S, q⟩
theorem t_int {i : Int} {k : Nat} {pos : Pos} {Q : Post Value} (h : ∀ t, Q (.int i t) z l) : T prog w A (eval (.Constant (.int i) k pos) env) Q z l := fun s S => wpAny_Constant_int (tok_ S (h _))
theorem t_str {x : Str} {k : Nat} {pos : Pos} {Q : Post Value} (h : ∀ t, Q (.str x t) z l) : T prog w A (eval (.Constant (.str x) k pos) env) Q z l := fun s S => wpAny_Constant_str (tok_ S (h _))
theorem t_bool {b : Bool} {k : Nat} {pos : Pos} {Q : Post Value} (h : Q (.bool b) z l) : T prog w A (eval (.Constant (.bool b) k pos) env) Q z l := fun s S => wpAny_Constant_bool (Lft.here S h)
theorem t_none {k : Nat} {pos : Pos} {Q : Post Value} (h : Q .none z l) : T prog w A (eval (.Constant .none k pos) env) Q z l := fun s S => wpAny_Constant_none (Lft.here S h)

theorem t_Sub {value slice : Expr} {pos : Pos} {Q : Post Value} (h : T prog w A (eval value env) (fun o => T prog w A (eval slice env) (fun i => T prog w A (subscriptTail value slice o i) Q)) z l) :
    T prog w A (eval (.Subscript value slice pos) env) Q z l :=
  fun s S => Subscript_ (h.nest S fun v s₁ z₁ l₁ i₁ S₁ p => p.nest S₁ fun v s₂ z₂ l₂ i₂ S₂ p => T.up p S₂ (i₁.trans i₂))
theorem t_Attr {value : Expr} {attr : Str} {pos : Pos} {Q : Post Value} (h : T prog w A (eval value env) (fun o => T prog w A (getAttr o attr true) Q) z l)
    (he : eval (.Attribute value attr pos) env = (do
      let o ← eval value env
      standAt pos.atName
      let r ← holding [o] (getAttr o attr true)
      letTemporaryGo value o r
      pure r) := by with_unfolding_all rfl) : T prog w A (eval (.Attribute value attr pos) env) Q z l :=
  fun s S => Attribute_any_ (h.nest S fun v s₁ z₁ l₁ i₁ S₁ p => T.up p S₁ i₁) he
theorem t_Call {func : Expr} {args : List Expr} {pos : Pos} {Q : Post Value} (h : T prog w A (eval func env) (fun f => T prog w A (callWith pos f [] (backTo pos (starEach args env)) []) Q) z l)
    (he : eval (.Call func args [] pos) env = (do callWith pos (← eval func env) [] (backTo pos (starEach args env)) (backToKw pos (keywordEach [] env))) := by rfl) : T prog w A (eval (.Call func args [] pos) env) Q z l :=
  fun s S => Call_ (h.nest S fun v s₁ z₁ l₁ i₁ S₁ p => T.up p S₁ i₁) he
theorem t_CallM {o : Expr} {name : Str} {apos pos : Pos} {args : List Expr} {pl : Sem Bool} {Q : Post Value}
    (h : T prog w A (eval o env) (fun ov => T prog w A (getMethod ov name pl) (fun fx => T prog w A (callWith pos fx.1 fx.2 (backTo pos (starEach args env)) []) Q)) z l)
    (he : eval (.Call (.Attribute o name apos) args [] pos) env = (do
      let ov ← eval o env
      standAt apos.atName
      let (f, first) ← holding [ov] (getMethod ov name pl)
      callWith pos f first (backTo pos (starEach args env)) []) := by rfl) : T prog w A (eval (.Call (.Attribute o name apos) args [] pos) env) Q z l :=
  fun s S => MethodCall_ (h.nest S fun v s₁ z₁ l₁ i₁ S₁ p => p.nest S₁ fun v s₂ z₂ l₂ i₂ S₂ p => T.up p S₂ (i₁.trans i₂)) he
theorem t_spl0 {pos : Pos} {Q : Post (List Value)} (h : Q [] z l) : T prog w A (spliced (backTo pos (starEach [] env))) Q z l := fun s S => args_nil (Lft.here S h)
theorem t_spl1 {e : Expr} {rest : List Expr} {pos : Pos} {Q : Post (List Value)}
    (h : T prog w A (eval e env) (fun v => T prog w A (spliced (backTo pos (starEach rest env))) (fun vs => Q (v :: vs))) z l)
    (he : starEach (e :: rest) env = (false, eval e env) :: starEach rest env := by rfl) : T prog w A (spliced (backTo pos (starEach (e :: rest) env))) Q z l :=
  fun s S => args_cons (h.nest S fun v s₁ z₁ l₁ i₁ S₁ p => T.up p S₁ i₁) he
/- a call of a built-in or a type -/
theorem t_cwB0 {pos : Pos} {id : String} {first : List Value} {Q : Post Value} (h : T prog w A (call (.builtin id) first) Q z l) :
    T prog w A (callWith pos (.builtin id) first (backTo pos (starEach [] env)) []) Q z l := fun s S => callWith_method0 (h s S)
theorem t_cwB {pos : Pos} {id : String} {first : List Value} {e : Expr} {rest : List Expr} {Q : Post Value}
    (h : T prog w A (spliced (backTo pos (starEach (e :: rest) env))) (fun vs => T prog w A (call (.builtin id) (first ++ vs)) Q) z l)
    (he : starEach (e :: rest) env = (false, eval e env) :: starEach rest env := by rfl)
    (hplain : (backTo pos (starEach rest env)).any (·.1) = false := by rfl) : T prog w A (callWith pos (.builtin id) first (backTo pos (starEach (e :: rest) env)) []) Q z l :=
  fun s S => callWith_method1 (h.nest S fun v s₁ z₁ l₁ i₁ S₁ p => T.up p S₁ i₁) he hplain
theorem t_cwT {pos : Pos} {ty : String} {e : Expr} {rest : List Expr} {Q : Post Value}
    (h : T prog w A (spliced (backTo pos (starEach (e :: rest) env))) (fun vs => T prog w A (call (.type ty) vs) Q) z l)
    (he : starEach (e :: rest) env = (false, eval e env) :: starEach rest env := by rfl)
    (hplain : (backTo pos (starEach rest env)).any (·.1) = false := by rfl) : T prog w A (callWith pos (.type ty) [] (backTo pos (starEach (e :: rest) env)) []) Q z l :=
  fun s S => Pv.callWith_type1 (h.nest S fun v s₁ z₁ l₁ i₁ S₁ p => T.up p S₁ i₁) he hplain
/- a call of one of the text's own defs or classes -/
theorem t_cwK {pos : Pos} {f : Value} {first : List Value} {e : Expr} {rest : List Expr} {Q : Post Value} (hk : keepIn (Mine.hd.heap_39 w.params) f = true)
    (h : T prog w A (spliced (backTo pos (starEach (e :: rest) env))) (fun vs => T prog w A (call f (first ++ vs)) Q) z l)
    (he : starEach (e :: rest) env = (false, eval e env) :: starEach rest env := by rfl) (hplain : (backTo pos (starEach rest env)).any (·.1) = false := by rfl) :
    T prog w A (callWith pos f first (backTo pos (starEach (e :: rest) env)) []) Q z l :=
  fun s S => callWith_K S.bs.k hk (h.nest S fun v s₁ z₁ l₁ i₁ S₁ p => ⟨S₁.bs.k.keeps S₁.fz, T.up p S₁ i₁⟩) he hplain
theorem t_cwK0 {pos : Pos} {f : Value} {first : List Value} {Q : Post Value} (hk : keepIn (Mine.hd.heap_39 w.params) f = true) (h : T prog w A (call f (first ++ [])) Q z l) :
    T prog w A (callWith pos f first (backTo pos (starEach [] env)) []) Q z l := fun s S => callWith_K0 (S.bs.k.keeps S.fz) hk (h s S)

/- displays: the new object lies on the ledger -/
def TupP (vs : List Value) : Obj → Prop := fun o => ∃ n, o = { cls := .type "tuple", data := .seq vs.toArray n }
def LstP (vs : List Value) : Obj → Prop := fun o => ∃ n, o = { cls := .type "list", data := .seq vs.toArray n }
theorem t_Tuple {elts : List Expr} {k : Nat} {pos : Pos} {Q : Post Value}
    (h : T prog w A (spliced (backTo pos (starEach elts env))) (fun vs z l => vs.length ≤ sizeLine ∧ ∀ a, Q (.ref a) z ((a, TupP vs) :: l)) z l) : T prog w A (eval (.Tuple elts k pos) env) Q z l :=
  fun s S => wpAny_Tuple (h.nest S fun vs s₁ z₁ l₁ i₁ S₁ p => ⟨p.1, z₁, _, i₁.trans ⟨⟨_, s₁.toks, rfl⟩, fun _ _ e => e⟩, S₁.new (P := TupP vs) rfl ⟨_, rfl⟩, p.2 _⟩)
theorem t_List {elts : List Expr} {pos : Pos} {Q : Post Value}
    (h : T prog w A (spliced (backTo pos (starEach elts env))) (fun vs z l => vs.length ≤ sizeLine ∧ ∀ a, Q (.ref a) z ((a, LstP vs) :: l)) z l) : T prog w A (eval (.List elts pos) env) Q z l :=
  fun s S => wpAny_List (h.nest S fun vs s₁ z₁ l₁ i₁ S₁ p => ⟨p.1, z₁, _, i₁.trans ⟨⟨_, s₁.toks, rfl⟩, fun _ _ e => e⟩, S₁.new (P := LstP vs) rfl ⟨_, rfl⟩, p.2 _⟩)
end
end Mine
end
section
open PySem PySem.W PySem.Calls PyProof.Rows
set_option maxRecDepth 100000
namespace Mine
section
variable {α β : Type} {prog : Program} {w : World} {A : Around} {z : Heap} {l : Led} {s : Shared} {env : Env}

/- a frame's names: what is known of them -/
abbrev Nms := List (Str × Option Value)
def LocP (ml : Nms) : Obj → Prop := fun o => ∃ m, LCg.NsObj o m ∧ (∀ p ∈ ml, m p.1 = p.2) ∧ (ml.map (·.1)).Nodup
def CelP (v : Option Value) : Obj → Prop := fun o => o.data = .cell v
inductive PutA (x : Str) (v : Value) : Nms → Nms → Prop
  | head {u : Option Value} {r : Nms} : PutA x v ((x, u) :: r) ((x, some v) :: r)
  | tail {p : Str × Option Value} {r r' : Nms} : PutA x v r r' → PutA x v (p :: r) (p :: r')
theorem PutA.names {x : Str} {v : Value} {r r' : Nms} (h : PutA x v r r') : r'.map (·.1) = r.map (·.1) := by
  induction h with
  | head => rfl
  | tail _ ih => simp [ih]
theorem PutA.mem {x : Str} {v : Value} {r r' : Nms} (h : PutA x v r r') : x ∈ r'.map (·.1) := by
  induction h with
  | head => exact List.mem_cons_self
  | tail _ ih => exact List.mem_cons_of_mem _ ih
theorem PutA.at {x : Str} {v : Value} {r r' : Nms} (h : PutA x v r r') : ∀ p ∈ r', p = (x, some v) ∨ p ∈ r := by
  induction h with
  | head => intro p hp; rcases List.mem_cons.mp hp with rfl | hp; exact .inl rfl; exact .inr (List.mem_cons_of_mem _ hp)
  | tail _ ih =>
    intro p hp
    rcases List.mem_cons.mp hp with rfl | hp
    · exact .inr List.mem_cons_self
    · exact (ih p hp).imp id (List.mem_cons_of_mem _)
theorem PutA.off {x : Str} {v : Value} {r r' : Nms} (h : PutA x v r r') (nd : (r.map (·.1)).Nodup) : ∀ p ∈ r', p = (x, some v) ∨ (p ∈ r ∧ p.1 ≠ x) := by
  induction h with
  | @head u r =>
    intro p hp
    rcases List.mem_cons.mp hp with rfl | hp
    · exact .inl rfl
    · refine .inr ⟨List.mem_cons_of_mem _ hp, fun e => ?_⟩
      rw [List.map_cons, List.nodup_cons] at nd
      exact nd.1 (List.mem_map.mpr ⟨p, hp, e⟩)
  | @tail q r r' h ih =>
    rw [List.map_cons, List.nodup_cons] at nd
    intro p hp
    rcases List.mem_cons.mp hp with rfl | hp
    · refine .inr ⟨List.mem_cons_self, fun e => nd.1 ?_⟩
      have := h.mem
      rw [h.names] at this
      exact e ▸ this
    · exact (ih nd.2 p hp).imp id fun k => ⟨List.mem_cons_of_mem _ k.1, k.2⟩
theorem LocP.ns {ml : Nms} {o : Obj} {h : Heap} {a : Addr} (x : LocP ml o) (e : h.get? a = some o) : ∃ m, h.Ns a m ∧ (∀ p ∈ ml, m p.1 = p.2) ∧ (ml.map (·.1)).Nodup := let ⟨m, n, k, d⟩ := x; ⟨m, n.ns e, k, d⟩

theorem t_nameL {x : Str} {pos : Pos} {L : Addr} {ml : Nms} {v : Value} {Q : Post Value} (hm : (env.locals, LocP ml) ∈ l) (hv : (x, some v) ∈ ml) (h : Q v z l)
    (hk : env.scope.kind = .function := by rfl) (hl : env.kindOf x = some .local := by rfl) (hd : (x == ("__debug__" : Str)) = false := by decide) : T prog w A (eval (.Name x pos) env) Q z l := fun s S => by
  obtain ⟨o, ho, P⟩ := S.get hm
  obtain ⟨m, n, k, _⟩ := P.ns ho
  exact wpAny_Name (wpAny_loadName_local hk hl n (k _ hv) (Lft.here S h)) hd
theorem t_nameC {x : Str} {pos : Pos} {c : Addr} {v : Value} {Q : Post Value} (hc : env.cells.lookup x = some c) (hm : (c, CelP (some v)) ∈ l) (h : Q v z l)
    (hk : env.scope.kind = .function := by rfl) (hl : env.kindOf x = some .cell := by rfl) (hd : (x == ("__debug__" : Str)) = false := by decide) : T prog w A (eval (.Name x pos) env) Q z l := fun s S => by
  obtain ⟨o, ho, P⟩ := S.get hm
  exact wpAny_Name (wpAny_loadName_cell hk hl hc ⟨o, ho, P⟩ (Lft.here S h)) hd
theorem t_nameF {x : Str} {pos : Pos} {c : Addr} {v : Value} {Q : Post Value} (hc : env.cells.lookup x = some c) (hm : (c, CelP (some v)) ∈ l) (h : Q v z l)
    (hk : env.scope.kind = .function := by rfl) (hl : env.kindOf x = some .free := by rfl) (hd : (x == ("__debug__" : Str)) = false := by decide) (hn : (x == ("__classdict__" : Str)) = false := by decide) : T prog w A (eval (.Name x pos) env) Q z l := fun s S => by
  obtain ⟨o, ho, P⟩ := S.get hm
  exact wpAny_Name (wpAny_loadName_free hk hl hc ⟨o, ho, P⟩ (Lft.here S h) hn) hd
theorem t_nameG {x : Str} {pos : Pos} {v : Value} {Q : Post Value} (e : nsIn (Mine.hd.heap_39 w.params) mainGlobals x = some (some v)) (h : Q v z l)
    (hk : env.scope.kind = .function := by rfl) (hx : env.kindOf x = some .globalImplicit := by rfl) (hg : env.globals = mainGlobals := by rfl) (hd : (x == ("__debug__" : Str)) = false := by decide) : T prog w A (eval (.Name x pos) env) Q z l := fun s S => by
  obtain ⟨p, lo, me, mg, mb, t⟩ := S.bs.t
  exact Name_function_global hk hx (loadGlobal_global (hg ▸ t.g.keeps S.fz) (mg_of S.bs.k t.g e) (Lft.here S h)) hd
theorem t_nameB {x : Str} {pos : Pos} {v : Value} {Q : Post Value} (e : nsIn (Mine.hd.heap_39 w.params) mainGlobals x = some none) (hv : bootBuiltins x = some v) (hn : x ≠ "__name__") (h : Q v z l)
    (hk : env.scope.kind = .function := by rfl) (hx : env.kindOf x = some .globalImplicit := by rfl) (hg : env.globals = mainGlobals := by rfl) (hb : env.builtins = builtinsNs := by rfl) (hd : (x == ("__debug__" : Str)) = false := by decide) :
    T prog w A (eval (.Name x pos) env) Q z l := fun s S => by
  obtain ⟨p, lo, me, mg, mb, t⟩ := S.bs.t
  exact Name_function_global hk hx (loadGlobal_builtin (hg ▸ t.g.keeps S.fz) (mg_none_of S.bs.k t.g e) (hb ▸ t.b.keeps S.fz) ((t.builtins x hn).trans hv) (Lft.here S h)) hd

theorem t_store {x : Str} {v : Value} {ml ml' : Nms} {g : (Obj → Prop) → Led} {Q : Post Unit} (U : Upd1 env.locals (LocP ml) l g) (P : PutA x v ml ml') (h : Q () z (g (LocP ml')))
    (hl : env.kindOf x = some .local := by rfl) (hp : (env.scope.kind == .class || (env.scope.kind == .module && env.locals != env.globals)) = false := by rfl) : T prog w A (storeName env x v) Q z l := fun s S => by
  obtain ⟨o, ho, W⟩ := S.get U.mem
  obtain ⟨m, n, k, nd⟩ := W.ns ho
  refine wpAny_storeName_local hl n (fun h' hn hs => ?_) hp
  obtain ⟨o', ho', no'⟩ := LCg.ns_obj hn
  refine ⟨z, _, ⟨⟨h', _, rfl⟩, fun _ _ e => e⟩, S.upd U (fun b o hb e => (hs.2 b hb).trans e) ⟨o', ho', _, no', fun p hp => ?_, by rw [P.names]; exact nd⟩, h⟩
  rcases P.off nd p hp with rfl | ⟨hm, hne⟩
  · simp
  · simp only [if_neg hne]; exact k p hm
theorem t_storeC {x : Str} {v : Value} {c : Addr} {v₀ : Option Value} {g : (Obj → Prop) → Led} {Q : Post Unit} (hc : env.cells.lookup x = some c) (U : Upd1 c (CelP v₀) l g) (h : Q () z (g (CelP (some v))))
    (hk : env.scope.kind = .function := by rfl) (hl : env.kindOf x = some .cell := by rfl) : T prog w A (storeName env x v) Q z l := fun s S => by
  obtain ⟨o, ho, W⟩ := S.get U.mem
  refine wpAny_storeName_cell hk hl hc ⟨o, ho, W⟩ fun h' hv hs => ?_
  obtain ⟨o', ho', d'⟩ := hv
  exact ⟨z, _, ⟨⟨h', s.toks, rfl⟩, fun _ _ e => e⟩, S.upd U (fun b o hb e => (hs.2 b hb).trans e) ⟨o', ho', d'⟩, h⟩
theorem t_bindName {x : Str} {v : Value} {Q : Post Unit} (h : T prog w A (storeName env x v) Q z l) : T prog w A (bindName env x v) Q z l := fun s S => wpAny_bindName (h s S)
theorem t_assignName {x : Str} {v : Value} {pos : Pos} {Q : Post Unit} (h : T prog w A (storeName env x v) Q z l) : T prog w A (assign (.Name x pos) env v) Q z l := fun s S => wpAny_assign_Name (h s S)
theorem t_order0 {Q : Post Unit} (h : Q () z l) : T prog w A (assignInOrder [] []) Q z l := fun s S => wpAny_assignInOrder_none (Lft.here S h)
theorem t_order1 {t : Value → Sem Unit} {ts : List (Value → Sem Unit)} {x : Value} {xs : List Value} {Q : Post Unit} (h : T prog w A (t x) (fun _ => T prog w A (assignInOrder ts xs) Q) z l) : T prog w A (assignInOrder (t :: ts) (x :: xs)) Q z l :=
  fun s S => wpAny_assignInOrder_more (h.nest S fun v s₁ z₁ l₁ i₁ S₁ p => T.up p S₁ i₁)

/-- where an object's state may be read: frozen, or on the ledger -/
def At (z : Heap) (l : Led) (a : Addr) (P : Obj → Prop) : Prop := (∃ o, z.get? a = some o ∧ P o) ∨ (a, P) ∈ l
theorem At.get {h : Heap} {a : Addr} {P : Obj → Prop} (x : At z l a P) (S : St w z l h) : ∃ o, h.get? a = some o ∧ P o := by
  rcases x with ⟨o, ho, p⟩ | hm
  · exact ⟨o, S.fz _ _ ho, p⟩
  · exact S.get hm
/-- frozen -/
def Fz (z : Heap) (a : Addr) (P : Obj → Prop) : Prop := ∃ o, z.get? a = some o ∧ P o
theorem Fz.up {z z' : Heap} {a : Addr} {P : Obj → Prop} (x : Fz z a P) (i : z.StaysIn z') : Fz z' a P := let ⟨o, ho, p⟩ := x; ⟨o, i _ _ ho, p⟩
theorem Fz.at {a : Addr} {P : Obj → Prop} (x : Fz z a P) : At z l a P := .inl x

theorem tupP_is {h : Heap} {a : Addr} {vs : List Value} (x : ∃ o, h.get? a = some o ∧ TupP vs o) : h.IsTuple a vs.toArray := by
  obtain ⟨o, ho, n, rfl⟩ := x
  exact ⟨_, ho, rfl, n, rfl⟩
theorem lstP_is {h : Heap} {a : Addr} {vs : List Value} (x : ∃ o, h.get? a = some o ∧ LstP vs o) : h.IsList a vs.toArray := by
  obtain ⟨o, ho, n, rfl⟩ := x
  exact ⟨_, ho, rfl, n, rfl⟩

theorem t_unpack {a : Addr} {vs : List Value} {n : Nat} {Q : Post (List Value)} (hh : A.handled = none) (ha : At z l a (TupP vs)) (hn : n = vs.length) (h : Q vs z l) : T prog w A (unpackItems (.ref a) n none) Q z l := fun s S => by
  subst hn
  have := wpAny_unpackItems_tuple (prog := prog) (w := w) (A := A) (E := NoE) (Q := Lft w s z Q) hh (tupP_is (ha.get S)) fun h' he => ⟨z, l, ⟨⟨h', s.toks, rfl⟩, fun _ _ e => e⟩, S.grow fun b o e => he b o (Nat.ne_of_lt (Heap.lt_size e)) e, by simpa using h⟩
  simpa using this
theorem t_assignTup {elts : List Expr} {k : Nat} {pos : Pos} {a : Addr} {vs : List Value} {Q : Post Unit} (hh : A.handled = none) (ha : At z l a (TupP vs)) (hn : (assignEach elts env).length = vs.length) (hstar : (assignEach elts env).findIdx? (·.1) = none)
    (h : T prog w A (assignInOrder ((assignEach elts env).map (·.2)) vs) Q z l) : T prog w A (assign (.Tuple elts k pos) env (.ref a)) Q z l := fun s S =>
  wpAny_assign_Tuple hh (tupP_is (ha.get S)) (by simpa using hn) hstar fun h' he => T.up h (S.grow fun b o e => he b o (Nat.ne_of_lt (Heap.lt_size e)) e) ⟨⟨h', s.toks, rfl⟩, fun _ _ e => e⟩

/- a call of a def -/
def RetQ (Q : Post Value) : Post Flow := fun f z l => ∃ l', l'.Sublist l ∧ Q (match f with | .ret v => v | _ => .none) z l'
theorem RetQ.ret {Q : Post Value} {v : Value} {l' : Led} (k : l'.Sublist l) (q : Q v z l') : RetQ Q (.ret v) z l := ⟨l', k, q⟩
theorem RetQ.next {Q : Post Value} {l' : Led} (k : l'.Sublist l) (q : Q .none z l') : RetQ Q .next z l := ⟨l', k, q⟩
noncomputable def AllAt (m : Str → Option Value) : Nms → Prop
  | [] => True
  | p :: r => m p.1 = p.2 ∧ AllAt m r
theorem AllAt.all {m : Str → Option Value} : ∀ {ml : Nms}, AllAt m ml → ∀ p ∈ ml, m p.1 = p.2
  | _ :: _, h, p, hp => by
    rcases List.mem_cons.mp hp with rfl | hp
    · exact h.1
    · exact AllAt.all h.2 p hp
def cellLed (cm : Str → Option Value) (cs : List (Str × Addr)) : Led := cs.map fun p => (p.2, CelP (cm p.1))

theorem tc_def {R : Post Result} {name qual : Str} {params : Arguments} {body : List Stmt} {scope : Scope} {dV kV doc pm cdv ct oc : Value} {an od : Option Addr} {osl : Array (Option Value)} {f : Addr} {vals : List Value} {binds : List (Str × Value)} {ml : Nms}
    (lits : Addr → Led)
    (ho : (Mine.hd.heap_39 w.params).lookup f = some ⟨oc, od, .func (fnOf name qual params body scope dV kV doc pm an cdv ct), osl⟩) (hcd : codeIn (Mine.hd.heap_39 w.params) cdv qual = true) (hroom : A.depth < recursionLimit)
    (hbind : bindArgs (fnOf name qual params body scope dV kV doc pm an cdv ct) ⟨vals, []⟩ = pure binds)
    (hkind : (binds.all fun y => scope.names.lookup y.1 == some .local || scope.names.lookup y.1 == some .cell) = true)
    (hnd : ((cellsFrom 0 scope.names []).map (·.1)).Nodup) (hml : (ml.map (·.1)).Nodup)
    (hat : AllAt (bindL (fun x => scope.names.lookup x) binds fun _ => none) ml)
    (hlits : ∀ L, cellLed (bindC (fun x => scope.names.lookup x) binds fun _ => none) (cellsFrom (L + 1) scope.names []) = lits L)
    (h : ∀ L, T prog w (A.deeper (envOfC qual scope L f cdv)) (execs body (envOfC qual scope L f cdv)) (fun fl z' l' => ∃ l'', l''.Sublist l' ∧ R (.ok (.ret (match fl with | .ret v => v | _ => .none))) z' l'') z ((L, LocP ml) :: (lits L ++ l)))
    (hco : scope.isCoroutine = false) (hgen : scope.isGenerator = false) (hk : scope.kind = .function) : TC prog w A (.call (.ref f) ⟨vals, []⟩) R z l := fun s S => by
  obtain ⟨p, lo, me, mg, mb, t⟩ := S.bs.t
  have X := S.bs.k.keeps S.fz
  refine codeAny_call_cells hroom (X _ _ ho) rfl (t.nolimit.keeps S.fz) (codeRec_of X hcd) rfl hbind rfl (kindsX hkind _) (fun s₁ x => ?_) hco hgen hk
  obtain ⟨⟨h₁, tk, rfl⟩, ns, keep, fresh⟩ := id x.toInCall
  have none_of : ∀ a, s.heap.objs.size ≤ a → s.heap.get? a = none := fun a ha => Heap.get?_none_of_le ha
  have off_of : ∀ a, s.heap.objs.size ≤ a → ∀ q ∈ l, q.1 ≠ a := fun a ha q hq e => by
    obtain ⟨o, ho, _⟩ := S.own q hq
    rw [e, none_of a ha] at ho; cases ho
  have zoff : ∀ a, s.heap.objs.size ≤ a → z.get? a = none := fun a ha => by
    cases e : z.get? a with
    | none => rfl
    | some o => have := S.fz _ _ e; rw [none_of a ha] at this; cases this
  obtain ⟨oL, hoL, nL⟩ := LCg.ns_obj ns
  have hnames : ((cellsFrom (s.heap.objs.size + 1) scope.names []).map (·.1)).Nodup := cellsFrom_names scope.names 0 (s.heap.objs.size + 1) [] [] rfl ▸ hnd
  have hcell : ∀ n c, (n, c) ∈ cellsFrom (s.heap.objs.size + 1) scope.names [] → h₁.IsCell c (bindC (fun x => scope.names.lookup x) binds (fun _ => none) n) := fun n c hm => x.cell n c (lookup_of_mem_nodup hnames hm)
  have habove : ∀ n c, (n, c) ∈ cellsFrom (s.heap.objs.size + 1) scope.names [] → s.heap.objs.size < c := fun n c hm => x.above n c hm
  have S₁ : St w z ((s.heap.objs.size, LocP ml) :: (lits s.heap.objs.size ++ l)) h₁ := by
    rw [← hlits]
    refine ⟨S.bs, fun b o e => keep _ _ (S.fz b o e), fun q hq => ?_, fun q hq => ?_, ?_⟩
    · rcases List.mem_cons.mp hq with rfl | hq
      · exact ⟨oL, hoL, _, nL, hat.all, hml⟩
      · rcases List.mem_append.mp hq with hq | hq
        · obtain ⟨⟨n, c⟩, hm, rfl⟩ := List.mem_map.mp hq
          exact hcell n c hm
        · obtain ⟨o, ho, k⟩ := S.own q hq
          exact ⟨o, keep _ _ ho, k⟩
    · rcases List.mem_cons.mp hq with rfl | hq
      · exact zoff _ (Nat.le_refl _)
      · rcases List.mem_append.mp hq with hq | hq
        · obtain ⟨⟨n, c⟩, hm, rfl⟩ := List.mem_map.mp hq
          exact zoff _ (Nat.le_of_lt (habove n c hm))
        · exact S.off q hq
    · simp only [List.map_cons, List.map_append, List.nodup_cons, List.nodup_append, List.mem_append]
      refine ⟨fun hm => ?_, ?_, S.nd, ?_⟩
      · rcases hm with hm | hm
        · obtain ⟨q, hq, e⟩ := List.mem_map.mp hm
          obtain ⟨⟨n, c⟩, hmc, rfl⟩ := List.mem_map.mp hq
          exact Nat.ne_of_gt (habove n c hmc) e
        · obtain ⟨q, hq, e⟩ := List.mem_map.mp hm
          exact off_of _ (Nat.le_refl _) q hq e
      · unfold cellLed
        rw [List.map_map]
        exact List.pairwise_map.mpr (x.apart.imp fun a => a)
      · intro a ha b hb e
        obtain ⟨q, hq, rfl⟩ := List.mem_map.mp ha
        obtain ⟨⟨n, c⟩, hmc, rfl⟩ := List.mem_map.mp hq
        obtain ⟨q', hq', rfl⟩ := List.mem_map.mp hb
        exact off_of _ (Nat.le_of_lt (habove n c hmc)) q' hq' e.symm
  refine wpAny_mono (h _ _ S₁) (fun fl s' ⟨z', l', i, S', l'', k, q⟩ => ?_) fun _ _ x => x.elim
  exact ⟨z', l'', Sm.trans (Sm.mk' (s := s) (z := z)) i, S'.sub k, q⟩

theorem t_run {f : Value} {vals : List Value} {Q : Post Value} (h : TC prog w A (.call f ⟨vals, []⟩) (fun r z l => match r with | .ok (.ret v) => Q v z l | _ => False) z l) : T prog w A (call f vals) Q z l := fun s S => by
  refine wpAny_call (codeAny_mono (h s S) fun r s' ⟨z', l', i, S', q⟩ => ?_)
  match r, q with
  | .ok (.ret v), q => exact ⟨z', l', i, S', q⟩
theorem t_def {Q : Post Value} {name qual : Str} {params : Arguments} {body : List Stmt} {scope : Scope} {dV kV doc pm cdv ct oc : Value} {an od : Option Addr} {osl : Array (Option Value)} {f : Addr} {vals : List Value} {binds : List (Str × Value)}
    (ml : Nms) (lits : Addr → Led)
    (ho : (Mine.hd.heap_39 w.params).lookup f = some ⟨oc, od, .func (fnOf name qual params body scope dV kV doc pm an cdv ct), osl⟩) (hcd : codeIn (Mine.hd.heap_39 w.params) cdv qual = true) (hroom : A.depth < recursionLimit)
    (hbind : bindArgs (fnOf name qual params body scope dV kV doc pm an cdv ct) ⟨vals, []⟩ = pure binds)
    (hkind : (binds.all fun y => scope.names.lookup y.1 == some .local || scope.names.lookup y.1 == some .cell) = true)
    (hnd : ((cellsFrom 0 scope.names []).map (·.1)).Nodup) (hml : (ml.map (·.1)).Nodup)
    (hat : AllAt (bindL (fun x => scope.names.lookup x) binds fun _ => none) ml)
    (hlits : ∀ L, cellLed (bindC (fun x => scope.names.lookup x) binds fun _ => none) (cellsFrom (L + 1) scope.names []) = lits L)
    (h : ∀ L, T prog w (A.deeper (envOfC qual scope L f cdv)) (execs body (envOfC qual scope L f cdv)) (RetQ Q) z ((L, LocP ml) :: (lits L ++ l)))
    (hco : scope.isCoroutine = false) (hgen : scope.isGenerator = false) (hk : scope.kind = .function) : T prog w A (call (.ref f) vals) Q z l :=
  t_run (tc_def lits ho hcd hroom hbind hkind hnd hml hat hlits (fun L => (h L).mono fun fl z' l' _ q => by
    obtain ⟨l'', k, q⟩ := q
    exact ⟨l'', k, q⟩) hco hgen hk)
end
end Mine
end
section
open PySem PySem.W PySem.Calls PyProof.Rows
set_option maxRecDepth 100000
namespace Mine
section
variable {α β : Type} {prog : Program} {w : World} {A : Around} {z : Heap} {l : Led} {s : Shared} {env : Env}

/- dicts with str keys, instances' dicts among them -/
abbrev Kvs := List (Str × Value)
def DctP (prog : Program) (w : World) (kvs : Kvs) : Obj → Prop := fun o => o.IsDictOf (PySem.strKind prog w) kvs
inductive PutK (x : Str) (v : Value) : Kvs → Kvs → Prop
  | head {u : Value} {r : Kvs} : PutK x v ((x, u) :: r) ((x, v) :: r)
  | tail {p : Str × Value} {r r' : Kvs} : PutK x v r r' → PutK x v (p :: r) (p :: r')
theorem value_of_mem {kvs : Kvs} {x : Str} {v : Value} (nd : (kvs.map (·.1)).Nodup) (m : (x, v) ∈ kvs) : valueAt kvs x = some v := by
  induction kvs with
  | nil => cases m
  | cons p r ih =>
    rw [List.map_cons, List.nodup_cons] at nd
    unfold valueAt
    rw [List.find?_cons]
    rcases List.mem_cons.mp m with rfl | m
    · simp
    · have : p.1 ≠ x := fun e => nd.1 (List.mem_map.mpr ⟨_, m, e.symm⟩)
      simp only [decide_eq_false this]
      exact ih nd.2 m
theorem PutK.has {x : Str} {v : Value} {r r' : Kvs} (h : PutK x v r r') : ∃ u, (x, u) ∈ r := by
  induction h with
  | head => exact ⟨_, List.mem_cons_self⟩
  | tail _ ih => obtain ⟨u, k⟩ := ih; exact ⟨u, List.mem_cons_of_mem _ k⟩
theorem PutK.stored {x : Str} {v : Value} {r r' : Kvs} (h : PutK x v r r') (nd : (r.map (·.1)).Nodup) : PySem.stored r x v = r' := by
  have map_eq : r.map (fun kv => if kv.1 = x then (kv.1, v) else kv) = r' := by
    induction h with
    | @head u r =>
      rw [List.map_cons, List.nodup_cons] at nd
      rw [List.map_cons, if_pos rfl, map_store_of_not_mem _ _ _ nd.1]
    | @tail p r r' h ih =>
      rw [List.map_cons, List.nodup_cons] at nd
      have : p.1 ≠ x := fun e => by
        obtain ⟨u, k⟩ := h.has
        exact nd.1 (List.mem_map.mpr ⟨_, k, e.symm⟩)
      rw [List.map_cons, if_neg this, ih nd.2]
  unfold PySem.stored
  obtain ⟨u, k⟩ := h.has
  rw [if_pos (List.any_eq_true.mpr ⟨_, k, by simp⟩), map_eq]
theorem dct_nodup {kvs : Kvs} {o : Obj} (h : DctP prog w kvs o) : (kvs.map (·.1)).Nodup := let ⟨_, _, _, _, _, _, nd⟩ := h; nd
theorem dct_at {h : Heap} {a : Addr} {kvs : Kvs} (x : ∃ o, h.get? a = some o ∧ DctP prog w kvs o) : h.DictOf (PySem.strKind prog w) a kvs := Heap.dictOf_iff.mpr x

theorem t_dictGet {value slice : PySem.Expr} {d : Addr} {kvs : Kvs} {x : Str} {t : Tok} {v : Value} {Q : Post Value} (hd : At z l d (DctP prog w kvs)) (hv : (x, v) ∈ kvs) (h : Q v z l)
    (hs : subscripted slice false (.ref d) (.str x t) = operate [.ref d, .str x t] (getItem (.ref d) (.str x t)) := by with_unfolding_all rfl) :
    T prog w A (subscriptTail value slice (.ref d) (.str x t)) Q z l := fun s S => by
  have D := hd.get S
  have nd : (kvs.map (·.1)).Nodup := let ⟨_, _, k⟩ := D; dct_nodup k
  have hm := (dct_at D).mapOf
  exact tail_any hm.typeIs slot_dict_getitem.lookup (wpAny_getItem_of (strKind_is prog w x t) hm (value_of_mem nd hv) (tok_ S h)) hs
theorem t_dictSet {d : Addr} {kvs kvs' : Kvs} {x : Str} {t : Tok} {v : Value} {g : (Obj → Prop) → Led} {Q : Post Unit} (U : Upd1 d (DctP prog w kvs) l g) (P : PutK x v kvs kvs') (hz : kvs.length ≤ 1000) (h : Q () z (g (DctP prog w kvs'))) :
    T prog w A (setItem (.ref d) (.str x t) v) Q z l := fun s S => by
  have D := S.get U.mem
  have nd : (kvs.map (·.1)).Nodup := let ⟨_, _, k⟩ := D; dct_nodup k
  refine wpAny_setItem_pairs (hsz := by rw [sizeLine_eq]; omega) (strKind_is prog w x t) (dct_at D) fun h' hd' hs => ?_
  rw [P.stored nd] at hd'
  exact ⟨z, _, ⟨⟨h', _, rfl⟩, fun _ _ e => e⟩, S.upd U (fun b o hb e => (hs.2 b hb).trans e) (Heap.dictOf_iff.mp hd'), h⟩

/- an object of one of the text's classes -/
def InsP (C dx : Addr) : Obj → Prop := fun o => o = instObj C dx
theorem dct_form {kvs : Kvs} {o : Obj} (h : DctP prog w kvs o) : ∃ es n, o = dictOf es n ∧ (∀ x, getL x es = some (valueAt kvs x)) ∧ es.length = kvs.length := by
  obtain ⟨es, ep, ⟨h1, h2, h3⟩, h4, hk, hp, nd⟩ := h
  obtain ⟨c, d, dt, sl⟩ := o
  dsimp only at h1 h2 h3 h4
  subst h1 h2 h3 h4
  refine ⟨es.toList, ep, by rw [dictOf, Array.toArray_toList], fun x => ?_, hp.length⟩
  have e := hp.find x
  unfold getL
  have q : (fun e : DictEntry => (PySem.strKind prog w).is x e.key) = fun e => e.key.isStr x := funext fun d => (isStr_of x d.key).symm
  rw [q] at e
  rw [← e]
  cases f : es.toList.find? (fun e => e.key.isStr x) with
  | some en => rfl
  | none =>
    have : es.toList.any (·.refKey) = false := by
      rw [List.any_eq_false]
      intro en he
      obtain ⟨k, a, _⟩ := hk en (Array.mem_toList_iff.mp he)
      obtain ⟨t, a⟩ := Value.isStrOf_shape a
      simp [DictEntry.refKey, a]
    simp only [this, Bool.false_eq_true, if_false, Option.map_none]
theorem inst_at {h : Heap} {x C dx : Addr} {od : Obj} (hx : ∃ o, h.get? x = some o ∧ InsP C dx o) (hd : h.get? dx = some od) : InstAt h x (instObj C dx) C (some od) := by
  obtain ⟨o, ho, rfl⟩ := hx
  exact ⟨ho, rfl, rfl, hd⟩
theorem t_getAttr {x C dx : Addr} {kvs : Kvs} {name : Str} {v : Value} {expr : Bool} {attr : Option Value} {Q : Post Value} (hx : At z l x (InsP C dx)) (hd : At z l dx (DctP prog w kvs))
    (hg : plainGet (Mine.hd.heap_39 w.params) C name = true) (hh : hasDictIn (Mine.hd.heap_39 w.params) C = true) (ha : findIn (Mine.hd.heap_39 w.params) (.ref C) name = some attr) (hn : noGet (Mine.hd.heap_39 w.params) attr = true)
    (hv : (name, v) ∈ kvs) (hhd : handedIn v = true) (h : Q v z l) : T prog w A (getAttr (.ref x) name expr) Q z l := fun s S => by
  obtain ⟨od, hod, D⟩ := hd.get S
  have nd := dct_nodup D
  obtain ⟨es, n, rfl, hl, _⟩ := dct_form D
  have I := inst_at (hx.get S) hod
  exact get_value (S.bs.k.keeps S.fz) I (plainGet_of hg).1 (findObj_own hh ha hn (by rw [lookIn_dict, hl, value_of_mem nd hv])) hhd (tok_ S h)
theorem t_meth {x C dx f : Addr} {kvs : Kvs} {name : Str} {pl : Sem Bool} {Q : Post (Value × List Value)} (hx : At z l x (InsP C dx)) (hd : At z l dx (DctP prog w kvs))
    (hg : plainGet (Mine.hd.heap_39 w.params) C name = true) (hf : findIn (Mine.hd.heap_39 w.params) (.ref C) name = some (some (.ref f))) (ht : isFn (Mine.hd.heap_39 w.params) (.ref f) = true)
    (hv : valueAt kvs name = none) (h : Q (.ref f, [.ref x]) z l) : T prog w A (getMethod (.ref x) name pl) Q z l := fun s S => by
  obtain ⟨od, hod, D⟩ := hd.get S
  obtain ⟨es, n, rfl, hl, _⟩ := dct_form D
  have I := inst_at (hx.get S) hod
  exact method_fn (S.bs.k.keeps S.fz) I (plainGet_of hg).1 (plainGet_of hg).2 hf (beq_iff_eq.mp ht) (by show (lookIn name (dictOf es n)).map _ = _; rw [lookIn_dict, hl, hv]; rfl) (Lft.here S h)

theorem putL_has {x : Str} {hs : Int} {key v : Value} (hk : key.isStr x = true) : ∀ {es : List DictEntry} {kvs : Kvs}, Pairs (PySem.strKind prog w) es kvs → (kvs.map (·.1)).Nodup →
    Pairs (PySem.strKind prog w) (putL x hs key v es) (PySem.stored kvs x v)
  | _, _, .nil, _ => .cons (by show Value.isStrOf x key = true; rw [← isStr_of]; exact hk) rfl .nil
  | e :: es, kv :: kvs, .cons h1 h2 ht, nd => by
    have ih := putL_has (hs := hs) (v := v) hk ht (List.nodup_cons.mp (by simpa using nd)).2
    rw [List.map_cons, List.nodup_cons] at nd
    have his : e.key.isStr x = decide (x = kv.1) := by rw [isStr_of]; exact KeyKind.is_eq_decide h1 x
    unfold putL
    by_cases hx : x = kv.1
    · subst hx
      rw [his, if_pos (by simp)]
      unfold PySem.stored
      rw [if_pos (by simp), List.map_cons, if_pos rfl, map_store_of_not_mem _ _ _ nd.1]
      exact .cons h1 rfl ht
    · have hx' : ¬ kv.1 = x := fun e => hx e.symm
      rw [his, if_neg (by simpa using hx)]
      unfold PySem.stored at ih ⊢
      simp only [List.any_cons, decide_eq_false hx', Bool.false_or, List.map_cons, if_neg hx']
      split
      · rename_i q; rw [if_pos q] at ih; exact .cons h1 h2 ih
      · rename_i q; rw [if_neg q] at ih; exact .cons h1 h2 ih
theorem putL_mem {x : Str} {hs : Int} {key v : Value} : ∀ {es : List DictEntry} {e : DictEntry}, e ∈ putL x hs key v es → (∃ e' ∈ es, e.hash = e'.hash ∧ e.key = e'.key) ∨ (e.hash = hs ∧ e.key = key)
  | [], e, h => by
    unfold putL at h
    rw [List.mem_singleton] at h
    exact .inr (h ▸ ⟨rfl, rfl⟩)
  | a :: es, e, h => by
    unfold putL at h
    split at h
    · rcases List.mem_cons.mp h with rfl | h
      · exact .inl ⟨a, List.mem_cons_self, rfl, rfl⟩
      · exact .inl ⟨e, List.mem_cons_of_mem _ h, rfl, rfl⟩
    · rcases List.mem_cons.mp h with rfl | h
      · exact .inl ⟨_, List.mem_cons_self, rfl, rfl⟩
      · rcases putL_mem h with ⟨e', he, k⟩ | k
        · exact .inl ⟨e', List.mem_cons_of_mem _ he, k⟩
        · exact .inr k
theorem dct_put {kvs : Kvs} {es : List DictEntry} {n : Nat} {x : Str} {t : Tok} {v : Value} (h : DctP prog w kvs (dictOf es n)) :
    DctP prog w (PySem.stored kvs x v) (Obj.putName x (PyData.keyHash w.params x) (.str x t) v (dictOf es n)) := by
  obtain ⟨es', ep, ex, h4, hk, hp, nd⟩ := h
  rw [putName_dict]
  obtain ⟨rfl, rfl⟩ : es.toArray = es' ∧ n = ep := by simpa [dictOf] using h4
  refine ⟨_, _, ⟨rfl, rfl, rfl⟩, rfl, fun e he => ?_, ?_, ?_⟩
  · rcases putL_mem (List.mem_toArray.mp he) with ⟨e', he', h1, h2⟩ | ⟨h1, h2⟩
    · rw [h1, h2]; exact hk e' (List.mem_toArray.mpr he')
    · exact ⟨x, by rw [h2]; exact strKind_is prog w x t, by rw [h1]; rfl⟩
  · exact putL_has (by simp [Value.isStr]) (by simpa using hp) nd
  · unfold PySem.stored
    split
    · rw [List.map_map]
      have : ((fun kv : Str × Value => kv.1) ∘ fun kv => if kv.1 = x then (kv.1, v) else kv) = fun kv => kv.1 := by
        funext kv
        simp only [Function.comp]
        split <;> rfl
      rw [this]; exact nd
    · rename_i q
      rw [List.map_append, List.nodup_append]
      refine ⟨nd, by simp, fun a ha b hb e => q ?_⟩
      simp only [List.map_cons, List.map_nil, List.mem_singleton] at hb
      obtain ⟨kv, hkv, rfl⟩ := List.mem_map.mp ha
      exact List.any_eq_true.mpr ⟨kv, hkv, by simp [e, hb]⟩
theorem t_setAttr {x C dx : Addr} {kvs kvs' : Kvs} {name : Str} {v : Value} {g : (Obj → Prop) → Led} {Q : Post Unit} (hx : At z l x (InsP C dx)) (U : Upd1 dx (DctP prog w kvs) l g) (P : PySem.stored kvs name v = kvs') (hz : kvs.length ≤ 900)
    (hs : findIn (Mine.hd.heap_39 w.params) (.ref C) "__setattr__" = some (some (.builtin "object.__setattr__"))) (hp : plainOver (Mine.hd.heap_39 w.params) C = true) (ht : takerIn (Mine.hd.heap_39 w.params) C name = some none)
    (hh : hasDictIn (Mine.hd.heap_39 w.params) C = true) (h : Q () z (g (DctP prog w kvs'))) : T prog w A (setAttr (.ref x) name v) Q z l := fun s S => by
  obtain ⟨hp0, gs, dr, tk, os⟩ := s
  dsimp only at S
  obtain ⟨od, hod, D⟩ := S.get U.mem
  have nd := dct_nodup D
  obtain ⟨es, n, rfl, hl, hlen⟩ := dct_form D
  have X := S.bs.k.keeps S.fz
  have I := inst_at (hx.get S) hod
  refine set_plain (s := ⟨hp0, gs, dr, tk, os⟩) X I hs (osa_open (s := ⟨hp0, gs, dr, tk + 1, os⟩) X I hp ht fun b => ?_)
  obtain ⟨cd, hc, hd'⟩ := any_some hh
  refine wpAny_bind (wpAny_pure (wpAny_bind (wpAny_bind (wpAny_loadPart I.at_ (wpAny_bind ((looks_clsIn X hc).at ?_))))))
  rw [hd']
  refine wpAny_pure (a := some dx) (wpAny_bind (wpAny_pure (wpAny_bind ?_)))
  unfold nsSet
  refine wpAny_bind (wpAny_bind (wpAny_askSetting (wpAny_pure (wpAny_bind (wpAny_mkText (wpAny_bind (wpAny_loadPart hod ?_)))))))
  dsimp only
  have c : aRefKeyMayBeTheName name es.toArray = false := by
    rw [aRefKeyMayBeTheName_at]
    obtain ⟨es', ep, ex, h4, hk, hp', _⟩ := D
    have : es.toArray.any (·.refKey) = false := by
      rw [Array.any_eq_false']
      intro en he
      obtain ⟨rfl, rfl⟩ : es.toArray = es' ∧ n = ep := by simpa [dictOf] using h4
      obtain ⟨k, a, _⟩ := hk en he
      obtain ⟨t, a⟩ := Value.isStrOf_shape a
      simp [DictEntry.refKey, a]
    rw [this, Bool.and_false]
  rw [c]
  refine wpAny_updatePart hod ?_
  have D' := dct_put (x := name) (t := tk + 1) (v := v) D
  have len' : (PySem.stored kvs name v).length ≤ 901 := by
    have := stored_length_le kvs name v
    omega
  obtain ⟨es2, n2, e2, _, len2⟩ := dct_form D'
  have ho' : (hp0.update dx (Obj.putName name (PyData.keyHash w.params name) (.str name (tk + 1)) v)).get? dx = some (dictOf es2 n2) := by
    rw [Heap.get?_update_self _ hod (by rw [e2]; rfl), e2]
  refine wpAny_bind (wpAny_lookBehind ho' (pastItsLine_dict (by rw [List.size_toArray, sizeLine_eq]; omega)) ?_)
  refine wpAny_pure ?_
  exact ⟨z, _, ⟨⟨_, _, rfl⟩, fun _ _ e => e⟩, S.upd U (fun b o hb e => (Heap.get?_update_other _ _ (Ne.symm hb)).trans e) ⟨_, ho', P ▸ e2 ▸ D'⟩, h⟩
end
end Mine
end
section
open PySem PySem.W PySem.Calls PyProof.Rows
set_option maxRecDepth 100000
namespace Mine
section
variable {α β : Type} {prog : Program} {w : World} {A : Around} {z : Heap} {l : Led} {s : Shared} {env : Env}

/-- a list (a tuple) that every state of this description holds -/
def LsAt (w : World) (z : Heap) (l : Led) (a : Addr) (vs : List Value) : Prop := ∀ h, St w z l h → h.IsList a vs.toArray
def TpAt (w : World) (z : Heap) (l : Led) (a : Addr) (vs : List Value) : Prop := ∀ h, St w z l h → h.IsTuple a vs.toArray
theorem LsAt.own {a : Addr} {vs : List Value} (m : (a, LstP vs) ∈ l) : LsAt w z l a vs := fun h S => lstP_is (S.get m)
theorem TpAt.own {a : Addr} {vs : List Value} (m : (a, TupP vs) ∈ l) : TpAt w z l a vs := fun h S => tupP_is (S.get m)
theorem LsAt.fz {a : Addr} {vs : List Value} (m : z.IsList a vs.toArray) : LsAt w z l a vs := fun h S => let ⟨o, e, r⟩ := m; ⟨o, S.fz _ _ e, r⟩
theorem TpAt.fz {a : Addr} {vs : List Value} (m : z.IsTuple a vs.toArray) : TpAt w z l a vs := fun h S => let ⟨o, e, r⟩ := m; ⟨o, S.fz _ _ e, r⟩
theorem is_up {z z' : Heap} {a : Addr} {its : Array Value} (m : z.IsList a its) (i : z.StaysIn z') : z'.IsList a its := let ⟨o, e, r⟩ := m; ⟨o, i _ _ e, r⟩
theorem tp_up {z z' : Heap} {a : Addr} {its : Array Value} (m : z.IsTuple a its) (i : z.StaysIn z') : z'.IsTuple a its := let ⟨o, e, r⟩ := m; ⟨o, i _ _ e, r⟩

theorem same_ {Q : α → Heap → Led → Prop} {a : α} {h' : Heap} {t : Nat} (S : St w z l h') (q : Q a z l) : Lft w s z Q a { s with heap := h', toks := t } := ⟨z, l, ⟨⟨h', t, rfl⟩, fun _ _ e => e⟩, S, q⟩

/- len -/
theorem t_lenL {a : Addr} {vs : List Value} {Q : Post Value} (hl : LsAt w z l a vs) (hn : vs.length ≤ 1000000) (h : ∀ t, Q (.int vs.length t) z l) : T prog w A (call (.builtin "len") [.ref a]) Q z l := fun s S =>
  len_list (hl _ S) (by rw [List.size_toArray]; omega) (by rw [List.size_toArray]; exact same_ S (h _))
theorem t_lenT {a : Addr} {vs : List Value} {Q : Post Value} (hl : TpAt w z l a vs) (hn : vs.length ≤ 1000000) (h : ∀ t, Q (.int vs.length t) z l) : T prog w A (call (.builtin "len") [.ref a]) Q z l := fun s S =>
  len_tuple (hl _ S) (by rw [List.size_toArray]; omega) (by rw [List.size_toArray]; exact same_ S (h _))

/- items -/
theorem t_itemL {value slice : PySem.Expr} {a : Addr} {vs : List Value} {k : Int} {u : Tok} {x : Value} {Q : Post Value} (hl : LsAt w z l a vs) (h0 : 0 ≤ k) (hhi : k < 2 ^ 63) (hx : vs[k.toNat]? = some x) (h : Q x z l)
    (hs : subscripted slice false (.ref a) (.int k u) = operate [.ref a, .int k u] (getItem (.ref a) (.int k u)) := by with_unfolding_all rfl) : T prog w A (subscriptTail value slice (.ref a) (.int k u)) Q z l := fun s S =>
  tail_any (hl _ S).typeIs slot_list_getitem.lookup (wpAny_getItem_list (hl _ S) h0 hhi (by simpa using hx) (Lft.here S h)) hs
theorem t_itemN {value slice : PySem.Expr} {a : Addr} {vs : List Value} {k : Int} {u : Tok} {x : Value} {Q : Post Value} (hl : LsAt w z l a vs) (h0 : k < 0) (h1 : -(vs.length : Int) ≤ k) (hlo : -(2 ^ 63) ≤ k) (hx : vs[(k + (vs.length : Int)).toNat]? = some x) (h : Q x z l)
    (hs : subscripted slice false (.ref a) (.int k u) = operate [.ref a, .int k u] (getItem (.ref a) (.int k u)) := by with_unfolding_all rfl) : T prog w A (subscriptTail value slice (.ref a) (.int k u)) Q z l := fun s S =>
  tail_any (hl _ S).typeIs slot_list_getitem.lookup (wpAny_getItem_list_neg (hl _ S) h0 (by rw [List.size_toArray]; exact h1) hlo (by rw [List.size_toArray]; simpa using hx) (Lft.here S h)) hs
theorem t_itemT {value slice : PySem.Expr} {a : Addr} {vs : List Value} {k : Int} {u : Tok} {j : Nat} {x : Value} {Q : Post Value} (hl : TpAt w z l a vs) (hlo : -(2 ^ 63) ≤ k) (hhi : k < 2 ^ 63) (hj : seqIndex? k vs.length = some j) (hx : vs[j]? = some x) (h : Q x z l)
    (hs : subscripted slice false (.ref a) (.int k u) = operate [.ref a, .int k u] (getItem (.ref a) (.int k u)) := by with_unfolding_all rfl) : T prog w A (subscriptTail value slice (.ref a) (.int k u)) Q z l := fun s S =>
  tail_any (hl _ S).typeIs slot_tuple_getitem.lookup (getItem_tuple (hl _ S) hlo hhi (by rw [List.size_toArray]; exact hj) (by simpa using hx) (Lft.here S h)) hs

/- a list of one's own -/
theorem t_methL {a : Addr} {vs : List Value} {name : Str} {id : String} {pl : Sem Bool} {Q : Post (Value × List Value)} (m : (a, LstP vs) ∈ l) (slot : Slot "list" name id) (hty : typeOf (.builtin id) = pure (.type "method_descriptor")) (h : Q (.builtin id, [.ref a]) z l) :
    T prog w A (getMethod (.ref a) name pl) Q z l := fun s S => by
  obtain ⟨o, ho, n, rfl⟩ := S.get m
  exact getMethod_builtin ⟨_, ho, rfl⟩ PySem.F.plainAttrs_list slot hty (fun b e => by cases e; exact ⟨_, ho, rfl⟩) (Lft.here S h)
theorem lst_upd {h : Heap} {a : Addr} {vs ws : List Value} {g : (Obj → Prop) → Led} (S : St w z l h) (U : Upd1 a (LstP vs) l g) (f : Array Value → Array Value) (hf : f vs.toArray = ws.toArray) : St w z (g (LstP ws)) (h.update a (Obj.mapSeq f)) := by
  obtain ⟨o, ho, n, rfl⟩ := S.get U.mem
  refine S.upd U (fun b o hb e => (Heap.get?_update_other _ _ (Ne.symm hb)).trans e) ?_
  have q := PySem.IsL.update ho f
  rw [hf] at q
  exact ⟨_, q, _, rfl⟩
theorem t_append {a : Addr} {vs : List Value} {x : Value} {g : (Obj → Prop) → Led} {Q : Post Value} (U : Upd1 a (LstP vs) l g) (hz : vs.length ≤ 1000000) (h : Q .none z (g (LstP (vs ++ [x])))) : T prog w A (call (.builtin "list.append") [.ref a, x]) Q z l := fun s S => by
  obtain ⟨o, ho, n, rfl⟩ := S.get U.mem
  refine wpAny_call_entry slot_list_append ⟨_, ho, rfl⟩ entry_list_append ?_ (args_list_append _ _)
  show wpAny _ _ (updateSeq a (·.push x) >>= fun _ => ret .none) _ _ s
  refine wpAny_bind ?_
  refine wpAny_updateSeq (hz := by rw [List.size_toArray, sizeLine_eq]; omega) ho rfl (wpAny_pure ⟨.none, rfl, ?_⟩)
  exact same_ (lst_upd S U _ (by simp)) h
theorem t_pop {a : Addr} {vs : List Value} {x : Value} {g : (Obj → Prop) → Led} {Q : Post Value} (U : Upd1 a (LstP (vs ++ [x])) l g) (hz : vs.length ≤ 1000000) (h : Q x z (g (LstP vs))) : T prog w A (call (.builtin "list.pop") [.ref a]) Q z l := fun s S => by
  obtain ⟨o, ho, n, rfl⟩ := S.get U.mem
  have hk : (vs ++ [x]).toArray.size - 1 = vs.length := by rw [List.size_toArray, List.length_append]; rfl
  have hy : (vs ++ [x]).toArray[(vs ++ [x]).toArray.size - 1]? = some x := by rw [hk]; simp
  refine call_meets PySem.F.slot_list_pop ⟨_, ho, rfl⟩ PySem.F.entry_list_pop (PySem.F.args_list_pop_1 _) (PySem.MeetsSeq.list_pop_last a _ n x hy (by rw [List.size_toArray, sizeLine_eq, List.length_append]; simp; omega)) ⟨ho, ?_⟩
  refine same_ (lst_upd S U _ ?_) h
  rw [hk, kl_erase, List.append_nil]
theorem t_setL {a : Addr} {vs : List Value} {k : Int} {t : Tok} {x : Value} {g : (Obj → Prop) → Led} {Q : Post Unit} (U : Upd1 a (LstP vs) l g) (h0 : 0 ≤ k) (hn : k < vs.length) (hfit : k < 2 ^ 63) (h : Q () z (g (LstP (vs.set k.toNat x)))) :
    T prog w A (setItem (.ref a) (.int k t) x) Q z l := fun s S => by
  obtain ⟨o, ho, n, rfl⟩ := S.get U.mem
  refine ki_setAt ho h0 hfit (by rw [List.size_toArray]; exact hn) ?_
  exact same_ (lst_upd S U _ (by simp)) h
theorem t_setLast {a : Addr} {vs : List Value} {t : Tok} {x y : Value} {g : (Obj → Prop) → Led} {Q : Post Unit} (U : Upd1 a (LstP (vs ++ [y])) l g) (h : Q () z (g (LstP (vs ++ [x])))) :
    T prog w A (setItem (.ref a) (.int (-1) t) x) Q z l := fun s S => by
  obtain ⟨o, ho, n, rfl⟩ := S.get U.mem
  have hl : s.heap.IsList a (vs ++ [y]).toArray := PySem.IsL.isList (n := n) ho
  unfold setItem
  try with_reducible refine wpAny_holding ?_
  first | refine wpAny_bind (wpAny_pure ?_) | skip
  refine wpAny_bind (wpAny_sequenceKey hl.typeIs (by decide) ?_)
  refine wpAny_bind (wpAny_callSpecial?_slot (name := Str.ofString "__setitem__") hl.typeIs slot_list_setitem
    (wpAny_call_entry slot_list_setitem hl.typeIs entry_list_setitem ?_ (args_list_setitem _ _ _)))
  show wpAny _ _ (Builtin.List.listSubscript? (.int (-1) t) >>= _) _ _ s
  refine wpAny_bind (wpAny_listSubscript_int (fitsIndex_neg (by decide) (by decide)) ?_)
  have hidx : seqIndex? (-1) (vs ++ [y]).toArray.size = some vs.length := by
    rw [seqIndex_neg (by decide) (by rw [List.size_toArray, List.length_append]; simp; omega)]
    rw [List.size_toArray, List.length_append, List.length_singleton, show (-1 + ((vs.length + 1 : Nat) : Int)).toNat = vs.length by omega]
  show wpAny _ _ ((Builtin.List.listItems (.ref a) >>= fun xs => pure ((seqIndex? (Int.negSucc 0) xs.size).bind fun i => xs[i]?.map (i, ·))) >>= _) _ _ s
  refine wpAny_bind (wpAny_bind ?_)
  show wpAny _ _ (seqItems? (.ref a) >>= _) _ _ s
  refine wpAny_bind (wpAny_seqItems ho rfl (wpAny_pure (wpAny_pure ?_)))
  rw [show Int.negSucc 0 = -1 from rfl, hidx]
  have hx : (vs ++ [y]).toArray[vs.length]? = some y := by simp
  simp only [Option.bind_some, hx, Option.map_some]
  show wpAny _ _ (setSeqItemAt a vs.length x >>= _) _ _ s
  refine wpAny_bind (wpAny_setSeqItemAt ho rfl ?_)
  have fin := same_ (s := s) (t := s.toks) (lst_upd S U (fun q => q.setIfInBounds vs.length x) (ws := vs ++ [x]) (by simp)) h
  first
    | exact wpAny_bind (wpAny_pure (wpAny_pure ⟨.none, rfl, wpAny_pure fin⟩))
    | exact wpAny_pure ⟨.none, rfl, wpAny_pure fin⟩

/- ints, bools, strs -/
theorem t_add {a b : Int} {t u : Tok} {Q : Post Value} (h : ∀ t, Q (.int (a + b) t) z l) : T prog w A (binaryOp .Add (.int a t) (.int b u)) Q z l := fun s S => add_int (tok_ S (h _))
theorem t_sub {a b : Int} {t u : Tok} {Q : Post Value} (h : ∀ t, Q (.int (a - b) t) z l) : T prog w A (binaryOp .Sub (.int a t) (.int b u)) Q z l := fun s S => sub_int (tok_ S (h _))
theorem t_mul {a b : Int} {t u : Tok} {Q : Post Value} (hok : IntMulOk a b) (h : ∀ t, Q (.int (a * b) t) z l) : T prog w A (binaryOp .Mult (.int a t) (.int b u)) Q z l := fun s S => mul_int (tok_ S (h _)) hok
theorem t_mod {a b : Int} {t u : Tok} {Q : Post Value} (h0 : b ≠ 0) (h : ∀ t, Q (.int (Int.fmod a b) t) z l) : T prog w A (binaryOp .Mod (.int a t) (.int b u)) Q z l := fun s S => mod_int' h0 (tok_ S (h _))
theorem t_fdiv {a b : Int} {t u : Tok} {Q : Post Value} (h0 : b ≠ 0) (hp : Builtin.divisionGoesByPylong a b = false) (h : ∀ t, Q (.int (Int.fdiv a b) t) z l) : T prog w A (binaryOp .FloorDiv (.int a t) (.int b u)) Q z l := fun s S => floordiv_int h0 (tok_ S (h _)) (.inl hp)
theorem t_neg {a : Int} {t : Tok} {Q : Post Value} (h : ∀ t, Q (.int (-a) t) z l) : T prog w A (unaryOp .USub (.int a t)) Q z l := fun s S => neg_int (tok_ S (h _))
theorem t_lt {a b : Int} {t u : Tok} {Q : Post Value} (h : Q (.bool (decide (a < b))) z l) : T prog w A (compareOp .Lt (.int a t) (.int b u)) Q z l := fun s S => lt_int (Lft.here S h)
theorem t_le {a b : Int} {t u : Tok} {Q : Post Value} (h : Q (.bool (decide (a ≤ b))) z l) : T prog w A (compareOp .LtE (.int a t) (.int b u)) Q z l := fun s S => le_int (Lft.here S h)
theorem t_gt {a b : Int} {t u : Tok} {Q : Post Value} (h : Q (.bool (decide (b < a))) z l) : T prog w A (compareOp .Gt (.int a t) (.int b u)) Q z l := fun s S => gt_int (Lft.here S h)
theorem t_ge {a b : Int} {t u : Tok} {Q : Post Value} (h : Q (.bool (decide (b ≤ a))) z l) : T prog w A (compareOp .GtE (.int a t) (.int b u)) Q z l := fun s S => ge_int (Lft.here S h)
theorem t_eq {a b : Int} {t u : Tok} {Q : Post Value} (h : Q (.bool (a == b)) z l) : T prog w A (compareOp .Eq (.int a t) (.int b u)) Q z l := fun s S => eq_int (Lft.here S h)
theorem t_ne {a b : Int} {t u : Tok} {Q : Post Value} (h : Q (.bool (a != b)) z l) : T prog w A (compareOp .NotEq (.int a t) (.int b u)) Q z l := fun s S => ne_int (Lft.here S h)
theorem t_eqB {a b : Bool} {Q : Post Value} (h : Q (.bool (a == b)) z l) : T prog w A (compareOp .Eq (.bool a) (.bool b)) Q z l := fun s S => eq_bool (Lft.here S h)
theorem t_neB {a b : Bool} {Q : Post Value} (h : Q (.bool (a != b)) z l) : T prog w A (compareOp .NotEq (.bool a) (.bool b)) Q z l := fun s S => ne_bool (Lft.here S h)
theorem t_eqS {a b : Str} {t u : Tok} {Q : Post Value} (h : Q (.bool (a == b)) z l) : T prog w A (compareOp .Eq (.str a t) (.str b u)) Q z l := fun s S => eq_str (Lft.here S h)
theorem t_neS {a b : Str} {t u : Tok} {Q : Post Value} (h : Q (.bool (a != b)) z l) : T prog w A (compareOp .NotEq (.str a t) (.str b u)) Q z l := fun s S => ne_str (Lft.here S h)
theorem t_neIS {a : Int} {b : Str} {t u : Tok} {Q : Post Value} (h : Q (.bool true) z l) : T prog w A (compareOp .NotEq (.int a t) (.str b u)) Q z l := fun s S => EqMixed.ne_int_str (Lft.here S h)
theorem t_neSI {a : Str} {b : Int} {t u : Tok} {Q : Post Value} (h : Q (.bool true) z l) : T prog w A (compareOp .NotEq (.str a t) (.int b u)) Q z l := fun s S => EqMixed.ne_str_int (Lft.here S h)
theorem t_isNone {v : Value} {Q : Post Value} (h : Q (.bool (v == .none)) z l) : T prog w A (compareOp .Is v .none) Q z l := fun s S => is_none (Lft.here S h)
theorem t_abs {a : Int} {t : Tok} {Q : Post Value} (h : ∀ t, Q (.int (if a < 0 then -a else a) t) z l) : T prog w A (call (.builtin "abs") [.int a t]) Q z l := fun s S => call_abs_int fun u tk => tok_ S (h _)
theorem t_max {a b : Int} {t u : Tok} {Q : Post Value} (hh : A.handled = none) (h : ∀ t, Q (.int (max a b) t) z l) : T prog w A (call (.builtin "max") [.int a t, .int b u]) Q z l := fun s S =>
  max_two_ints hh fun h' tk k => by
    by_cases c : b > a
    · rw [if_pos c]
      have := h u; rw [show max a b = b by omega] at this
      exact same_ (S.grow k) this
    · rw [if_neg c]
      have := h t; rw [show max a b = a by omega] at this
      exact same_ (S.grow k) this
theorem t_min {a b : Int} {t u : Tok} {Q : Post Value} (hh : A.handled = none) (h : ∀ t, Q (.int (min a b) t) z l) : T prog w A (call (.builtin "min") [.int a t, .int b u]) Q z l := fun s S =>
  min_two_ints hh fun h' tk k => by
    by_cases c : b < a
    · rw [if_pos c]
      have := h u; rw [show min a b = b by omega] at this
      exact same_ (S.grow k) this
    · rw [if_neg c]
      have := h t; rw [show min a b = a by omega] at this
      exact same_ (S.grow k) this
theorem t_intB {b : Bool} {Q : Post Value} (h : ∀ t, Q (.int (if b then 1 else 0) t) z l) : T prog w A (call (.type "int") [.bool b]) Q z l := fun s S => call_int_bool (tok_ S (h _))

/- sums of lists, of tuples; tuple(list); slices; sorted -/
theorem t_addL {a b : Addr} {vs ws : List Value} {Q : Post Value} (ha : LsAt w z l a vs) (hb : LsAt w z l b ws) (hz : vs.length + ws.length ≤ 1000000) (h : ∀ c, Q (.ref c) z ((c, LstP (vs ++ ws)) :: l)) : T prog w A (binaryOp .Add (.ref a) (.ref b)) Q z l := fun s S => by
  obtain ⟨⟨cls, dd, data, sl⟩, ho, hc, n, hd⟩ := ha _ S
  obtain ⟨⟨cls2, dd2, data2, sl2⟩, ho2, hc2, n2, hd2⟩ := hb _ S
  simp only at hc hd hc2 hd2
  subst hc hd hc2 hd2
  have e : vs.toArray ++ ws.toArray = (vs ++ ws).toArray := by simp
  refine concat_meets ⟨_, ho, rfl⟩ ⟨_, ho2, rfl⟩ noFill_list_add seq_list_add PySem.F.slot_list_add PySem.F.entry_list_add (PySem.F.args_list_add_2 _ _) (list_addW a b vs.toArray ws.toArray n n2 dd dd2 sl sl2 (by rw [List.size_toArray, List.size_toArray, sizeLine_eq]; omega)) ⟨ho, ho2, ?_⟩
  rw [e]
  exact ⟨z, _, ⟨⟨_, s.toks, rfl⟩, fun _ _ e => e⟩, S.new (P := LstP (vs ++ ws)) rfl ⟨_, rfl⟩, h _⟩
theorem t_addT {a b : Addr} {vs ws : List Value} {Q : Post Value} (ha : TpAt w z l a vs) (hb : TpAt w z l b ws) (hz : vs.length + ws.length ≤ 1000000) (h0 : vs = [] → Q (.ref b) z l) (h1 : ws = [] → Q (.ref a) z l)
    (h : ∀ c, Q (.ref c) z ((c, TupP (vs ++ ws)) :: l)) : T prog w A (binaryOp .Add (.ref a) (.ref b)) Q z l := fun s S => by
  obtain ⟨⟨cls, dd, data, sl⟩, ho, hc, n, hd⟩ := ha _ S
  obtain ⟨⟨cls2, dd2, data2, sl2⟩, ho2, hc2, n2, hd2⟩ := hb _ S
  simp only at hc hd hc2 hd2
  subst hc hd hc2 hd2
  have e : vs.toArray ++ ws.toArray = (vs ++ ws).toArray := by simp
  by_cases hv : vs = []
  · exact concat_meets ⟨_, ho, rfl⟩ ⟨_, ho2, rfl⟩ noFill_tuple_add seq_tuple_add PySem.F.slot_tuple_add PySem.F.entry_tuple_add (PySem.F.args_tuple_add_2 _ _)
      (tuple_addW0 a b vs.toArray ws.toArray n n2 dd dd2 sl sl2 (by simp [hv])) ⟨ho, ho2, Lft.here S (h0 hv)⟩
  · by_cases hw : ws = []
    · exact concat_meets ⟨_, ho, rfl⟩ ⟨_, ho2, rfl⟩ noFill_tuple_add seq_tuple_add PySem.F.slot_tuple_add PySem.F.entry_tuple_add (PySem.F.args_tuple_add_2 _ _)
        (tuple_addW1 a b vs.toArray ws.toArray n n2 dd dd2 sl sl2 (by simpa using hv) (by simp [hw])) ⟨ho, ho2, Lft.here S (h1 hw)⟩
    · refine concat_meets ⟨_, ho, rfl⟩ ⟨_, ho2, rfl⟩ noFill_tuple_add seq_tuple_add PySem.F.slot_tuple_add PySem.F.entry_tuple_add (PySem.F.args_tuple_add_2 _ _)
        (tuple_addW2 a b vs.toArray ws.toArray n n2 dd dd2 sl sl2 (by simpa using hv) (by simpa using hw) (by rw [List.size_toArray, List.size_toArray, sizeLine_eq]; omega)) ⟨ho, ho2, ?_⟩
      rw [e]
      exact ⟨z, _, ⟨⟨_, s.toks, rfl⟩, fun _ _ e => e⟩, S.new (P := TupP (vs ++ ws)) rfl ⟨_, rfl⟩, h _⟩
theorem t_tupL {a : Addr} {vs : List Value} {Q : Post Value} (ha : LsAt w z l a vs) (hz : vs.length ≤ 1000000) (h : ∀ c, Q (.ref c) z ((c, TupP vs) :: l)) : T prog w A (call (.type "tuple") [.ref a]) Q z l := fun s S =>
  call_tuple_list (hsz := by rw [List.size_toArray, sizeLine_eq]; omega) (ha _ S) fun h' k => ⟨z, _, ⟨⟨_, s.toks, rfl⟩, fun _ _ e => e⟩, (S.grow k).new (P := TupP vs) rfl ⟨_, rfl⟩, h _⟩
theorem t_tupT {a : Addr} {vs : List Value} {Q : Post Value} (ha : TpAt w z l a vs) (h : Q (.ref a) z l) : T prog w A (call (.type "tuple") [.ref a]) Q z l := fun s S => call_tuple_same (ha _ S) (Lft.here S h)
theorem t_slice {value : PySem.Expr} {lower upper : Option PySem.Expr} {p pos : Pos} {Q : Post Value}
    (h : T prog w A (eval value env) (fun o => T prog w A (evalPart lower env) (fun vl => T prog w A (evalPart upper env) (fun vu z l => ∃ a vs lo hi, o = .ref a ∧ LsAt w z l a vs ∧ vs.length ≤ 1000000 ∧ IsPart vl lo ∧ IsPart vu hi ∧ ∀ c, Q (.ref c) z ((c, LstP (slicePick vs.toArray lo hi none).toList) :: l)))) z l)
    (ht : ∀ o r, letTemporaryGo value o r = pure () := by intro _ _; rfl) : T prog w A (eval (.Subscript value (.Slice lower upper none p) pos) env) Q z l := fun s S =>
  wpAny_Subscript_list_slice (h.nest S fun o s₁ z₁ l₁ i₁ S₁ p₁ => p₁.nest S₁ fun vl s₂ z₂ l₂ i₂ S₂ p₂ => p₂.nest S₂ fun vu s₃ z₃ l₃ i₃ S₃ ⟨a, vs, lo, hi, e, hl, hz, h1, h2, q⟩ => by
    refine ⟨a, vs.toArray, lo, hi, e, hl _ S₃, by rw [List.size_toArray, sizeLine_eq]; omega, h1, h2, ?_⟩
    have k := S₃.grow (h' := s₃.heap.push { cls := .type "slice", data := .fields #[vl, vu, .none] }) fun b o e => Heap.get?_push_of_some _ e
    have k2 := k.new (o := { cls := .type "list", data := .seq (slicePick vs.toArray lo hi none) }) (P := LstP (slicePick vs.toArray lo hi none).toList) rfl ⟨0, by simp⟩
    rw [Heap.size_push] at k2
    exact ⟨z₃, _, ((i₁.trans i₂).trans i₃).trans ⟨⟨_, s₃.toks, rfl⟩, fun _ _ e => e⟩, k2, q _⟩) ht
theorem t_sorted {a : Addr} {vs : List Value} {ns : List Int} {Q : Post Value} (ha : LsAt w z l a vs) (hI : IntsAre vs ns) (h64 : vs.length < 64)
    (h : ∀ c vs' ns', IntsAre vs' ns' → ns'.Perm ns → ns'.Pairwise (· ≤ ·) → Q (.ref c) z ((c, LstP vs') :: l)) : T prog w A (call (.builtin "sorted") [.ref a]) Q z l := fun s S =>
  sorted_ints (ha _ S) hI h64 fun out ns' a1 a2 a3 => by
    obtain ⟨e, he⟩ := sortedAll_at s.heap vs out
    have fresh : s.heap.get? (s.heap.objs.size + 1) = none := Heap.get?_none_of_le (Nat.le_succ _)
    refine ⟨z, _, ⟨⟨_, s.toks, rfl⟩, fun _ _ e => e⟩, ?_, h (s.heap.objs.size + 1) out.toList ns' a1 a2 a3⟩
    have S' := S.grow (h' := sortedAll s.heap vs out) fun b o e => sortedAll_old e
    refine ⟨S'.bs, S'.fz, fun p hp => ?_, fun p hp => ?_, ?_⟩
    · rcases List.mem_cons.mp hp with rfl | hp
      · exact ⟨_, he, e, by simp [seqObj]⟩
      · exact S'.own p hp
    · rcases List.mem_cons.mp hp with rfl | hp
      · cases q : z.get? (s.heap.objs.size + 1) with
        | none => rfl
        | some o => have := S.fz _ _ q; rw [fresh] at this; cases this
      · exact S'.off p hp
    · rw [List.map_cons, List.nodup_cons]
      refine ⟨fun hm => ?_, S'.nd⟩
      obtain ⟨p, hp, e⟩ := List.mem_map.mp hm
      obtain ⟨o, ho, _⟩ := S.own p hp
      rw [e, fresh] at ho; cases ho

/- equality of data -/
theorem t_eqD {a b : Value} {da db : PyData} (ra : ∀ h, St w z l h → ∃ as, Reads h a da as) (rb : ∀ h, St w z l h → ∃ bs, Reads h b db bs) (ha : PySem.SeqAt.shaped da = true) (hb : PySem.SeqAt.shaped db = true) (hu : A.units + 64 < cLine) {Q : Post Value}
    (h : Q (.bool (PyData.eqv da db)) z l) : T prog w A (compareOp .Eq a b) Q z l := fun s S => by
  obtain ⟨as, ra⟩ := ra _ S
  obtain ⟨bs, rb⟩ := rb _ S
  exact eq_dataH ra rb ha hb hu (Lft.here S h)
theorem t_neD {a b : Value} {da db : PyData} (ra : ∀ h, St w z l h → ∃ as, Reads h a da as) (rb : ∀ h, St w z l h → ∃ bs, Reads h b db bs) (ha : PySem.SeqAt.shaped da = true) (hb : PySem.SeqAt.shaped db = true) (hu : A.units + 64 < cLine) {Q : Post Value}
    (h : Q (.bool (!PyData.eqv da db)) z l) : T prog w A (compareOp .NotEq a b) Q z l := fun s S => by
  obtain ⟨as, ra⟩ := ra _ S
  obtain ⟨bs, rb⟩ := rb _ S
  exact ne_dataH ra rb ha hb hu (Lft.here S h)
theorem t_notinI {a : Addr} {vs : List Value} {ns : List Int} {k : Int} {t : Tok} {Q : Post Value} (ha : LsAt w z l a vs) (hI : IntsAre vs ns) (h : Q (.bool (!ns.any fun x => x == k)) z l) : T prog w A (compareOp .NotIn (.int k t) (.ref a)) Q z l := fun s S =>
  notin_list_ints (ha _ S) hI (Lft.here S h)
theorem t_inS {a : Addr} {vs : List Value} {es : List PyData} {x : Str} {t : Tok} {Q : Post Value} (ha : LsAt w z l a vs) (hI : CarriedAll vs es) (h : Q (.bool (es.any (datHitsStr x))) z l) : T prog w A (compareOp .In (.str x t) (.ref a)) Q z l := fun s S =>
  in_made_str (ha _ S) hI (Lft.here S h)
end
end Mine
end
section
open PySem PySem.W PySem.Calls PyProof.Rows
set_option maxRecDepth 100000
namespace Mine
section
variable {α β : Type} {prog : Program} {w : World} {A : Around} {z : Heap} {l : Led} {s : Shared} {env : Env}

theorem St.tail {h h' : Heap} {p : Addr × (Obj → Prop)} (S : St w z (p :: l) h) (k : ∀ b o, b ≠ p.1 → h.get? b = some o → h'.get? b = some o) : St w z l h' := by
  have nd := S.nd
  rw [List.map_cons, List.nodup_cons] at nd
  refine ⟨S.bs, fun b o e => k b o (fun q => ?_) (S.fz b o e), fun q hq => ?_, fun q hq => S.off q (List.mem_cons_of_mem _ hq), nd.2⟩
  · have := S.off p List.mem_cons_self
    rw [← q, e] at this; cases this
  · obtain ⟨o, ho, c⟩ := S.own q (List.mem_cons_of_mem _ hq)
    exact ⟨o, k _ _ (fun e => nd.1 (e ▸ List.mem_map_of_mem hq)) ho, c⟩
theorem St.tl {h : Heap} {p : Addr × (Obj → Prop)} (S : St w z (p :: l) h) : St w z l h := S.tail fun _ _ _ e => e

/- iterators' states -/
def LIt (ax : Addr) (i : Nat) : Obj → Prop := fun o => o.cls = .type "list_iterator" ∧ o.data = .fields #[.ref ax, .int i 0]
def TIt (ax : Addr) (i : Nat) : Obj → Prop := fun o => o.cls = .type "tuple_iterator" ∧ o.data = .fields #[.ref ax, .int i 0]
def RIt (x left : Int) : Obj → Prop := fun o => o = { cls := .type "range_iterator", dict := none, data := .fields #[rawInt x, rawInt left, rawInt 1], slots := #[] }
def EIt (it : Addr) (i : Nat) : Obj → Prop := fun o => ∃ old, o = { cls := .type "enumerate", dict := none, data := .fields #[.none, .bool false, .ref it, rawInt i, .none, old], slots := #[] }
def RngP (a b : Int) : Obj → Prop := fun o => ∃ t u v, o = { cls := .type "range", dict := none, data := .fields #[.int a t, .int b u, .int 1 v], slots := #[] }

/-- an iterator that hands out n items: its part of the ledger between the items, what it needs of the rest, what the items are -/
structure Steps (prog : Program) (w : World) (A : Around) (target : Expr) (it : Addr) (n : Nat) (B : Nat → Led) (Src : Heap → Led → Prop) (V : Nat → Value → Heap → Prop) : Prop where
  item : ∀ i z l (R : Value → Heap → Led → Prop), i < n → Src z l → (∀ v z', z.StaysIn z' → V i v z' → R v z' (B (i + 1) ++ l)) →
    T prog w A (pyNext (.ref it)) (fun r z₁ l₁ => ∃ v, r = some v ∧ T prog w A (letOwnedTupleGo target (.ref it) v) (fun _ => R v) z₁ l₁) z (B i ++ l)
  done : ∀ z l (R : Heap → Led → Prop), Src z l → R z l → T prog w A (pyNext (.ref it)) (fun r z₁ l₁ => r = none ∧ R z₁ l₁) z (B n ++ l)
  self : ∀ z l (Q : Post Value), Src z l → Q (.ref it) z (B 0 ++ l) → T prog w A (pyIter (.ref it)) Q z (B 0 ++ l)

theorem go_name {x : Str} {pos : Pos} {it v : Value} {Q : Post Unit} (h : Q () z l) : T prog w A (letOwnedTupleGo (.Name x pos) it v) Q z l := fun s S => wpAny_of_eq (a := ()) rfl (Lft.here S h)
def goesPlain : Expr → Bool
  | .Name .. => true
  | .Tuple .. => true
  | _ => false
theorem go_plain {target : Expr} {it : Addr} {v : Value} {n : String} {P : Obj → Prop} {Q : Post Unit} (ht : goesPlain target = true) (hn : (["enumerate", "zip", "dict_itemiterator", "dict_reverseitemiterator", "odict_iterator", "itertools.zip_longest", "itertools.pairwise"] : List String).contains n = false)
    (hP : ∀ o, P o → o.cls = .type n) (h : Q () z ((it, P) :: l)) : T prog w A (letOwnedTupleGo target (.ref it) v) Q z ((it, P) :: l) := by
  cases target <;> first | exact go_name h | exact absurd ht Bool.false_ne_true | skip
  intro s S
  unfold letOwnedTupleGo
  cases v <;> try exact wpAny_pure (Lft.here S h)
  rename_i a
  obtain ⟨o, ho, k⟩ := S.get (List.mem_cons_self (a := (it, P)) (l := l))
  refine wpAny_bind (wpAny_load ho ?_)
  have hc := hP o k
  obtain ⟨c, d, dt, sl⟩ := o
  dsimp only at hc
  subst hc
  cases dt <;> try exact wpAny_pure (Lft.here S h)
  simp only [hn, Bool.false_and, Bool.false_eq_true, if_false]
  exact wpAny_pure (Lft.here S h)

theorem steps_list {target : Expr} {I ax : Addr} {vs : List Value} (hh : A.handled = none) (ht : goesPlain target = true) :
    Steps prog w A target I vs.length (fun i => [(I, LIt ax i)]) (fun z l => LsAt w z l ax vs) (fun i v _ => vs[i]? = some v) where
  item := fun i z l R hi hs k s S => by
    obtain ⟨o, ho, c1, c2⟩ := S.get (List.mem_cons_self (a := (I, LIt ax i)) (l := l))
    refine wpAny_pyNext_list_item (x := vs[i]) ⟨o, ho, c1, c2⟩ (hs _ S.tl) (by simp [hi]) fun h' hit hsb => ?_
    obtain ⟨o', ho', c1', c2'⟩ := hit
    refine ⟨z, [(I, LIt ax (i + 1))] ++ l, ⟨⟨h', s.toks, rfl⟩, fun _ _ e => e⟩, S.upd (.head) (fun b o hb e => (hsb.2 b hb).trans e) ⟨o', ho', c1', c2'⟩, vs[i], rfl, ?_⟩
    exact go_plain (n := "list_iterator") ht (by decide) (fun o k => k.1) (k _ _ (fun _ _ e => e) (by simp [hi]))
  done := fun z l R hs k s S => by
    obtain ⟨o, ho, c1, c2⟩ := S.get (List.mem_cons_self (a := (I, LIt ax vs.length)) (l := l))
    exact wpAny_pyNext_list_end hh ⟨o, ho, c1, c2⟩ (hs _ S.tl) (by simp) fun h' he => ⟨z, l, ⟨⟨h', s.toks, rfl⟩, fun _ _ e => e⟩, S.tail fun b o hb e => he b o hb e, rfl, k⟩
  self := fun z l Q hs k s S => by
    obtain ⟨o, ho, c1, c2⟩ := S.get (List.mem_cons_self (a := (I, LIt ax 0)) (l := l))
    exact wpAny_pyIter_listiter ⟨o, ho, c1, c2⟩ (Lft.here S k)
theorem steps_tuple {target : Expr} {I ax : Addr} {vs : List Value} (hh : A.handled = none) (ht : goesPlain target = true) :
    Steps prog w A target I vs.length (fun i => [(I, TIt ax i)]) (fun z l => TpAt w z l ax vs) (fun i v _ => vs[i]? = some v) where
  item := fun i z l R hi hs k s S => by
    obtain ⟨o, ho, c1, c2⟩ := S.get (List.mem_cons_self (a := (I, TIt ax i)) (l := l))
    refine wpAny_pyNext_tuple_item (x := vs[i]) ⟨o, ho, c1, c2⟩ (hs _ S.tl) (by simp [hi]) fun h' hit hsb => ?_
    obtain ⟨o', ho', c1', c2'⟩ := hit
    refine ⟨z, [(I, TIt ax (i + 1))] ++ l, ⟨⟨h', s.toks, rfl⟩, fun _ _ e => e⟩, S.upd (.head) (fun b o hb e => (hsb.2 b hb).trans e) ⟨o', ho', c1', c2'⟩, vs[i], rfl, ?_⟩
    exact go_plain (n := "tuple_iterator") ht (by decide) (fun o k => k.1) (k _ _ (fun _ _ e => e) (by simp [hi]))
  done := fun z l R hs k s S => by
    obtain ⟨o, ho, c1, c2⟩ := S.get (List.mem_cons_self (a := (I, TIt ax vs.length)) (l := l))
    exact wpAny_pyNext_tuple_end hh ⟨o, ho, c1, c2⟩ (hs _ S.tl) (by simp) fun h' he => ⟨z, l, ⟨⟨h', s.toks, rfl⟩, fun _ _ e => e⟩, S.tail fun b o hb e => he b o hb e, rfl, k⟩
  self := fun z l Q hs k s S => by
    obtain ⟨o, ho, c1, c2⟩ := S.get (List.mem_cons_self (a := (I, TIt ax 0)) (l := l))
    exact wpAny_pyIter_tupleiter ⟨o, ho, c1, c2⟩ (Lft.here S k)
theorem steps_range {target : Expr} {I : Addr} {a : Int} {n : Nat} (hh : A.handled = none) (ht : goesPlain target = true) :
    Steps prog w A target I n (fun i => [(I, RIt (a + i) ((n : Int) - i))]) (fun _ _ => True) (fun i v _ => ∃ t, v = .int (a + i) t) where
  item := fun i z l R hi hs k s S => by
    obtain ⟨o, ho, rfl⟩ := S.get (List.mem_cons_self (a := (I, RIt (a + i) ((n : Int) - i))) (l := l))
    refine wpAny_pyNext_range_item ho (by omega) fun h' hit hsb => ?_
    have e1 : a + (i : Int) + 1 = a + ((i + 1 : Nat) : Int) := by omega
    have e2 : (n : Int) - i - 1 = (n : Int) - ((i + 1 : Nat) : Int) := by omega
    rw [e1, e2] at hit
    refine ⟨z, [(I, RIt (a + ((i + 1 : Nat) : Int)) ((n : Int) - ((i + 1 : Nat) : Int)))] ++ l, ⟨⟨h', s.toks + 1, rfl⟩, fun _ _ e => e⟩, S.upd (.head) (fun b o hb e => (hsb.2 b hb).trans e) ⟨_, hit, rfl⟩, _, rfl, ?_⟩
    exact go_plain (n := "range_iterator") ht (by decide) (fun o k => by rw [k]) (k _ _ (fun _ _ e => e) ⟨_, rfl⟩)
  done := fun z l R hs k s S => by
    obtain ⟨o, ho, rfl⟩ := S.get (List.mem_cons_self (a := (I, RIt (a + n) ((n : Int) - n))) (l := l))
    exact wpAny_pyNext_range_end hh ho (by omega) fun h' he => ⟨z, l, ⟨⟨h', s.toks, rfl⟩, fun _ _ e => e⟩, S.tail fun b o hb e => he b o hb e, rfl, k⟩
  self := fun z l Q hs k s S => by
    obtain ⟨o, ho, rfl⟩ := S.get (List.mem_cons_self (a := (I, RIt (a + (0 : Nat)) ((n : Int) - (0 : Nat)))) (l := l))
    exact wpAny_pyIter_rangeiter ho (Lft.here S k)
theorem steps_enum {elts : List Expr} {x1 : Nat} {pos : Pos} {e it ax : Addr} {vs : List Value} (hh : A.handled = none) :
    Steps prog w A (.Tuple elts x1 pos) e vs.length (fun i => [(e, EIt it i), (it, LIt ax i)]) (fun z l => LsAt w z l ax vs) (fun i v z => ∃ a t x, v = .ref a ∧ vs[i]? = some x ∧ Fz z a (TupP [.int i t, x])) where
  item := fun i z l R hi hs k s S => by
    obtain ⟨oe, hoe, old, rfl⟩ := S.get (List.mem_cons_self (a := (e, EIt it i)) (l := (it, LIt ax i) :: l))
    obtain ⟨oi, hoi, c1, c2⟩ := S.get (List.mem_cons_of_mem (e, EIt it i) (List.mem_cons_self (a := (it, LIt ax i)) (l := l)))
    have nd := S.nd
    rw [show (List.map (fun x => x.fst) ([(e, EIt it i), (it, LIt ax i)] ++ l)) = e :: it :: l.map (·.1) from rfl, List.nodup_cons] at nd
    have hne : e ≠ it := fun q => nd.1 (q ▸ List.mem_cons_self)
    have fresh : s.heap.get? s.heap.objs.size = none := Heap.get?_none_of_le (Nat.le_refl _)
    refine wpAny_pyNext_enum_item (x := vs[i]) hoe ⟨oi, hoi, c1, c2⟩ (hs _ S.tl.tl) (by simp [hi]) hne fun h' h1 h2 h3 h4 h5 => ?_
    obtain ⟨o2, ho2, d1, d2⟩ := h2
    -- the state with the tuple handed out
    let EO : Obj → Prop := fun o => o = { cls := .type "enumerate", dict := none, data := .fields #[rawInt s.heap.objs.size, .bool false, .ref it, rawInt ((i : Int) + 1), .none, vs[i]], slots := #[] }
    have S1 : St w z ((s.heap.objs.size, TupP [.int i s.toks, vs[i]]) :: (e, EO) :: (it, LIt ax (i + 1)) :: l) h' := by
      refine ⟨S.bs, fun b o q => h5 b o (fun x => ?_) (fun x => ?_) (S.fz b o q), fun p hp => ?_, fun p hp => ?_, ?_⟩
      · have := S.off (e, EIt it i) List.mem_cons_self; rw [← x, q] at this; cases this
      · have := S.off (it, LIt ax i) (List.mem_cons_of_mem _ List.mem_cons_self); rw [← x, q] at this; cases this
      · rcases List.mem_cons.mp hp with rfl | hp
        · exact ⟨_, h3, 0, rfl⟩
        · rcases List.mem_cons.mp hp with rfl | hp
          · exact ⟨_, h1, rfl⟩
          · rcases List.mem_cons.mp hp with rfl | hp
            · exact ⟨o2, ho2, d1, d2⟩
            · obtain ⟨o, ho, c⟩ := S.own p (List.mem_cons_of_mem _ (List.mem_cons_of_mem _ hp))
              exact ⟨o, h5 _ _ (fun x => nd.1 (x ▸ List.mem_cons_of_mem _ (List.mem_map_of_mem hp))) (fun x => (List.nodup_cons.mp nd.2).1 (x ▸ List.mem_map_of_mem hp)) ho, c⟩
      · rcases List.mem_cons.mp hp with rfl | hp
        · cases q : z.get? s.heap.objs.size with
          | none => rfl
          | some o => have := S.fz _ _ q; rw [fresh] at this; cases this
        · rcases List.mem_cons.mp hp with rfl | hp
          · exact S.off (e, EIt it i) List.mem_cons_self
          · rcases List.mem_cons.mp hp with rfl | hp
            · exact S.off (it, LIt ax i) (List.mem_cons_of_mem _ List.mem_cons_self)
            · exact S.off p (List.mem_cons_of_mem _ (List.mem_cons_of_mem _ hp))
      · show (s.heap.objs.size :: e :: it :: l.map (·.1)).Nodup
        rw [List.nodup_cons, List.nodup_cons]
        refine ⟨fun hm => ?_, nd⟩
        rcases List.mem_cons.mp hm with q | hm
        · have := Heap.lt_size hoe; rw [← q] at this; exact Nat.lt_irrefl _ this
        · rcases List.mem_cons.mp hm with q | hm
          · have := Heap.lt_size hoi; rw [← q] at this; exact Nat.lt_irrefl _ this
          · obtain ⟨p, hp, q⟩ := List.mem_map.mp hm
            obtain ⟨o, ho, _⟩ := S.own p (List.mem_cons_of_mem _ (List.mem_cons_of_mem _ hp))
            have := Heap.lt_size ho; rw [q] at this; exact Nat.lt_irrefl _ this
    refine ⟨z, _, ⟨⟨h', s.toks + 1, rfl⟩, fun _ _ e => e⟩, S1, _, rfl, fun s2 S2 => ?_⟩
    obtain ⟨oe, hoe2, rfl⟩ := S2.get (List.mem_cons_of_mem (s.heap.objs.size, TupP [.int i s.toks, vs[i]]) (List.mem_cons_self (a := (e, EO)) (l := (it, LIt ax (i + 1)) :: l)))
    refine wpAny_letOwnedTupleGo_enum hoe2 fun h2 g1 g2 => ?_
    have S3 : St w z ((s.heap.objs.size, TupP [.int i s.toks, vs[i]]) :: (e, EIt it (i + 1)) :: (it, LIt ax (i + 1)) :: l) h2 :=
      S2.upd (g := fun P => (s.heap.objs.size, TupP [.int i s.toks, vs[i]]) :: (e, P) :: (it, LIt ax (i + 1)) :: l) (.tail .head) (fun b o hb q => (g2.2 b hb).trans q) ⟨_, g1, vs[i], rfl⟩
    obtain ⟨z', o, i', ho, hP, S4⟩ := S3.freeze
    exact ⟨z', _, ⟨⟨h2, s2.toks, rfl⟩, i'⟩, S4, k _ _ i' ⟨_, _, _, rfl, by simp [hi], o, ho, hP⟩⟩
  done := fun z l R hs k s S => by
    obtain ⟨oe, hoe, old, rfl⟩ := S.get (List.mem_cons_self (a := (e, EIt it vs.length)) (l := (it, LIt ax vs.length) :: l))
    obtain ⟨oi, hoi, c1, c2⟩ := S.get (List.mem_cons_of_mem (e, EIt it vs.length) (List.mem_cons_self (a := (it, LIt ax vs.length)) (l := l)))
    exact wpAny_pyNext_enum_end hh hoe ⟨oi, hoi, c1, c2⟩ (hs _ S.tl.tl) (by simp) fun h' he => ⟨z, l, ⟨⟨h', s.toks, rfl⟩, fun _ _ e => e⟩, S.tl.tail fun b o hb e => he b o hb e, rfl, k⟩
  self := fun z l Q hs k s S => by
    obtain ⟨oe, hoe, old, rfl⟩ := S.get (List.mem_cons_self (a := (e, EIt it 0)) (l := (it, LIt ax 0) :: l))
    exact wpAny_pyIter_enum hoe (Lft.here S k)

/- iter() of the sources -/
theorem t_iterL {ax : Addr} {vs : List Value} {Q : Post Value} (hl : LsAt w z l ax vs) (h : ∀ I, Q (.ref I) z ((I, LIt ax 0) :: l)) : T prog w A (pyIter (.ref ax)) Q z l := fun s S =>
  wpAny_pyIter_list (hl _ S) ⟨z, _, ⟨⟨_, s.toks, rfl⟩, fun _ _ e => e⟩, S.new (P := LIt ax 0) rfl ⟨rfl, rfl⟩, h _⟩
theorem t_iterT {ax : Addr} {vs : List Value} {Q : Post Value} (hl : TpAt w z l ax vs) (h : ∀ I, Q (.ref I) z ((I, TIt ax 0) :: l)) : T prog w A (pyIter (.ref ax)) Q z l := fun s S =>
  wpAny_pyIter_tuple (hl _ S) ⟨z, _, ⟨⟨_, s.toks, rfl⟩, fun _ _ e => e⟩, S.new (P := TIt ax 0) rfl ⟨rfl, rfl⟩, h _⟩
theorem t_iterR {r : Addr} {a b : Int} {n : Nat} {Q : Post Value} (hsm : Builtin.Range.small a b 1 = true) (hn : Builtin.Range.rangeSize a b 1 = (n : Int)) (h : ∀ I, Q (.ref I) z ((I, RIt (a + (0 : Nat)) ((n : Int) - (0 : Nat))) :: l)) :
    T prog w A (pyIter (.ref r)) Q z ((r, RngP a b) :: l) := fun s S => by
  obtain ⟨o, ho, t, u, v, rfl⟩ := S.get (List.mem_cons_self (a := (r, RngP a b)) (l := l))
  refine wpAny_pyIter_range ho hsm ⟨z, _, ⟨⟨_, s.toks, rfl⟩, fun _ _ e => e⟩, S.tl.new (P := RIt (a + (0 : Nat)) ((n : Int) - (0 : Nat))) rfl ?_, h _⟩
  rw [hn]
  show _ = _
  rw [show a + ((0 : Nat) : Int) = a by omega, show (n : Int) - ((0 : Nat) : Int) = n by omega]
theorem t_range1 {n : Int} {t : Tok} {Q : Post Value} (h : ∀ r, Q (.ref r) z ((r, RngP 0 n) :: l)) : T prog w A (call (.type "range") [.int n t]) Q z l := fun s S =>
  call_range_1 ⟨z, _, ⟨⟨_, _, rfl⟩, fun _ _ e => e⟩, S.new (P := RngP 0 n) rfl ⟨_, _, _, rfl⟩, h _⟩
theorem t_range2 {a b : Int} {t u : Tok} {Q : Post Value} (h : ∀ r, Q (.ref r) z ((r, RngP a b) :: l)) : T prog w A (call (.type "range") [.int a t, .int b u]) Q z l := fun s S =>
  call_range_2 ⟨z, _, ⟨⟨_, _, rfl⟩, fun _ _ e => e⟩, S.new (P := RngP a b) rfl ⟨_, _, _, rfl⟩, h _⟩
theorem range_small {a b : Int} (h1 : -1000000 ≤ a) (h2 : a ≤ 1000000) (h3 : -1000000 ≤ b) (h4 : b ≤ 1000000) : Builtin.Range.small a b 1 = true ∧ Builtin.Range.rangeSize a b 1 = ((b - a).toNat : Int) := by
  have hs : Builtin.Range.rangeSize a b 1 = ((b - a).toNat : Int) := by
    unfold Builtin.Range.rangeSize
    simp only [show (1 : Int) > 0 from by decide, if_true]
    split
    · rw [Int.ediv_one]; omega
    · omega
  refine ⟨?_, hs⟩
  unfold Builtin.Range.small
  rw [hs]
  unfold Builtin.Range.rangeFitsLong
  simp only [Bool.and_eq_true, decide_eq_true_eq, Bool.or_eq_true, beq_iff_eq, show (1 : Int) > 0 from by decide, if_true]
  omega
theorem t_enum {ax : Addr} {vs : List Value} {Q : Post Value} (hl : LsAt w z l ax vs) (h : ∀ e it, Q (.ref e) z ((e, EIt it 0) :: (it, LIt ax 0) :: l)) : T prog w A (call (.type "enumerate") [.ref ax]) Q z l := fun s S => by
  refine call_enumerate_list (hl _ S) fun h' h1 h2 h3 h4 => ?_
  have S0 := S.grow h4
  obtain ⟨o2, ho2, d1, d2⟩ := h2
  have off : ∀ a, s.heap.objs.size ≤ a → z.get? a = none ∧ a ∉ l.map (·.1) := fun a ha => by
    have fresh : s.heap.get? a = none := Heap.get?_none_of_le ha
    refine ⟨?_, fun hm => ?_⟩
    · cases q : z.get? a with
      | none => rfl
      | some o => have := S.fz _ _ q; rw [fresh] at this; cases this
    · obtain ⟨p, hp, q⟩ := List.mem_map.mp hm
      obtain ⟨o, ho, _⟩ := S.own p hp
      rw [q, fresh] at ho; cases ho
  refine ⟨z, _, ⟨⟨h', s.toks, rfl⟩, fun _ _ e => e⟩, ?_, h (s.heap.objs.size + 1) s.heap.objs.size⟩
  refine ⟨S.bs, S0.fz, fun p hp => ?_, fun p hp => ?_, ?_⟩
  · rcases List.mem_cons.mp hp with rfl | hp
    · exact ⟨_, h1, .none, rfl⟩
    · rcases List.mem_cons.mp hp with rfl | hp
      · exact ⟨o2, ho2, d1, d2⟩
      · exact S0.own p hp
  · rcases List.mem_cons.mp hp with rfl | hp
    · exact (off _ (Nat.le_succ _)).1
    · rcases List.mem_cons.mp hp with rfl | hp
      · exact (off _ (Nat.le_refl _)).1
      · exact S.off p hp
  · show ((s.heap.objs.size + 1) :: s.heap.objs.size :: l.map (·.1)).Nodup
    rw [List.nodup_cons, List.nodup_cons]
    refine ⟨fun hm => ?_, (off _ (Nat.le_refl _)).2, S.nd⟩
    rcases List.mem_cons.mp hm with q | hm
    · exact absurd q (Nat.succ_ne_self _)
    · exact (off _ (Nat.le_succ _)).2 hm
end
end Mine
end
section
open PySem PySem.W PySem.Calls PyProof.Rows
set_option maxRecDepth 100000
namespace Mine
section
variable {α β : Type} {prog : Program} {w : World} {A : Around} {z : Heap} {l : Led} {s : Shared} {env : Env}

def okR (Q : Post Flow) : Post Result := fun r z l => match r with
  | .ok f => Q f z l
  | .error _ => False
theorem TC.up {c : Code} {R : Post Result} {s₁ : Shared} {z₁ : Heap} {l₁ : Led} (h : TC prog w A c R z₁ l₁) (S : St w z₁ l₁ s₁.heap) (i : Sm s z s₁ z₁) : codeAny (model prog w) A c (Lft w s z R) s₁ :=
  codeAny_mono (h s₁ S) fun _ _ ⟨z₂, l₂, i₂, S₂, q⟩ => ⟨z₂, l₂, i.trans i₂, S₂, q⟩
theorem noE_noted {M : Model} {A : Around} {t : Sem α} {Q : α → Shared → Prop} {E : Value → Shared → Prop} (h : wpAny M A t Q NoE s) : wpAny M A t Q E s := wpAny_mono h (fun _ _ q => q) fun _ _ f => f.elim

theorem t_For {target iter : Expr} {body : List Stmt} {pos : Pos} {Q : Post Flow} (h : T prog w A (eval iter env) (fun xv => T prog w A (pyIter xv) (fun it => TC prog w A (.forLoop target it body [] env) (okR Q))) z l)
    (hs : ∀ x, foldedSetIterable iter env x = pure x := by intro _; rfl) : T prog w A (exec (.For target iter body [] pos) env) Q z l := fun s S =>
  wpAny_For (h.nest S fun xv s₁ z₁ l₁ i₁ S₁ p => p.nest S₁ fun it s₂ z₂ l₂ i₂ S₂ q => codeAny_mono (TC.up q S₂ (i₁.trans i₂)) fun r s' ⟨z', l', i, S', k⟩ => by
    cases r with
    | ok f => exact ⟨z', l', i, S', k⟩
    | error e => exact k.elim) hs

/-- what a turn of a loop must leave: the iterator's part, the loop's own ledger at a new state x' -/
def TurnQ {σ : Type} (B' : Led) (led : σ → Led) (ok' : σ → Heap → Prop) (Q : Post Flow) : Post Flow := fun f z l => match f with
  | .next | .cont => ∃ x', (B' ++ led x').Sublist l ∧ ok' x' z
  | .brk => ∃ l', l'.Sublist l ∧ Q .next z l'
  | .ret v => ∃ l', l'.Sublist l ∧ Q (.ret v) z l'
theorem tc_for {σ : Type} {target : Expr} {body : List Stmt} {it : Addr} {n : Nat} {B : Nat → Led} {Src : Heap → Led → Prop} {V : Nat → Value → Heap → Prop} {Q : Post Flow}
    (led : σ → Led) (ok : Nat → σ → Heap → Prop) (x₀ : σ) (W : Steps prog w A target it n B Src V) (h0 : ok 0 x₀ z) (hl : B 0 ++ led x₀ = l) (hsrc : ∀ i x z', z.StaysIn z' → ok i x z' → Src z' (led x))
    (turn : ∀ i x z₁ z₂ v, i < n → z.StaysIn z₁ → z₁.StaysIn z₂ → ok i x z₁ → V i v z₂ →
      T prog w A (assign target env v) (fun _ => T prog w A (execs body env) (TurnQ (B (i + 1)) led (ok (i + 1)) Q)) z₂ (B (i + 1) ++ led x))
    (done : ∀ x z', z.StaysIn z' → ok n x z' → Q .next z' (led x)) : TC prog w A (.forLoop target (.ref it) body [] env) (okR Q) z l := fun s S => by
  subst hl
  refine codeAny_forLoop_any (fun k s' => ∃ i x z', k = n + 1 - i ∧ i ≤ n ∧ Sm s z s' z' ∧ St w z' (B i ++ led x) s'.heap ∧ ok i x z') ?_ (n + 1) ⟨0, x₀, z, rfl, Nat.zero_le _, Sm.refl, S, h0⟩
  rintro k s' ⟨i, x, z', rfl, hi, im, S', hok⟩
  by_cases hlt : i < n
  · refine noE_noted (T.nest (W.item i z' (led x) (fun v z₂ l₂ => z'.StaysIn z₂ ∧ l₂ = B (i + 1) ++ led x ∧ V i v z₂) hlt (hsrc i x z' im.2 hok) fun v z₂ i₂ hv => ⟨i₂, rfl, hv⟩) S' fun r s₁ z₁ l₁ i₁ S₁ p => ?_)
    obtain ⟨v, rfl, p⟩ := p
    refine noE_noted (T.nest p S₁ fun _ s₂ z₂ l₂ i₂ S₂ q => ?_)
    obtain ⟨j, rfl, hv⟩ := q
    refine noE_noted (T.nest (turn i x z' z₂ v hlt im.2 j hok hv) S₂ fun _ s₃ z₃ l₃ i₃ S₃ p₃ => noE_noted (T.nest p₃ S₃ fun f s₄ z₄ l₄ i₄ S₄ p₄ => ?_))
    have i' := (((im.trans i₁).trans i₂).trans i₃).trans i₄
    cases f with
    | next => obtain ⟨x', hs, k⟩ := p₄; exact ⟨n + 1 - (i + 1), by omega, i + 1, x', z₄, rfl, hlt, i', S₄.sub hs, k⟩
    | cont => obtain ⟨x', hs, k⟩ := p₄; exact ⟨n + 1 - (i + 1), by omega, i + 1, x', z₄, rfl, hlt, i', S₄.sub hs, k⟩
    | brk => obtain ⟨l', hs, k⟩ := p₄; exact ⟨z₄, l', i', S₄.sub hs, k⟩
    | ret v => obtain ⟨l', hs, k⟩ := p₄; exact ⟨z₄, l', i', S₄.sub hs, k⟩
  · obtain rfl : i = n := Nat.le_antisymm hi (Nat.not_lt.mp hlt)
    refine noE_noted (T.nest (W.done z' (led x) (fun z₂ l₂ => z₂ = z' ∧ l₂ = led x) (hsrc i x z' im.2 hok) ⟨rfl, rfl⟩) S' fun r s₁ z₁ l₁ i₁ S₁ p => ?_)
    obtain ⟨rfl, rfl, rfl⟩ := p
    exact wpAny_execs_nil ⟨z₁, _, im.trans i₁, S₁, done x z₁ im.2 hok⟩

/- while: a measure that each turn lowers -/
theorem t_While {σ : Type} {test : Expr} {body : List Stmt} {pos : Pos} {Q : Post Flow} (led : σ → Led) (ok : σ → Heap → Prop) (ms : σ → Nat) (x₀ : σ) (h0 : ok x₀ z) (hl : led x₀ = l)
    (turn : ∀ x z₁, z.StaysIn z₁ → ok x z₁ → T prog w A (isTrue test env (eval test env)) (Br (T prog w A (execs body env) (TurnQ [] led (fun x' z' => ms x' < ms x ∧ ok x' z') Q)) (fun z' l' => ∃ l'', l''.Sublist l' ∧ Q .next z' l'')) z₁ (led x)) :
    T prog w A (exec (.While test body [] pos) env) Q z l := fun s S => by
  subst hl
  refine wpAny_While (codeAny_whileLoop (fun k s' => ∃ x z', k = ms x ∧ Sm s z s' z' ∧ St w z' (led x) s'.heap ∧ ok x z') ?_ (ms x₀) ⟨x₀, z, rfl, Sm.refl, S, h0⟩)
  rintro k s' ⟨x, z', rfl, im, S', hok⟩
  refine noE_noted (T.nest (turn x z' im.2 hok) S' fun b s₁ z₁ l₁ i₁ S₁ p => ?_)
  cases b with
  | true =>
    simp only [if_true]
    refine noE_noted (T.nest (p.1 rfl) S₁ fun f s₄ z₄ l₄ i₄ S₄ p₄ => ?_)
    have i' := (im.trans i₁).trans i₄
    cases f with
    | next => obtain ⟨x', hs, k1, k2⟩ := p₄; exact ⟨ms x', k1, x', z₄, rfl, i', S₄.sub hs, k2⟩
    | cont => obtain ⟨x', hs, k1, k2⟩ := p₄; exact ⟨ms x', k1, x', z₄, rfl, i', S₄.sub hs, k2⟩
    | brk => obtain ⟨l', hs, k⟩ := p₄; exact ⟨z₄, l', i', S₄.sub hs, k⟩
    | ret v => obtain ⟨l', hs, k⟩ := p₄; exact ⟨z₄, l', i', S₄.sub hs, k⟩
  | false =>
    simp only [Bool.false_eq_true, if_false]
    obtain ⟨l', hs, k⟩ := p.2 rfl
    exact wpAny_execs_nil ⟨z₁, l', im.trans i₁, S₁.sub hs, k⟩

/- comprehensions -/
def compTst (ifs : List Expr) (env : Env) : Sem Bool := forIn ifs true fun c r => if r = true then do let ok ← isTrue c env (eval c env); pure (ForInStep.yield ok) else pure (ForInStep.yield r)
theorem t_tst0 {Q : Post Bool} (h : Q true z l) : T prog w A (compTst [] env) Q z l := fun s S => wpAny_tests_nil (Lft.here S h)
theorem t_tst1 {c : Expr} {Q : Post Bool} (h : T prog w A (isTrue c env (eval c env)) Q z l) : T prog w A (compTst [c] env) Q z l := fun s S => wpAny_tests_one (h s S)

/-- what a turn of a comprehension must leave -/
def CompQ {σ : Type} (B' : Led) (C D : Addr) (nms : List Str) (led : σ → Led) (ys : List Value) (ok' : σ → Heap → Prop) (z : Heap) (l : Led) : Prop :=
  ∃ x' ml, (B' ++ (C, LocP ml) :: (D, LstP ys) :: led x').Sublist l ∧ ml.map (·.1) = nms ∧ ok' x' z
def nmsOf (nms : List Str) (f : Str → Option Value) : Nms := nms.map fun n => (n, f n)
theorem locP_of {ml : Nms} {nms : List Str} {o : Obj} (h : LocP ml o) (e : ml.map (·.1) = nms) : ∃ f, LocP (nmsOf nms f) o := by
  obtain ⟨m, n, k, nd⟩ := h
  refine ⟨m, m, n, fun p hp => ?_, ?_⟩
  · obtain ⟨x, hx, rfl⟩ := List.mem_map.mp hp
    rfl
  · unfold nmsOf
    rw [List.map_map]
    show (nms.map fun n => n).Nodup
    rw [List.map_id', ← e]; exact nd
theorem St.imp {h : Heap} {a : Addr} {P P' : Obj → Prop} {pre post : Led} (S : St w z (pre ++ (a, P) :: post) h) (k : ∀ o, P o → P' o) : St w z (pre ++ (a, P') :: post) h := by
  refine ⟨S.bs, S.fz, fun p hp => ?_, fun p hp => ?_, by have := S.nd; simpa only [List.map_append, List.map_cons] using this⟩
  · rcases List.mem_append.mp hp with hp | hp
    · exact S.own p (List.mem_append_left _ hp)
    · rcases List.mem_cons.mp hp with rfl | hp
      · obtain ⟨o, ho, q⟩ := S.own (a, P) (List.mem_append_right _ List.mem_cons_self)
        exact ⟨o, ho, k o q⟩
      · exact S.own p (List.mem_append_right _ (List.mem_cons_of_mem _ hp))
  · rcases List.mem_append.mp hp with hp | hp
    · exact S.off p (List.mem_append_left _ hp)
    · rcases List.mem_cons.mp hp with rfl | hp
      · exact S.off (a, P) (List.mem_append_right _ List.mem_cons_self)
      · exact S.off p (List.mem_append_right _ (List.mem_cons_of_mem _ hp))

theorem tc_comp {σ : Type} {elt target iter : Expr} {ifs : List Expr} {scope : Scope} {pos : Pos} {cenv : Env} {C D it : Addr} {n : Nat} {B : Nat → Led} {Src : Heap → Led → Prop} {V : Nat → Value → Heap → Prop} {nms : List Str} {R : Post Result}
    (led : σ → Led) (ok : Nat → σ → List Value → Heap → Prop) (x₀ : σ) (f₀ : Str → Option Value) (W : Steps prog w A target it n B Src V) (hn : n ≤ 1000000) (h0 : ok 0 x₀ [] z)
    (hsrc : ∀ i x ys z' f, z.StaysIn z' → ok i x ys z' → Src z' ((C, LocP (nmsOf nms f)) :: (D, LstP ys) :: led x))
    (turn : ∀ i x ys z₁ z₂ v f, i < n → z.StaysIn z₁ → z₁.StaysIn z₂ → ok i x ys z₁ → V i v z₂ →
      T prog w A (assign target cenv v) (fun _ => T prog w A (compTst ifs cenv) (fun b z' l' =>
        (b = true → T prog w A (eval elt cenv) (fun y => CompQ (B (i + 1)) C D nms led ys (fun x' z'' => ok (i + 1) x' (ys ++ [y]) z'')) z' l') ∧
        (b = false → CompQ (B (i + 1)) C D nms led ys (fun x' z'' => ok (i + 1) x' ys z'') z' l')) ) z₂ (B (i + 1) ++ (C, LocP (nmsOf nms f)) :: (D, LstP ys) :: led x))
    (hlen : ∀ i x ys z', ok i x ys z' → ys.length ≤ i)
    (done : ∀ x ys z' f, z.StaysIn z' → ok n x ys z' → R (.ok .next) z' ((C, LocP (nmsOf nms f)) :: (D, LstP ys) :: led x)) :
    TC prog w A (.compLoop (.ListComp elt [⟨target, iter, ifs, 0⟩] scope pos) 0 (.ref it) (.ref D) cenv) R z (B 0 ++ (C, LocP (nmsOf nms f₀)) :: (D, LstP []) :: led x₀) := fun s S => by
  refine codeAny_loop rfl (fun k s' => ∃ i x ys z' f, k = n + 1 - i ∧ i ≤ n ∧ Sm s z s' z' ∧ St w z' (B i ++ (C, LocP (nmsOf nms f)) :: (D, LstP ys) :: led x) s'.heap ∧ ok i x ys z') ?_ (n + 1) ⟨0, x₀, [], z, f₀, rfl, Nat.zero_le _, Sm.refl, S, h0⟩
  rintro k s' ⟨i, x, ys, z', f, rfl, hi, im, S', hok⟩
  show wpAny _ A ((compTurn (.ListComp elt [⟨target, iter, ifs, 0⟩] scope pos) 0 (.ref it) (.ref D) cenv).onRaise (fun x => do noteFrame x cenv; theTreesLotGoes x)) _ _ s'
  refine wpAny_noted ?_
  rw [compTurn_list]
  refine wpAny_bind (wpAny_standAt (wpAny_bind ?_))
  by_cases hlt : i < n
  · refine noE_noted (T.nest (W.item i z' _ (fun v z₂ l₂ => z'.StaysIn z₂ ∧ l₂ = B (i + 1) ++ (C, LocP (nmsOf nms f)) :: (D, LstP ys) :: led x ∧ V i v z₂) hlt (hsrc i x ys z' f im.2 hok) fun v z₂ i₂ hv => ⟨i₂, rfl, hv⟩) S' fun r s₁ z₁ l₁ i₁ S₁ p => ?_)
    obtain ⟨v, rfl, p⟩ := p
    refine wpAny_bind (noE_noted (T.nest p S₁ fun _ s₂ z₂ l₂ i₂ S₂ q => ?_))
    obtain ⟨j, rfl, hv⟩ := q
    refine wpAny_bind (noE_noted (T.nest (turn i x ys z' z₂ v f hlt im.2 j hok hv) S₂ fun _ s₃ z₃ l₃ i₃ S₃ p₃ => ?_))
    refine wpAny_bind (noE_noted (T.nest p₃ S₃ fun b s₄ z₄ l₄ i₄ S₄ p₄ => ?_))
    have i' := (((im.trans i₁).trans i₂).trans i₃).trans i₄
    cases b with
    | false =>
      obtain ⟨x', ml, hs, hml, k⟩ := p₄.2 rfl
      have S5 := S₄.sub hs
      obtain ⟨o, ho, L⟩ := S5.get (a := C) (P := LocP ml) (List.mem_append_right _ List.mem_cons_self)
      -- the names' object, whatever it says of them
      obtain ⟨g, hg⟩ := locP_of L hml
      have S6 : St w z₄ (B (i + 1) ++ (C, LocP (nmsOf nms g)) :: (D, LstP ys) :: led x') s₄.heap := by
        have U : ∀ pre : Led, St w z₄ (pre ++ (C, LocP ml) :: (D, LstP ys) :: led x') s₄.heap → St w z₄ (pre ++ (C, LocP (nmsOf nms g)) :: (D, LstP ys) :: led x') s₄.heap := fun pre S => by
          refine ⟨S.bs, S.fz, fun p hp => ?_, fun p hp => ?_, by have := S.nd; simpa only [List.map_append, List.map_cons] using this⟩
          · rcases List.mem_append.mp hp with hp | hp
            · exact S.own p (List.mem_append_left _ hp)
            · rcases List.mem_cons.mp hp with rfl | hp
              · exact ⟨o, ho, hg⟩
              · exact S.own p (List.mem_append_right _ (List.mem_cons_of_mem _ hp))
          · rcases List.mem_append.mp hp with hp | hp
            · exact S.off p (List.mem_append_left _ hp)
            · rcases List.mem_cons.mp hp with rfl | hp
              · exact S.off (C, LocP ml) (List.mem_append_right _ List.mem_cons_self)
              · exact S.off p (List.mem_append_right _ (List.mem_cons_of_mem _ hp))
        exact U _ S5
      exact wpAny_pure ⟨rfl, n + 1 - (i + 1), by omega, i + 1, x', ys, z₄, g, rfl, hlt, i', S6, k⟩
    | true =>
      refine wpAny_bind (wpAny_bind (noE_noted (T.nest (p₄.1 rfl) S₄ fun y s₅ z₅ l₅ i₅ S₅ p₅ => ?_)))
      obtain ⟨x', ml, hs, hml, k⟩ := p₅
      have S6 := S₅.sub hs
      obtain ⟨o, ho, L⟩ := S6.get (a := C) (P := LocP ml) (List.mem_append_right _ List.mem_cons_self)
      obtain ⟨g, hg⟩ := locP_of L hml
      have hys := hlen i x ys z' hok
      have ap : T prog w A (call (.builtin "list.append") [.ref D, y]) (fun _ z₆ l₆ => z₆ = z₅ ∧ l₆ = B (i + 1) ++ (C, LocP ml) :: (D, LstP (ys ++ [y])) :: led x') z₅ (B (i + 1) ++ (C, LocP ml) :: (D, LstP ys) :: led x') := by
        have U : ∀ pre : Led, Upd1 D (LstP ys) (pre ++ (C, LocP ml) :: (D, LstP ys) :: led x') (fun P => pre ++ (C, LocP ml) :: (D, P) :: led x') := fun pre => by
          induction pre with
          | nil => exact .tail .head
          | cons p r ih => exact .tail ih
        exact t_append (U _) (by omega) ⟨rfl, rfl⟩
      refine wpAny_bind (noE_noted (T.nest ap S6 fun _ s₆ z₆ l₆ i₆ S₆ p₆ => ?_))
      obtain ⟨rfl, rfl⟩ := p₆
      obtain ⟨o', ho', L'⟩ := S₆.get (a := C) (P := LocP ml) (List.mem_append_right _ List.mem_cons_self)
      obtain ⟨g', hg'⟩ := locP_of L' hml
      have S7 : St w z₆ (B (i + 1) ++ (C, LocP (nmsOf nms g')) :: (D, LstP (ys ++ [y])) :: led x') s₆.heap := by
        have U : ∀ pre : Led, St w z₆ (pre ++ (C, LocP ml) :: (D, LstP (ys ++ [y])) :: led x') s₆.heap → St w z₆ (pre ++ (C, LocP (nmsOf nms g')) :: (D, LstP (ys ++ [y])) :: led x') s₆.heap := fun pre S => by
          refine ⟨S.bs, S.fz, fun p hp => ?_, fun p hp => ?_, by have := S.nd; simpa only [List.map_append, List.map_cons] using this⟩
          · rcases List.mem_append.mp hp with hp | hp
            · exact S.own p (List.mem_append_left _ hp)
            · rcases List.mem_cons.mp hp with rfl | hp
              · exact ⟨o', ho', hg'⟩
              · exact S.own p (List.mem_append_right _ (List.mem_cons_of_mem _ hp))
          · rcases List.mem_append.mp hp with hp | hp
            · exact S.off p (List.mem_append_left _ hp)
            · rcases List.mem_cons.mp hp with rfl | hp
              · exact S.off (C, LocP ml) (List.mem_append_right _ List.mem_cons_self)
              · exact S.off p (List.mem_append_right _ (List.mem_cons_of_mem _ hp))
        exact U _ S₆
      exact wpAny_pure (wpAny_pure ⟨rfl, n + 1 - (i + 1), by omega, i + 1, x', ys ++ [y], z₆, g', rfl, hlt, (i'.trans i₅).trans i₆, S7, k⟩)
  · obtain rfl : i = n := Nat.le_antisymm hi (Nat.not_lt.mp hlt)
    refine noE_noted (T.nest (W.done z' _ (fun z₂ l₂ => z₂ = z' ∧ l₂ = (C, LocP (nmsOf nms f)) :: (D, LstP ys) :: led x) (hsrc i x ys z' f im.2 hok) ⟨rfl, rfl⟩) S' fun r s₁ z₁ l₁ i₁ S₁ p => ?_)
    obtain ⟨rfl, rfl, rfl⟩ := p
    exact wpAny_pure ⟨z₁, _, im.trans i₁, S₁, done x ys z₁ f im.2 hok⟩
end
end Mine
end
section
open PySem PySem.W PySem.Calls PyProof.Rows
set_option maxRecDepth 100000
namespace Mine
section
variable {α β : Type} {prog : Program} {w : World} {A : Around} {z : Heap} {l : Led} {s : Shared} {env : Env}

/-- a comprehension's loop over what stands behind the iterator -/
def CompOn {σ : Type} (prog : Program) (w : World) (A : Around) (env : Env) (elt target : Expr) (ifs : List Expr) (scope : Scope) (cl : List (Str × Addr)) (nms : List Str) (Fin : List Value → σ → (σ → Led) → Heap → Prop) (itv : Value) (z : Heap) (l : Led) : Prop :=
  ∃ (it : Addr) (n : Nat) (B : Nat → Led) (Src : Heap → Led → Prop) (V : Nat → Value → Heap → Prop) (led : σ → Led) (ok : Nat → σ → List Value → Heap → Prop) (x₀ : σ),
    itv = .ref it ∧ Steps prog w A target it n B Src V ∧ n ≤ 1000000 ∧ ok 0 x₀ [] z ∧ l = B 0 ++ led x₀ ∧
    (∀ i x ys z' f C D, z.StaysIn z' → ok i x ys z' → Src z' ((C, LocP (nmsOf nms f)) :: (D, LstP ys) :: led x)) ∧
    (∀ C D i x ys z₁ z₂ v f, i < n → z.StaysIn z₁ → z₁.StaysIn z₂ → ok i x ys z₁ → V i v z₂ →
      T prog w A (assign target (compEnvC scope cl C env) v) (fun _ => T prog w A (compTst ifs (compEnvC scope cl C env)) (fun b z' l' =>
        (b = true → T prog w A (eval elt (compEnvC scope cl C env)) (fun y => CompQ (B (i + 1)) C D nms led ys (fun x' z'' => ok (i + 1) x' (ys ++ [y]) z'')) z' l') ∧
        (b = false → CompQ (B (i + 1)) C D nms led ys (fun x' z'' => ok (i + 1) x' ys z'') z' l')) ) z₂ (B (i + 1) ++ (C, LocP (nmsOf nms f)) :: (D, LstP ys) :: led x)) ∧
    (∀ i x ys z', ok i x ys z' → ys.length ≤ i) ∧
    (∀ x ys z', z.StaysIn z' → ok n x ys z' → Fin ys x led z')
theorem CompOn.intro {σ : Type} {elt target : Expr} {ifs : List Expr} {scope : Scope} {cl : List (Str × Addr)} {nms : List Str} {Fin : List Value → σ → (σ → Led) → Heap → Prop} {it : Addr} {n : Nat} {B : Nat → Led} {Src : Heap → Led → Prop} {V : Nat → Value → Heap → Prop}
    (led : σ → Led) (ok : Nat → σ → List Value → Heap → Prop) (x₀ : σ) (W : Steps prog w A target it n B Src V) (hn : n ≤ 1000000) (h0 : ok 0 x₀ [] z) (hl : l = B 0 ++ led x₀)
    (hsrc : ∀ i x ys z' f C D, z.StaysIn z' → ok i x ys z' → Src z' ((C, LocP (nmsOf nms f)) :: (D, LstP ys) :: led x))
    (turn : ∀ C D i x ys z₁ z₂ v f, i < n → z.StaysIn z₁ → z₁.StaysIn z₂ → ok i x ys z₁ → V i v z₂ →
      T prog w A (assign target (compEnvC scope cl C env) v) (fun _ => T prog w A (compTst ifs (compEnvC scope cl C env)) (fun b z' l' =>
        (b = true → T prog w A (eval elt (compEnvC scope cl C env)) (fun y => CompQ (B (i + 1)) C D nms led ys (fun x' z'' => ok (i + 1) x' (ys ++ [y]) z'')) z' l') ∧
        (b = false → CompQ (B (i + 1)) C D nms led ys (fun x' z'' => ok (i + 1) x' ys z'') z' l')) ) z₂ (B (i + 1) ++ (C, LocP (nmsOf nms f)) :: (D, LstP ys) :: led x))
    (hlen : ∀ i x ys z', ok i x ys z' → ys.length ≤ i)
    (done : ∀ x ys z', z.StaysIn z' → ok n x ys z' → Fin ys x led z') : CompOn prog w A env elt target ifs scope cl nms Fin (.ref it) z l :=
  ⟨it, n, B, Src, V, led, ok, x₀, rfl, W, hn, h0, hl, hsrc, turn, hlen, done⟩

theorem comp_core {σ : Type} {elt target iter : Expr} {ifs : List Expr} {scope : Scope} {pos : Pos} {cl : List (Str × Addr)} {nms : List Str} {Fin : List Value → σ → (σ → Led) → Heap → Prop} {RR : Value → Addr → Result → Shared → Prop}
    (hcell : ∀ y ∈ scope.names, y.2 ≠ .cell) (hkind : scope.kind = .function) (hnm : nms.Nodup) {itv : Value} (h : CompOn prog w A env elt target ifs scope cl nms Fin itv z l) (S : St w z l s.heap)
    (hRR : ∀ D C s' z' f x ys led, Sm s z s' z' → St w z' ((C, LocP (nmsOf nms f)) :: (D, LstP ys) :: led x) s'.heap → Fin ys x led z' → RR (.ref D) C (.ok .next) s') :
    wpAny (model prog w) A (newList []) (fun acc s₃ => wpAny (model prog w) A (newFunctionEnv scope env.globals cl [] env.qual none .none (some env)) (fun cenv s₄ =>
      codeAny (model prog w) A (.compStart (.ListComp elt [⟨target, iter, ifs, 0⟩] scope pos) 0 itv acc { cenv with scope := relabel scope env }) (RR acc cenv.locals) s₄) NoE s₃) NoE s := by
  obtain ⟨it, n, B, Src, V, led, ok, x₀, rfl, W, hn, h0, rfl, hsrc, turn, hlen, done⟩ := h
  refine wpAny_newObj_type (wpAny_newFunctionEnv hcell (by intro y hy; simp at hy) (fun h₁ hns₁ hsb₁ => ?_) hkind)
  dsimp only at hns₁ hsb₁ ⊢
  have S1 : St w z ((s.heap.objs.size, LstP []) :: (B 0 ++ led x₀)) (s.heap.push { cls := .type "list", dict := none, data := .seq ([] : List Value).toArray }) := S.new (P := LstP []) rfl ⟨0, rfl⟩
  generalize hH2 : s.heap.push { cls := .type "list", dict := none, data := .seq ([] : List Value).toArray } = H2 at hns₁ hsb₁ S1 ⊢
  obtain ⟨oC, hoC, nC⟩ := LCg.ns_obj hns₁
  have old : ∀ b o, H2.get? b = some o → h₁.get? b = some o := fun b o e => hsb₁.extBut b o (Nat.ne_of_lt (Heap.lt_size e)) (Heap.get?_push_of_some _ e)
  have S2 : St w z ((H2.objs.size, LocP (nmsOf nms fun _ => none)) :: (s.heap.objs.size, LstP []) :: (B 0 ++ led x₀)) h₁ := by
    have S1' := S1.grow old
    have fresh : H2.get? H2.objs.size = none := Heap.get?_none_of_le (Nat.le_refl _)
    refine ⟨S1.bs, S1'.fz, fun p hp => ?_, fun p hp => ?_, ?_⟩
    · rcases List.mem_cons.mp hp with rfl | hp
      · refine ⟨oC, hoC, _, nC, fun p hp => ?_, ?_⟩
        · obtain ⟨x, hx, rfl⟩ := List.mem_map.mp hp
          rfl
        · unfold nmsOf
          rw [List.map_map]
          show (nms.map fun n => n).Nodup
          rw [List.map_id']; exact hnm
      · exact S1'.own p hp
    · rcases List.mem_cons.mp hp with rfl | hp
      · cases q : z.get? H2.objs.size with
        | none => rfl
        | some o => have := S1.fz _ _ q; rw [fresh] at this; cases this
      · exact S1.off p hp
    · rw [List.map_cons, List.nodup_cons]
      refine ⟨fun hm => ?_, S1.nd⟩
      obtain ⟨p, hp, q⟩ := List.mem_map.mp hm
      obtain ⟨o, ho, _⟩ := S1.own p hp
      rw [q, fresh] at ho; cases ho
  have S3 : St w z (B 0 ++ (H2.objs.size, LocP (nmsOf nms fun _ => none)) :: (s.heap.objs.size, LstP []) :: led x₀) h₁ :=
    S2.perm (((List.perm_middle).symm.cons _).trans (List.perm_middle).symm)
  have loop : ∀ s₃ : Shared, s₃ = { s with heap := h₁, toks := s.toks + ([] : List (Str × Value)).length } →
      codeAny (model prog w) A (.compLoop (.ListComp elt [⟨target, iter, ifs, 0⟩] scope pos) 0 (.ref it) (.ref s.heap.objs.size) (compEnvC scope cl H2.objs.size env))
        (RR (.ref s.heap.objs.size) H2.objs.size) s₃ := by
    rintro s₃ rfl
    refine codeAny_mono (tc_comp (R := fun r z' l' => r = .ok .next ∧ ∃ f x ys, l' = (H2.objs.size, LocP (nmsOf nms f)) :: (s.heap.objs.size, LstP ys) :: led x ∧ Fin ys x led z') led ok x₀ _ W hn h0 (fun i x ys z' f => hsrc i x ys z' f _ _)
      (turn H2.objs.size s.heap.objs.size) hlen (fun x ys z' f i k => ⟨rfl, f, x, ys, rfl, done x ys z' i k⟩) _ S3) fun r s' ⟨z', l', i, S', q⟩ => ?_
    obtain ⟨rfl, f, x, ys, rfl, k⟩ := q
    exact hRR _ _ _ _ f x ys led (Sm.trans (Sm.mk' (s := s) (z := z)) i) S' k
  refine codeAny_compStart_list (loop _ rfl) (noE_noted (wpAny_mono (Q := fun itv s' => itv = .ref it ∧ Sm { s with heap := h₁, toks := s.toks + ([] : List (Str × Value)).length } z s' z ∧ St w z (B 0 ++ (H2.objs.size, LocP (nmsOf nms fun _ => none)) :: (s.heap.objs.size, LstP []) :: led x₀) s'.heap) ?_ (fun itv s' q => ?_) fun _ _ f => f))
  · refine T.nest (W.self z _ (fun v z' l' => v = .ref it ∧ z' = z ∧ l' = B 0 ++ (H2.objs.size, LocP (nmsOf nms fun _ => none)) :: (s.heap.objs.size, LstP []) :: led x₀) (hsrc 0 x₀ [] z _ _ _ (fun _ _ e => e) h0) ⟨rfl, rfl, rfl⟩) S3 fun v s₁ z₁ l₁ i₁ S₁ q => ?_
    obtain ⟨rfl, rfl, rfl⟩ := q
    exact ⟨rfl, i₁, S₁⟩
  · obtain ⟨rfl, i, S'⟩ := q
    refine codeAny_mono (tc_comp (R := fun r z' l' => r = .ok .next ∧ ∃ f x ys, l' = (H2.objs.size, LocP (nmsOf nms f)) :: (s.heap.objs.size, LstP ys) :: led x ∧ Fin ys x led z') led ok x₀ _ W hn h0 (fun i x ys z' f => hsrc i x ys z' f _ _)
      (turn H2.objs.size s.heap.objs.size) hlen (fun x ys z' f i k => ⟨rfl, f, x, ys, rfl, done x ys z' i k⟩) _ S') fun r s'' ⟨z', l', i', S', q⟩ => ?_
    obtain ⟨rfl, f, x, ys, rfl, k⟩ := q
    exact hRR _ _ _ _ f x ys led ((Sm.trans (Sm.mk' (s := s) (z := z)) i).trans i') S' k

theorem t_Comp {σ : Type} {elt target iter : Expr} {ifs : List Expr} {scope : Scope} {pos : Pos} {cl : List (Str × Addr)} {Q : Post Value} (nms : List Str)
    (hclos : closureFor scope env = pure cl) (hcell : ∀ y ∈ scope.names, y.2 ≠ .cell) (hkind : scope.kind = .function) (hnames : ∀ y ∈ scope.names, y.2 = .local → scope.names.lookup y.1 = some .local) (hnm : nms.Nodup)
    (h : T prog w A (eval iter env) (fun xv => T prog w A (pyIter xv) (CompOn (σ := σ) prog w A env elt target ifs scope cl nms (fun ys x led z' => ∀ D, Q (.ref D) z' ((D, LstP ys) :: led x)))) z l)
    (hs : ∀ x, foldedSetIterable iter env x = pure x := by intro _; rfl) : T prog w A (eval (.ListComp elt [⟨target, iter, ifs, 0⟩] scope pos) env) Q z l := fun s S => by
  rw [eval_ListComp]
  refine wpAny_comprehension_free (use := none) rfl hs hclos hkind hnames (h.nest S fun xv s₁ z₁ l₁ i₁ S₁ p => p.nest S₁ fun it s₂ z₂ l₂ i₂ S₂ q => ?_)
  refine comp_core (RR := fun acc C => compPost (model prog w) A NoE none (Lft w s z Q) acc C) hcell hkind hnm q S₂ fun D C s' z' f x ys led i S' k => ?_
  obtain ⟨o, ho, L⟩ := S'.get List.mem_cons_self
  obtain ⟨m, n, _⟩ := L.ns ho
  exact ⟨m, n, fun h' hs' => ⟨z', _, ((i₁.trans i₂).trans i).trans ⟨⟨h', s'.toks, rfl⟩, fun _ _ e => e⟩, S'.tail fun b o hb e => (hs'.2 b hb).trans e, k D⟩⟩
theorem t_CompA {σ : Type} {elt target iter : Expr} {ifs : List Expr} {scope : Scope} {pos spos py : Pos} {y : Str} {cl : List (Str × Addr)} {Q : Post Flow} (nms : List Str)
    (hsw : swapsWith (.ListComp elt [⟨target, iter, ifs, 0⟩] scope pos) (some (.Name y py)) spos.line env = pure true)
    (hclos : closureFor scope env = pure cl) (hcell : ∀ y ∈ scope.names, y.2 ≠ .cell) (hkind : scope.kind = .function) (hnames : ∀ y ∈ scope.names, y.2 = .local → scope.names.lookup y.1 = some .local) (hnm : nms.Nodup)
    (hy : env.kindOf y = some .local) (hp : (env.scope.kind == .class || (env.scope.kind == .module && env.locals != env.globals)) = false)
    (h : T prog w A (eval iter env) (fun xv => T prog w A (pyIter xv) (CompOn (σ := σ) prog w A env elt target ifs scope cl nms (fun ys x led z' => ∀ D, ∃ ml ml' g, Upd1 env.locals (LocP ml) (led x) g ∧ PutA y (.ref D) ml ml' ∧ Q .next z' ((D, LstP ys) :: g (LocP ml'))))) z l)
    (hs : ∀ x, foldedSetIterable iter env x = pure x := by intro _; rfl) : T prog w A (exec (.Assign [.Name y py] (.ListComp elt [⟨target, iter, ifs, 0⟩] scope pos) spos) env) Q z l := fun s S => by
  rw [exec_Assign_Name_used _ _ _ _ hsw]
  refine wpAny_bind (wpAny_standAt (wpAny_bind ?_))
  show wpAny _ A (do let _ ← comprehension (.ListComp elt [⟨target, iter, ifs, 0⟩] scope pos) scope env _ (newList []) false (eval iter env) (some (assign (.Name y py) env))) _ _ s
  refine wpAny_bind (wpAny_mono (wpAny_comprehension_free (use := some (assign (.Name y py) env)) (Q := fun _ s' => Lft w s z Q .next s') rfl hs hclos hkind hnames
    (h.nest S fun xv s₁ z₁ l₁ i₁ S₁ p => p.nest S₁ fun it s₂ z₂ l₂ i₂ S₂ q => ?_)) (fun _ s' hq => wpAny_pure (wpAny_pure hq)) fun _ _ e => e)
  refine comp_core (RR := fun acc C => compPost (model prog w) A NoE (some (assign (.Name y py) env)) (fun _ s' => Lft w s z Q .next s') acc C) hcell hkind hnm q S₂ fun D C s' z' f x ys led i S' k => ?_
  obtain ⟨ml, ml', g, U, P, q⟩ := k D
  show wpAny _ A (assign (.Name y py) env (.ref D)) _ _ _
  have st : T prog w A (assign (.Name y py) env (.ref D)) (fun _ z₂ l₂ => z₂ = z' ∧ l₂ = (C, LocP (nmsOf nms f)) :: (D, LstP ys) :: g (LocP ml')) z' ((C, LocP (nmsOf nms f)) :: (D, LstP ys) :: led x) :=
    t_assignName (t_store (.tail (.tail U)) P ⟨rfl, rfl⟩ hy hp)
  refine T.nest st S' fun _ s₄ z₄ l₄ i₄ S₄ p₄ => ?_
  obtain ⟨rfl, rfl⟩ := p₄
  obtain ⟨o, ho, L⟩ := S₄.get List.mem_cons_self
  obtain ⟨m, n, _⟩ := L.ns ho
  exact ⟨m, n, fun h' hs' => ⟨z₄, _, (((i₁.trans i₂).trans i).trans i₄).trans ⟨⟨h', s₄.toks, rfl⟩, fun _ _ e => e⟩, S₄.tail fun b o hb e => (hs'.2 b hb).trans e, q⟩⟩
end
end Mine
end
section
open PySem PySem.W PySem.Calls PyProof.Rows
set_option maxRecDepth 100000
namespace Mine
section
variable {α β : Type} {prog : Program} {w : World} {A : Around} {z : Heap} {l : Led} {s : Shared} {env : Env}

/-- room for k more calls -/
structure Rm (k : Nat) (A : Around) : Prop where
  hh : A.handled = none
  d : A.depth + k < 1000
  u : A.units + 3 * k + 100 < 9900
theorem Rm.deeper {k : Nat} {env : Env} (R : Rm (k + 1) A) : Rm k (A.deeper env) := ⟨R.hh, by have := R.d; show A.depth + 1 + k < 1000; omega, by have := R.u; show A.units + 3 + 3 * k + 100 < 9900; omega⟩
theorem Rm.room {k : Nat} (R : Rm k A) : A.depth < recursionLimit := by have := R.d; show A.depth < 1000; omega
theorem Rm.unit {k : Nat} (R : Rm k A) : A.units + 64 < cLine := by have := R.u; show A.units + 64 < 9900; omega
theorem Rm.le {k j : Nat} (R : Rm k A) (h : j ≤ k) : Rm j A := ⟨R.hh, by have := R.d; omega, by have := R.u; omega⟩

theorem t_seq {rest : List Stmt} {Q : Post Flow} (h : T prog w A (execs rest env) Q z l) : SeqQ prog w A rest env Q .next z l := h
theorem t_seqR {rest : List Stmt} {Q : Post Flow} {v : Value} (h : Q (.ret v) z l) : SeqQ prog w A rest env Q (.ret v) z l := h
theorem br_p {p : Prop} [Decidable p] {X Y : Heap → Led → Prop} (h1 : p → X z l) (h2 : ¬p → Y z l) : Br X Y (decide p) z l := ⟨fun e => h1 (of_decide_eq_true e), fun e => h2 (of_decide_eq_false e)⟩
theorem br_i {a b : Int} {X Y : Heap → Led → Prop} (h1 : a = b → X z l) (h2 : a ≠ b → Y z l) : Br X Y (a == b) z l := ⟨fun e => h1 (beq_iff_eq.mp e), fun e => h2 fun q => by rw [q] at e; simp at e⟩
theorem br_s {a b : Str} {X Y : Heap → Led → Prop} (h1 : a = b → X z l) (h2 : a ≠ b → Y z l) : Br X Y (a == b) z l := ⟨fun e => h1 (beq_iff_eq.mp e), fun e => h2 fun q => by rw [q] at e; simp at e⟩
theorem br_b {b : Bool} {X Y : Heap → Led → Prop} (h1 : b = true → X z l) (h2 : b = false → Y z l) : Br X Y b z l := ⟨h1, h2⟩
theorem br_n {b : Bool} {X Y : Heap → Led → Prop} (h1 : b = false → X z l) (h2 : b = true → Y z l) : Br X Y (!b) z l := ⟨fun e => h1 (by simpa using e), fun e => h2 (by simpa using e)⟩
theorem br_t {X Y : Heap → Led → Prop} (h1 : X z l) : Br X Y true z l := ⟨fun _ => h1, fun e => (by cases e)⟩
theorem br_f {X Y : Heap → Led → Prop} (h1 : Y z l) : Br X Y false z l := ⟨fun e => (by cases e), fun _ => h1⟩

/- parts of a ledger -/
inductive Pick (p : Addr × (Obj → Prop)) : Led → Led → Prop
  | head {r : Led} : Pick p (p :: r) r
  | tail {q : Addr × (Obj → Prop)} {r r' : Led} : Pick p r r' → Pick p (q :: r) (q :: r')
theorem Pick.perm {p : Addr × (Obj → Prop)} {r r' : Led} (h : Pick p r r') : r.Perm (p :: r') := by
  induction h with
  | head => exact .refl _
  | tail _ ih => exact (ih.cons _).trans (.swap _ _ _)
inductive Takes : Led → Led → Led → Prop
  | nil {l : Led} : Takes [] l l
  | cons {p : Addr × (Obj → Prop)} {ps l l' r : Led} : Pick p l l' → Takes ps l' r → Takes (p :: ps) l r
theorem Takes.perm {ps l r : Led} (h : Takes ps l r) : l.Perm (ps ++ r) := by
  induction h with
  | nil => exact .refl _
  | cons p _ ih => exact p.perm.trans (ih.cons _)
theorem T.take {t : Sem α} {Q : Post α} {ps r : Led} (k : Takes ps l r) (h : T prog w A t Q z (ps ++ r)) : T prog w A t Q z l := T.perm k.perm h
/-- nothing else of the ledger is needed -/
theorem sub_refl {l : Led} : l.Sublist l := .refl _
theorem sub_nil {l : Led} : ([] : Led).Sublist l := List.nil_sublist _
theorem sub_same {p : Addr × (Obj → Prop)} {l l' : Led} (h : l.Sublist l') : (p :: l).Sublist (p :: l') := h.cons_cons p
theorem sub_skip {p : Addr × (Obj → Prop)} {l l' : Led} (h : l.Sublist l') : l.Sublist (p :: l') := h.cons p

theorem t_part0 {Q : Post Value} (h : Q .none z l) : T prog w A (evalPart none env) Q z l := fun s S => wpAny_evalPart_none (Lft.here S h)
theorem t_part1 {e : PySem.Expr} {Q : Post Value} (h : T prog w A (eval e env) Q z l) : T prog w A (evalPart (some e) env) Q z l := h
theorem t_unneg {e : PySem.Expr} {pos : Pos} {i : Int} {Q : Post Value} {k : Nat} {pos' : Pos} (h : ∀ t, Q (.int (-i) t) z l) : T prog w A (eval (.UnaryOp .USub (.Constant (.int i) k pos') pos) env) Q z l :=
  t_UnOp (t_int fun t => t_neg h)
/-- [..] * n of a list of one's own, which is dropped -/
theorem t_mulL {a : Addr} {vs : List Value} {x : Int} {u : Tok} {Q : Post Value} (hlo : 0 ≤ x) (hhi : x ≤ 1000) (hz : vs.length ≤ 1000)
    (h : ∀ c, Q (.ref c) z ((c, LstP (List.replicate x.toNat vs).flatten) :: l)) : T prog w A (binaryOp .Mult (.ref a) (.int x u)) Q z ((a, LstP vs) :: l) := fun s S => by
  obtain ⟨o, ho, n, rfl⟩ := S.get (List.mem_cons_self (a := (a, LstP vs)) (l := l))
  have hfl : ∀ (n : Nat) (vs : List Value), List.foldl (fun x1 x2 : Array Value => x1 ++ x2) #[] (List.replicate (if vs.toArray.isEmpty = true then 0 else n) vs.toArray) = (List.replicate n vs).flatten.toArray := by
    intro n vs
    have gen : ∀ (n : Nat) (acc : List Value), List.foldl (fun x1 x2 : Array Value => x1 ++ x2) acc.toArray (List.replicate n vs.toArray) = (acc ++ (List.replicate n vs).flatten).toArray := by
      intro n
      induction n with
      | zero => intro acc; simp
      | succ n ih => intro acc; rw [List.replicate_succ, List.foldl_cons, List.append_toArray, ih]; simp [List.replicate_succ, List.append_assoc]
    by_cases hv : vs = []
    · subst hv
      simp only [List.isEmpty_toArray, List.isEmpty_nil, if_true, List.replicate_zero, List.foldl_nil]
      induction n with
      | zero => rfl
      | succ n ih => rw [List.replicate_succ, List.flatten_cons, List.nil_append]; exact ih
    · rw [if_neg (by simpa using hv)]
      simpa using gen n []
  have hm : vs.length * x.toNat ≤ 1000000 := Nat.le_trans (Nat.mul_le_mul hz (show x.toNat ≤ 1000 by omega)) (by decide)
  have hm' : vs.toArray.size * x.toNat ≤ 1000000 := by rw [List.size_toArray]; exact hm
  refine wpAny_binaryOp_repeat_ref (T := "list") (U := "int") (by decide) ⟨_, ho, rfl⟩ (fun s' => typeIs_int s' x u) noFill_list_mul F.fills_int_mul F.slot_int_rmul repeat_list F.slot_int_index.lookup
    (call_meets F.slot_int_rmul (typeIs_int s x u) F.entry_int_rmul (F.args_int_rmul_2 _ _) (int___rmul___int_list x u a vs.toArray n)
      ⟨ho, rfl, ⟨_, ho, rfl⟩, call_meets F.slot_list_mul ⟨_, ho, rfl⟩ F.entry_list_mul (F.args_list_mul_2 _ _)
        (AutoListH.list___mul___list_int_3 a vs.toArray n x u (by simp [Builtin.List.listFitsIndex]; omega) (by omega) (by simp only [Builtin.List.listTooLong, sizeLine]; simp [-List.size_toArray]; omega))
        ⟨ho, ?_⟩⟩)
  rw [hfl]
  exact ⟨z, _, ⟨⟨_, s.toks, rfl⟩, fun _ _ e => e⟩, S.tl.new (P := LstP (List.replicate x.toNat vs).flatten) rfl ⟨_, rfl⟩, h _⟩
end
end Mine
end
section
open PySem PySem.W PySem.Calls PyProof.Rows
set_option maxRecDepth 100000
namespace Mine
section
variable {α β : Type} {prog : Program} {w : World} {A : Around} {z : Heap} {l : Led} {s : Shared} {env : Env}

/- names, the kind asked first -/
theorem n_L {x : Str} {pos : Pos} {ml : Nms} {v : Value} {Q : Post Value} (hk : env.scope.kind = .function) (hl : env.kindOf x = some .local) (hd : (x == ("__debug__" : Str)) = false)
    (hm : (env.locals, LocP ml) ∈ l) (hv : (x, some v) ∈ ml) (h : Q v z l) : T prog w A (eval (.Name x pos) env) Q z l := t_nameL (L := env.locals) hm hv h hk hl hd
theorem n_C {x : Str} {pos : Pos} {c : Addr} {v : Value} {Q : Post Value} (hk : env.scope.kind = .function) (hl : env.kindOf x = some .cell) (hd : (x == ("__debug__" : Str)) = false)
    (hc : env.cells.lookup x = some c) (hm : (c, CelP (some v)) ∈ l) (h : Q v z l) : T prog w A (eval (.Name x pos) env) Q z l := t_nameC hc hm h hk hl hd
theorem n_F {x : Str} {pos : Pos} {c : Addr} {v : Value} {Q : Post Value} (hk : env.scope.kind = .function) (hl : env.kindOf x = some .free) (hd : (x == ("__debug__" : Str)) = false) (hn : (x == ("__classdict__" : Str)) = false)
    (hc : env.cells.lookup x = some c) (hm : (c, CelP (some v)) ∈ l) (h : Q v z l) : T prog w A (eval (.Name x pos) env) Q z l := t_nameF hc hm h hk hl hd hn
theorem n_G {x : Str} {pos : Pos} {v : Value} {Q : Post Value} (hk : env.scope.kind = .function) (hx : env.kindOf x = some .globalImplicit) (hg : env.globals = mainGlobals) (hd : (x == ("__debug__" : Str)) = false)
    (e : nsIn (Mine.hd.heap_39 w.params) mainGlobals x = some (some v)) (h : Q v z l) : T prog w A (eval (.Name x pos) env) Q z l := t_nameG e h hk hx hg hd
theorem n_B {x : Str} {pos : Pos} {v : Value} {Q : Post Value} (hk : env.scope.kind = .function) (hx : env.kindOf x = some .globalImplicit) (hg : env.globals = mainGlobals) (hb : env.builtins = builtinsNs) (hd : (x == ("__debug__" : Str)) = false) (hn : (x != ("__name__" : Str)) = true)
    (e : nsIn (Mine.hd.heap_39 w.params) mainGlobals x = some none) (hv : bootBuiltins x = some v) (h : Q v z l) : T prog w A (eval (.Name x pos) env) Q z l := t_nameB e hv (fun q => by rw [q] at hn; exact absurd hn (by decide)) h hk hx hg hb hd
theorem s_L {x : Str} {v : Value} {ml ml' : Nms} {g : (Obj → Prop) → Led} {Q : Post Unit} (hl : env.kindOf x = some .local) (hp : (env.scope.kind == .class || (env.scope.kind == .module && env.locals != env.globals)) = false)
    (U : Upd1 env.locals (LocP ml) l g) (P : PutA x v ml ml') (h : Q () z (g (LocP ml'))) : T prog w A (storeName env x v) Q z l := t_store U P h hl hp
theorem s_C {x : Str} {v : Value} {c : Addr} {v₀ : Option Value} {g : (Obj → Prop) → Led} {Q : Post Unit} (hk : env.scope.kind = .function) (hl : env.kindOf x = some .cell)
    (hc : env.cells.lookup x = some c) (U : Upd1 c (CelP v₀) l g) (h : Q () z (g (CelP (some v)))) : T prog w A (storeName env x v) Q z l := t_storeC hc U h hk hl

section
variable {qual : Str} {scope : Scope} {L f : Addr} {cdv : Value} {cl : List (Str × Addr)} {C : Addr}
theorem n_L1 {x : Str} {pos : Pos} {ml : Nms} {v : Value} {Q : Post Value} (hk : scope.kind = .function) (hl : scope.names.lookup x = some .local) (hd : (x == ("__debug__" : Str)) = false)
    (hm : (L, LocP ml) ∈ l) (hv : (x, some v) ∈ ml) (h : Q v z l) : T prog w A (eval (.Name x pos) (envOfC qual scope L f cdv)) Q z l := n_L (env := envOfC qual scope L f cdv) hk hl hd hm hv h
theorem n_L2 {x : Str} {pos : Pos} {ml : Nms} {v : Value} {Q : Post Value} (hk : (compEnvC scope cl C env).scope.kind = .function) (hl : (compEnvC scope cl C env).kindOf x = some .local) (hd : (x == ("__debug__" : Str)) = false)
    (hm : (C, LocP ml) ∈ l) (hv : (x, some v) ∈ ml) (h : Q v z l) : T prog w A (eval (.Name x pos) (compEnvC scope cl C env)) Q z l := n_L (env := compEnvC scope cl C env) hk hl hd hm hv h
theorem s_L1 {x : Str} {v : Value} {ml ml' : Nms} {g : (Obj → Prop) → Led} {Q : Post Unit} (hl : scope.names.lookup x = some .local) (hp : ((envOfC qual scope L f cdv).scope.kind == .class || ((envOfC qual scope L f cdv).scope.kind == .module && (envOfC qual scope L f cdv).locals != (envOfC qual scope L f cdv).globals)) = false)
    (U : Upd1 L (LocP ml) l g) (P : PutA x v ml ml') (h : Q () z (g (LocP ml'))) : T prog w A (storeName (envOfC qual scope L f cdv) x v) Q z l := t_store (env := envOfC qual scope L f cdv) U P h hl hp
theorem s_L2 {x : Str} {v : Value} {ml ml' : Nms} {g : (Obj → Prop) → Led} {Q : Post Unit} (hl : (compEnvC scope cl C env).kindOf x = some .local) (hp : ((compEnvC scope cl C env).scope.kind == .class || ((compEnvC scope cl C env).scope.kind == .module && (compEnvC scope cl C env).locals != (compEnvC scope cl C env).globals)) = false)
    (U : Upd1 C (LocP ml) l g) (P : PutA x v ml ml') (h : Q () z (g (LocP ml'))) : T prog w A (storeName (compEnvC scope cl C env) x v) Q z l := t_store (env := compEnvC scope cl C env) U P h hl hp
end

/- calls, the first arguments spelled out -/
theorem t_cB {pos : Pos} {id : String} {e : PySem.Expr} {rest : List PySem.Expr} {Q : Post Value}
    (h : T prog w A (spliced (backTo pos (starEach (e :: rest) env))) (fun vs => T prog w A (call (.builtin id) vs) Q) z l)
    (he : starEach (e :: rest) env = (false, eval e env) :: starEach rest env) (hplain : (backTo pos (starEach rest env)).any (·.1) = false) : T prog w A (callWith pos (.builtin id) [] (backTo pos (starEach (e :: rest) env)) []) Q z l := t_cwB h he hplain
theorem t_cB1 {pos : Pos} {id : String} {x : Value} {e : PySem.Expr} {rest : List PySem.Expr} {Q : Post Value}
    (h : T prog w A (spliced (backTo pos (starEach (e :: rest) env))) (fun vs => T prog w A (call (.builtin id) (x :: vs)) Q) z l)
    (he : starEach (e :: rest) env = (false, eval e env) :: starEach rest env) (hplain : (backTo pos (starEach rest env)).any (·.1) = false) : T prog w A (callWith pos (.builtin id) [x] (backTo pos (starEach (e :: rest) env)) []) Q z l := t_cwB h he hplain
theorem t_cK {pos : Pos} {f : Value} {e : PySem.Expr} {rest : List PySem.Expr} {Q : Post Value} (hk : keepIn (Mine.hd.heap_39 w.params) f = true)
    (h : T prog w A (spliced (backTo pos (starEach (e :: rest) env))) (fun vs => T prog w A (call f vs) Q) z l)
    (he : starEach (e :: rest) env = (false, eval e env) :: starEach rest env) (hplain : (backTo pos (starEach rest env)).any (·.1) = false) : T prog w A (callWith pos f [] (backTo pos (starEach (e :: rest) env)) []) Q z l := t_cwK hk h he hplain
theorem t_cK1 {pos : Pos} {f x : Value} {e : PySem.Expr} {rest : List PySem.Expr} {Q : Post Value} (hk : keepIn (Mine.hd.heap_39 w.params) f = true)
    (h : T prog w A (spliced (backTo pos (starEach (e :: rest) env))) (fun vs => T prog w A (call f (x :: vs)) Q) z l)
    (he : starEach (e :: rest) env = (false, eval e env) :: starEach rest env) (hplain : (backTo pos (starEach rest env)).any (·.1) = false) : T prog w A (callWith pos f [x] (backTo pos (starEach (e :: rest) env)) []) Q z l := t_cwK hk h he hplain
theorem t_cK0 {pos : Pos} {f : Value} {Q : Post Value} (hk : keepIn (Mine.hd.heap_39 w.params) f = true) (h : T prog w A (call f []) Q z l) : T prog w A (callWith pos f [] (backTo pos (starEach [] env)) []) Q z l := t_cwK0 hk h
theorem t_cK01 {pos : Pos} {f x : Value} {Q : Post Value} (hk : keepIn (Mine.hd.heap_39 w.params) f = true) (h : T prog w A (call f [x]) Q z l) : T prog w A (callWith pos f [x] (backTo pos (starEach [] env)) []) Q z l := t_cwK0 hk h

/- tuples, frozen at once -/
theorem new_fz {h : Heap} {a : Addr} {vs : List Value} {Q : Post Value} {z₁ : Heap} {s₁ : Shared} (i₁ : Sm s z s₁ z₁) (S : St w z₁ ((a, TupP vs) :: l) s₁.heap) (q : ∀ z', z₁.StaysIn z' → z'.IsTuple a vs.toArray → Q (.ref a) z' l) : Lft w s z Q (.ref a) s₁ := by
  obtain ⟨z', o, i, ho, hP, S'⟩ := S.freeze
  exact ⟨z', l, i₁.trans ⟨⟨s₁.heap, s₁.toks, rfl⟩, i⟩, S', q z' i (tupP_is ⟨o, ho, hP⟩)⟩
theorem T.frozen {t : Sem Value} {Q : Post Value} (h : T prog w A t (fun v z' l' => ∃ a vs l'', v = .ref a ∧ l' = (a, TupP vs) :: l'' ∧ ∀ z'', z'.StaysIn z'' → z''.IsTuple a vs.toArray → Q (.ref a) z'' l'') z l) : T prog w A t Q z l := fun s S =>
  h.nest S fun v s₁ z₁ l₁ i S₁ ⟨a, vs, l'', e1, e2, q⟩ => by subst e1 e2; exact new_fz (h := z) i S₁ q
theorem t_TupleF {elts : List PySem.Expr} {k : Nat} {pos : Pos} {Q : Post Value}
    (h : T prog w A (spliced (backTo pos (starEach elts env))) (fun vs z l => vs.length ≤ 1000 ∧ ∀ a z', z.StaysIn z' → z'.IsTuple a vs.toArray → Q (.ref a) z' l) z l) : T prog w A (eval (.Tuple elts k pos) env) Q z l :=
  T.frozen (t_Tuple (h.mono fun vs z' l' _ q => ⟨Nat.le_trans q.1 (by rw [sizeLine_eq]; decide), fun a => ⟨a, vs, l', rfl, rfl, q.2 a⟩⟩))
theorem t_tupLF {a : Addr} {vs : List Value} {Q : Post Value} (ha : LsAt w z l a vs) (hz : vs.length ≤ 1000000) (h : ∀ c z', z.StaysIn z' → z'.IsTuple c vs.toArray → Q (.ref c) z' l) : T prog w A (call (.type "tuple") [.ref a]) Q z l :=
  T.frozen (t_tupL ha hz fun c => ⟨c, vs, l, rfl, rfl, h c⟩)
theorem t_addTF {a b : Addr} {vs ws : List Value} {Q : Post Value} (ha : TpAt w z l a vs) (hb : TpAt w z l b ws) (fa : z.IsTuple a vs.toArray) (fb : z.IsTuple b ws.toArray) (hz : vs.length + ws.length ≤ 1000000)
    (h : ∀ c z', z.StaysIn z' → z'.IsTuple c (vs ++ ws).toArray → Q (.ref c) z' l) : T prog w A (binaryOp .Add (.ref a) (.ref b)) Q z l := by
  intro s S
  refine T.nest (P := fun v z' l' => z' = z ∧ ((l' = l ∧ Q v z l) ∨ ∃ c, v = .ref c ∧ l' = (c, TupP (vs ++ ws)) :: l)) (t_addT ha hb hz (fun hv => ⟨rfl, .inl ⟨rfl, ?_⟩⟩) (fun hw => ⟨rfl, .inl ⟨rfl, ?_⟩⟩) fun c => ⟨rfl, .inr ⟨c, rfl, rfl⟩⟩) S fun v s₁ z₁ l₁ i S₁ q => ?_
  · subst hv; exact h b z (fun _ _ e => e) (by simpa using fb)
  · subst hw; exact h a z (fun _ _ e => e) (by simpa using fa)
  · obtain ⟨rfl, q⟩ := q
    rcases q with ⟨rfl, q⟩ | ⟨c, rfl, rfl⟩
    · exact ⟨z₁, _, i, S₁, q⟩
    · exact new_fz (h := z₁) i S₁ (h c)

theorem t_assignTupF {elts : List PySem.Expr} {k : Nat} {pos : Pos} {a : Addr} {vs : List Value} {Q : Post Unit} (hh : A.handled = none) (ha : z.IsTuple a vs.toArray) (hn : (assignEach elts env).length = vs.length) (hstar : (assignEach elts env).findIdx? (·.1) = none)
    (h : T prog w A (assignInOrder ((assignEach elts env).map (·.2)) vs) Q z l) : T prog w A (assign (.Tuple elts k pos) env (.ref a)) Q z l := fun s S =>
  wpAny_assign_Tuple hh (TpAt.fz (w := w) (l := l) ha _ S) (by simpa using hn) hstar fun h' he => T.up h (S.grow fun b o e => he b o (Nat.ne_of_lt (Heap.lt_size e)) e) ⟨⟨h', s.toks, rfl⟩, fun _ _ e => e⟩
theorem t_unpackF {a : Addr} {vs : List Value} {n : Nat} {Q : Post (List Value)} (hh : A.handled = none) (ha : z.IsTuple a vs.toArray) (hn : n = vs.length) (h : Q vs z l) : T prog w A (unpackItems (.ref a) n none) Q z l := fun s S => by
  subst hn
  have := wpAny_unpackItems_tuple (prog := prog) (w := w) (A := A) (E := NoE) (Q := Lft w s z Q) hh (TpAt.fz (w := w) (l := l) ha _ S) fun h' he => ⟨z, l, ⟨⟨h', s.toks, rfl⟩, fun _ _ e => e⟩, S.grow fun b o e => he b o (Nat.ne_of_lt (Heap.lt_size e)) e, by simpa using h⟩
  simpa using this
theorem t_assign2 {x y : Str} {p1 p2 : Pos} {k : Nat} {pos : Pos} {a : Addr} {v u : Value} {Q : Post Unit} (hh : A.handled = none) (ha : z.IsTuple a [v, u].toArray)
    (h : T prog w A (storeName env x v) (fun _ => T prog w A (storeName env y u) Q) z l) : T prog w A (assign (.Tuple [.Name x p1, .Name y p2] k pos) env (.ref a)) Q z l := by
  refine t_assignTupF hh ha (by rfl) (by rfl) ?_
  show T prog w A (assignInOrder [assign (.Name x p1) env, assign (.Name y p2) env] [v, u]) Q z l
  exact t_order1 (t_assignName (h.mono fun _ z' l' _ h => t_order1 (t_assignName (h.mono fun _ z' l' _ h => t_order0 h))))
theorem t_assign3 {x y n : Str} {p1 p2 p3 : Pos} {k : Nat} {pos : Pos} {a : Addr} {v u r : Value} {Q : Post Unit} (hh : A.handled = none) (ha : z.IsTuple a [v, u, r].toArray)
    (h : T prog w A (storeName env x v) (fun _ => T prog w A (storeName env y u) (fun _ => T prog w A (storeName env n r) Q)) z l) : T prog w A (assign (.Tuple [.Name x p1, .Name y p2, .Name n p3] k pos) env (.ref a)) Q z l := by
  refine t_assignTupF hh ha (by rfl) (by rfl) ?_
  show T prog w A (assignInOrder [assign (.Name x p1) env, assign (.Name y p2) env, assign (.Name n p3) env] [v, u, r]) Q z l
  exact t_order1 (t_assignName (h.mono fun _ z' l' _ h => t_order1 (t_assignName (h.mono fun _ z' l' _ h => t_order1 (t_assignName (h.mono fun _ z' l' _ h => t_order0 h))))))
theorem and_p {p X Y : Prop} [Decidable p] (h1 : p → X) (h2 : ¬p → Y) : (decide p = true → X) ∧ (decide p = false → Y) := ⟨fun e => h1 (of_decide_eq_true e), fun e => h2 (of_decide_eq_false e)⟩
theorem and_b {b : Bool} {X Y : Prop} (h1 : b = true → X) (h2 : b = false → Y) : (b = true → X) ∧ (b = false → Y) := ⟨h1, h2⟩
theorem and_i {a b : Int} {X Y : Prop} (h1 : a = b → X) (h2 : a ≠ b → Y) : ((a == b) = true → X) ∧ ((a == b) = false → Y) := ⟨fun e => h1 (beq_iff_eq.mp e), fun e => h2 fun q => by rw [q] at e; simp at e⟩
theorem and_t {X Y : Prop} (h1 : X) : (true = true → X) ∧ (true = false → Y) := ⟨fun _ => h1, fun e => (by cases e)⟩

/- a literal and a domain, frozen -/
inductive PairsAt (z : Heap) : List Value → List (Int × Int) → Prop
  | nil : PairsAt z [] []
  | cons {a : Addr} {p : Int × Int} {t u : Tok} {vs : List Value} {ps : List (Int × Int)} : z.IsTuple a [Value.int p.1 t, .int p.2 u].toArray → PairsAt z vs ps → PairsAt z (.ref a :: vs) (p :: ps)
theorem PairsAt.up {z z' : Heap} {vs : List Value} {ps : List (Int × Int)} (h : PairsAt z vs ps) (i : z.StaysIn z') : PairsAt z' vs ps := by
  induction h with
  | nil => exact .nil
  | cons h _ ih => exact .cons (tp_up h i) ih
theorem PairsAt.len {vs : List Value} {ps : List (Int × Int)} (h : PairsAt z vs ps) : vs.length = ps.length := by
  induction h with
  | nil => rfl
  | cons _ _ ih => simp [ih]
theorem PairsAt.get {vs : List Value} {ps : List (Int × Int)} (h : PairsAt z vs ps) : ∀ {i : Nat} {v : Value}, vs[i]? = some v → ∃ a p t u, v = .ref a ∧ ps[i]? = some p ∧ z.IsTuple a [Value.int p.1 t, .int p.2 u].toArray := by
  induction h with
  | nil => intro i v h; simp at h
  | @cons a p t u vs ps h _ ih =>
    intro i v hv
    cases i with
    | zero => simp at hv; subst hv; exact ⟨a, p, t, u, rfl, rfl, h⟩
    | succ i => simpa using ih (i := i) (v := v) (by simpa using hv)
theorem PairsAt.append {vs ws : List Value} {ps qs : List (Int × Int)} (h : PairsAt z vs ps) (k : PairsAt z ws qs) : PairsAt z (vs ++ ws) (ps ++ qs) := by
  induction h with
  | nil => exact k
  | cons h _ ih => exact .cons h ih
def DomAt (z : Heap) (a : Addr) (D : List (Int × Int)) : Prop := ∃ vs, z.IsTuple a vs.toArray ∧ PairsAt z vs D
theorem DomAt.up {z z' : Heap} {a : Addr} {D : List (Int × Int)} (h : DomAt z a D) (i : z.StaysIn z') : DomAt z' a D := let ⟨vs, h1, h2⟩ := h; ⟨vs, tp_up h1 i, h2.up i⟩
def LitAt (z : Heap) (a : Addr) (x : Int) (sg : Str) (k : Int) : Prop := ∃ t u v, z.IsTuple a [Value.int x t, .str sg u, .int k v].toArray
theorem LitAt.up {z z' : Heap} {a : Addr} {x k : Int} {sg : Str} (h : LitAt z a x sg k) (i : z.StaysIn z') : LitAt z' a x sg k := let ⟨t, u, v, h1⟩ := h; ⟨t, u, v, tp_up h1 i⟩

def upToL (k : Int) (D : List (Int × Int)) : List (Int × Int) := (D.filter fun p => decide (p.1 ≤ k)).map fun p => (p.1, min p.2 k)
def fromOnL (k : Int) (D : List (Int × Int)) : List (Int × Int) := (D.filter fun p => decide (k ≤ p.2)).map fun p => (max p.1 k, p.2)
def withoutL (k : Int) (D : List (Int × Int)) : List (Int × Int) := upToL (k - 1) D ++ fromOnL (k + 1) D
noncomputable def meetL (k : Int) : List (Int × Int) → List (Int × Int)
  | [] => []
  | p :: r => (if max p.1 k ≤ min p.2 k then [(max p.1 k, min p.2 k)] else []) ++ (if p.2 < k then meetL k r else [])
noncomputable def struckL (sg : Str) (k : Int) (D : List (Int × Int)) : List (Int × Int) :=
  if sg = ("<=" : Str) then upToL k D else if sg = (">=" : Str) then fromOnL k D else if sg = ("=" : Str) then meetL k D else withoutL k D
theorem upToL_len (k : Int) (D : List (Int × Int)) : (upToL k D).length ≤ D.length := by rw [upToL, List.length_map]; exact List.length_filter_le _ _
theorem fromOnL_len (k : Int) (D : List (Int × Int)) : (fromOnL k D).length ≤ D.length := by rw [fromOnL, List.length_map]; exact List.length_filter_le _ _
theorem take_snoc {α : Type} {D : List α} {i : Nat} {p : α} (h : D[i]? = some p) : D.take (i + 1) = D.take i ++ [p] := by rw [List.take_add_one, h]; rfl
theorem upToL_snoc {k : Int} {D : List (Int × Int)} {p : Int × Int} (h : p.1 ≤ k) : upToL k (D ++ [p]) = upToL k D ++ [(p.1, min p.2 k)] := by simp [upToL, h]
theorem upToL_skip {k : Int} {D : List (Int × Int)} {p : Int × Int} (h : ¬ p.1 ≤ k) : upToL k (D ++ [p]) = upToL k D := by simp [upToL, h]
theorem fromOnL_snoc {k : Int} {D : List (Int × Int)} {p : Int × Int} (h : k ≤ p.2) : fromOnL k (D ++ [p]) = fromOnL k D ++ [(max p.1 k, p.2)] := by simp [fromOnL, h]
theorem fromOnL_skip {k : Int} {D : List (Int × Int)} {p : Int × Int} (h : ¬ k ≤ p.2) : fromOnL k (D ++ [p]) = fromOnL k D := by simp [fromOnL, h]
end
end Mine
end
section
open PySem PySem.W PySem.Calls PyProof.Rows
set_option maxRecDepth 100000
namespace Mine
section
variable {α β : Type} {prog : Program} {w : World} {A : Around} {z : Heap} {l : Led} {s : Shared} {env : Env}
theorem t_swap2 {x y : Str} {elts : List PySem.Expr} {k : Nat} {tpos pos : Pos} {value : PySem.Expr} {Q : Post Flow} (hh : A.handled = none)
    (hs : swapsWithSole [.Tuple elts k tpos] value pos.line env = pure false) (hw : swappedStores [.Tuple elts k tpos] value env = pure (some [x, y]))
    (h : T prog w A (eval value env) (fun v z' l' => ∃ a u1 u2, v = .ref a ∧ z'.IsTuple a [u1, u2].toArray ∧ T prog w A (storeName env y u2) (fun _ => T prog w A (storeName env x u1) (fun _ => Q .next)) z' l') z l) :
    T prog w A (exec (.Assign [.Tuple elts k tpos] value pos) env) Q z l := by
  refine t_AssignSwapped (h.mono fun v z' l' _ ⟨a, u1, u2, e, ht, q⟩ => ?_) hs hw
  subst e
  refine t_unpackF hh ht (by rfl) ?_
  show T prog w A (assignInOrder [bindName env y, bindName env x] [u2, u1]) _ _ _
  exact t_order1 (t_bindName (q.mono fun _ z' l' _ q => t_order1 (t_bindName (q.mono fun _ z' l' _ q => t_order0 q))))
theorem t_swap3 {x y n : Str} {elts : List PySem.Expr} {k : Nat} {tpos pos : Pos} {value : PySem.Expr} {Q : Post Flow} (hh : A.handled = none)
    (hs : swapsWithSole [.Tuple elts k tpos] value pos.line env = pure false) (hw : swappedStores [.Tuple elts k tpos] value env = pure (some [x, y, n]))
    (h : T prog w A (eval value env) (fun v z' l' => ∃ a u1 u2 u3, v = .ref a ∧ z'.IsTuple a [u1, u2, u3].toArray ∧
      T prog w A (storeName env n u3) (fun _ => T prog w A (storeName env y u2) (fun _ => T prog w A (storeName env x u1) (fun _ => Q .next))) z' l') z l) :
    T prog w A (exec (.Assign [.Tuple elts k tpos] value pos) env) Q z l := by
  refine t_AssignSwapped (h.mono fun v z' l' _ ⟨a, u1, u2, u3, e, ht, q⟩ => ?_) hs hw
  subst e
  refine t_unpackF hh ht (by rfl) ?_
  show T prog w A (assignInOrder [bindName env n, bindName env y, bindName env x] [u3, u2, u1]) _ _ _
  exact t_order1 (t_bindName (q.mono fun _ z' l' _ q => t_order1 (t_bindName (q.mono fun _ z' l' _ q => t_order1 (t_bindName (q.mono fun _ z' l' _ q => t_order0 q))))))

/- data -/
def pairD (p : Int × Int) : PyData := .tuple [.int p.1, .int p.2]
def domD (D : List (Int × Int)) : PyData := .tuple (D.map pairD)
theorem PairsAt.reads {vs : List Value} {ps : List (Int × Int)} (h : PairsAt z vs ps) : ReadsAll z vs (ps.map pairD) [] := by
  induction h with
  | nil => exact .nil
  | @cons a p t u vs ps h _ ih =>
    obtain ⟨o, ho, hc, n, hd⟩ := h
    have r : ReadsAll z [Value.int p.1 t, .int p.2 u] [PyData.int p.1, .int p.2] ([] ++ ([] ++ [])) := .cons (.int _ _) (.cons (.int _ _) .nil)
    exact .cons (as := []) (.tuple ho hc hd r) ih
theorem DomAt.reads {a : Addr} {D : List (Int × Int)} (h : DomAt z a D) : Reads z (.ref a) (domD D) [] := by
  obtain ⟨vs, ⟨o, ho, hc, n, hd⟩, hp⟩ := h
  exact .tuple ho hc hd hp.reads
theorem eqv_pairs : ∀ (D E : List (Int × Int)), PyData.eqvAll (D.map pairD) (E.map pairD) = decide (D = E)
  | [], [] => by simp [PyData.eqvAll]
  | [], _ :: _ => by simp [PyData.eqvAll]
  | _ :: _, [] => by simp [PyData.eqvAll]
  | p :: D, q :: E => by
    have ih := eqv_pairs D E
    obtain ⟨a, b⟩ := p
    obtain ⟨c, d⟩ := q
    simp only [List.map_cons, PyData.eqvAll, ih, pairD, PyData.eqv, Bool.and_true]
    by_cases h1 : a = c <;> by_cases h2 : b = d <;> by_cases h3 : D = E <;> simp [h1, h2, h3]
theorem eqv_dom (D E : List (Int × Int)) : PyData.eqv (domD D) (domD E) = decide (D = E) := by
  unfold domD
  rw [PyData.eqv, eqv_pairs]
theorem canLay_pairs : ∀ D : List (Int × Int), PyData.canLayAll0 (D.map pairD) = true
  | [] => by simp [PyData.canLayAll0]
  | p :: D => by simp [PyData.canLayAll0, pairD, PyData.canLay0, canLay_pairs D]
theorem depth_pairs : ∀ D : List (Int × Int), PyData.depthAll (D.map pairD) ≤ 1
  | [] => by simp [PyData.depthAll]
  | p :: D => by
    have := depth_pairs D
    simp only [List.map_cons, PyData.depthAll, pairD, PyData.depth]
    omega
theorem shaped_dom (D : List (Int × Int)) : PySem.SeqAt.shaped (domD D) = true := by
  unfold PySem.SeqAt.shaped domD
  rw [PyData.canLay0, canLay_pairs, PyData.depth]
  have := depth_pairs D
  simp; omega
theorem St.readsUp {h : Heap} {v : Value} {d : PyData} (S : St w z l h) (r : Reads z v d []) : ∃ as, Reads h v d as := ⟨[], Reads.keeps S.fz r⟩
theorem t_eqDom {a b : Addr} {D E : List (Int × Int)} {Q : Post Value} (ha : DomAt z a D) (hb : DomAt z b E) (hu : A.units + 64 < cLine) (h : Q (.bool (decide (D = E))) z l) : T prog w A (compareOp .Eq (.ref a) (.ref b)) Q z l :=
  t_eqD (da := domD D) (db := domD E) (fun h S => S.readsUp ha.reads) (fun h S => S.readsUp hb.reads) (shaped_dom D) (shaped_dom E) hu (by rw [eqv_dom]; exact h)
theorem t_itemF {value slice : PySem.Expr} {a : Addr} {vs : List Value} {k : Int} {u : Tok} {x : Value} {Q : Post Value} (hz : z.IsTuple a vs.toArray) (h0 : 0 ≤ k) (h1 : k < 1000000) (hx : vs[k.toNat]? = some x) (h : Q x z l)
    (hs : subscripted slice false (.ref a) (.int k u) = operate [.ref a, .int k u] (getItem (.ref a) (.int k u))) : T prog w A (subscriptTail value slice (.ref a) (.int k u)) Q z l :=
  t_itemT (TpAt.fz hz) (by omega) (by omega) (by
    obtain ⟨hi, _⟩ := List.getElem?_eq_some_iff.mp hx
    exact PySem.seqIndex_of h0 (by omega)) hx h hs
theorem t_cut {st : Stmt} {rest : List Stmt} {Q : Post Flow} (P : Heap → Led → Prop) (h : T prog w A (exec st env) (fun f z' l' => f = .next ∧ P z' l') z l) (k : ∀ z' l', z.StaysIn z' → P z' l' → T prog w A (execs rest env) Q z' l') :
    T prog w A (execs (st :: rest) env) Q z l :=
  t_cons (h.mono fun f z' l' i ⟨e, p⟩ => by subst e; exact k z' l' i p)
theorem br_cut {p : Prop} [Decidable p] {b1 b2 rest : List Stmt} {Q : Post Flow} (P : Heap → Led → Prop) (h1 : p → T prog w A (execs b1 env) (fun f z' l' => f = .next ∧ P z' l') z l) (h2 : ¬p → T prog w A (execs b2 env) (fun f z' l' => f = .next ∧ P z' l') z l)
    (k : ∀ z' l', z.StaysIn z' → P z' l' → T prog w A (execs rest env) Q z' l') : Br (T prog w A (execs b1 env) (SeqQ prog w A rest env Q)) (T prog w A (execs b2 env) (SeqQ prog w A rest env Q)) (decide p) z l :=
  br_p (fun hp => (h1 hp).mono fun f z' l' i ⟨e, q⟩ => by subst e; exact k z' l' i q) (fun hp => (h2 hp).mono fun f z' l' i ⟨e, q⟩ => by subst e; exact k z' l' i q)
end
end Mine
end
section
open PySem PySem.W PySem.Calls PyProof.Rows
set_option maxRecDepth 100000
namespace Mine
section
variable {α β : Type} {prog : Program} {w : World} {A : Around} {z : Heap} {l : Led} {s : Shared} {env : Env}

theorem At.own {a : Addr} {P : Obj → Prop} (m : (a, P) ∈ l) : At z l a P := .inr m
theorem dct_empty : DctP prog w [] emptyDict := ⟨#[], 0, ⟨rfl, rfl, rfl⟩, rfl, fun e he => by simp at he, .nil, by simp⟩
theorem t_Dict {keys : List (Option PySem.Expr)} {values : List PySem.Expr} {pos : Pos} {Q : Post Value} (hall : keys.all (·.isSome) = true) (hl : keys.length = values.length) (h0 : keys ≠ []) (hlen : keys.length ≤ 15)
    (h : ∀ D, T prog w A (evalPairs (pairTrees keys values env pos)) (fun vs z' l' => ∃ kvs g, Carries (PySem.strKind prog w) vs kvs ∧ Upd1 D (DctP prog w []) l' g ∧ Q (.ref D) z' (g (DctP prog w (merged [] kvs)))) z ((D, DctP prog w []) :: l)) :
    T prog w A (eval (.Dict keys values pos) env) Q z l := fun s S => by
  have S1 : St w z ((s.heap.objs.size, DctP prog w []) :: l) (s.heap.push emptyDict) := S.new rfl dct_empty
  refine wpAny_Dict_walk (knd := PySem.strKind prog w) hall hl h0 hlen ?_
  refine T.nest (h s.heap.objs.size) (s := { s with heap := s.heap.push emptyDict }) S1 fun vs s₁ z₁ l₁ i₁ S₁ ⟨kvs, g, hc, U, q⟩ => ?_
  have i₀ : Sm s z s₁ z₁ := Sm.trans (Sm.mk' (s := s) (z := z) (h' := s.heap.push emptyDict) (tk := s.toks)) i₁
  exact ⟨kvs, hc, dct_at (S₁.get U.mem), fun h' hd hs => ⟨z₁, _, i₀.trans (Sm.mk' (s := s₁) (z := z₁)), S₁.upd U (fun b o hb e => (hs.2 b hb).trans e) (Heap.dictOf_iff.mp hd), q⟩⟩
theorem t_pair1 {k v : PySem.Expr} {ks : List (Option PySem.Expr)} {vs : List PySem.Expr} {pos : Pos} {Q : Post (List (Value × Value))}
    (h : T prog w A (eval k env) (fun kv => T prog w A (eval v env) (fun vv => T prog w A (evalPairs (pairTrees ks vs env pos)) (fun r => Q ((kv, vv) :: r)))) z l) : T prog w A (evalPairs (pairTrees (some k :: ks) (v :: vs) env pos)) Q z l := fun s S =>
  pairTrees_cons_walk (h.nest S fun kv s₁ z₁ l₁ i₁ S₁ p => p.nest S₁ fun vv s₂ z₂ l₂ i₂ S₂ p => T.up p S₂ (i₁.trans i₂))
theorem t_pair0 {pos : Pos} {Q : Post (List (Value × Value))} (h : Q [] z l) : T prog w A (evalPairs (pairTrees [] [] env pos)) Q z l := fun s S => pairTrees_nil_walk (Lft.here S h)
theorem carries1 {k : Str} {t : Tok} {v : Value} {vs : List (Value × Value)} {kvs : Kvs} (h : Carries (PySem.strKind prog w) vs kvs) : Carries (PySem.strKind prog w) ((.str k t, v) :: vs) ((k, v) :: kvs) := ⟨strKind_is prog w k t, rfl, h⟩
theorem carries0 : Carries (PySem.strKind prog w) [] [] := trivial

/- the dict of news: keys 0 and 1 -/
def NewP (prog : Program) (w : World) : Obj → Prop := fun o => ∃ kvs, o.IsDictOf (PySem.intKind prog w) kvs ∧ ∀ kv ∈ kvs, kv.1 = 0 ∨ kv.1 = 1
theorem t_Dict0 {pos : Pos} {Q : Post Value} (h : ∀ D, Q (.ref D) z ((D, NewP prog w) :: l)) : T prog w A (eval (.Dict [] [] pos) env) Q z l := fun s S =>
  wpAny_Dict_empty ⟨z, _, ⟨⟨_, s.toks, rfl⟩, fun _ _ e => e⟩, S.new (P := NewP prog w) rfl ⟨[], ⟨#[], 0, ⟨rfl, rfl, rfl⟩, rfl, fun e he => by simp at he, .nil, by simp⟩, by simp⟩, h _⟩
theorem few_keys : ∀ {l : List Int}, l.Nodup → (∀ k ∈ l, k = 0 ∨ k = 1) → l.length ≤ 2
  | [], _, _ => by simp
  | [_], _, _ => by simp
  | [_, _], _, _ => by simp
  | a :: b :: c :: r, nd, h => by
    have ha := h a (by simp)
    have hb := h b (by simp)
    have hc := h c (by simp)
    simp only [List.nodup_cons, List.mem_cons, not_or] at nd
    omega
theorem t_newsSet {d : Addr} {k : Int} {t : Tok} {v : Value} {g : (Obj → Prop) → Led} {Q : Post Unit} (U : Upd1 d (NewP prog w) l g) (hk : k = 0 ∨ k = 1) (h : Q () z (g (NewP prog w))) : T prog w A (setItem (.ref d) (.int k t) v) Q z l := fun s S => by
  obtain ⟨o, ho, kvs, D, hks⟩ := S.get U.mem
  have nd : (kvs.map (·.1)).Nodup := let ⟨_, _, _, _, _, _, nd⟩ := D; nd
  have hlen := few_keys nd fun k hk => by
    obtain ⟨kv, hm, rfl⟩ := List.mem_map.mp hk
    exact hks kv hm
  rw [List.length_map] at hlen
  refine wpAny_setItem_pairs (hsz := by rw [sizeLine_eq]; omega) (intKind_is prog w k t) (Heap.dictOf_iff.mpr ⟨o, ho, D⟩) fun h' hd' hs => ?_
  obtain ⟨o', ho', D'⟩ := Heap.dictOf_iff.mp hd'
  refine ⟨z, _, ⟨⟨h', _, rfl⟩, fun _ _ e => e⟩, S.upd U (fun b o hb e => (hs.2 b hb).trans e) ⟨o', ho', _, D', ?_⟩, h⟩
  intro kv hm
  unfold PySem.stored at hm
  split at hm
  · obtain ⟨kv', hm', rfl⟩ := List.mem_map.mp hm
    split
    · exact (hks kv' hm' : kv'.1 = 0 ∨ kv'.1 = 1)
    · exact hks _ hm'
  · rcases List.mem_append.mp hm with hm | hm
    · exact hks _ hm
    · simp only [List.mem_singleton] at hm; subst hm; exact hk

inductive SetK (x : Str) (v : Value) : Kvs → Kvs → Prop
  | nil : SetK x v [] [(x, v)]
  | head {u : Value} {r : Kvs} : SetK x v ((x, u) :: r) ((x, v) :: r)
  | tail {y : Str} {u : Value} {r r' : Kvs} : SetK x v r r' → (y == x) = false → SetK x v ((y, u) :: r) ((y, u) :: r')
theorem SetK.stored {x : Str} {v : Value} {r r' : Kvs} (h : SetK x v r r') (nd : (r.map (·.1)).Nodup) : PySem.stored r x v = r' := by
  induction h with
  | nil => rfl
  | @head u r => exact (PutK.head (x := x) (v := v)).stored nd
  | @tail y u r r' h hne ih =>
    have hy : y ≠ x := fun e => by rw [e] at hne; simp at hne
    rw [List.map_cons, List.nodup_cons] at nd
    have ih := ih nd.2
    unfold PySem.stored at ih ⊢
    simp only [List.any_cons, hy, decide_false, Bool.false_or, List.map_cons, if_false]
    split
    · rename_i q; rw [if_pos q] at ih; rw [ih]
    · rename_i q; rw [if_neg q] at ih; rw [← ih]; rfl
theorem t_setAttrK {x C dx : Addr} {kvs kvs' : Kvs} {name : Str} {v : Value} {g : (Obj → Prop) → Led} {Q : Post Unit} (hx : At z l x (InsP C dx)) (U : Upd1 dx (DctP prog w kvs) l g) (P : SetK name v kvs kvs') (hz : kvs.length ≤ 900)
    (hs : findIn (Mine.hd.heap_39 w.params) (.ref C) "__setattr__" = some (some (.builtin "object.__setattr__"))) (hp : plainOver (Mine.hd.heap_39 w.params) C = true) (ht : takerIn (Mine.hd.heap_39 w.params) C name = some none)
    (hh : hasDictIn (Mine.hd.heap_39 w.params) C = true) (h : Q () z (g (DctP prog w kvs'))) : T prog w A (setAttr (.ref x) name v) Q z l := fun s S => by
  have nd : (kvs.map (·.1)).Nodup := let ⟨_, _, k⟩ := S.get U.mem; dct_nodup k
  exact t_setAttr hx U (P.stored nd) hz hs hp ht hh h s S
theorem t_dictSetK {d : Addr} {kvs kvs' : Kvs} {x : Str} {t : Tok} {v : Value} {g : (Obj → Prop) → Led} {Q : Post Unit} (U : Upd1 d (DctP prog w kvs) l g) (P : PutK x v kvs kvs') (hz : kvs.length ≤ 1000) (h : Q () z (g (DctP prog w kvs'))) :
    T prog w A (setItem (.ref d) (.str x t) v) Q z l := t_dictSet U P hz h
/- a new object -/
theorem t_make {C fI : Addr} {Q : Post Value} (hm : makesIn (Mine.hd.heap_39 w.params) C = true) (hi : findIn (Mine.hd.heap_39 w.params) (.ref C) "__init__" = some (some (.ref fI))) (hf : typeIn (Mine.hd.heap_39 w.params) (.ref fI) = some (.type "function"))
    (h : ∀ x dx, TC prog w (A.under (.builtin "type.__call__" ⟨[.ref C], []⟩)) (.call (.ref fI) ⟨[.ref x], []⟩) (fun r z' l' => r = .ok (.ret .none) ∧ Q (.ref x) z' l') z ((x, InsP C dx) :: (dx, DctP prog w []) :: l)) : T prog w A (call (.ref C) []) Q z l := fun s S => by
  obtain ⟨hh, gs, dr, tk, os⟩ := s
  dsimp only at S
  have X := S.bs.k.keeps S.fz
  refine wpAny_call (make_core (makes_of X hm) (looks_findIn X hi) (fun self => bind_fn X self hf) (.inl rfl) ?_)
  have S1 : St w z ((hh.objs.size, DctP prog w []) :: l) (hh.push emptyDict) := S.new rfl dct_empty
  have S2 := S1.new (o := instObj C hh.objs.size) (P := InsP C hh.objs.size) rfl rfl
  rw [Heap.size_push] at S2
  refine codeAny_mono (h _ _ ⟨(hh.push emptyDict).push (instObj C hh.objs.size), gs, dr, tk, os⟩ S2) fun r s' ⟨z', l', i, S', e, q⟩ => ?_
  subst e
  exact ⟨rfl, z', l', Sm.trans ⟨⟨_, tk, rfl⟩, fun _ _ e => e⟩ i, S', q⟩

theorem ints_len {vs : List Value} {ns : List Int} (h : IntsAre vs ns) : vs.length = ns.length := by
  induction h with
  | nil => rfl
  | cons _ _ _ ih => simp [ih]
/- the store -/
structure Sto where
  X : Addr
  dx : Addr
  aD : Addr
  aF : Addr
  aT : Addr
  aM : Addr
  aN : Addr
  sp : Tok
  b : Bool
  cl : Value
  vD : List Value
  vF : List Value
  vT : List Value
  vM : List Value
def Sto.led (prog : Program) (w : World) (s : Sto) : Led :=
  [(s.X, InsP 322 s.dx), (s.dx, DctP prog w [("domains", .ref s.aD), ("firsts", .ref s.aF), ("trail", .ref s.aT), ("marks", .ref s.aM), ("news", .ref s.aN), ("speaker", .int (-1) s.sp), ("is_failed", .bool s.b), ("clash", s.cl)]),
    (s.aD, LstP s.vD), (s.aF, LstP s.vF), (s.aT, LstP s.vT), (s.aM, LstP s.vM), (s.aN, NewP prog w)]
abbrev Dom := List (Int × Int)
inductive DomsAt (z : Heap) : List Value → List Dom → Prop
  | nil : DomsAt z [] []
  | cons {a : Addr} {D : Dom} {vs : List Value} {Ds : List Dom} : DomAt z a D → DomsAt z vs Ds → DomsAt z (.ref a :: vs) (D :: Ds)
theorem DomsAt.up {z z' : Heap} {vs : List Value} {Ds : List Dom} (h : DomsAt z vs Ds) (i : z.StaysIn z') : DomsAt z' vs Ds := by
  induction h with
  | nil => exact .nil
  | cons h _ ih => exact .cons (h.up i) ih
theorem DomsAt.len {vs : List Value} {Ds : List Dom} (h : DomsAt z vs Ds) : vs.length = Ds.length := by
  induction h with
  | nil => rfl
  | cons _ _ ih => simp [ih]
theorem DomsAt.get {vs : List Value} {Ds : List Dom} (h : DomsAt z vs Ds) : ∀ {i : Nat} {D : Dom}, Ds[i]? = some D → ∃ a, vs[i]? = some (.ref a) ∧ DomAt z a D := by
  induction h with
  | nil => intro i D h; simp at h
  | @cons a D vs Ds h _ ih =>
    intro i D' hD
    cases i with
    | zero => simp at hD; subst hD; exact ⟨a, rfl, h⟩
    | succ i => simpa using ih (i := i) (by simpa using hD)
theorem DomsAt.set {vs : List Value} {Ds : List Dom} (h : DomsAt z vs Ds) : ∀ {i : Nat} {a : Addr} {D : Dom}, DomAt z a D → DomsAt z (vs.set i (.ref a)) (Ds.set i D) := by
  induction h with
  | nil => intro i a D _; exact .nil
  | cons h t ih =>
    intro i a D k
    cases i with
    | zero => exact .cons k t
    | succ i => exact .cons h (ih k)
theorem DomsAt.snoc {vs : List Value} {Ds : List Dom} {a : Addr} {D : Dom} (h : DomsAt z vs Ds) (k : DomAt z a D) : DomsAt z (vs ++ [.ref a]) (Ds ++ [D]) := by
  induction h with
  | nil => exact .cons k .nil
  | cons h t ih => exact .cons h ih
structure Ent where
  x : Int
  old : Dom
  sg : Str
  k : Int
def EntAt (z : Heap) (v : Value) (e : Ent) : Prop := ∃ a t oa la r sp, v = .ref a ∧ z.IsTuple a [Value.int e.x t, .ref oa, .ref la, r, sp].toArray ∧ DomAt z oa e.old ∧ LitAt z la e.x e.sg e.k
theorem EntAt.up {z z' : Heap} {v : Value} {e : Ent} (h : EntAt z v e) (i : z.StaysIn z') : EntAt z' v e := by
  obtain ⟨a, t, oa, la, r, sp, e, h1, h2, h3⟩ := h
  exact ⟨a, t, oa, la, r, sp, e, tp_up h1 i, h2.up i, h3.up i⟩
inductive EntsAt (z : Heap) : List Value → List Ent → Prop
  | nil : EntsAt z [] []
  | cons {v : Value} {e : Ent} {vs : List Value} {es : List Ent} : EntAt z v e → EntsAt z vs es → EntsAt z (v :: vs) (e :: es)
theorem EntsAt.up {z z' : Heap} {vs : List Value} {es : List Ent} (h : EntsAt z vs es) (i : z.StaysIn z') : EntsAt z' vs es := by
  induction h with
  | nil => exact .nil
  | cons h _ ih => exact .cons (h.up i) ih
theorem EntsAt.len {vs : List Value} {es : List Ent} (h : EntsAt z vs es) : vs.length = es.length := by
  induction h with
  | nil => rfl
  | cons _ _ ih => simp [ih]
theorem EntsAt.snoc {vs : List Value} {es : List Ent} {v : Value} {e : Ent} (h : EntsAt z vs es) (k : EntAt z v e) : EntsAt z (vs ++ [v]) (es ++ [e]) := by
  induction h with
  | nil => exact .cons k .nil
  | cons h t ih => exact .cons h ih
theorem EntsAt.get {vs : List Value} {es : List Ent} (h : EntsAt z vs es) : ∀ {i : Nat} {e : Ent}, es[i]? = some e → ∃ v, vs[i]? = some v ∧ EntAt z v e := by
  induction h with
  | nil => intro i D h; simp at h
  | @cons v e vs es h _ ih =>
    intro i e' hD
    cases i with
    | zero => simp at hD; subst hD; exact ⟨v, rfl, h⟩
    | succ i => simpa using ih (i := i) (by simpa using hD)
theorem EntsAt.unsnoc {vs : List Value} : ∀ {es : List Ent} {e : Ent}, EntsAt z vs (es ++ [e]) → ∃ vs' v, vs = vs' ++ [v] ∧ EntsAt z vs' es ∧ EntAt z v e := by
  induction vs with
  | nil => intro es e h; cases es <;> cases h
  | cons v vs ih =>
    intro es e h
    cases es with
    | nil =>
      cases h with
      | cons h t => cases t; exact ⟨[], v, rfl, .nil, h⟩
    | cons e' es =>
      cases h with
      | cons h t =>
        obtain ⟨vs', v', rfl, h1, h2⟩ := ih t
        exact ⟨v :: vs', v', rfl, .cons h h1, h2⟩
structure StoOk (z : Heap) (s : Sto) (F Ds : List Dom) (rows : List Ent) (marks : List Nat) : Prop where
  f : DomsAt z s.vF F
  d : DomsAt z s.vD Ds
  t : EntsAt z s.vT rows
  m : IntsAre s.vM (marks.map fun (n : Nat) => (n : Int))
theorem StoOk.up {z z' : Heap} {s : Sto} {F Ds : List Dom} {rows : List Ent} {marks : List Nat} (h : StoOk z s F Ds rows marks) (i : z.StaysIn z') : StoOk z' s F Ds rows marks := ⟨h.f.up i, h.d.up i, h.t.up i, h.m⟩
end
end Mine
end
section
open PySem PySem.W PySem.Calls PyProof.Rows
set_option maxRecDepth 100000
namespace Mine
section
variable {α β : Type} {prog : Program} {w : World} {A : Around} {z : Heap} {l : Led} {s : Shared} {env : Env}
theorem t_inD {a : Addr} {vs : List Value} {ds : List PyData} {x : Value} {d : PyData} {Q : Post Value} (ha : LsAt w z l a vs) (rs : ReadsAll z vs ds []) (rx : Reads z x d []) (h1 : PyData.canLayAll0 ds = true) (h2 : PyData.canLay0 d = true) (h3 : d.depth ≤ 10) (hu : A.units + 64 < cLine)
    (h : Q (.bool (ds.any fun y => PyData.eqv y d)) z l) : T prog w A (compareOp .In x (.ref a)) Q z l := fun s S => by
  obtain ⟨o, ho, hc, n, hd⟩ := ha _ S
  have r1 : Reads s.heap (.ref a) (.list ds) (a :: []) := .list ho hc hd (by
    have := ReadsAll.keeps S.fz rs
    simpa using this)
  have r2 := Reads.keeps S.fz rx
  exact SeqAt.in_list_reads r1 r2 h1 h2 (by have := Nat.min_le_right (PyData.depthAll ds) d.depth; omega) (Lft.here S h)
theorem DomsAt.reads {vs : List Value} {Ds : List Dom} (h : DomsAt z vs Ds) : ReadsAll z vs (Ds.map domD) [] := by
  induction h with
  | nil => exact .nil
  | cons h _ ih => exact .cons (as := []) h.reads ih
theorem canLay_doms : ∀ Ds : List Dom, PyData.canLayAll0 (Ds.map domD) = true
  | [] => by simp [PyData.canLayAll0]
  | D :: Ds => by simp [PyData.canLayAll0, domD, PyData.canLay0, canLay_pairs D, canLay_doms Ds]
theorem ints_get {vs : List Value} {ns : List Int} (h : IntsAre vs ns) : ∀ {i : Nat} {n : Int}, ns[i]? = some n → ∃ t, vs[i]? = some (.int n t) := by
  induction h with
  | nil => intro i n h; simp at h
  | cons m t _ ih =>
    intro i n hi
    cases i with
    | zero => simp at hi; subst hi; exact ⟨t, rfl⟩
    | succ i => simpa using ih (i := i) (by simpa using hi)
theorem ints_take {vs : List Value} {ns : List Int} (h : IntsAre vs ns) : ∀ n, IntsAre (vs.take n) (ns.take n) := fun n => h.take n
/- slices -/
def SlcP (a b c : Value) : Obj → Prop := fun o => o = { cls := .type "slice", data := .fields #[a, b, c] }
theorem t_Slice {lower upper step : Option PySem.Expr} {p : Pos} {Q : Post Value} (h : T prog w A (evalPart lower env) (fun a => T prog w A (evalPart upper env) (fun b => T prog w A (evalPart step env) (fun c z l => ∀ s, Q (.ref s) z ((s, SlcP a b c) :: l)))) z l) :
    T prog w A (eval (.Slice lower upper step p) env) Q z l := fun s S =>
  wpAny_Slice (h.nest S fun a s₁ z₁ l₁ i₁ S₁ p₁ => p₁.nest S₁ fun b s₂ z₂ l₂ i₂ S₂ p₂ => p₂.nest S₂ fun c s₃ z₃ l₃ i₃ S₃ q =>
    ⟨z₃, _, ((i₁.trans i₂).trans i₃).trans ⟨⟨_, s₃.toks, rfl⟩, fun _ _ e => e⟩, S₃.new (P := SlcP a b c) rfl rfl, q _⟩)
theorem t_subSlice {value slice : PySem.Expr} {a sl : Addr} {vs : List Value} {v1 v2 v3 : Value} {lo hi st : Option Int} {ops : List Value} {Q : Post Value} (hl : LsAt w z l a vs) (hn : vs.length ≤ 1000000) (p1 : IsPart v1 lo) (p2 : IsPart v2 hi) (p3 : IsPart v3 st) (h0 : st ≠ some 0)
    (h : ∀ c, Q (.ref c) z ((c, LstP (slicePick vs.toArray lo hi st).toList) :: l)) (hs : subscripted slice false (.ref a) (.ref sl) = operate ops (getItem (.ref a) (.ref sl))) : T prog w A (subscriptTail value slice (.ref a) (.ref sl)) Q z ((sl, SlcP v1 v2 v3) :: l) := fun s S => by
  obtain ⟨o, ho, rfl⟩ := S.get List.mem_cons_self
  have L := hl _ S.tl
  refine tail_any L.typeIs slot_list_getitem.lookup (wpAny_getItem_list_slice (sl := sl) L ⟨_, ho, rfl, rfl⟩ p1 p2 p3 h0 ?_ (by rw [List.size_toArray, sizeLine_eq]; omega)) hs
  exact ⟨z, _, ⟨⟨_, s.toks, rfl⟩, fun _ _ e => e⟩, S.tl.new (P := LstP (slicePick vs.toArray lo hi st).toList) rfl ⟨0, by simp⟩, h _⟩
theorem t_subUp {value slice : PySem.Expr} {a sl : Addr} {vs : List Value} {i : Int} {t : Tok} {ops : List Value} {Q : Post Value} (hl : LsAt w z l a vs) (hn : vs.length ≤ 1000000) (h0 : 0 ≤ i)
    (h : ∀ c, Q (.ref c) z ((c, LstP (vs.take i.toNat)) :: l)) (hs : subscripted slice false (.ref a) (.ref sl) = operate ops (getItem (.ref a) (.ref sl))) : T prog w A (subscriptTail value slice (.ref a) (.ref sl)) Q z ((sl, SlcP .none (.int i t) .none) :: l) :=
  t_subSlice hl hn .none (.int i t) .none (by simp) (fun c => by
    have e : some i = some (i.toNat : Int) := by rw [show ((i.toNat : Nat) : Int) = i by omega]
    rw [e, slicePick_upto']; simpa using h c) hs
theorem T.pick {t : Sem α} {Q : Post α} {p : Addr × (Obj → Prop)} {r : Led} (k : Pick p l r) (h : T prog w A t Q z (p :: r)) : T prog w A t Q z l := T.perm k.perm h
theorem St.head {h : Heap} {a : Addr} {P P' : Obj → Prop} (S : St w z ((a, P) :: l) h) (k : ∃ o, h.get? a = some o ∧ P' o) : St w z ((a, P') :: l) h := by
  refine ⟨S.bs, S.fz, fun p hp => ?_, fun p hp => ?_, S.nd⟩
  · rcases List.mem_cons.mp hp with rfl | hp
    · exact k
    · exact S.own p (List.mem_cons_of_mem _ hp)
  · rcases List.mem_cons.mp hp with rfl | hp
    · exact S.off (a, P) List.mem_cons_self
    · exact S.off p (List.mem_cons_of_mem _ hp)
theorem T.own1 {t : Sem α} {Q : Post α} {a : Addr} {P : Obj → Prop} (h : ∀ o, P o → ∃ P', P' o ∧ T prog w A t Q z ((a, P') :: l)) : T prog w A t Q z ((a, P) :: l) := fun s S => by
  obtain ⟨o, ho, hP⟩ := S.get List.mem_cons_self
  obtain ⟨P', hP', k⟩ := h o hP
  exact k s (S.head ⟨o, ho, hP'⟩)
theorem T.weaken {t : Sem α} {Q : Post α} {a : Addr} {P P' : Obj → Prop} {g : (Obj → Prop) → Led} (U : Upd1 a P l g) (hP : ∀ o, P o → P' o) (h : T prog w A t Q z (g P')) : T prog w A t Q z l := fun s S => by
  obtain ⟨o, ho, k⟩ := S.get U.mem
  exact h s (S.upd U (fun b o' _ e => e) ⟨o, ho, hP o k⟩)

/- the source of draws -/
def SrcP (prog : Program) (w : World) (c : Addr) (N : Int) : Obj → Prop := fun o => ∃ sp t, 0 ≤ sp ∧ sp ≤ N ∧ DctP prog w [("cells", .ref c), ("spot", .int sp t)] o
theorem SrcP.le {c : Addr} {N M : Int} (h : N ≤ M) (o : Obj) (k : SrcP prog w c N o) : SrcP prog w c M o := by
  obtain ⟨sp, t, h0, h1, d⟩ := k
  exact ⟨sp, t, h0, by omega, d⟩
structure SrcOk (z : Heap) (c : Addr) : Prop where
  h : ∃ cvs ns, z.IsList c (cvs : List Value).toArray ∧ IntsAre cvs ns ∧ 1 ≤ ns.length ∧ ns.length ≤ 60 ∧ ∀ n ∈ ns, 0 ≤ n ∧ n < 1000003
theorem SrcOk.up {z z' : Heap} {c : Addr} (h : SrcOk z c) (i : z.StaysIn z') : SrcOk z' c := let ⟨cvs, ns, h1, h2⟩ := h.h; ⟨cvs, ns, is_up h1 i, h2⟩
theorem T.openSrc {t : Sem α} {Q : Post α} {sd c : Addr} {N : Int} (h : ∀ sp tk, 0 ≤ sp → sp ≤ N → T prog w A t Q z ((sd, DctP prog w [("cells", .ref c), ("spot", .int sp tk)]) :: l)) : T prog w A t Q z ((sd, SrcP prog w c N) :: l) :=
  T.own1 fun o ⟨sp, tk, h0, h1, d⟩ => ⟨_, d, h sp tk h0 h1⟩
theorem T.frzL {t : Sem α} {Q : Post α} {a : Addr} {vs : List Value} (h : ∀ z', z.StaysIn z' → z'.IsList a vs.toArray → T prog w A t Q z' l) : T prog w A t Q z ((a, LstP vs) :: l) :=
  T.freeze fun z' i k => h z' i (lstP_is k)
def intsD (ns : List Int) : PyData := .list (ns.map .int)
theorem ints_readsL {vs : List Value} {ns : List Int} (h : IntsAre vs ns) (hp : Heap) : ReadsAll hp vs (ns.map PyData.int) [] := by
  induction h with
  | nil => exact .nil
  | cons n t _ ih => exact .cons (as := []) (.int _ _) ih
theorem reads_intsL {h : Heap} {a : Addr} {vs : List Value} {ns : List Int} (hl : h.IsList a vs.toArray) (hI : IntsAre vs ns) : ∃ as, Reads h (.ref a) (intsD ns) as := by
  obtain ⟨o, ho, hc, n, hd⟩ := hl
  exact ⟨_, .list ho hc hd (ints_readsL hI h)⟩
theorem canLay_ints : ∀ ns : List Int, PyData.canLayAll0 (ns.map PyData.int) = true
  | [] => by simp [PyData.canLayAll0]
  | n :: ns => by simp [PyData.canLayAll0, PyData.canLay0, canLay_ints ns]
theorem depth_ints : ∀ ns : List Int, PyData.depthAll (ns.map PyData.int) = 0
  | [] => by simp [PyData.depthAll]
  | n :: ns => by simp [PyData.depthAll, PyData.depth, depth_ints ns]
theorem shaped_ints (ns : List Int) : PySem.SeqAt.shaped (intsD ns) = true := by
  unfold PySem.SeqAt.shaped intsD
  rw [PyData.canLay0, canLay_ints, PyData.depth, depth_ints]
  rfl
theorem eqv_ints0 : ∀ (D E : List Int), PyData.eqvAll (D.map PyData.int) (E.map PyData.int) = decide (D = E)
  | [], [] => by simp [PyData.eqvAll]
  | [], _ :: _ => by simp [PyData.eqvAll]
  | _ :: _, [] => by simp [PyData.eqvAll]
  | p :: D, q :: E => by
    have ih := eqv_ints0 D E
    simp only [List.map_cons, PyData.eqvAll, ih, PyData.eqv]
    by_cases h1 : p = q <;> by_cases h3 : D = E <;> simp [h1, h3]
theorem eqv_ints (D E : List Int) : PyData.eqv (intsD D) (intsD E) = decide (D = E) := by
  unfold intsD
  rw [PyData.eqv, eqv_ints0]
theorem t_eqInts {a b : Addr} {vs ws : List Value} {ns ms : List Int} {Q : Post Value} (ha : LsAt w z l a vs) (hb : LsAt w z l b ws) (hI : IntsAre vs ns) (hJ : IntsAre ws ms) (hu : A.units + 64 < cLine) (h : Q (.bool (decide (ns = ms))) z l) : T prog w A (compareOp .Eq (.ref a) (.ref b)) Q z l :=
  t_eqD (da := intsD ns) (db := intsD ms) (fun h S => reads_intsL (ha h S) hI) (fun h S => reads_intsL (hb h S) hJ) (shaped_ints ns) (shaped_ints ms) hu (by rw [eqv_ints]; exact h)
theorem t_neInts {a b : Addr} {vs ws : List Value} {ns ms : List Int} {Q : Post Value} (ha : LsAt w z l a vs) (hb : LsAt w z l b ws) (hI : IntsAre vs ns) (hJ : IntsAre ws ms) (hu : A.units + 64 < cLine) (h : Q (.bool (!decide (ns = ms))) z l) : T prog w A (compareOp .NotEq (.ref a) (.ref b)) Q z l :=
  t_neD (da := intsD ns) (db := intsD ms) (fun h S => reads_intsL (ha h S) hI) (fun h S => reads_intsL (hb h S) hJ) (shaped_ints ns) (shaped_ints ms) hu (by rw [eqv_ints]; exact h)
theorem t_CompA1 {σ : Type} {qual : Str} {sc : Scope} {L f : Addr} {cdv : Value} {elt target iter : PySem.Expr} {ifs : List PySem.Expr} {scope : Scope} {pos spos py : Pos} {y : Str} {cl : List (Str × Addr)} {Q : Post Flow} (nms : List Str)
    (hsw : swapsWith (.ListComp elt [⟨target, iter, ifs, 0⟩] scope pos) (some (.Name y py)) spos.line (envOfC qual sc L f cdv) = pure true)
    (hclos : closureFor scope (envOfC qual sc L f cdv) = pure cl) (hcell : ∀ y ∈ scope.names, y.2 ≠ .cell) (hkind : scope.kind = .function) (hnames : ∀ y ∈ scope.names, y.2 = .local → scope.names.lookup y.1 = some .local) (hnm : nms.Nodup)
    (hy : sc.names.lookup y = some .local) (hp : ((envOfC qual sc L f cdv).scope.kind == .class || ((envOfC qual sc L f cdv).scope.kind == .module && (envOfC qual sc L f cdv).locals != (envOfC qual sc L f cdv).globals)) = false)
    (hs : ∀ x, foldedSetIterable iter (envOfC qual sc L f cdv) x = pure x)
    (h : T prog w A (eval iter (envOfC qual sc L f cdv)) (fun xv => T prog w A (pyIter xv) (CompOn (σ := σ) prog w A (envOfC qual sc L f cdv) elt target ifs scope cl nms (fun ys x led z' => ∀ D, ∃ ml ml' g, Upd1 L (LocP ml) (led x) g ∧ PutA y (.ref D) ml ml' ∧ Q .next z' ((D, LstP ys) :: g (LocP ml'))))) z l) :
    T prog w A (exec (.Assign [.Name y py] (.ListComp elt [⟨target, iter, ifs, 0⟩] scope pos) spos) (envOfC qual sc L f cdv)) Q z l :=
  t_CompA (env := envOfC qual sc L f cdv) nms hsw hclos hcell hkind hnames hnm hy hp h hs
end
end Mine
end
section
open PySem PySem.W PySem.Calls PyProof.Rows
set_option maxRecDepth 100000
namespace Mine
section
variable {α β : Type} {prog : Program} {w : World} {A : Around} {z : Heap} {l : Led} {s : Shared} {env : Env}
/- the law's own world -/
structure Wld where
  W : Addr
  aF : Addr
  aR : Addr
  aM : Addr
  vF : List Value
  vR : List Value
  vM : List Value
def Wld.led (prog : Program) (w : World) (o : Wld) : Led := [(o.W, DctP prog w [("firsts", .ref o.aF), ("rows", .ref o.aR), ("marks", .ref o.aM)]), (o.aF, LstP o.vF), (o.aR, LstP o.vR), (o.aM, LstP o.vM)]
def IL (z : Heap) (a : Addr) (ns : List Int) : Prop := ∃ vs, z.IsList a (vs : List Value).toArray ∧ IntsAre vs ns
theorem IL.up {z z' : Heap} {a : Addr} {ns : List Int} (h : IL z a ns) (i : z.StaysIn z') : IL z' a ns := let ⟨vs, h1, h2⟩ := h; ⟨vs, is_up h1 i, h2⟩
inductive LotsAt (z : Heap) : List Value → List (List Int) → Prop
  | nil : LotsAt z [] []
  | cons {a : Addr} {ns : List Int} {vs : List Value} {r : List (List Int)} : IL z a ns → LotsAt z vs r → LotsAt z (.ref a :: vs) (ns :: r)
theorem LotsAt.up {z z' : Heap} {vs : List Value} {r : List (List Int)} (h : LotsAt z vs r) (i : z.StaysIn z') : LotsAt z' vs r := by
  induction h with
  | nil => exact .nil
  | cons h _ ih => exact .cons (h.up i) ih
theorem LotsAt.len {vs : List Value} {r : List (List Int)} (h : LotsAt z vs r) : vs.length = r.length := by
  induction h with
  | nil => rfl
  | cons _ _ ih => simp [ih]
theorem LotsAt.get {vs : List Value} {r : List (List Int)} (h : LotsAt z vs r) : ∀ {i : Nat} {ns : List Int}, r[i]? = some ns → ∃ a, vs[i]? = some (.ref a) ∧ IL z a ns := by
  induction h with
  | nil => intro i D h; simp at h
  | @cons a ns vs r h _ ih =>
    intro i D' hD
    cases i with
    | zero => simp at hD; subst hD; exact ⟨a, rfl, h⟩
    | succ i => simpa using ih (i := i) (by simpa using hD)
theorem LotsAt.snoc {vs : List Value} {r : List (List Int)} {a : Addr} {ns : List Int} (h : LotsAt z vs r) (k : IL z a ns) : LotsAt z (vs ++ [.ref a]) (r ++ [ns]) := by
  induction h with
  | nil => exact .cons k .nil
  | cons h t ih => exact .cons h ih
abbrev Row := Int × List Int
def RowAt (z : Heap) (v : Value) (r : Row) : Prop := ∃ a t la, v = .ref a ∧ z.IsTuple a [Value.int r.1 t, .ref la].toArray ∧ IL z la r.2
theorem RowAt.up {z z' : Heap} {v : Value} {r : Row} (h : RowAt z v r) (i : z.StaysIn z') : RowAt z' v r := let ⟨a, t, la, e, h1, h2⟩ := h; ⟨a, t, la, e, tp_up h1 i, h2.up i⟩
inductive RowsAt (z : Heap) : List Value → List Row → Prop
  | nil : RowsAt z [] []
  | cons {v : Value} {r : Row} {vs : List Value} {rs : List Row} : RowAt z v r → RowsAt z vs rs → RowsAt z (v :: vs) (r :: rs)
theorem RowsAt.up {z z' : Heap} {vs : List Value} {r : List Row} (h : RowsAt z vs r) (i : z.StaysIn z') : RowsAt z' vs r := by
  induction h with
  | nil => exact .nil
  | cons h _ ih => exact .cons (h.up i) ih
theorem RowsAt.len {vs : List Value} {r : List Row} (h : RowsAt z vs r) : vs.length = r.length := by
  induction h with
  | nil => rfl
  | cons _ _ ih => simp [ih]
theorem RowsAt.at {vs : List Value} {r : List Row} (h : RowsAt z vs r) : ∀ {i : Nat} {v : Value}, vs[i]? = some v → ∃ e, r[i]? = some e ∧ RowAt z v e := by
  induction h with
  | nil => intro i v h; simp at h
  | @cons v e vs es h _ ih =>
    intro i e' hD
    cases i with
    | zero => simp at hD; subst hD; exact ⟨e, rfl, h⟩
    | succ i => simpa using ih (i := i) (by simpa using hD)
theorem RowsAt.snoc {vs : List Value} {rs : List Row} {v : Value} {r : Row} (h : RowsAt z vs rs) (k : RowAt z v r) : RowsAt z (vs ++ [v]) (rs ++ [r]) := by
  induction h with
  | nil => exact .cons k .nil
  | cons h t ih => exact .cons h ih
theorem RowsAt.take {vs : List Value} {rs : List Row} (h : RowsAt z vs rs) : ∀ n, RowsAt z (vs.take n) (rs.take n) := by
  induction h with
  | nil => intro n; simp; exact .nil
  | cons h t ih =>
    intro n
    cases n with
    | zero => exact .nil
    | succ n => exact .cons h (ih n)
structure WldOk (z : Heap) (o : Wld) (F : List (List Int)) (rows : List Row) (marks : List Nat) : Prop where
  f : LotsAt z o.vF F
  r : RowsAt z o.vR rows
  m : IntsAre o.vM (marks.map fun (n : Nat) => (n : Int))
theorem WldOk.up {z z' : Heap} {o : Wld} {F : List (List Int)} {rows : List Row} {marks : List Nat} (h : WldOk z o F rows marks) (i : z.StaysIn z') : WldOk z' o F rows marks := ⟨h.f.up i, h.r.up i, h.m⟩
end
end Mine
end
section
open PySem PySem.W PySem.Calls PyProof.Rows
set_option maxRecDepth 100000
namespace Mine
section
variable {α β : Type} {prog : Program} {w : World} {A : Around} {z : Heap} {l : Led} {s : Shared} {env : Env}
/-- the triple with a post for a raise -/
def TE {α : Type} (prog : Program) (w : World) (A : Around) (t : Sem α) (Q : Post α) (X : Post Value) (z : Heap) (l : Led) : Prop :=
  ∀ s : Shared, St w z l s.heap → wpAny (model prog w) A t (Lft w s z Q) (Lft w s z X) s
theorem T.te {t : Sem α} {Q : Post α} {X : Post Value} (h : T prog w A t Q z l) : TE prog w A t Q X z l := fun s S => noE_noted (h s S)
theorem TE.up {t : Sem α} {Q : Post α} {X : Post Value} {s₁ : Shared} {z₁ : Heap} {l₁ : Led} (h : TE prog w A t Q X z₁ l₁) (S : St w z₁ l₁ s₁.heap) (i : Sm s z s₁ z₁) :
    wpAny (model prog w) A t (Lft w s z Q) (Lft w s z X) s₁ :=
  wpAny_mono (h s₁ S) (fun _ _ ⟨z₂, l₂, i₂, S₂, q⟩ => ⟨z₂, l₂, i.trans i₂, S₂, q⟩) fun _ _ ⟨z₂, l₂, i₂, S₂, q⟩ => ⟨z₂, l₂, i.trans i₂, S₂, q⟩
theorem te_nil {Q : Post Flow} {X : Post Value} (h : Q .next z l) : TE prog w A (execs [] env) Q X z l := (t_nil h).te
def SeqE (prog : Program) (w : World) (A : Around) (rest : List Stmt) (env : Env) (Q : Post Flow) (X : Post Value) : Post Flow := fun f z l => match f with
  | .next => TE prog w A (execs rest env) Q X z l
  | f => Q f z l
theorem te_cons {st : Stmt} {rest : List Stmt} {Q : Post Flow} {X : Post Value} (h : TE prog w A (exec st env) (SeqE prog w A rest env Q X) X z l) : TE prog w A (execs (st :: rest) env) Q X z l :=
  fun s S => wpAny_execs_cons (wpAny_mono (h s S) (fun f s₁ ⟨z₁, l₁, i, S₁, p⟩ => by
    cases f with
    | next => exact TE.up p S₁ i
    | brk => exact ⟨z₁, l₁, i, S₁, p⟩
    | cont => exact ⟨z₁, l₁, i, S₁, p⟩
    | ret v => exact ⟨z₁, l₁, i, S₁, p⟩) fun _ _ e => e)
theorem te_step {st : Stmt} {rest : List Stmt} {Q : Post Flow} {X : Post Value} (h : T prog w A (exec st env) (SeqE prog w A rest env Q X) z l) : TE prog w A (execs (st :: rest) env) Q X z l := te_cons h.te
theorem te_seq {rest : List Stmt} {Q : Post Flow} {X : Post Value} (h : TE prog w A (execs rest env) Q X z l) : SeqE prog w A rest env Q X .next z l := h
theorem te_seqR {rest : List Stmt} {Q : Post Flow} {X : Post Value} {v : Value} (h : Q (.ret v) z l) : SeqE prog w A rest env Q X (.ret v) z l := h
theorem TE.drop {t : Sem α} {Q : Post α} {X : Post Value} {l' : Led} (k : l'.Sublist l) (h : TE prog w A t Q X z l') : TE prog w A t Q X z l := fun s S => h s (S.sub k)
theorem TE.perm {t : Sem α} {Q : Post α} {X : Post Value} {l' : Led} (k : l.Perm l') (h : TE prog w A t Q X z l') : TE prog w A t Q X z l := fun s S => h s (S.perm k)
/-- an expression without a raise, then a tree with one -/
theorem TE.bindT {m : Sem α} {f : α → Sem β} {Q : Post β} {X : Post Value} (h : T prog w A m (fun a => TE prog w A (f a) Q X) z l) : TE prog w A (m >>= f) Q X z l :=
  fun s S => wpAny_bind (noE_noted (h.nest S fun _ _ _ _ i S₁ h₁ => by
    exact (h₁.up S₁ i : wpAny _ _ _ _ _ _) |> fun q => by first | exact q | exact noE_noted q))
end
end Mine
end
section
open PySem PySem.W PySem.Calls PyProof.Rows
set_option maxRecDepth 100000
namespace Mine
section
variable {α β : Type} {prog : Program} {w : World} {A : Around} {z : Heap} {l : Led} {s : Shared} {env : Env}
/- the frames on the stack: their names' objects stand in the ledger -/
noncomputable def FrmL : List Env → Led → Prop
  | [], _ => True
  | env :: r, l => env.scope.kind ≠ .module ∧ (∃ L ml, env.frame = some L ∧ (L, LocP ml) ∈ l) ∧ FrmL r l
def Frm (A : Around) (l : Led) : Prop := ∃ outer, A.frames = some outer ∧ FrmL outer l
theorem FrmL.mono {l l' : Led} (k : ∀ p ∈ l, p ∈ l') : ∀ {r : List Env}, FrmL r l → FrmL r l'
  | [], _ => trivial
  | env :: r, ⟨h1, ⟨L, ml, h2, h3⟩, h4⟩ => ⟨h1, ⟨L, ml, h2, k _ h3⟩, FrmL.mono k h4⟩
theorem Frm.deeper {env : Env} {L : Addr} {ml : Nms} {l' : Led} (h : Frm A l) (hk : env.scope.kind ≠ .module) (hf : env.frame = some L) (hm : (L, LocP ml) ∈ l') (k : ∀ p ∈ l, p ∈ l') : Frm (A.deeper env) l' := by
  obtain ⟨outer, h1, h2⟩ := h
  exact ⟨env :: outer, Around.frames_deeper h1, hk, ⟨L, ml, hf, hm⟩, h2.mono k⟩
theorem Frm.nil (h : A.frames = some []) : Frm A [] := ⟨[], h, trivial⟩
end
end Mine
end
open PySem PySem.W PySem.Calls PyProof.Rows
local macro_rules | `(tactic| wtm_at "M_mm") => `(tactic| (with_reducible (repeat (first | exact List.mem_cons_self | apply List.mem_cons_of_mem)); done))
local macro_rules | `(tactic| wtm_at "M_up") => `(tactic| (with_reducible (repeat (first | exact Mine.Upd1.head | apply Mine.Upd1.tail)); done))
local macro_rules | `(tactic| wtm_at "M_pu") => `(tactic| (with_reducible (repeat (first | exact Mine.PutA.head | apply Mine.PutA.tail)); done))
local macro_rules | `(tactic| wtm_at "M_pk") => `(tactic| (with_reducible (repeat (first | exact Mine.PutK.head | apply Mine.PutK.tail)); done))
local macro_rules | `(tactic| wtm_at "M_pc") => `(tactic| (with_reducible (repeat (first | exact Mine.Pick.head | apply Mine.Pick.tail)); done))
local macro_rules | `(tactic| wtm_at "M_take") => `(tactic| ((try simp only [Mine.Sto.led, Mine.Wld.led, List.cons_append, List.nil_append]); wtm_at "M_tk"))
local macro_rules | `(tactic| wtm_at "M_sk") => `(tactic| ((repeat (first | (with_reducible exact Mine.SetK.nil) | (with_reducible exact Mine.SetK.head) | ((with_reducible apply Mine.SetK.tail); (all_goals (try decide))))); done))
local macro_rules | `(tactic| wtm_at "M_tk") => `(tactic| first | with_reducible exact Mine.Takes.nil | (with_reducible refine' Mine.Takes.cons ?a ?b; (case a => wtm_at "M_pc"); (case b => wtm_at "M_tk")))
local macro_rules | `(tactic| wtm_at "M_su") => `(tactic| (with_reducible (repeat (first | exact Mine.sub_refl | exact Mine.sub_nil | apply Mine.sub_same | apply Mine.sub_skip)); done))
local macro_rules | `(tactic| wtm_at "M_sub") => `(tactic| first | exact Mine.sub_refl | ((try simp only [Mine.Sto.led, Mine.Wld.led, List.cons_append, List.nil_append]); wtm_at "M_su"))
local macro_rules | `(tactic| wtm_at "M_rf") => `(tactic| with_unfolding_all rfl)
local macro_rules | `(tactic| wtm_at "M_ss") => `(tactic| with_reducible first
  | refine Mine.t_seq ?_
  | refine Mine.t_seqR ?_
  | (show Mine.T _ _ _ (eval (Expr.Name _ _) _) _ _ _; first
    | refine Mine.n_L1 (by with_unfolding_all rfl) (by with_unfolding_all rfl) (by decide) (by wtm_at "M_mm") (by wtm_at "M_mm") ?_
    | refine Mine.n_G (by with_unfolding_all rfl) (by with_unfolding_all rfl) (by with_unfolding_all rfl) (by decide) (by k_is) ?_
    | refine Mine.n_B (by with_unfolding_all rfl) (by with_unfolding_all rfl) (by with_unfolding_all rfl) (by with_unfolding_all rfl) (by decide) (by decide) (by k_is) (by boot_by_name) ?_
    | refine Mine.n_L2 (by with_unfolding_all rfl) (by with_unfolding_all rfl) (by decide) (by wtm_at "M_mm") (by wtm_at "M_mm") ?_
    | refine Mine.n_C (by with_unfolding_all rfl) (by with_unfolding_all rfl) (by decide) (by with_unfolding_all rfl) (by wtm_at "M_mm") ?_
    | refine Mine.n_F (by with_unfolding_all rfl) (by with_unfolding_all rfl) (by decide) (by decide) (by with_unfolding_all rfl) (by wtm_at "M_mm") ?_)
  | (show Mine.T _ _ _ (eval _ _) _ _ _; first
    | (refine Mine.t_int ?_; intro _)
    | (refine Mine.t_str ?_; intro _)
    | (refine Mine.t_unneg ?_; intro _)
    | refine Mine.t_Attr ?_ (by with_unfolding_all rfl)
    | refine Mine.t_Sub ?_
    | refine Mine.t_CallM ?_ (by with_unfolding_all rfl)
    | refine Mine.t_Call ?_ (by with_unfolding_all rfl)
    | refine Mine.t_TupleF ?_
    | refine Mine.t_BinOp ?_
    | refine Mine.t_Cmp ?_ (by with_unfolding_all rfl)
    | refine Mine.t_bool ?_
    | refine Mine.t_none ?_
    | refine Mine.t_IfExp ?_
    | refine Mine.t_List ?_
    | (refine Mine.t_Dict0 ?_; intro _)
    | refine Mine.t_UnOp ?_
    | refine Mine.t_Slice ?_)
  | (show Mine.T _ _ _ (execs _ _) _ _ _; first
    | refine Mine.t_cons ?_
    | refine Mine.t_nil ?_)
  | (show Mine.T _ _ _ (exec _ _) _ _ _; first
    | refine Mine.t_AssignName ?_ (by with_unfolding_all rfl)
    | refine Mine.t_ExprS ?_ (by with_unfolding_all rfl) (by with_unfolding_all rfl)
    | refine Mine.t_If ?_
    | refine Mine.t_Ret ?_
    | refine Mine.t_RetN ?_
    | refine Mine.t_AssignSub ?_ (by with_unfolding_all rfl)
    | refine Mine.t_AssignAttr ?_ (by with_unfolding_all rfl)
    | refine Mine.t_swap2 (by with_unfolding_all assumption) (by with_unfolding_all rfl) (by with_unfolding_all rfl) ?_
    | refine Mine.t_swap3 (by with_unfolding_all assumption) (by with_unfolding_all rfl) (by with_unfolding_all rfl) ?_
    | refine Mine.t_AssignTuple ?_ (by with_unfolding_all rfl) (by with_unfolding_all rfl))
  | (show Mine.T _ _ _ (spliced _) _ _ _; first
    | refine Mine.t_spl0 ?_
    | refine Mine.t_spl1 ?_ (by with_unfolding_all rfl))
  | (show Mine.T _ _ _ (callWith _ _ _ _ _) _ _ _; first
    | refine Mine.t_cB ?_ (by with_unfolding_all rfl) (by with_unfolding_all rfl)
    | refine Mine.t_cB1 ?_ (by with_unfolding_all rfl) (by with_unfolding_all rfl)
    | refine Mine.t_cwT ?_ (by with_unfolding_all rfl) (by with_unfolding_all rfl)
    | refine Mine.t_cwB0 ?_
    | refine Mine.t_cK (by k_is) ?_ (by with_unfolding_all rfl) (by with_unfolding_all rfl)
    | refine Mine.t_cK1 (by k_is) ?_ (by with_unfolding_all rfl) (by with_unfolding_all rfl)
    | refine Mine.t_cK0 (by k_is) ?_
    | refine Mine.t_cK01 (by k_is) ?_)
  | (show Mine.T _ _ _ (storeName _ _ _) _ _ _; first
    | refine Mine.s_L1 (by with_unfolding_all rfl) (by with_unfolding_all rfl) (by wtm_at "M_up") (by wtm_at "M_pu") ?_
    | refine Mine.s_L2 (by with_unfolding_all rfl) (by with_unfolding_all rfl) (by wtm_at "M_up") (by wtm_at "M_pu") ?_
    | refine Mine.s_C (by with_unfolding_all rfl) (by with_unfolding_all rfl) (by with_unfolding_all rfl) (by wtm_at "M_up") ?_)
  | (show Mine.T _ _ _ (isTrue _ _ _) _ _ _; first
    | refine Mine.t_testCmp ?_ (by with_unfolding_all rfl)
    | refine Mine.t_testAnd ?_
    | refine Mine.t_testOr ?_
    | refine Mine.t_testNot ?_
    | refine Mine.t_testVal ?_ (by with_unfolding_all rfl))
  | (show Mine.T _ _ _ (truthy _) _ _ _; first
    | refine Mine.t_truthy ?_)
  | (show Mine.T _ _ _ (binaryOp _ _ _) _ _ _; first
    | (refine Mine.t_add ?_; intro _)
    | (refine Mine.t_sub ?_; intro _))
  | (show Mine.T _ _ _ (unaryOp _ _) _ _ _; first
    | (refine Mine.t_neg ?_; intro _))
  | (show Mine.T _ _ _ (compareOp _ _ _) _ _ _; first
    | refine Mine.t_lt ?_
    | refine Mine.t_le ?_
    | refine Mine.t_gt ?_
    | refine Mine.t_ge ?_
    | refine Mine.t_eq ?_
    | refine Mine.t_ne ?_
    | refine Mine.t_eqS ?_
    | refine Mine.t_neS ?_
    | refine Mine.t_eqB ?_
    | refine Mine.t_neB ?_
    | refine Mine.t_isNone ?_)
  | (show Mine.T _ _ _ (subscriptTail _ _ _ _) _ _ _; first
    | refine Mine.t_itemF (by assumption) (by decide) (by decide) (by with_unfolding_all rfl) ?_ (by with_unfolding_all rfl)
    | refine Mine.t_dictGet (Mine.At.own (by wtm_at "M_mm")) (by wtm_at "M_mm") ?_ (by with_unfolding_all rfl))
  | (show Mine.T _ _ _ (getAttr _ _ _) _ _ _; first
    | refine Mine.t_getAttr (Mine.At.own (by wtm_at "M_mm")) (Mine.At.own (by wtm_at "M_mm")) (by k_is) (by k_is) (by k_is) (by k_is) (by wtm_at "M_mm") (by with_unfolding_all rfl) ?_)
  | (show Mine.T _ _ _ (getMethod _ _ _) _ _ _; first
    | refine Mine.t_methL (by wtm_at "M_mm") PySem.F.slot_list_append PySem.F.type_list_append ?_
    | refine Mine.t_methL (by wtm_at "M_mm") PySem.F.slot_list_pop PySem.F.type_list_pop ?_
    | refine Mine.t_meth (Mine.At.own (by wtm_at "M_mm")) (Mine.At.own (by wtm_at "M_mm")) (by k_is) (by k_is) (by k_is) (by with_unfolding_all rfl) ?_)
  | (show Mine.T _ _ _ (setAttr _ _ _) _ _ _; first
    | refine Mine.t_setAttrK (Mine.At.own (by wtm_at "M_mm")) (by wtm_at "M_up") (by wtm_at "M_sk") (by wtm_at "M_nat") (by k_is) (by k_is) (by k_is) (by k_is) ?_)
  | (show Mine.T _ _ _ (setItem _ _ _) _ _ _; first
    | refine Mine.t_dictSetK (by wtm_at "M_up") (by wtm_at "M_pk") (by wtm_at "M_nat") ?_)
  | (show Mine.T _ _ _ (call _ _) _ _ _; first
    | (refine Mine.t_max (by with_unfolding_all assumption) ?_; intro _)
    | (refine Mine.t_min (by with_unfolding_all assumption) ?_; intro _))
  | (show Mine.T _ _ _ (assign _ _ _) _ _ _; first
    | refine Mine.t_assignName ?_
    | refine Mine.t_assign2 (by with_unfolding_all assumption) (by assumption) ?_
    | refine Mine.t_assign3 (by with_unfolding_all assumption) (by assumption) ?_)
  | (show Mine.T _ _ _ (bindName _ _ _) _ _ _; first
    | refine Mine.t_bindName ?_)
  | (show Mine.T _ _ _ (evalPart _ _) _ _ _; first
    | refine Mine.t_part0 ?_
    | refine Mine.t_part1 ?_)
  | (show Mine.T _ _ _ (evalPairs _) _ _ _; first
    | refine Mine.t_pair1 ?_
    | refine Mine.t_pair0 ?_))
local macro_rules | `(tactic| wtm_at "M_sz") => `(tactic| (rw [sizeLine_eq]; exact Nat.le_of_ble_eq_true rfl))
local macro_rules | `(tactic| wtm_at "M_nd") => `(tactic| first | decide | (dsimp only [List.map]; decide) | (simp only [List.map]; decide))
local macro_rules | `(tactic| wtm_at "M_go") => `(tactic| repeat wtm_at "M_ss")
local macro_rules | `(tactic| wtm_at "M_nat") => `(tactic| exact Nat.le_of_ble_eq_true rfl)
namespace Mine
theorem fill : Mine.hd.heap_39 = Mine.hd.heap_39 ∧ PySem.Challenge.rw_nz0017_01 = PySem.Challenge.rw_nz0017_01 := by
  k_fill
  exact ⟨rfl, rfl⟩
end Mine
section
open PySem PySem.W PySem.Calls PyProof.Rows
set_option maxRecDepth 100000
set_option maxHeartbeats 8000000
namespace Mine
section
variable {α β : Type} {prog : Program} {w : World} {A : Around} {z : Heap} {l : Led} {s : Shared} {env : Env}
theorem up_to_ok {D : List (Int × Int)} {a : Addr} {k : Int} {t : Tok} {Q : Post Value} (R : Rm 2 A) (hD : DomAt z a D) (hn : D.length ≤ 1000)
    (h : ∀ c z', z.StaysIn z' → DomAt z' c (upToL k D) → Q (.ref c) z' l) : T prog w A (call (.ref 68) [.ref a, .int k t]) Q z l := by
  refine t_def [(("d" : Str), some (.ref a))] (fun L => [(L + 1, CelP (some (.int k t)))]) (by k_is) (by k_is) R.room (by rfl) (by rfl) (by decide) (by wtm_at "M_nd") (by exact ⟨rfl, trivial⟩) (fun L => by rfl) (fun L => ?_) (by rfl) (by rfl) (by rfl)
  have hh := R.hh
  have R : ∀ env, Rm 1 (A.deeper env) := fun _ => R.deeper
  simp only [List.cons_append, List.nil_append]
  wtm_at "M_ss"
  wtm_at "M_ss"
  wtm_at "M_ss"
  wtm_at "M_ss"
  wtm_at "M_ss"
  wtm_at "M_ss"
  obtain ⟨vs, hT, hP⟩ := hD
  refine t_Comp (σ := Unit) [("low" : Str), ("high" : Str)] (by rfl) (by decide) (by rfl) (by decide) (by decide) ?_ (by intro _; rfl)
  wtm_at "M_ss"
  refine t_iterT (TpAt.fz hT) fun I => ?_
  refine CompOn.intro (fun _ => _) (fun i _ ys z' => PairsAt z' ys (upToL k (D.take i))) () (steps_tuple (R _).hh (by rfl)) (by rw [hP.len]; omega) .nil rfl (fun i x ys z' f C D i' _ => TpAt.fz (tp_up hT i')) ?_ ?_ ?_
  · intro C Dx i x ys z₁ z₂ v f hi i1 i2 hok hv
    obtain ⟨a', p, t1, t2, rfl, hp, ht⟩ := hP.get hv
    have ht := tp_up ht (fun _ _ e => i2 _ _ (i1 _ _ e))
    have hok := hok.up i2
    have htk := take_snoc hp
    dsimp only [nmsOf, List.map, List.cons_append, List.nil_append]
    refine t_assign2 (R _).hh ht ?_
    wtm_at "M_go"
    refine t_tst1 ?_
    wtm_at "M_go"
    refine and_p (fun hle => ?_) (fun hle => ?_)
    · wtm_at "M_go"
      refine ⟨by wtm_at "M_nat", fun c z' i' hc => ?_⟩
      refine ⟨(), _, (by wtm_at "M_sub"), by rfl, ?_⟩
      rw [htk, upToL_snoc hle]
      exact (hok.up i').append (.cons hc .nil)
    · refine ⟨(), _, (by wtm_at "M_sub"), by rfl, ?_⟩
      rw [htk, upToL_skip hle]
      exact hok
  · intro i x ys z' hok
    rw [hok.len]
    exact Nat.le_trans (upToL_len _ _) (by rw [List.length_take]; omega)
  · intro x ys z' i' hok Dx
    rw [hP.len, List.take_length] at hok
    wtm_at "M_go"
    refine t_tupLF (LsAt.own (by wtm_at "M_mm")) (by have := upToL_len k D; rw [hok.len]; omega) fun c z'' i'' hc => ?_
    wtm_at "M_go"
    refine RetQ.ret (l' := l) (by wtm_at "M_sub") (h c z'' (fun _ _ e => i'' _ _ (i' _ _ e)) ⟨ys, hc, hok.up i''⟩)
end
end Mine
end
section
open PySem PySem.W PySem.Calls PyProof.Rows
set_option maxRecDepth 100000
set_option maxHeartbeats 8000000
namespace Mine
section
variable {α β : Type} {prog : Program} {w : World} {A : Around} {z : Heap} {l : Led} {s : Shared} {env : Env}
theorem from_on_ok {D : List (Int × Int)} {a : Addr} {k : Int} {t : Tok} {Q : Post Value} (R : Rm 2 A) (hD : DomAt z a D) (hn : D.length ≤ 1000)
    (h : ∀ c z', z.StaysIn z' → DomAt z' c (fromOnL k D) → Q (.ref c) z' l) : T prog w A (call (.ref 73) [.ref a, .int k t]) Q z l := by
  refine t_def [(("d" : Str), some (.ref a))] (fun L => [(L + 1, CelP (some (.int k t)))]) (by k_is) (by k_is) R.room (by rfl) (by rfl) (by decide) (by wtm_at "M_nd") (by exact ⟨rfl, trivial⟩) (fun L => by rfl) (fun L => ?_) (by rfl) (by rfl) (by rfl)
  have hh := R.hh
  have R : ∀ env, Rm 1 (A.deeper env) := fun _ => R.deeper
  simp only [List.cons_append, List.nil_append]
  wtm_at "M_ss"
  wtm_at "M_ss"
  wtm_at "M_ss"
  wtm_at "M_ss"
  wtm_at "M_ss"
  wtm_at "M_ss"
  obtain ⟨vs, hT, hP⟩ := hD
  refine t_Comp (σ := Unit) [("low" : Str), ("high" : Str)] (by rfl) (by decide) (by rfl) (by decide) (by decide) ?_ (by intro _; rfl)
  wtm_at "M_ss"
  refine t_iterT (TpAt.fz hT) fun I => ?_
  refine CompOn.intro (fun _ => _) (fun i _ ys z' => PairsAt z' ys (fromOnL k (D.take i))) () (steps_tuple (R _).hh (by rfl)) (by rw [hP.len]; omega) .nil rfl (fun i x ys z' f C D i' _ => TpAt.fz (tp_up hT i')) ?_ ?_ ?_
  · intro C Dx i x ys z₁ z₂ v f hi i1 i2 hok hv
    obtain ⟨a', p, t1, t2, rfl, hp, ht⟩ := hP.get hv
    have ht := tp_up ht (fun _ _ e => i2 _ _ (i1 _ _ e))
    have hok := hok.up i2
    have htk := take_snoc hp
    dsimp only [nmsOf, List.map, List.cons_append, List.nil_append]
    refine t_assign2 (R _).hh ht ?_
    wtm_at "M_go"
    refine t_tst1 ?_
    wtm_at "M_go"
    refine and_p (fun hle => ?_) (fun hle => ?_)
    · wtm_at "M_go"
      refine ⟨by wtm_at "M_nat", fun c z' i' hc => ?_⟩
      refine ⟨(), _, (by wtm_at "M_sub"), by rfl, ?_⟩
      rw [htk, fromOnL_snoc hle]
      exact (hok.up i').append (.cons hc .nil)
    · refine ⟨(), _, (by wtm_at "M_sub"), by rfl, ?_⟩
      rw [htk, fromOnL_skip hle]
      exact hok
  · intro i x ys z' hok
    rw [hok.len]
    exact Nat.le_trans (fromOnL_len _ _) (by rw [List.length_take]; omega)
  · intro x ys z' i' hok Dx
    rw [hP.len, List.take_length] at hok
    wtm_at "M_go"
    refine t_tupLF (LsAt.own (by wtm_at "M_mm")) (by have := fromOnL_len k D; rw [hok.len]; omega) fun c z'' i'' hc => ?_
    wtm_at "M_go"
    refine RetQ.ret (l' := l) (by wtm_at "M_sub") (h c z'' (fun _ _ e => i'' _ _ (i' _ _ e)) ⟨ys, hc, hok.up i''⟩)

theorem without_ok {D : List (Int × Int)} {a : Addr} {k : Int} {t : Tok} {Q : Post Value} (R : Rm 3 A) (hD : DomAt z a D) (hn : D.length ≤ 1000)
    (h : ∀ c z', z.StaysIn z' → DomAt z' c (withoutL k D) → Q (.ref c) z' l) : T prog w A (call (.ref 80) [.ref a, .int k t]) Q z l := by
  refine t_def [(("d" : Str), some (.ref a)), (("v" : Str), some (.int k t))] (fun L => []) (by k_is) (by k_is) R.room (by rfl) (by rfl) (by decide) (by wtm_at "M_nd") (by exact ⟨rfl, rfl, trivial⟩) (fun L => by rfl) (fun L => ?_) (by rfl) (by rfl) (by rfl)
  have hh := R.hh
  have R : ∀ env, Rm 2 (A.deeper env) := fun _ => R.deeper
  simp only [List.cons_append, List.nil_append]
  wtm_at "M_go"
  refine up_to_ok (R _) hD hn fun c1 z1 i1 h1 => ?_
  wtm_at "M_go"
  refine from_on_ok (R _) (hD.up i1) hn fun c2 z2 i2 h2 => ?_
  obtain ⟨v1, t1, p1⟩ := h1.up i2
  obtain ⟨v2, t2, p2⟩ := h2
  have e1 := upToL_len (k - 1) D
  have e2 := fromOnL_len (k + 1) D
  refine t_addTF (TpAt.fz t1) (TpAt.fz t2) t1 t2 (by rw [p1.len, p2.len]; omega) fun c z3 i3 h3 => ?_
  wtm_at "M_go"
  exact RetQ.ret (l' := l) (by wtm_at "M_sub") (h c z3 (fun _ _ e => i3 _ _ (i2 _ _ (i1 _ _ e))) ⟨_, h3, (p1.up i3).append (p2.up i3)⟩)
end
end Mine
end
section
open PySem PySem.W PySem.Calls PyProof.Rows
set_option maxRecDepth 100000
set_option maxHeartbeats 8000000
namespace Mine
section
variable {α β : Type} {prog : Program} {w : World} {A : Around} {z : Heap} {l : Led} {s : Shared} {env : Env}

theorem meetL_drop_none {k : Int} {D : List (Int × Int)} {i : Nat} (h : D.length ≤ i) : meetL k (D.drop i) = [] := by
  rw [List.drop_eq_nil_of_le h]; rfl
theorem meetL_drop_some {k : Int} {D : List (Int × Int)} {i : Nat} {p : Int × Int} (h : D[i]? = some p) :
    meetL k (D.drop i) = (if max p.1 k ≤ min p.2 k then [(max p.1 k, min p.2 k)] else []) ++ (if p.2 < k then meetL k (D.drop (i + 1)) else []) := by
  obtain ⟨hi, rfl⟩ := List.getElem?_eq_some_iff.mp h
  rw [List.drop_eq_getElem_cons hi, meetL]
structure MeetS where
  i : Nat
  j : Nat
  ti : Tok
  tj : Tok
  acc : List Value
  lo : Option Value
  hi : Option Value
theorem meet_ok {D : List (Int × Int)} {a b : Addr} {k : Int} {Q : Post Value} (R : Rm 1 A) (hD : DomAt z a D) (hE : DomAt z b [(k, k)]) (hn : D.length ≤ 1000)
    (h : ∀ c z', z.StaysIn z' → DomAt z' c (meetL k D) → Q (.ref c) z' l) : T prog w A (call (.ref 87) [.ref a, .ref b]) Q z l := by
  refine t_def [(("d" : Str), some (.ref a)), (("e" : Str), some (.ref b)), (("found" : Str), none), (("i" : Str), none), (("j" : Str), none), (("low" : Str), none), (("high" : Str), none)] (fun L => []) (by k_is) (by k_is) R.room (by rfl) (by rfl) (by decide) (by wtm_at "M_nd") (by exact ⟨rfl, rfl, rfl, rfl, rfl, rfl, rfl, trivial⟩) (fun L => by rfl) (fun L => ?_) (by rfl) (by rfl) (by rfl)
  have hh := R.hh
  have R : ∀ env, Rm 0 (A.deeper env) := fun _ => R.deeper
  simp only [List.cons_append, List.nil_append]

  obtain ⟨vs, hT, hP⟩ := hD
  obtain ⟨es, hET, hEP⟩ := hE
  wtm_at "M_ss"
  wtm_at "M_go"
  refine ⟨by wtm_at "M_sz", fun F => ?_⟩
  wtm_at "M_go"
  refine ⟨by wtm_at "M_nat", fun c0 z0 i0 h0 => ?_⟩
  refine ⟨c0, _, _, _, rfl, h0, ?_⟩
  wtm_at "M_go"
  refine t_While (σ := MeetS) (fun x => (F, LstP x.acc) :: (L, LocP [(("d" : Str), some (.ref a)), (("e" : Str), some (.ref b)), (("found" : Str), some (.ref F)), (("i" : Str), some (.int x.i x.ti)), (("j" : Str), some (.int x.j x.tj)), (("low" : Str), x.lo), (("high" : Str), x.hi)]) :: l)
    (fun x z' => x.j ≤ 1 ∧ x.i ≤ D.length ∧ x.acc.length ≤ x.i + x.j ∧ ∃ out, PairsAt z' x.acc out ∧ out ++ (if x.j = 0 then meetL k (D.drop x.i) else []) = meetL k D) (fun x => (D.length - x.i) + (1 - x.j))
    ⟨0, 0, _, _, [], none, none⟩ ⟨Nat.zero_le _, Nat.zero_le _, Nat.le_refl _, [], .nil, rfl⟩ (by rfl) ?_
  rintro ⟨i, j, ti, tj, acc, lo, hi⟩ z1 i1 ⟨hj, hi', hac, out, hout, heq⟩
  dsimp only at hj hi' hac hout heq ⊢
  have hT := tp_up hT (fun _ _ e => i1 _ _ (i0 _ _ e))
  have hP := hP.up (fun _ _ e => i1 _ _ (i0 _ _ e))
  have hET := tp_up hET (fun _ _ e => i1 _ _ (i0 _ _ e))
  have hEP := hEP.up (fun _ _ e => i1 _ _ (i0 _ _ e))
  have hl := hP.len
  have hel := hEP.len
  wtm_at "M_go"
  refine t_lenT (TpAt.fz hT) (by omega) fun t1 => ?_
  wtm_at "M_go"
  refine br_p (fun h1 => ?_) (fun h1 => ?_)
  rotate_left
  · refine br_f ⟨_, sub_refl, ?_⟩
    wtm_at "M_go"
    rw [meetL_drop_none (by omega)] at heq
    refine t_tupLF (LsAt.own (by wtm_at "M_mm")) (by omega) fun c z'' i'' hc => ?_
    wtm_at "M_go"
    exact RetQ.ret (l' := l) (by wtm_at "M_sub") (h c z'' (fun _ _ e => i'' _ _ (i1 _ _ (i0 _ _ e))) ⟨acc, hc, by rw [← heq]; simpa using hout.up i''⟩)
  wtm_at "M_go"
  refine t_lenT (TpAt.fz hET) (by rw [hel]; exact Nat.le_of_ble_eq_true rfl) fun t2 => ?_
  wtm_at "M_go"
  refine br_p (fun h2 => ?_) (fun h2 => ?_)
  rotate_left
  · refine ⟨_, sub_refl, ?_⟩
    wtm_at "M_go"
    have hj1 : j = 1 := by rw [hel] at h2; simp at h2; omega
    subst hj1
    refine t_tupLF (LsAt.own (by wtm_at "M_mm")) (by omega) fun c z'' i'' hc => ?_
    wtm_at "M_go"
    exact RetQ.ret (l' := l) (by wtm_at "M_sub") (h c z'' (fun _ _ e => i'' _ _ (i1 _ _ (i0 _ _ e))) ⟨acc, hc, by rw [← heq]; simpa using hout.up i''⟩)
  have hj0 : j = 0 := by rw [hel] at h2; simp at h2; omega
  subst hj0
  rw [if_pos rfl] at heq
  have hiv : i < vs.length := by omega
  obtain ⟨p', hp'⟩ : ∃ p', vs[i]? = some p' := ⟨_, List.getElem?_eq_getElem hiv⟩
  obtain ⟨pa, p, pt, pu, rfl, hpD, hpt⟩ := hP.get hp'
  rw [meetL_drop_some hpD] at heq
  cases hEP with
  | @cons ea _ et eu _ _ het hnil =>
  cases hnil
  wtm_at "M_go"
  refine t_itemF hT (by omega) (by omega) (by simpa using hp') ?_ (by with_unfolding_all rfl)
  wtm_at "M_go"
  refine t_itemF hT (by omega) (by omega) (by simpa using hp') ?_ (by with_unfolding_all rfl)
  wtm_at "M_go"
  refine ⟨by wtm_at "M_nat", fun c2 z2 i2 h2 => ⟨c2, _, _, rfl, h2, ?_⟩⟩
  wtm_at "M_go"
  dsimp only
  refine br_cut (fun z' l' => ∃ acc' lo' hi', l' = (F, LstP acc') :: (L, LocP [(("d" : Str), some (.ref a)), (("e" : Str), some (.ref b)), (("found" : Str), some (.ref F)), (("i" : Str), some (.int i ti)), (("j" : Str), some (.int (0 : Nat) tj)), (("low" : Str), lo'), (("high" : Str), hi')]) :: l ∧
    acc'.length ≤ i + 1 ∧ PairsAt z' acc' (out ++ (if max p.1 k ≤ min p.2 k then [(max p.1 k, min p.2 k)] else []))) (fun hle => ?_) (fun hle => ?_) ?_
  · wtm_at "M_go"
    refine ⟨by wtm_at "M_nat", fun c3 z3 i3 h3 => ?_⟩
    wtm_at "M_go"
    refine t_append (by wtm_at "M_up") (by omega) ?_
    wtm_at "M_go"
    refine ⟨rfl, _, _, _, rfl, by simp; omega, ?_⟩
    rw [if_pos hle]
    exact (hout.up (fun _ _ e => i3 _ _ (i2 _ _ e))).append (.cons h3 .nil)
  · wtm_at "M_go"
    refine ⟨rfl, _, _, _, rfl, by omega, ?_⟩
    rw [if_neg hle]
    simpa using hout.up i2
  rintro z3 _ i3 ⟨acc', lo', hi'', rfl, hac', hout'⟩
  have hT := tp_up hT (fun _ _ e => i3 _ _ (i2 _ _ e))
  have hpt := tp_up hpt (fun _ _ e => i3 _ _ (i2 _ _ e))
  have hET := tp_up hET (fun _ _ e => i3 _ _ (i2 _ _ e))
  have het := tp_up het (fun _ _ e => i3 _ _ (i2 _ _ e))
  wtm_at "M_go"
  refine t_itemF hT (by omega) (by omega) (by simpa using hp') ?_ (by with_unfolding_all rfl)
  wtm_at "M_go"
  dsimp only
  refine br_p (fun hlt => ?_) (fun hlt => ?_)
  · wtm_at "M_go"
    rw [if_pos hlt, ← List.append_assoc] at heq
    exact ⟨⟨i + 1, 0, _, tj, acc', lo', hi''⟩, sub_refl, by dsimp only; omega, by dsimp only; omega, by dsimp only; omega, by dsimp only; omega, _, hout', by simpa using heq⟩
  · wtm_at "M_go"
    rw [if_neg hlt, List.append_nil] at heq
    exact ⟨⟨i, 1, ti, _, acc', lo', hi''⟩, sub_refl, by dsimp only; omega, by dsimp only; omega, by dsimp only; omega, by dsimp only; omega, _, hout', by simpa using heq⟩
end
end Mine
end
section
open PySem PySem.W PySem.Calls PyProof.Rows
set_option maxRecDepth 100000
set_option maxHeartbeats 8000000
namespace Mine
section
variable {α β : Type} {prog : Program} {w : World} {A : Around} {z : Heap} {l : Led} {s : Shared} {env : Env}

theorem negation_ok {b : Addr} {x k : Int} {sg : Str} {Q : Post Value} (R : Rm 1 A) (hl : LitAt z b x sg k) (h : ∀ c z', z.StaysIn z' → Q (.ref c) z' l) : T prog w A (call (.ref 94) [.ref b]) Q z l := by
  refine t_def [(("literal" : Str), some (.ref b)), (("x" : Str), none), (("sign" : Str), none), (("k" : Str), none)] (fun L => []) (by k_is) (by k_is) R.room (by rfl) (by rfl) (by decide) (by wtm_at "M_nd") (by exact ⟨rfl, rfl, rfl, rfl, trivial⟩) (fun L => by rfl) (fun L => ?_) (by rfl) (by rfl) (by rfl)
  have hh := R.hh
  have R : ∀ env, Rm 0 (A.deeper env) := fun _ => R.deeper
  simp only [List.cons_append, List.nil_append]

  obtain ⟨t1, t2, t3, hl⟩ := hl
  wtm_at "M_go"
  refine br_s (fun h1 => ?_) (fun h1 => ?_)
  · wtm_at "M_go"
    refine ⟨by wtm_at "M_nat", fun c z1 i1 _ => ?_⟩
    wtm_at "M_go"
    exact RetQ.ret (l' := l) (by wtm_at "M_sub") (h c z1 i1)
  wtm_at "M_go"
  refine br_s (fun h2 => ?_) (fun h2 => ?_)
  · wtm_at "M_go"
    refine ⟨by wtm_at "M_nat", fun c z1 i1 _ => ?_⟩
    wtm_at "M_go"
    exact RetQ.ret (l' := l) (by wtm_at "M_sub") (h c z1 i1)
  wtm_at "M_go"
  refine br_s (fun h3 => ?_) (fun h3 => ?_)
  all_goals
    wtm_at "M_go"
    refine ⟨by wtm_at "M_nat", fun c z1 i1 _ => ?_⟩
    wtm_at "M_go"
    exact RetQ.ret (l' := l) (by wtm_at "M_sub") (h c z1 i1)

theorem struck_ok {D : List (Int × Int)} {a b : Addr} {x k : Int} {sg : Str} {Q : Post Value} (R : Rm 4 A) (hl : LitAt z b x sg k) (hD : DomAt z a D) (hn : D.length ≤ 1000)
    (h : ∀ c z', z.StaysIn z' → DomAt z' c (struckL sg k D) → Q (.ref c) z' l) : T prog w A (call (.ref 101) [.ref b, .ref a]) Q z l := by
  refine t_def [(("literal" : Str), some (.ref b)), (("d" : Str), some (.ref a)), (("sign" : Str), none), (("k" : Str), none)] (fun L => []) (by k_is) (by k_is) R.room (by rfl) (by rfl) (by decide) (by wtm_at "M_nd") (by exact ⟨rfl, rfl, rfl, rfl, trivial⟩) (fun L => by rfl) (fun L => ?_) (by rfl) (by rfl) (by rfl)
  have hh := R.hh
  have R : ∀ env, Rm 3 (A.deeper env) := fun _ => R.deeper
  simp only [List.cons_append, List.nil_append]

  obtain ⟨t1, t2, t3, hl⟩ := hl
  wtm_at "M_go"
  refine ⟨by wtm_at "M_nat", fun c0 z0 i0 h0 => ⟨c0, _, _, rfl, h0, ?_⟩⟩
  have hD := hD.up i0
  have h : ∀ c z', z0.StaysIn z' → DomAt z' c (struckL sg k D) → Q (.ref c) z' l := fun c z' i => h c z' fun _ _ e => i _ _ (i0 _ _ e)
  wtm_at "M_go"
  refine br_s (fun h1 => ?_) (fun h1 => ?_)
  · wtm_at "M_go"
    refine up_to_ok ((R _).le (by decide)) hD hn fun c1 z1 i1 d1 => ?_
    wtm_at "M_go"
    exact RetQ.ret (l' := l) (by wtm_at "M_sub") (h c1 z1 i1 (by rw [struckL, if_pos h1]; exact d1))
  wtm_at "M_go"
  refine br_s (fun h2 => ?_) (fun h2 => ?_)
  · wtm_at "M_go"
    refine from_on_ok ((R _).le (by decide)) hD hn fun c1 z1 i1 d1 => ?_
    wtm_at "M_go"
    exact RetQ.ret (l' := l) (by wtm_at "M_sub") (h c1 z1 i1 (by rw [struckL, if_neg h1, if_pos h2]; exact d1))
  wtm_at "M_go"
  refine br_s (fun h3 => ?_) (fun h3 => ?_)
  · wtm_at "M_go"
    refine ⟨by wtm_at "M_nat", fun c1 z1 i1 p1 => ?_⟩
    wtm_at "M_go"
    refine ⟨by wtm_at "M_nat", fun c2 z2 i2 p2 => ?_⟩
    wtm_at "M_go"
    refine meet_ok ((R _).le (by decide)) (hD.up fun _ _ e => i2 _ _ (i1 _ _ e)) ⟨_, p2, .cons (p := (k, k)) (tp_up p1 i2) .nil⟩ hn fun c3 z3 i3 d3 => ?_
    wtm_at "M_go"
    exact RetQ.ret (l' := l) (by wtm_at "M_sub") (h c3 z3 (fun _ _ e => i3 _ _ (i2 _ _ (i1 _ _ e))) (by rw [struckL, if_neg h1, if_neg h2, if_pos h3]; exact d3))
  · wtm_at "M_go"
    refine without_ok ((R _).le (by decide)) hD hn fun c1 z1 i1 d1 => ?_
    wtm_at "M_go"
    exact RetQ.ret (l' := l) (by wtm_at "M_sub") (h c1 z1 i1 (by rw [struckL, if_neg h1, if_neg h2, if_neg h3]; exact d1))

noncomputable def saidL (sg : Str) (k : Int) (D : List (Int × Int)) : Int := if struckL sg k D = D then 1 else if struckL sg k D = [] then -1 else 0
theorem said_of_ok {D : List (Int × Int)} {a b : Addr} {x k : Int} {sg : Str} {Q : Post Value} (R : Rm 5 A) (hl : LitAt z b x sg k) (hD : DomAt z a D) (hn : D.length ≤ 1000)
    (h : ∀ z' t, z.StaysIn z' → Q (.int (saidL sg k D) t) z' l) : T prog w A (call (.ref 108) [.ref b, .ref a]) Q z l := by
  refine t_def [(("literal" : Str), some (.ref b)), (("d" : Str), some (.ref a)), (("kept" : Str), none)] (fun L => []) (by k_is) (by k_is) R.room (by rfl) (by rfl) (by decide) (by wtm_at "M_nd") (by exact ⟨rfl, rfl, rfl, trivial⟩) (fun L => by rfl) (fun L => ?_) (by rfl) (by rfl) (by rfl)
  have hh := R.hh
  have R : ∀ env, Rm 4 (A.deeper env) := fun _ => R.deeper
  simp only [List.cons_append, List.nil_append]

  wtm_at "M_go"
  refine struck_ok (R _) hl hD hn fun c1 z1 i1 d1 => ?_
  have hD := hD.up i1
  wtm_at "M_go"
  refine t_eqDom d1 hD (R _).unit ?_
  wtm_at "M_go"
  refine br_p (fun h1 => ?_) (fun h1 => ?_)
  · wtm_at "M_go"
    exact RetQ.ret (l' := l) (by wtm_at "M_sub") (by have := h z1 ‹Tok› i1; rw [saidL, if_pos h1] at this; exact this)
  wtm_at "M_go"
  refine ⟨by wtm_at "M_nat", fun c2 z2 i2 p2 => ?_⟩
  wtm_at "M_go"
  refine t_eqDom (d1.up i2) (E := []) ⟨[], p2, .nil⟩ (R _).unit ?_
  wtm_at "M_go"
  refine br_p (fun h2 => ?_) (fun h2 => ?_)
  · wtm_at "M_go"
    exact RetQ.ret (l' := l) (by wtm_at "M_sub") (by have := h z2 ‹Tok› (fun _ _ e => i2 _ _ (i1 _ _ e)); rw [saidL, if_neg h1, if_pos h2] at this; exact this)
  · wtm_at "M_go"
    exact RetQ.ret (l' := l) (by wtm_at "M_sub") (by have := h z2 ‹Tok› (fun _ _ e => i2 _ _ (i1 _ _ e)); rw [saidL, if_neg h1, if_neg h2] at this; exact this)
end
end Mine
end
section
open PySem PySem.W PySem.Calls PyProof.Rows
set_option maxRecDepth 100000
set_option maxHeartbeats 8000000
namespace Mine
section
variable {α β : Type} {prog : Program} {w : World} {A : Around} {z : Heap} {l : Led} {s : Shared} {env : Env}

theorem initial_ok {o : Sto} {F Ds : List Dom} {rows : List Ent} {marks : List Nat} {x : Int} {D : Dom} {t : Tok} {Q : Post Value} (R : Rm 1 A) (ok : StoOk z o F Ds rows marks) (h0 : 0 ≤ x) (h1 : x < 1000) (hD : F[x.toNat]? = some D)
    (h : ∀ a, DomAt z a D → Q (.ref a) z (o.led prog w ++ l)) : T prog w A (call (.ref 214) [.ref o.X, .int x t]) Q z (o.led prog w ++ l) := by
  refine t_def [(("self" : Str), some (.ref o.X)), (("x" : Str), some (.int x t))] (fun L => []) (by k_is) (by k_is) R.room (by rfl) (by rfl) (by decide) (by wtm_at "M_nd") (by exact ⟨rfl, rfl, trivial⟩) (fun L => by rfl) (fun L => ?_) (by rfl) (by rfl) (by rfl)
  have hh := R.hh
  have R : ∀ env, Rm 0 (A.deeper env) := fun _ => R.deeper
  simp only [List.cons_append, List.nil_append]

  obtain ⟨a, ha, hd⟩ := ok.f.get hD
  simp only [Sto.led, List.cons_append, List.nil_append]
  wtm_at "M_go"
  refine t_itemL (LsAt.own (by wtm_at "M_mm")) h0 (by omega) ha ?_ (by with_unfolding_all rfl)
  wtm_at "M_go"
  exact RetQ.ret (l' := o.led prog w ++ l) (by wtm_at "M_sub") (h a hd)

theorem fail_ok {o : Sto} {ra : Addr} {rs : List Value} {Q : Post Value} (R : Rm 1 A) (hr : z.IsTuple ra rs.toArray)
    (h : Q (.bool false) z ({ o with b := true, cl := .ref ra }.led prog w ++ l)) : T prog w A (call (.ref 291) [.ref o.X, .ref ra]) Q z (o.led prog w ++ l) := by
  refine t_def [(("self" : Str), some (.ref o.X)), (("reasons" : Str), some (.ref ra))] (fun L => []) (by k_is) (by k_is) R.room (by rfl) (by rfl) (by decide) (by wtm_at "M_nd") (by exact ⟨rfl, rfl, trivial⟩) (fun L => by rfl) (fun L => ?_) (by rfl) (by rfl) (by rfl)
  have hh := R.hh
  have R : ∀ env, Rm 0 (A.deeper env) := fun _ => R.deeper
  simp only [List.cons_append, List.nil_append]

  simp only [Sto.led, List.cons_append, List.nil_append]
  wtm_at "M_go"
  refine t_tupT (TpAt.fz hr) ?_
  wtm_at "M_go"
  exact RetQ.ret (l' := { o with b := true, cl := .ref ra }.led prog w ++ l) (by wtm_at "M_sub") h

theorem push_ok {o : Sto} {F Ds : List Dom} {rows : List Ent} {marks : List Nat} {Q : Post Value} (R : Rm 1 A) (ok : StoOk z o F Ds rows marks) (hn : rows.length ≤ 1000) (hm : marks.length ≤ 1000)
    (h : ∀ o' : Sto, o'.X = o.X → StoOk z o' F Ds rows (marks ++ [rows.length]) → Q .none z (o'.led prog w ++ l)) : T prog w A (call (.ref 298) [.ref o.X]) Q z (o.led prog w ++ l) := by
  refine t_def [(("self" : Str), some (.ref o.X))] (fun L => []) (by k_is) (by k_is) R.room (by rfl) (by rfl) (by decide) (by wtm_at "M_nd") (by exact ⟨rfl, trivial⟩) (fun L => by rfl) (fun L => ?_) (by rfl) (by rfl) (by rfl)
  have hh := R.hh
  have R : ∀ env, Rm 0 (A.deeper env) := fun _ => R.deeper
  simp only [List.cons_append, List.nil_append]

  have hT := ok.t.len
  have hM : o.vM.length ≤ 1000 := by rw [ints_len ok.m, List.length_map]; exact hm
  simp only [Sto.led, List.cons_append, List.nil_append]
  wtm_at "M_go"
  refine t_lenL (LsAt.own (by wtm_at "M_mm")) (by omega) fun t1 => ?_
  wtm_at "M_go"
  refine t_append (by wtm_at "M_up") (by omega) ?_
  wtm_at "M_go"
  exact RetQ.next (l' := { o with vM := o.vM ++ [Value.int o.vT.length t1] }.led prog w ++ l) (by wtm_at "M_sub") (h { o with vM := o.vM ++ [Value.int o.vT.length t1] } rfl ⟨ok.f, ok.d, ok.t, by
    rw [List.map_append, hT]; exact ok.m.append (.cons _ _ .nil)⟩)
end
end Mine
end
section
open PySem PySem.W PySem.Calls PyProof.Rows
set_option maxRecDepth 100000
set_option maxHeartbeats 8000000
namespace Mine
section
variable {α β : Type} {prog : Program} {w : World} {A : Around} {z : Heap} {l : Led} {s : Shared} {env : Env}

noncomputable def entP (Ds : List Dom) (rows : List Ent) (x : Int) (sg : Str) (k : Int) (D : Dom) : Bool × List Dom × List Ent :=
  if struckL sg k D = [] then (false, Ds, rows) else if struckL sg k D = D then (true, Ds, rows) else (true, Ds.set x.toNat (struckL sg k D), rows ++ [⟨x, D, sg, k⟩])
theorem enter_ok {o : Sto} {F Ds : List Dom} {rows : List Ent} {marks : List Nat} {x k : Int} {sg : Str} {D : Dom} {b : Addr} {rsn spk : Value} {Q : Post Value} (R : Rm 6 A) (ok : StoOk z o F Ds rows marks)
    (hl : LitAt z b x sg k) (hx : x = 0 ∨ x = 1) (hD : Ds[x.toNat]? = some D) (hn : D.length ≤ 1000) (hr : rows.length ≤ 1000) (hrs : rsn = .none ∨ ∃ (ra : Addr) (rs : List Value), rsn = .ref ra ∧ z.IsTuple ra rs.toArray ∧ rs.length ≤ 100)
    (h : ∀ z' (o' : Sto), z.StaysIn z' → o'.X = o.X → StoOk z' o' F (entP Ds rows x sg k D).2.1 (entP Ds rows x sg k D).2.2 marks → Q (.bool (entP Ds rows x sg k D).1) z' (o'.led prog w ++ l)) :
    T prog w A (call (.ref 270) [.ref o.X, .ref b, rsn, spk]) Q z (o.led prog w ++ l) := by
  refine t_def [(("self" : Str), some (.ref o.X)), (("literal" : Str), some (.ref b)), (("reasons" : Str), some rsn), (("speaker" : Str), some spk), (("x" : Str), none), (("old" : Str), none), (("fresh" : Str), none)] (fun L => []) (by k_is) (by k_is) R.room (by rfl) (by rfl) (by decide) (by wtm_at "M_nd") (by exact ⟨rfl, rfl, rfl, rfl, rfl, rfl, rfl, trivial⟩) (fun L => by rfl) (fun L => ?_) (by rfl) (by rfl) (by rfl)
  have hh := R.hh
  have R : ∀ env, Rm 5 (A.deeper env) := fun _ => R.deeper
  simp only [List.cons_append, List.nil_append]

  obtain ⟨t1, t2, t3, hlt⟩ := id hl
  obtain ⟨da, hda, hdom⟩ := ok.d.get hD
  have hT := ok.t.len
  have hdl := ok.d.len
  simp only [Sto.led, List.cons_append, List.nil_append]
  wtm_at "M_go"
  refine t_itemL (LsAt.own (by wtm_at "M_mm")) (by omega) (by omega) hda ?_ (by with_unfolding_all rfl)
  wtm_at "M_go"
  refine struck_ok ((R _).le (by decide)) hl hdom hn fun c1 z1 i1 d1 => ?_
  wtm_at "M_go"
  refine ⟨by wtm_at "M_nat", fun c2 z2 i2 p2 => ?_⟩
  wtm_at "M_go"
  have d1 := d1.up i2
  refine t_eqDom d1 (E := []) ⟨[], p2, .nil⟩ (R _).unit ?_
  wtm_at "M_go"
  have i12 : z.StaysIn z2 := fun _ _ e => i2 _ _ (i1 _ _ e)
  refine br_p (fun h1 => ?_) (fun h1 => ?_)
  · -- the domain is emptied
    have hE : entP Ds rows x sg k D = (false, Ds, rows) := by rw [entP, if_pos h1]
    have fin : ∀ (ra : Addr) (rs : List Value) (z3 : Heap), z2.StaysIn z3 → z3.IsTuple ra rs.toArray → StoOk z3 { o with b := true, cl := .ref ra } F (entP Ds rows x sg k D).2.1 (entP Ds rows x sg k D).2.2 marks := fun ra rs z3 i3 _ => by
      have := ok.up (fun _ _ e => i3 _ _ (i12 _ _ e))
      rw [hE]; exact ⟨this.f, this.d, this.t, this.m⟩
    rcases hrs with rfl | ⟨ra, rs, rfl, hra, hrn⟩
    · wtm_at "M_go"
      refine br_t ?_
      wtm_at "M_go"
      refine ⟨by wtm_at "M_nat", fun c3 z3 i3 p3 => ?_⟩
      wtm_at "M_go"
      refine negation_ok ((R _).le (by decide)) (hl.up fun _ _ e => i3 _ _ (i12 _ _ e)) fun c4 z4 i4 => ?_
      wtm_at "M_go"
      refine ⟨by wtm_at "M_nat", fun c5 z5 i5 p5 => ?_⟩
      wtm_at "M_go"
      have p3 := tp_up p3 (fun _ _ e => i5 _ _ (i4 _ _ e))
      refine t_addTF (TpAt.fz p3) (TpAt.fz p5) p3 p5 (by wtm_at "M_nat") fun c6 z6 i6 p6 => ?_
      wtm_at "M_go"
      refine T.take (ps := o.led prog w) (by wtm_at "M_take") (fail_ok ((R _).le (by decide)) p6 ?_)
      wtm_at "M_go"
      have i26 : z2.StaysIn z6 := fun _ _ e => i6 _ _ (i5 _ _ (i4 _ _ (i3 _ _ e)))
      refine RetQ.ret (l' := { o with b := true, cl := .ref c6 }.led prog w ++ l) (by wtm_at "M_sub") ?_
      have := h z6 { o with b := true, cl := .ref c6 } (fun _ _ e => i26 _ _ (i12 _ _ e)) rfl (fin c6 _ z6 i26 p6)
      rw [hE] at this; exact this
    · wtm_at "M_go"
      refine br_f ?_
      wtm_at "M_go"
      refine negation_ok ((R _).le (by decide)) (hl.up i12) fun c4 z4 i4 => ?_
      wtm_at "M_go"
      refine ⟨by wtm_at "M_nat", fun c5 z5 i5 p5 => ?_⟩
      wtm_at "M_go"
      have p3 := tp_up hra (fun _ _ e => i5 _ _ (i4 _ _ (i12 _ _ e)))
      refine t_addTF (TpAt.fz p3) (TpAt.fz p5) p3 p5 (by simp; omega) fun c6 z6 i6 p6 => ?_
      wtm_at "M_go"
      refine T.take (ps := o.led prog w) (by wtm_at "M_take") (fail_ok ((R _).le (by decide)) p6 ?_)
      wtm_at "M_go"
      have i26 : z2.StaysIn z6 := fun _ _ e => i6 _ _ (i5 _ _ (i4 _ _ e))
      refine RetQ.ret (l' := { o with b := true, cl := .ref c6 }.led prog w ++ l) (by wtm_at "M_sub") ?_
      have := h z6 { o with b := true, cl := .ref c6 } (fun _ _ e => i26 _ _ (i12 _ _ e)) rfl (fin c6 _ z6 i26 p6)
      rw [hE] at this; exact this
  wtm_at "M_go"
  refine t_eqDom d1 (hdom.up i12) (R _).unit ?_
  wtm_at "M_go"
  refine br_p (fun h2 => ?_) (fun h2 => ?_)
  · have hE : entP Ds rows x sg k D = (true, Ds, rows) := by rw [entP, if_neg h1, if_pos h2]
    wtm_at "M_go"
    refine RetQ.ret (l' := o.led prog w ++ l) (by wtm_at "M_sub") ?_
    have := h z2 o i12 rfl (by rw [hE]; exact ok.up i12)
    rw [hE] at this; exact this
  have hE : entP Ds rows x sg k D = (true, Ds.set x.toNat (struckL sg k D), rows ++ [⟨x, D, sg, k⟩]) := by rw [entP, if_neg h1, if_neg h2]
  have hxl : x.toNat < o.vD.length := by
    obtain ⟨q, _⟩ := List.getElem?_eq_some_iff.mp hda
    exact q
  wtm_at "M_go"
  refine ⟨by wtm_at "M_nat", fun c3 z3 i3 p3 => ?_⟩
  wtm_at "M_go"
  refine t_append (by wtm_at "M_up") (by omega) ?_
  wtm_at "M_go"
  refine t_setL (by wtm_at "M_up") (by omega) (by omega) (by omega) ?_
  wtm_at "M_go"
  refine t_newsSet (by wtm_at "M_up") hx ?_
  wtm_at "M_go"
  have i13 : z.StaysIn z3 := fun _ _ e => i3 _ _ (i12 _ _ e)
  have okz := ok.up i13
  refine RetQ.ret (l' := { o with vT := o.vT ++ [Value.ref c3], vD := o.vD.set x.toNat (.ref c1) }.led prog w ++ l) (by wtm_at "M_sub") ?_
  have := h z3 { o with vT := o.vT ++ [Value.ref c3], vD := o.vD.set x.toNat (.ref c1) } i13 rfl (by
    rw [hE]
    exact ⟨okz.f, okz.d.set (d1.up i3), okz.t.snoc ⟨c3, t1, da, b, rsn, spk, rfl, p3, hdom.up i13, hl.up i13⟩, okz.m⟩)
  rw [hE] at this; exact this

theorem strike_ok {o : Sto} {F Ds : List Dom} {rows : List Ent} {marks : List Nat} {x k : Int} {sg : Str} {D : Dom} {b ra : Addr} {rs : List Value} {Q : Post Value} (R : Rm 7 A) (ok : StoOk z o F Ds rows marks)
    (hl : LitAt z b x sg k) (hx : x = 0 ∨ x = 1) (hD : Ds[x.toNat]? = some D) (hn : D.length ≤ 1000) (hr : rows.length ≤ 1000) (hra : z.IsTuple ra rs.toArray) (hrn : rs.length ≤ 100)
    (h : ∀ z' (o' : Sto), z.StaysIn z' → o'.X = o.X → StoOk z' o' F (entP Ds rows x sg k D).2.1 (entP Ds rows x sg k D).2.2 marks → Q (.bool (entP Ds rows x sg k D).1) z' (o'.led prog w ++ l)) :
    T prog w A (call (.ref 277) [.ref o.X, .ref b, .ref ra]) Q z (o.led prog w ++ l) := by
  refine t_def [(("self" : Str), some (.ref o.X)), (("literal" : Str), some (.ref b)), (("reasons" : Str), some (.ref ra))] (fun L => []) (by k_is) (by k_is) R.room (by rfl) (by rfl) (by decide) (by wtm_at "M_nd") (by exact ⟨rfl, rfl, rfl, trivial⟩) (fun L => by rfl) (fun L => ?_) (by rfl) (by rfl) (by rfl)
  have hh := R.hh
  have R : ∀ env, Rm 6 (A.deeper env) := fun _ => R.deeper
  simp only [List.cons_append, List.nil_append]

  simp only [Sto.led, List.cons_append, List.nil_append]
  wtm_at "M_go"
  refine t_tupT (TpAt.fz hra) ?_
  wtm_at "M_go"
  refine T.take (ps := o.led prog w) (by wtm_at "M_take") (enter_ok (R _) ok hl hx hD hn hr (.inr ⟨ra, rs, rfl, hra, hrn⟩) fun z' o' i hX hok => ?_)
  wtm_at "M_go"
  exact RetQ.ret (l' := o'.led prog w ++ l) (by wtm_at "M_sub") (h z' o' i hX hok)

theorem decide_ok {o : Sto} {F Ds : List Dom} {rows : List Ent} {marks : List Nat} {x k : Int} {sg : Str} {D : Dom} {b : Addr} {Q : Post Value} (R : Rm 7 A) (ok : StoOk z o F Ds rows marks)
    (hl : LitAt z b x sg k) (hx : x = 0 ∨ x = 1) (hD : Ds[x.toNat]? = some D) (hn : D.length ≤ 1000) (hr : rows.length ≤ 1000)
    (h : ∀ z' (o' : Sto), z.StaysIn z' → o'.X = o.X → StoOk z' o' F (entP Ds rows x sg k D).2.1 (entP Ds rows x sg k D).2.2 marks → Q (.bool (entP Ds rows x sg k D).1) z' (o'.led prog w ++ l)) :
    T prog w A (call (.ref 284) [.ref o.X, .ref b]) Q z (o.led prog w ++ l) := by
  refine t_def [(("self" : Str), some (.ref o.X)), (("literal" : Str), some (.ref b))] (fun L => []) (by k_is) (by k_is) R.room (by rfl) (by rfl) (by decide) (by wtm_at "M_nd") (by exact ⟨rfl, rfl, trivial⟩) (fun L => by rfl) (fun L => ?_) (by rfl) (by rfl) (by rfl)
  have hh := R.hh
  have R : ∀ env, Rm 6 (A.deeper env) := fun _ => R.deeper
  simp only [List.cons_append, List.nil_append]

  simp only [Sto.led, List.cons_append, List.nil_append]
  wtm_at "M_go"
  refine T.take (ps := o.led prog w) (by wtm_at "M_take") (enter_ok (R _) ok hl hx hD hn hr (.inl rfl) fun z' o' i hX hok => ?_)
  wtm_at "M_go"
  exact RetQ.ret (l' := o'.led prog w ++ l) (by wtm_at "M_sub") (h z' o' i hX hok)
end
end Mine
end
section
open PySem PySem.W PySem.Calls PyProof.Rows
set_option maxRecDepth 100000
set_option maxHeartbeats 8000000
namespace Mine
section
variable {α β : Type} {prog : Program} {w : World} {A : Around} {z : Heap} {l : Led} {s : Shared} {env : Env}

def undo (Ds : List Dom) (rows : List Ent) : List Dom := rows.foldr (fun e Ds => Ds.set e.x.toNat e.old) Ds
theorem EntsAt.take {vs : List Value} {es : List Ent} (h : EntsAt z vs es) : ∀ n, EntsAt z (vs.take n) (es.take n) := by
  induction h with
  | nil => intro n; simp; exact .nil
  | cons h t ih =>
    intro n
    cases n with
    | zero => exact .nil
    | succ n => exact .cons h (ih n)
structure PopS where
  j : Nat
  vD : List Value
  vT : List Value
  en : Option Value
theorem pop_ok {o : Sto} {F Ds : List Dom} {rows : List Ent} {marks : List Nat} {n : Nat} {t : Tok} {Q : Post Value} (R : Rm 1 A) (ok : StoOk z o F Ds rows marks) (hr : rows.length ≤ 1000) (hm : marks.length ≤ 1000) (hn : n ≤ marks.length) (hDs : Ds.length ≤ 100)
    (hF : F.length ≤ 100) (hx : ∀ e ∈ rows, 0 ≤ e.x ∧ e.x.toNat < Ds.length)
    (h : ∀ z' (o' : Sto), z.StaysIn z' → o'.X = o.X → (if n = 0 then StoOk z' o' F Ds rows marks else ∃ m, marks[marks.length - n]? = some m ∧ StoOk z' o' F (undo Ds (rows.drop m)) (rows.take m) (marks.take (marks.length - n))) → Q .none z' (o'.led prog w ++ l)) :
    T prog w A (call (.ref 305) [.ref o.X, .int n t]) Q z (o.led prog w ++ l) := by
  refine t_def [(("self" : Str), some (.ref o.X)), (("n" : Str), some (.int n t)), (("mark" : Str), none), (("entry" : Str), none)] (fun L => []) (by k_is) (by k_is) R.room (by rfl) (by rfl) (by decide) (by wtm_at "M_nd") (by exact ⟨rfl, rfl, rfl, rfl, trivial⟩) (fun L => by rfl) (fun L => ?_) (by rfl) (by rfl) (by rfl)
  have hh := R.hh
  have R : ∀ env, Rm 0 (A.deeper env) := fun _ => R.deeper
  simp only [List.cons_append, List.nil_append]

  have hT := ok.t.len
  have hM : o.vM.length = marks.length := by rw [ints_len ok.m, List.length_map]
  simp only [Sto.led, List.cons_append, List.nil_append]
  wtm_at "M_go"
  refine br_p (fun h1 => ?_) (fun h1 => ?_)
  · wtm_at "M_go"
    exact RetQ.ret (l' := o.led prog w ++ l) (by wtm_at "M_sub") (h z o (fun _ _ e => e) rfl (by rw [if_pos (by omega)]; exact ok))
  have hn0 : n ≠ 0 := by omega
  obtain ⟨m, hmk⟩ : ∃ m, marks[marks.length - n]? = some m := ⟨_, List.getElem?_eq_getElem (by omega)⟩
  obtain ⟨tm, hvm⟩ : ∃ tm, o.vM[marks.length - n]? = some (.int m tm) := ints_get ok.m (by rw [List.getElem?_map, hmk]; rfl)
  wtm_at "M_go"
  refine t_lenL (LsAt.own (by wtm_at "M_mm")) (by omega) fun t1 => ?_
  wtm_at "M_go"
  refine t_itemL (LsAt.own (by wtm_at "M_mm")) (by omega) (by omega) (by rw [show ((o.vM.length : Int) - (n : Int)).toNat = marks.length - n by omega]; exact hvm) ?_ (by with_unfolding_all rfl)
  wtm_at "M_go"
  refine t_lenL (LsAt.own (by wtm_at "M_mm")) (by omega) fun t2 => ?_
  wtm_at "M_go"
  intro sl
  refine t_subUp (LsAt.own (by wtm_at "M_mm")) (by omega) (by omega) (fun c => ?_) (by with_unfolding_all rfl)
  wtm_at "M_go"
  refine t_While (σ := PopS) (fun x => (c, LstP (o.vM.take ((o.vM.length : Int) - (n : Int)).toNat)) :: (L, LocP [(("self" : Str), some (.ref o.X)), (("n" : Str), some (.int n t)), (("mark" : Str), some (.int m tm)), (("entry" : Str), x.en)]) ::
      (o.X, InsP 322 o.dx) :: (o.dx, DctP prog w [("domains", .ref o.aD), ("firsts", .ref o.aF), ("trail", .ref o.aT), ("marks", .ref c), ("news", .ref o.aN), ("speaker", .int (-1) o.sp), ("is_failed", .bool o.b), ("clash", o.cl)]) ::
      (o.aD, LstP x.vD) :: (o.aF, LstP o.vF) :: (o.aT, LstP x.vT) :: (o.aM, LstP o.vM) :: (o.aN, NewP prog w) :: l)
    (fun x z' => x.j ≤ rows.length ∧ min m rows.length ≤ x.j ∧ EntsAt z' x.vT (rows.take x.j) ∧ DomsAt z' x.vD (undo Ds (rows.drop x.j))) (fun x => x.j)
    ⟨rows.length, o.vD, o.vT, none⟩ ⟨Nat.le_refl _, Nat.min_le_right _ _, by rw [List.take_length]; exact ok.t, by rw [List.drop_length]; exact ok.d⟩ (by rfl) ?_
  rintro ⟨j, vD, vT, en⟩ z1 i1 ⟨hj1, hj2, hvT, hvD⟩
  dsimp only at hj1 hj2 hvT hvD ⊢
  have hvl : vT.length = j := by rw [hvT.len, List.length_take]; omega
  have hul : ∀ r, (undo Ds r).length = Ds.length := fun r => by
    unfold undo
    induction r with
    | nil => rfl
    | cons e r ih => simp [ih]
  have hdl : vD.length = Ds.length := by rw [hvD.len, hul]
  wtm_at "M_go"
  refine t_lenL (LsAt.own (by wtm_at "M_mm")) (by omega) fun t3 => ?_
  wtm_at "M_go"
  refine br_p (fun h2 => ?_) (fun h2 => ?_)
  · -- a turn
    have hjm : m < j := by omega
    obtain ⟨e, he⟩ : ∃ e, rows[j - 1]? = some e := ⟨_, List.getElem?_eq_getElem (by omega)⟩
    have hex := hx e (List.mem_of_getElem? he)
    have htk : rows.take j = rows.take (j - 1) ++ [e] := by
      have := take_snoc he
      rwa [show j - 1 + 1 = j by omega] at this
    rw [htk] at hvT
    obtain ⟨vs', v, rfl, hvs, ea, et, oa, la, er, es, rfl, hp, hd, hl⟩ := hvT.unsnoc
    wtm_at "M_go"
    refine t_pop (by wtm_at "M_up") (by simp at hvl; omega) ?_
    wtm_at "M_go"
    refine t_setL (by wtm_at "M_up") (by omega) (by omega) (by omega) ?_
    wtm_at "M_go"
    refine ⟨⟨j - 1, vD.set e.x.toNat (.ref oa), vs', some (.ref ea)⟩, sub_refl, ?_⟩
    refine ⟨by dsimp only; omega, by dsimp only; omega, by dsimp only; omega, hvs, ?_⟩
    dsimp only
    have hdr : rows.drop (j - 1) = e :: rows.drop j := by
      obtain ⟨hlt, rfl⟩ := List.getElem?_eq_some_iff.mp he
      rw [List.drop_eq_getElem_cons hlt, show j - 1 + 1 = j by omega]
    rw [hdr]
    exact hvD.set hd
  · refine ⟨_, sub_refl, ?_⟩
    have hjm : j = min m rows.length := by omega
    wtm_at "M_go"
    rename_i D0
    refine ⟨by wtm_at "M_nat", fun c2 z2 i2 p2 => ?_⟩
    wtm_at "M_go"
    refine t_inD (d := domD []) (LsAt.own (by wtm_at "M_mm")) (ok.f.up (fun _ _ e => i2 _ _ (i1 _ _ e))).reads (DomAt.reads ⟨[], p2, .nil⟩) (canLay_doms F) (by rfl) (by decide) (R _).unit ?_
    refine T.take (ps := { o with vD := vD, vT := vT, vM := o.vM.take ((o.vM.length : Int) - (n : Int)).toNat, aM := c, aN := D0 }.led prog w) (by wtm_at "M_take") ?_
    simp only [Sto.led, List.cons_append, List.nil_append]
    wtm_at "M_go"
    refine ⟨by wtm_at "M_nat", fun c3 z3 i3 p3 => ?_⟩
    wtm_at "M_go"
    have i03 : z.StaysIn z3 := fun _ _ e => i3 _ _ (i2 _ _ (i1 _ _ e))
    have i13 : z1.StaysIn z3 := fun _ _ e => i3 _ _ (i2 _ _ e)
    have hup := ok.up i03
    have htk : rows.take j = rows.take m := by
      rw [hjm]
      by_cases q : m ≤ rows.length
      · rw [Nat.min_eq_left q]
      · rw [Nat.min_eq_right (by omega), List.take_of_length_le (by omega : rows.length ≤ m), List.take_length]
    have hdk : rows.drop j = rows.drop m := by
      rw [hjm]
      by_cases q : m ≤ rows.length
      · rw [Nat.min_eq_left q]
      · rw [Nat.min_eq_right (by omega), List.drop_of_length_le (by omega : rows.length ≤ m), List.drop_length]
    have hmn : ((o.vM.length : Int) - (n : Int)).toNat = marks.length - n := by omega
    refine RetQ.next (l' := { o with vD := vD, vT := vT, vM := o.vM.take ((o.vM.length : Int) - (n : Int)).toNat, aM := c, aN := D0, b := (F.map domD).any fun y => PyData.eqv y (domD []), cl := .ref c3 }.led prog w ++ l) (by wtm_at "M_sub")
      (h z3 { o with vD := vD, vT := vT, vM := o.vM.take ((o.vM.length : Int) - (n : Int)).toNat, aM := c, aN := D0, b := (F.map domD).any fun y => PyData.eqv y (domD []), cl := .ref c3 } i03 rfl ?_)
    rw [if_neg hn0]
    refine ⟨m, hmk, hup.f, by rw [← hdk]; exact hvD.up i13, by rw [← htk]; exact hvT.up i13, ?_⟩
    dsimp only
    rw [hmn, List.map_take]
    exact ints_take ok.m _
end
end Mine
end
section
open PySem PySem.W PySem.Calls PyProof.Rows
set_option maxRecDepth 100000
set_option maxHeartbeats 8000000
namespace Mine
section
variable {α β : Type} {prog : Program} {w : World} {A : Around} {z : Heap} {l : Led} {s : Shared} {env : Env}

theorem new_var_ok {o : Sto} {F Ds : List Dom} {D : Dom} {a : Addr} {Q : Post Value} (R : Rm 2 A) (ok : StoOk z o F Ds [] []) (hd : DomAt z a D) (hD : D ≠ []) (hF : F.length ≤ 100) (hDs : Ds.length ≤ 100)
    (h : ∀ z' (o' : Sto) v, z.StaysIn z' → o'.X = o.X → StoOk z' o' (F ++ [D]) (Ds ++ [D]) [] [] → Q v z' (o'.led prog w ++ l)) : T prog w A (call (.ref 193) [.ref o.X, .ref a]) Q z (o.led prog w ++ l) := by
  refine t_def [(("self" : Str), some (.ref o.X)), (("domain" : Str), some (.ref a))] (fun L => []) (by k_is) (by k_is) R.room (by rfl) (by rfl) (by decide) (by wtm_at "M_nd") (by exact ⟨rfl, rfl, trivial⟩) (fun L => by rfl) (fun L => ?_) (by rfl) (by rfl) (by rfl)
  have hh := R.hh
  have R : ∀ env, Rm 1 (A.deeper env) := fun _ => R.deeper
  simp only [List.cons_append, List.nil_append]

  have h1 := ok.f.len
  have h2 := ok.d.len
  simp only [Sto.led, List.cons_append, List.nil_append]
  wtm_at "M_go"
  refine t_append (by wtm_at "M_up") (by omega) ?_
  wtm_at "M_go"
  refine t_append (by wtm_at "M_up") (by omega) ?_
  wtm_at "M_go"
  refine ⟨by wtm_at "M_nat", fun c2 z2 i2 p2 => ?_⟩
  wtm_at "M_go"
  refine t_eqDom (hd.up i2) (E := []) ⟨[], p2, .nil⟩ (R _).unit ?_
  wtm_at "M_go"
  refine br_p (fun q => absurd q hD) (fun q => ?_)
  wtm_at "M_go"
  refine t_lenL (LsAt.own (by wtm_at "M_mm")) (by simp; omega) fun t2 => ?_
  wtm_at "M_go"
  have okz := ok.up i2
  exact RetQ.ret (l' := { o with vD := o.vD ++ [Value.ref a], vF := o.vF ++ [Value.ref a] }.led prog w ++ l) (by wtm_at "M_sub") (h z2 { o with vD := o.vD ++ [Value.ref a], vF := o.vF ++ [Value.ref a] } _ i2 rfl ⟨okz.f.snoc (hd.up i2), okz.d.snoc (hd.up i2), okz.t, okz.m⟩)

def behindL (D : Dom) (lo hi : Int) : Dom := match D.getLast? with
  | none => [(lo, hi)]
  | some p => if lo ≤ p.2 + 1 then (if p.2 < hi then D.dropLast ++ [(p.1, hi)] else D) else D ++ [(lo, hi)]
theorem put_behind_ok {f : Addr} {vs : List Value} {D : Dom} {lo hi : Int} {t1 t2 : Tok} {Q : Post Value} (R : Rm 1 A) (hP : PairsAt z vs D) (hn : D.length ≤ 1000)
    (h : ∀ z' vs' v, z.StaysIn z' → PairsAt z' vs' (behindL D lo hi) → Q v z' ((f, LstP vs') :: l)) : T prog w A (call (.ref 28) [.ref f, .int lo t1, .int hi t2]) Q z ((f, LstP vs) :: l) := by
  refine t_def [(("found" : Str), some (.ref f)), (("low" : Str), some (.int lo t1)), (("high" : Str), some (.int hi t2))] (fun L => []) (by k_is) (by k_is) R.room (by rfl) (by rfl) (by decide) (by wtm_at "M_nd") (by exact ⟨rfl, rfl, rfl, trivial⟩) (fun L => by rfl) (fun L => ?_) (by rfl) (by rfl) (by rfl)
  have hh := R.hh
  have R : ∀ env, Rm 0 (A.deeper env) := fun _ => R.deeper
  simp only [List.cons_append, List.nil_append]

  have hl := hP.len
  wtm_at "M_go"
  refine t_lenL (LsAt.own (by wtm_at "M_mm")) (by omega) fun t3 => ?_
  wtm_at "M_go"
  have app : ∀ c z', z.StaysIn z' → behindL D lo hi = D ++ [(lo, hi)] → z'.IsTuple c [Value.int lo t1, .int hi t2].toArray → Q .none z' ((f, LstP (vs ++ [.ref c])) :: l) := fun c z' i' e hc =>
    h z' _ .none i' (by rw [e]; exact (hP.up i').append (.cons (p := (lo, hi)) hc .nil))
  refine br_p (fun h1 => ?_) (fun h1 => ?_)
  rotate_left
  · refine br_f ?_
    have hD : D = [] := List.eq_nil_of_length_eq_zero (by omega)
    wtm_at "M_go"
    refine ⟨by wtm_at "M_nat", fun c z' i' hc => ?_⟩
    wtm_at "M_go"
    refine t_append (by wtm_at "M_up") (by omega) ?_
    wtm_at "M_go"
    exact RetQ.next (by wtm_at "M_sub") (app c z' i' (by subst hD; rfl) hc)
  obtain ⟨D0, p, rfl⟩ : ∃ D0 p, D = D0 ++ [p] := by
    rcases List.eq_nil_or_concat D with q | ⟨D0, p, q⟩
    · subst q; simp at hl; rw [hl] at h1; simp at h1
    · exact ⟨D0, p, by rw [q, List.concat_eq_append]⟩
  have hg : behindL (D0 ++ [p]) lo hi = if lo ≤ p.2 + 1 then (if p.2 < hi then D0 ++ [(p.1, hi)] else D0 ++ [p]) else D0 ++ [p] ++ [(lo, hi)] := by
    unfold behindL; rw [List.getLast?_append]; simp
  obtain ⟨vs0, v, rfl, hP0, pa, pt, pu, rfl, hpt⟩ : ∃ vs0 v, vs = vs0 ++ [v] ∧ PairsAt z vs0 D0 ∧ ∃ a t u, v = .ref a ∧ z.IsTuple a [Value.int p.1 t, .int p.2 u].toArray := by
    clear h app hg hn h1 hl
    induction D0 generalizing vs with
    | nil =>
      cases hP with
      | cons h t => cases t; exact ⟨[], _, rfl, .nil, _, _, _, rfl, h⟩
    | cons q D0 ih =>
      cases hP with
      | cons h t =>
        obtain ⟨vs0, v, e, k, r⟩ := ih t
        exact ⟨_ :: vs0, v, by rw [e]; rfl, .cons h k, r⟩
  have hlen : (vs0 ++ [Value.ref pa]).length = vs0.length + 1 := by simp
  have hidx : (vs0 ++ [Value.ref pa])[((-1 : Int) + ((vs0 ++ [Value.ref pa]).length : Int)).toNat]? = some (.ref pa) := by
    rw [hlen, show ((-1 : Int) + ((vs0.length + 1 : Nat) : Int)).toNat = vs0.length by omega]; simp
  wtm_at "M_go"
  refine t_itemN (LsAt.own (by wtm_at "M_mm")) (by decide) (by rw [hlen]; omega) (by decide) hidx ?_ (by with_unfolding_all rfl)
  wtm_at "M_go"
  refine br_p (fun h2 => ?_) (fun h2 => ?_)
  · wtm_at "M_go"
    refine t_itemN (LsAt.own (by wtm_at "M_mm")) (by decide) (by rw [hlen]; omega) (by decide) hidx ?_ (by with_unfolding_all rfl)
    wtm_at "M_go"
    refine br_p (fun h3 => ?_) (fun h3 => ?_)
    · wtm_at "M_go"
      refine t_itemN (LsAt.own (by wtm_at "M_mm")) (by decide) (by rw [hlen]; omega) (by decide) hidx ?_ (by with_unfolding_all rfl)
      wtm_at "M_go"
      refine ⟨by wtm_at "M_nat", fun c z' i' hc => ?_⟩
      wtm_at "M_go"
      refine t_setLast (by wtm_at "M_up") ?_
      wtm_at "M_go"
      refine RetQ.next (by wtm_at "M_sub") (h z' (vs0 ++ [.ref c]) .none i' ?_)
      rw [hg, if_pos h2, if_pos h3]
      exact (hP0.up i').append (.cons (p := (p.1, hi)) hc .nil)
    · wtm_at "M_go"
      refine RetQ.next (by wtm_at "M_sub") (h z (vs0 ++ [.ref pa]) .none (fun _ _ e => e) ?_)
      rw [hg, if_pos h2, if_neg h3]
      exact hP
  · wtm_at "M_go"
    refine ⟨by wtm_at "M_nat", fun c z' i' hc => ?_⟩
    wtm_at "M_go"
    refine t_append (by wtm_at "M_up") (by simp at hl hn ⊢; omega) ?_
    wtm_at "M_go"
    exact RetQ.next (by wtm_at "M_sub") (app c z' i' (by rw [hg, if_neg h2]) hc)
end
end Mine
end
section
open PySem PySem.W PySem.Calls PyProof.Rows
set_option maxRecDepth 100000
set_option maxHeartbeats 8000000
namespace Mine
section
variable {α β : Type} {prog : Program} {w : World} {A : Around} {z : Heap} {l : Led} {s : Shared} {env : Env}

theorem perm_sorted_eq : ∀ {a b : List Int}, a.Perm b → a.Pairwise (· ≤ ·) → b.Pairwise (· ≤ ·) → a = b
  | [], b, p, _, _ => (List.nil_perm.mp p).symm
  | x :: a, [], p, _, _ => absurd p.symm.nil_eq (by simp)
  | x :: a, y :: b, p, ha, hb => by
    rw [List.pairwise_cons] at ha hb
    have hx : x = y := by
      have h1 : x ∈ y :: b := p.mem_iff.mp List.mem_cons_self
      have h2 : y ∈ x :: a := p.mem_iff.mpr List.mem_cons_self
      rcases List.mem_cons.mp h1 with e | h1
      · exact e
      rcases List.mem_cons.mp h2 with e | h2
      · exact e.symm
      have := ha.1 y h2
      have := hb.1 x h1
      omega
    subst hx
    rw [perm_sorted_eq (List.Perm.cons_inv p) ha.2 hb.2]
def fromL (ns : List Int) : Dom := ns.foldl (fun D v => behindL D v v) []
theorem behindL_len (D : Dom) (lo hi : Int) : (behindL D lo hi).length ≤ D.length + 1 := by
  unfold behindL
  split
  · simp
  · split
    · split
      · simp only [List.length_append, List.length_dropLast, List.length_cons, List.length_nil]
        rename_i h _ _
        have : D ≠ [] := fun e => by rw [e] at h; simp at h
        have : D.length ≠ 0 := fun e => this (List.eq_nil_of_length_eq_zero e)
        omega
      · omega
    · simp
theorem fold_len : ∀ (ns : List Int) (D : Dom), (ns.foldl (fun D v => behindL D v v) D).length ≤ D.length + ns.length
  | [], D => by simp
  | v :: ns, D => by
    have h1 := fold_len ns (behindL D v v)
    have h2 := behindL_len D v v
    rw [List.foldl_cons, List.length_cons]
    omega
structure FromS where
  vs : List Value
  v : Option Value
theorem from_values_ok {a : Addr} {vs : List Value} {ns : List Int} {Q : Post Value} (R : Rm 2 A) (ha : z.IsList a vs.toArray) (hI : IntsAre vs ns) (hs : ns.Pairwise (· ≤ ·)) (hn : ns.length < 60)
    (h : ∀ c z', z.StaysIn z' → DomAt z' c (fromL ns) → Q (.ref c) z' l) : T prog w A (call (.ref 35) [.ref a]) Q z l := by
  refine t_def [(("numbers" : Str), some (.ref a)), (("found" : Str), none), (("v" : Str), none)] (fun L => []) (by k_is) (by k_is) R.room (by rfl) (by rfl) (by decide) (by wtm_at "M_nd") (by exact ⟨rfl, rfl, rfl, trivial⟩) (fun L => by rfl) (fun L => ?_) (by rfl) (by rfl) (by rfl)
  have hh := R.hh
  have R : ∀ env, Rm 1 (A.deeper env) := fun _ => R.deeper
  simp only [List.cons_append, List.nil_append]

  have hl := ints_len hI
  wtm_at "M_go"
  refine ⟨by wtm_at "M_sz", fun F => ?_⟩
  wtm_at "M_go"
  refine t_For ?_
  wtm_at "M_go"
  refine t_sorted (LsAt.fz ha) hI (by omega) fun c vs' ns' hI' hp hs' => ?_
  obtain rfl : ns' = ns := perm_sorted_eq hp hs' hs
  have hl' := ints_len hI'
  refine t_iterL (LsAt.own (by wtm_at "M_mm")) fun I => ?_
  refine tc_for (σ := FromS) (fun x => (c, LstP vs') :: (F, LstP x.vs) :: (L, LocP [(("numbers" : Str), some (.ref a)), (("found" : Str), some (.ref F)), (("v" : Str), x.v)]) :: l)
    (fun i x z' => PairsAt z' x.vs ((ns'.take i).foldl (fun D v => behindL D v v) [])) ⟨[], none⟩ (steps_list (R _).hh (by rfl)) .nil (by rfl) (fun i x z' _ _ => LsAt.own (by wtm_at "M_mm")) ?_ ?_
  · rintro i ⟨fv, ov⟩ z1 z2 v hi i1 i2 hok hv
    dsimp only at hok ⊢
    obtain ⟨m, tm, rfl, hm⟩ := hI'.at i v hv
    have htk := take_snoc hm
    have hlen := fold_len (ns'.take i) []
    rw [List.length_take, List.length_nil] at hlen
    simp only [List.cons_append, List.nil_append]
    wtm_at "M_go"
    refine T.pick (p := (F, LstP fv)) (by wtm_at "M_pc") ?_
    refine put_behind_ok ((R _).le (by decide)) (hok.up i2) (Nat.le_trans hlen (by omega)) fun z3 vs3 v3 i3 hP3 => ?_
    refine T.take (ps := [(I, LIt c (i + 1)), (c, LstP vs'), (F, LstP vs3), (L, LocP [(("numbers" : Str), some (.ref a)), (("found" : Str), some (.ref F)), (("v" : Str), some (.int m tm))])]) (by wtm_at "M_tk") ?_
    simp only [List.cons_append, List.nil_append]
    wtm_at "M_go"
    refine ⟨⟨vs3, _⟩, sub_refl, ?_⟩
    dsimp only
    rw [htk, List.foldl_append]
    exact hP3
  · rintro ⟨fv, ov⟩ z1 i1 hok
    dsimp only at hok ⊢
    rw [hl', List.take_length] at hok
    have hlen := fold_len ns' []
    have hfl := hok.len
    wtm_at "M_go"
    refine t_tupLF (LsAt.own (by wtm_at "M_mm")) (by rw [hfl]; exact Nat.le_trans hlen (by simp; omega)) fun c2 z2 i2 hc2 => ?_
    wtm_at "M_go"
    exact RetQ.ret (l' := l) (by wtm_at "M_sub") (h c2 z2 (fun _ _ e => i2 _ _ (i1 _ _ e)) ⟨fv, hc2, hok.up i2⟩)

theorem Rm.under {k : Nat} (R : Rm (k + 1) A) : Rm k (A.under (.builtin "type.__call__" ⟨[.ref 322], []⟩)) := by
  have hd := R.d
  have hu := R.u
  have ew : (Code.builtin "type.__call__" ⟨[.ref 322], []⟩).weight ≤ 1 := by first | decide | decide +kernel
  have eu : (Code.builtin "type.__call__" ⟨[.ref 322], []⟩).cUnits ≤ 3 := by first | decide | decide +kernel
  refine ⟨R.hh, ?_, ?_⟩
  · show A.depth + (Code.builtin "type.__call__" ⟨[.ref 322], []⟩).weight + k < 1000
    omega
  · show A.units + (Code.builtin "type.__call__" ⟨[.ref 322], []⟩).cUnits + 3 * k + 100 < 9900
    omega
theorem make_ok {Q : Post Value} (R : Rm 4 A) (h : ∀ z' (o : Sto), z.StaysIn z' → StoOk z' o [] [] [] [] → Q (.ref o.X) z' (o.led prog w ++ l)) : T prog w A (call (.ref 322) []) Q z l := by
  refine t_make (by k_is) (by k_is) (by k_is) fun x dx => ?_
  have R1 := Rm.under R
  refine tc_def (ml := [(("self" : Str), some (.ref x))]) (fun L => []) (by k_is) (by k_is) R1.room (by rfl) (by rfl) (by decide) (by wtm_at "M_nd") (by exact ⟨rfl, trivial⟩) (fun L => by rfl) (fun L => ?_) (by rfl) (by rfl) (by rfl)
  simp only [List.cons_append, List.nil_append]
  wtm_at "M_go"
  refine ⟨by wtm_at "M_sz", fun aD => ?_⟩
  wtm_at "M_go"
  refine ⟨by wtm_at "M_sz", fun aF => ?_⟩
  wtm_at "M_go"
  refine ⟨by wtm_at "M_sz", fun aT => ?_⟩
  wtm_at "M_go"
  refine ⟨by wtm_at "M_sz", fun aM => ?_⟩
  wtm_at "M_go"
  rename_i aN tk sp
  refine ⟨by wtm_at "M_nat", fun c2 z2 i2 p2 => ?_⟩
  refine T.take (ps := [(x, InsP 322 dx), (dx, DctP prog w [("domains", .ref aD), ("firsts", .ref aF), ("trail", .ref aT), ("marks", .ref aM), ("news", .ref aN), ("speaker", .int (-1) sp), ("is_failed", .bool false)]),
    (aD, LstP []), (aF, LstP []), (aT, LstP []), (aM, LstP []), (aN, NewP prog w)]) (by wtm_at "M_tk") ?_
  simp only [List.cons_append, List.nil_append]
  wtm_at "M_go"
  exact ⟨{ X := x, dx := dx, aD := aD, aF := aF, aT := aT, aM := aM, aN := aN, sp := sp, b := false, cl := .ref c2, vD := [], vF := [], vT := [], vM := [] : Sto }.led prog w ++ l, by wtm_at "M_sub", rfl,
    h z2 { X := x, dx := dx, aD := aD, aF := aF, aT := aT, aM := aM, aN := aN, sp := sp, b := false, cl := .ref c2, vD := [], vF := [], vT := [], vM := [] } i2 ⟨.nil, .nil, .nil, .nil⟩⟩
end
end Mine
end
section
open PySem PySem.W PySem.Calls PyProof.Rows
set_option maxRecDepth 100000
set_option maxHeartbeats 8000000
namespace Mine
section
variable {α β : Type} {prog : Program} {w : World} {A : Around} {z : Heap} {l : Led} {s : Shared} {env : Env}

theorem draw_ok {sd c : Addr} {N many : Int} {tm : Tok} {Q : Post Value} (R : Rm 1 A) (ok : SrcOk z c) (hN : N ≤ 1000) (hm : 0 < many) (hm8 : many ≤ 8)
    (h : ∀ r t z', z.StaysIn z' → 0 ≤ r → r < many → Q (.int r t) z' ((sd, SrcP prog w c (N + 1)) :: l)) : T prog w A (call (.ref 333) [.ref sd, .int many tm]) Q z ((sd, SrcP prog w c N) :: l) := by
  refine T.openSrc fun sp tk h0 h1 => ?_
  refine t_def [(("src" : Str), some (.ref sd)), (("many" : Str), some (.int many tm)), (("cells" : Str), none), (("spot" : Str), none)] (fun L => []) (by k_is) (by k_is) R.room (by rfl) (by rfl) (by decide) (by wtm_at "M_nd") (by exact ⟨rfl, rfl, rfl, rfl, trivial⟩) (fun L => by rfl) (fun L => ?_) (by rfl) (by rfl) (by rfl)
  have hh := R.hh
  have R : ∀ env, Rm 0 (A.deeper env) := fun _ => R.deeper
  simp only [List.cons_append, List.nil_append]

  obtain ⟨cvs, ns, hL, hI, hl1, hl2, hr⟩ := ok.h
  have hl := ints_len hI
  wtm_at "M_go"
  refine ⟨by wtm_at "M_nat", fun c0 z0 i0 h0' => ⟨c0, _, _, rfl, h0', ?_⟩⟩
  have hL := is_up hL i0
  wtm_at "M_go"
  refine T.weaken (P' := SrcP prog w c (N + 1)) (by wtm_at "M_up") (fun o d => ⟨sp + 1, _, by omega, by omega, d⟩) ?_
  refine t_lenL (LsAt.fz hL) (by omega) fun t1 => ?_
  refine t_mod (by omega) fun t2 => ?_
  have hpos : (0 : Int) < cvs.length := by omega
  have m1 := Int.fmod_nonneg_of_pos sp hpos
  have m2 := Int.fmod_lt_of_pos sp hpos
  obtain ⟨n, hn⟩ : ∃ n, ns[(Int.fmod sp cvs.length).toNat]? = some n := ⟨_, List.getElem?_eq_getElem (by omega)⟩
  obtain ⟨tn, hv⟩ := ints_get hI hn
  have hnr := hr n (List.mem_of_getElem? hn)
  refine t_itemL (LsAt.fz hL) m1 (by omega) hv ?_ (by with_unfolding_all rfl)
  wtm_at "M_go"
  refine t_lenL (LsAt.fz hL) (by omega) fun t3 => ?_
  refine t_fdiv (by omega) (PyProof.noPylong_small (by omega)) fun t4 => ?_
  wtm_at "M_go"
  refine t_mul (IntMulOk.of_left (by decide)) fun t5 => ?_
  wtm_at "M_go"
  refine t_mul (IntMulOk.of_right (intBits_le_64 (by omega) (by omega))) fun t6 => ?_
  wtm_at "M_go"
  refine t_mod (by omega) fun t7 => ?_
  wtm_at "M_go"
  exact RetQ.ret (l' := (sd, SrcP prog w c (N + 1)) :: l) (by wtm_at "M_sub") (h _ _ z0 i0 (Int.fmod_nonneg_of_pos _ hm) (Int.fmod_lt_of_pos _ hm))

theorem t_scrSlice {value slice : PySem.Expr} {a sl : Addr} {vs : List Value} {i : Int} {t : Tok} : True := trivial
theorem src_ok {a : Addr} {vs : List Value} {ns : List Int} {Q : Post Value} (R : Rm 2 A) (ha : z.IsList a vs.toArray) (hI : IntsAre vs ns) (hn : ns.length ≤ 100)
    (h : ∀ sd c t z', z.StaysIn z' → SrcOk z' c → Q (.ref sd) z' ((sd, DctP prog w [("cells", .ref c), ("spot", .int 0 t)]) :: l)) : T prog w A (call (.ref 338) [.ref a]) Q z l := by
  refine t_def [(("script" : Str), some (.ref a))] (fun L => []) (by k_is) (by k_is) R.room (by rfl) (by rfl) (by decide) (by wtm_at "M_nd") (by exact ⟨rfl, trivial⟩) (fun L => by rfl) (fun L => ?_) (by rfl) (by rfl) (by rfl)
  have hh := R.hh
  have R : ∀ env, Rm 1 (A.deeper env) := fun _ => R.deeper
  simp only [List.cons_append, List.nil_append]

  have hl := ints_len hI
  wtm_at "M_ss"
  wtm_at "M_ss"
  refine t_Dict (by rfl) (by rfl) (by simp) (by decide) fun D => ?_
  refine t_pair1 ?_
  wtm_at "M_go"
  refine t_Comp (σ := Unit) [("cell" : Str)] (by rfl) (by decide) (by rfl) (by decide) (by decide) ?_ (by intro _; rfl)
  wtm_at "M_go"
  intro sl
  refine t_subUp (LsAt.fz ha) (by omega) (by decide) (fun c => ?_) (by with_unfolding_all rfl)
  have hI2 : IntsAre (vs.take (50 : Int).toNat) (ns.take 50) := hI.take 50
  have hl2 := ints_len hI2
  refine t_iterL (LsAt.own (by wtm_at "M_mm")) fun I => ?_
  refine CompOn.intro (fun _ => _) (fun i _ ys z' => ∃ ms, IntsAre ys ms ∧ ms.length = i ∧ ∀ n ∈ ms, 0 ≤ n ∧ n < 1000003) () (steps_list (vs := vs.take (50 : Int).toNat) (ax := c) (R _).hh (by rfl)) (by rw [List.length_take]; omega) ⟨[], .nil, rfl, by simp⟩ (by rfl) ?_ ?_ ?_ ?_
  · intro i x ys z' f C D i' _
    exact LsAt.own (by wtm_at "M_mm")
  · intro C Dx i x ys z₁ z₂ v f hi i1 i2 hok hv
    obtain ⟨ms, hms, hml, hmr⟩ := hok
    obtain ⟨m, tm, rfl, hm⟩ := hI2.at i v hv
    dsimp only [nmsOf, List.map]
    simp only [List.cons_append, List.nil_append]
    wtm_at "M_go"
    refine t_tst0 (and_t ?_)
    wtm_at "M_go"
    refine t_abs fun t1 => ?_
    wtm_at "M_go"
    refine t_mod (by decide) fun t2 => ?_
    refine ⟨(), _, (by wtm_at "M_sub"), by rfl, ms ++ [_], hms.append (.cons _ _ .nil), by simp [hml], ?_⟩
    intro n hn
    rcases List.mem_append.mp hn with hn | hn
    · exact hmr n hn
    · simp only [List.mem_singleton] at hn
      subst hn
      exact ⟨Int.fmod_nonneg_of_pos _ (by decide), Int.fmod_lt_of_pos _ (by decide)⟩
  · rintro i x ys z' ⟨ms, hms, hml, hmr⟩
    rw [ints_len hms]; omega
  · rintro x ys z1 i1 ⟨ms, hms, hml, hmr⟩ Dc
    have hml' : ms.length = min 50 ns.length := by rw [hml, hl2, List.length_take]
    dsimp only
    wtm_at "M_go"
    rename_i t0
    refine ⟨by wtm_at "M_sz", fun b0 => ?_⟩
    wtm_at "M_go"
    refine ⟨by wtm_at "M_sz", fun b1 => ?_⟩
    wtm_at "M_go"
    refine t_eqInts (ns := ns) (ms := []) (LsAt.fz (is_up ha i1)) (LsAt.own (by wtm_at "M_mm")) hI .nil (R _).unit ?_
    wtm_at "M_go"
    refine t_intB fun t1 => ?_
    refine T.pick (by wtm_at "M_pc") (t_mulL (a := b0) ?_ ?_ ?_ fun c1 => ?_)
    · split <;> decide
    · split <;> decide
    · exact Nat.le_of_ble_eq_true rfl
    have hq : ∃ ks, IntsAre (List.replicate (if decide (ns = []) = true then (1 : Int) else 0).toNat [Value.int 0 t0]).flatten ks ∧ (∀ n ∈ ks, 0 ≤ n ∧ n < 1000003) ∧ ks.length ≤ 1 ∧ (ns = [] → ks.length = 1) := by
      by_cases q : ns = []
      · rw [decide_eq_true q, if_pos rfl]
        exact ⟨[0], .cons _ _ .nil, by simp, by simp, fun _ => rfl⟩
      · rw [decide_eq_false q, if_neg (by simp)]
        exact ⟨[], .nil, by simp, by simp, fun e => absurd e q⟩
    obtain ⟨ks, hks, hkr, hk1, hk2⟩ := hq
    have e1 := ints_len hms
    have e2 := ints_len hks
    refine t_addL (LsAt.own (by wtm_at "M_mm")) (LsAt.own (by wtm_at "M_mm")) (by omega) fun c2 => ?_
    refine T.frzL fun z3 i3 hc2 => ?_
    wtm_at "M_go"
    refine ⟨_, _, carries1 (carries1 carries0), (by wtm_at "M_up"), ?_⟩
    wtm_at "M_go"
    rename_i tz
    have em : merged [] [(("cells" : Str), Value.ref c2), (("spot" : Str), Value.int 0 tz)] = [(("cells" : Str), Value.ref c2), (("spot" : Str), Value.int 0 tz)] := by with_unfolding_all rfl
    rw [em]
    refine RetQ.ret (l' := (D, DctP prog w [("cells", .ref c2), ("spot", .int 0 tz)]) :: l) (by wtm_at "M_sub") (h D c2 tz z3 (fun _ _ e => i3 _ _ (i1 _ _ e)) ⟨_, _, hc2, hms.append hks, ?_, ?_, ?_⟩)
    · rw [List.length_append]
      by_cases q : ns = []
      · have := hk2 q; omega
      · have : ns.length ≠ 0 := fun e => q (List.eq_nil_of_length_eq_zero e)
        omega
    · rw [List.length_append]; omega
    · intro n hn
      rcases List.mem_append.mp hn with hn | hn
      · exact hmr n hn
      · exact hkr n hn
end
end Mine
end
section
open PySem PySem.W PySem.Calls PyProof.Rows
set_option maxRecDepth 100000
set_option maxHeartbeats 8000000
namespace Mine
section
variable {α β : Type} {prog : Program} {w : World} {A : Around} {z : Heap} {l : Led} {s : Shared} {env : Env}

def metB (sg : Str) (k v : Int) : Bool := if sg = ("=" : Str) then v == k else if sg = ("!=" : Str) then v != k else if sg = ("<=" : Str) then decide (v ≤ k) else decide (k ≤ v)
theorem met_ok {b : Addr} {x k v : Int} {sg : Str} {tv : Tok} {Q : Post Value} (R : Rm 1 A) (hl : LitAt z b x sg k)
    (h : ∀ z', z.StaysIn z' → Q (.bool (metB sg k v)) z' l) : T prog w A (call (.ref 345) [.ref b, .int v tv]) Q z l := by
  refine t_def [(("literal" : Str), some (.ref b)), (("v" : Str), some (.int v tv)), (("sign" : Str), none), (("k" : Str), none)] (fun L => []) (by k_is) (by k_is) R.room (by rfl) (by rfl) (by decide) (by wtm_at "M_nd") (by exact ⟨rfl, rfl, rfl, rfl, trivial⟩) (fun L => by rfl) (fun L => ?_) (by rfl) (by rfl) (by rfl)
  have hh := R.hh
  have R : ∀ env, Rm 0 (A.deeper env) := fun _ => R.deeper
  simp only [List.cons_append, List.nil_append]

  obtain ⟨t1, t2, t3, hl⟩ := hl
  wtm_at "M_go"
  refine ⟨by wtm_at "M_nat", fun c0 z0 i0 h0 => ⟨c0, _, _, rfl, h0, ?_⟩⟩
  wtm_at "M_go"
  refine ⟨by wtm_at "M_sz", fun e => ?_⟩
  refine t_inS (es := [.str "=", .str "!="]) (LsAt.own (by wtm_at "M_mm")) (.cons (.str _ _) (.cons (.str _ _) .nil)) ?_
  wtm_at "M_go"
  have key : ([PyData.str "=", .str "!="].any (datHitsStr sg)) = true ↔ (sg = ("=" : Str) ∨ sg = ("!=" : Str)) := by
    simp only [List.any_cons, List.any_nil, datHitsStr, Bool.or_false, Bool.or_eq_true, beq_iff_eq]
    constructor <;> rintro (h | h) <;> simp [h]
  refine br_b (fun h1 => ?_) (fun h1 => ?_)
  · have hs := key.mp h1
    wtm_at "M_go"
    refine RetQ.ret (l' := l) (by wtm_at "M_sub") ?_
    have := h z0 i0
    have e : metB sg k v = ((v == k) == (sg == ("=" : Str))) := by
      rcases hs with rfl | rfl
      · rw [metB, if_pos rfl]; simp
      · rw [metB, if_neg (by decide), if_pos rfl, show ((("!=" : Str) == ("=" : Str)) = false) from by decide]
        by_cases q : v = k <;> simp [q, bne]
    rw [e] at this; exact this
  · have hs : ¬(sg = ("=" : Str) ∨ sg = ("!=" : Str)) := fun q => by rw [key.mpr q] at h1; cases h1
    have hs1 : sg ≠ ("=" : Str) := fun q => hs (.inl q)
    have hs2 : sg ≠ ("!=" : Str) := fun q => hs (.inr q)
    wtm_at "M_go"
    refine br_s (fun h2 => ?_) (fun h2 => ?_)
    · wtm_at "M_go"
      refine RetQ.ret (l' := l) (by wtm_at "M_sub") ?_
      have := h z0 i0
      rw [metB, if_neg hs1, if_neg hs2, if_pos h2] at this; exact this
    · wtm_at "M_go"
      refine RetQ.ret (l' := l) (by wtm_at "M_sub") ?_
      have := h z0 i0
      rw [metB, if_neg hs1, if_neg hs2, if_neg h2] at this; exact this

def nowL (F0 : List Int) (rows : List Row) (x : Int) : List Int := rows.foldl (fun f r => if r.1 = x then r.2 else f) F0
structure NowS where
  fa : Addr
  y : Option Value
  lf : Option Value
theorem now_ok {o : Wld} {F : List (List Int)} {rows : List Row} {marks : List Nat} {x : Int} {tx : Tok} {F0 : List Int} {Q : Post Value} (R : Rm 1 A) (ok : WldOk z o F rows marks) (h0 : 0 ≤ x) (h1 : x < 1000) (hF : F[x.toNat]? = some F0) (hr : rows.length ≤ 1000)
    (h : ∀ z' a, z.StaysIn z' → IL z' a (nowL F0 rows x) → Q (.ref a) z' (o.led prog w ++ l)) : T prog w A (call (.ref 352) [.ref o.W, .int x tx]) Q z (o.led prog w ++ l) := by
  refine t_def [(("world" : Str), some (.ref o.W)), (("x" : Str), some (.int x tx)), (("found" : Str), none), (("y" : Str), none), (("left" : Str), none)] (fun L => []) (by k_is) (by k_is) R.room (by rfl) (by rfl) (by decide) (by wtm_at "M_nd") (by exact ⟨rfl, rfl, rfl, rfl, rfl, trivial⟩) (fun L => by rfl) (fun L => ?_) (by rfl) (by rfl) (by rfl)
  have hh := R.hh
  have R : ∀ env, Rm 0 (A.deeper env) := fun _ => R.deeper
  simp only [List.cons_append, List.nil_append]

  obtain ⟨fa, hfa, hIL⟩ := ok.f.get hF
  have hrl := ok.r.len
  simp only [Wld.led, List.cons_append, List.nil_append]
  wtm_at "M_go"
  refine t_itemL (LsAt.own (by wtm_at "M_mm")) h0 (by omega) hfa ?_ (by with_unfolding_all rfl)
  wtm_at "M_go"
  refine t_For ?_
  wtm_at "M_go"
  refine t_iterL (LsAt.own (by wtm_at "M_mm")) fun I => ?_
  refine tc_for (σ := NowS) (fun s => (L, LocP [(("world" : Str), some (.ref o.W)), (("x" : Str), some (.int x tx)), (("found" : Str), some (.ref s.fa)), (("y" : Str), s.y), (("left" : Str), s.lf)]) ::
      (o.W, DctP prog w [("firsts", .ref o.aF), ("rows", .ref o.aR), ("marks", .ref o.aM)]) :: (o.aF, LstP o.vF) :: (o.aR, LstP o.vR) :: (o.aM, LstP o.vM) :: l)
    (fun i s z' => IL z' s.fa (nowL F0 (rows.take i) x)) ⟨fa, none, none⟩ (steps_list (vs := o.vR) (ax := o.aR) (R _).hh (by rfl)) hIL (by rfl) (fun i s z' _ _ => LsAt.own (by wtm_at "M_mm")) ?_ ?_
  · rintro i ⟨fa, y, lf⟩ z1 z2 v hi i1 i2 hok hv
    dsimp only at hok ⊢
    obtain ⟨e, he, ra, rt, la, rfl, hrt, hrl⟩ := (ok.r.up (fun _ _ e => i2 _ _ (i1 _ _ e))).at hv
    have htk := take_snoc he
    simp only [List.cons_append, List.nil_append]
    refine t_assign2 (R _).hh hrt ?_
    wtm_at "M_go"
    refine br_i (fun q => ?_) (fun q => ?_)
    · wtm_at "M_go"
      refine ⟨⟨la, _, _⟩, sub_refl, ?_⟩
      dsimp only
      rw [htk, nowL, List.foldl_append, List.foldl_cons, List.foldl_nil, if_pos q]
      exact hrl
    · wtm_at "M_go"
      refine ⟨⟨fa, _, _⟩, sub_refl, ?_⟩
      dsimp only
      rw [htk, nowL, List.foldl_append, List.foldl_cons, List.foldl_nil, if_neg q]
      exact hok.up i2
  · rintro ⟨fa, y, lf⟩ z1 i1 hok
    dsimp only at hok ⊢
    rw [hrl, List.take_length] at hok
    wtm_at "M_go"
    exact RetQ.ret (l' := o.led prog w ++ l) (by wtm_at "M_sub") (h z1 fa i1 hok)
end
end Mine
end
section
open PySem PySem.W PySem.Calls PyProof.Rows
set_option maxRecDepth 100000
set_option maxHeartbeats 8000000
namespace Mine
section
variable {α β : Type} {prog : Program} {w : World} {A : Around} {z : Heap} {l : Led} {s : Shared} {env : Env}

def saidP (F0 : List Int) (rows : List Row) (x : Int) (sg : Str) (k : Int) : Bool × List Row :=
  let old := nowL F0 rows x
  let left := old.filter (metB sg k)
  if left = [] then (false, rows) else if left = old then (true, rows) else (true, rows ++ [(x, left)])
theorem said_ok {o : Wld} {F : List (List Int)} {rows : List Row} {marks : List Nat} {x k : Int} {sg : Str} {b : Addr} {F0 : List Int} {Q : Post Value} (R : Rm 2 A) (ok : WldOk z o F rows marks) (hl : LitAt z b x sg k) (h0 : 0 ≤ x) (h1 : x < 1000) (hF : F[x.toNat]? = some F0) (hr : rows.length ≤ 1000) (hn : (nowL F0 rows x).length ≤ 1000)
    (h : ∀ z' (o' : Wld), z.StaysIn z' → o'.W = o.W → WldOk z' o' F (saidP F0 rows x sg k).2 marks → Q (.bool (saidP F0 rows x sg k).1) z' (o'.led prog w ++ l)) : T prog w A (call (.ref 357) [.ref o.W, .ref b]) Q z (o.led prog w ++ l) := by
  refine t_def [(("world" : Str), some (.ref o.W)), (("old" : Str), none), (("left" : Str), none)] (fun L => [(L + 1, CelP (some (.ref b)))]) (by k_is) (by k_is) R.room (by rfl) (by rfl) (by decide) (by wtm_at "M_nd") (by exact ⟨rfl, rfl, rfl, trivial⟩) (fun L => by rfl) (fun L => ?_) (by rfl) (by rfl) (by rfl)
  have hh := R.hh
  have R : ∀ env, Rm 1 (A.deeper env) := fun _ => R.deeper
  simp only [List.cons_append, List.nil_append]

  obtain ⟨t1, t2, t3, hlt⟩ := id hl
  simp only [Wld.led, List.cons_append, List.nil_append]
  wtm_at "M_go"
  refine T.take (ps := o.led prog w) (by wtm_at "M_take") ?_
  refine now_ok (R _) ok h0 h1 hF hr fun z1 oa i1 hold => ?_
  obtain ⟨ovs, hoL, hoI⟩ := hold
  have hlt := tp_up hlt i1
  have hl1 := hl.up i1
  have hol := ints_len hoI
  simp only [Wld.led, List.cons_append, List.nil_append]
  wtm_at "M_go"
  refine t_CompA1 (σ := Unit) [("v" : Str)] (by with_unfolding_all rfl) (by rfl) (by decide) (by rfl) (by decide) (by decide) (by rfl) (by rfl) (by intro _; rfl) ?_
  wtm_at "M_go"
  refine t_iterL (LsAt.fz hoL) fun I => ?_
  refine CompOn.intro (fun _ => _) (fun i _ ys z' => IntsAre ys (((nowL F0 rows x).take i).filter (metB sg k))) () (steps_list (vs := ovs) (ax := oa) (R _).hh (by rfl)) (by omega) .nil (by rfl) (fun i x ys z' f C D i' _ => LsAt.fz (is_up hoL i')) ?_ ?_ ?_
  · intro C Dx i x ys z₁ z₂ v f hi i1' i2' hok hv
    obtain ⟨m, tm, rfl, hm⟩ := hoI.at i v hv
    have htk := take_snoc hm
    have i12 := fun b o e => i2' b o (i1' b o e)
    dsimp only [nmsOf, List.map]
    simp only [List.cons_append, List.nil_append]
    wtm_at "M_go"
    refine t_tst1 ?_
    wtm_at "M_go"
    refine met_ok (R _) (hl1.up i12) fun z3 i3 => ?_
    refine t_truthy (and_b (fun q => ?_) (fun q => ?_))
    · wtm_at "M_go"
      refine ⟨(), _, (by wtm_at "M_sub"), by rfl, ?_⟩
      rw [htk, List.filter_append, List.filter_cons, if_pos q]
      exact hok.append (.cons _ _ .nil)
    · refine ⟨(), _, (by wtm_at "M_sub"), by rfl, ?_⟩
      rw [htk, List.filter_append, List.filter_cons, if_neg (by rw [q]; decide)]
      simpa using hok
  · intro i x ys z' hok
    rw [ints_len hok]
    exact Nat.le_trans (List.length_filter_le _ _) (by rw [List.length_take]; omega)
  · intro _ ys z2 i2 hok D
    rw [hol, List.take_length] at hok
    refine ⟨_, _, _, (by dsimp only; wtm_at "M_up"), (by wtm_at "M_pu"), ?_⟩
    refine t_seq (T.frzL fun z3 i3 hD => ?_)
    have i13 : z.StaysIn z3 := fun _ _ e => i3 _ _ (i2 _ _ (i1 _ _ e))
    have i03 : z1.StaysIn z3 := fun _ _ e => i3 _ _ (i2 _ _ e)
    have hoL3 := is_up hoL i03
    have hlt3 := tp_up hlt i03
    have okz := ok.up i13
    have hrl := ok.r.len
    have hyl := ints_len hok
    wtm_at "M_go"
    refine ⟨by wtm_at "M_sz", fun e0 => ?_⟩
    wtm_at "M_go"
    refine t_eqInts (ms := []) (LsAt.fz hD) (LsAt.own (by wtm_at "M_mm")) hok .nil (R _).unit ?_
    wtm_at "M_go"
    refine br_p (fun h2 => ?_) (fun h2 => ?_)
    · have hE : saidP F0 rows x sg k = (false, rows) := by unfold saidP; simp only [h2, if_true]
      wtm_at "M_go"
      refine RetQ.ret (l' := o.led prog w ++ l) (by wtm_at "M_sub") ?_
      have := h z3 o i13 rfl (by rw [hE]; exact okz)
      rw [hE] at this; exact this
    wtm_at "M_go"
    refine t_neInts (LsAt.fz hD) (LsAt.fz hoL3) hok hoI (R _).unit ?_
    wtm_at "M_go"
    refine br_n (fun h3 => ?_) (fun h3 => ?_)
    · have h3 := of_decide_eq_false h3
      have hE : saidP F0 rows x sg k = (true, rows ++ [(x, (nowL F0 rows x).filter (metB sg k))]) := by unfold saidP; simp only [h2, if_false, h3]
      wtm_at "M_go"
      refine ⟨by wtm_at "M_nat", fun c4 z4 i4 hc4 => ?_⟩
      wtm_at "M_go"
      refine t_append (by wtm_at "M_up") (by omega) ?_
      wtm_at "M_go"
      refine RetQ.ret (l' := { o with vR := o.vR ++ [Value.ref c4] }.led prog w ++ l) (by wtm_at "M_sub") ?_
      have okz4 := okz.up i4
      have := h z4 { o with vR := o.vR ++ [Value.ref c4] } (fun _ _ e => i4 _ _ (i13 _ _ e)) rfl (by
        rw [hE]; exact ⟨okz4.f, okz4.r.snoc ⟨c4, t1, D, rfl, hc4, ys, is_up hD i4, hok⟩, okz4.m⟩)
      rw [hE] at this; exact this
    · have h3 := of_decide_eq_true h3
      have hE : saidP F0 rows x sg k = (true, rows) := by
        show (if (nowL F0 rows x).filter (metB sg k) = [] then (false, rows) else if (nowL F0 rows x).filter (metB sg k) = nowL F0 rows x then (true, rows) else _) = _
        rw [if_neg h2, if_pos h3]
      wtm_at "M_go"
      refine RetQ.ret (l' := o.led prog w ++ l) (by wtm_at "M_sub") ?_
      have := h z3 o i13 rfl (by rw [hE]; exact okz)
      rw [hE] at this; exact this
end
end Mine
end
section
open PySem PySem.W PySem.Calls PyProof.Rows
namespace Mine
/- the plain law: intervals and their values -/
def rangeI (a b : Int) : List Int := (List.range (b - a + 1).toNat).map fun (i : Nat) => a + (i : Int)
def vals (D : Dom) : List Int := D.flatMap fun p => rangeI p.1 p.2
structure OkD (D : Dom) : Prop where
  le : ∀ p ∈ D, p.1 ≤ p.2
  pw : D.Pairwise fun p q => p.2 < q.1
theorem mem_rangeI {a b v : Int} : v ∈ rangeI a b ↔ a ≤ v ∧ v ≤ b := by
  unfold rangeI
  rw [List.mem_map]
  constructor
  · rintro ⟨i, hi, rfl⟩
    rw [List.mem_range] at hi
    omega
  · rintro ⟨h1, h2⟩
    exact ⟨(v - a).toNat, by rw [List.mem_range]; omega, by omega⟩
theorem rangeI_nil {a b : Int} (h : b < a) : rangeI a b = [] := by
  unfold rangeI
  rw [show (b - a + 1).toNat = 0 by omega]; rfl
theorem rangeI_snoc {a b : Int} (h : a ≤ b + 1) : rangeI a (b + 1) = rangeI a b ++ [b + 1] := by
  unfold rangeI
  rw [show (b + 1 - a + 1).toNat = (b - a + 1).toNat + 1 by omega, List.range_succ, List.map_append]
  simp; omega
theorem rangeI_split {a b c : Int} (h1 : a ≤ c + 1) (h2 : c ≤ b) : rangeI a b = rangeI a c ++ rangeI (c + 1) b := by
  obtain ⟨n, rfl⟩ : ∃ n : Nat, b = c + n := ⟨(b - c).toNat, by omega⟩
  clear h2
  induction n with
  | zero => rw [rangeI_nil (a := c + 1) (by omega)]; simp
  | succ n ih =>
    rw [show c + ((n + 1 : Nat) : Int) = (c + n) + 1 by omega, rangeI_snoc (by omega), ih, rangeI_snoc (by omega), List.append_assoc]
theorem filter_all_true {l : List Int} {p : Int → Bool} (h : ∀ v ∈ l, p v = true) : l.filter p = l := List.filter_eq_self.mpr h
theorem filter_all_false {l : List Int} {p : Int → Bool} (h : ∀ v ∈ l, p v = false) : l.filter p = [] := List.filter_eq_nil_iff.mpr fun v hv => by rw [h v hv]; decide
theorem mem_vals {D : Dom} {v : Int} : v ∈ vals D ↔ ∃ p ∈ D, p.1 ≤ v ∧ v ≤ p.2 := by
  unfold vals
  rw [List.mem_flatMap]
  constructor
  · rintro ⟨p, hp, h⟩; exact ⟨p, hp, mem_rangeI.mp h⟩
  · rintro ⟨p, hp, h⟩; exact ⟨p, hp, mem_rangeI.mpr h⟩
theorem vals_cons (p : Int × Int) (D : Dom) : vals (p :: D) = rangeI p.1 p.2 ++ vals D := rfl
theorem vals_append (D E : Dom) : vals (D ++ E) = vals D ++ vals E := by unfold vals; rw [List.flatMap_append]
theorem OkD.tail {p : Int × Int} {D : Dom} (h : OkD (p :: D)) : OkD D := ⟨fun q hq => h.le q (List.mem_cons_of_mem _ hq), (List.pairwise_cons.mp h.pw).2⟩
theorem OkD.above {p : Int × Int} {D : Dom} (h : OkD (p :: D)) : ∀ q ∈ D, p.2 < q.1 := (List.pairwise_cons.mp h.pw).1
theorem vals_eq_nil {D : Dom} (h : OkD D) : vals D = [] ↔ D = [] := by
  constructor
  · intro e
    cases D with
    | nil => rfl
    | cons p D =>
      have : p.1 ∈ vals (p :: D) := mem_vals.mpr ⟨p, List.mem_cons_self, Int.le_refl _, h.le p List.mem_cons_self⟩
      rw [e] at this; cases this
  · rintro rfl; rfl
theorem len_vals {D : Dom} (h : OkD D) : D.length ≤ (vals D).length := by
  induction D with
  | nil => simp [vals]
  | cons p D ih =>
    rw [vals_cons, List.length_append, List.length_cons]
    have := ih h.tail
    have hp := h.le p List.mem_cons_self
    have : 1 ≤ (rangeI p.1 p.2).length := by
      unfold rangeI
      rw [List.length_map, List.length_range]; omega
    omega

theorem upTo_cons (k : Int) (p : Int × Int) (D : Dom) : upToL k (p :: D) = if p.1 ≤ k then (p.1, min p.2 k) :: upToL k D else upToL k D := by
  unfold upToL
  rw [List.filter_cons]
  by_cases h : p.1 ≤ k <;> simp [h]
theorem fromOn_cons (k : Int) (p : Int × Int) (D : Dom) : fromOnL k (p :: D) = if k ≤ p.2 then (max p.1 k, p.2) :: fromOnL k D else fromOnL k D := by
  unfold fromOnL
  rw [List.filter_cons]
  by_cases h : k ≤ p.2 <;> simp [h]
theorem vals_upTo (k : Int) : ∀ {D : Dom}, OkD D → vals (upToL k D) = (vals D).filter fun v => decide (v ≤ k)
  | [], _ => rfl
  | p :: D, h => by
    have hp := h.le p List.mem_cons_self
    rw [upTo_cons, vals_cons, List.filter_append, ← vals_upTo k h.tail]
    by_cases q : p.1 ≤ k
    · rw [if_pos q, vals_cons]
      congr 1
      by_cases q2 : p.2 ≤ k
      · dsimp only
        rw [Int.min_eq_left q2, filter_all_true]
        intro v hv
        have := mem_rangeI.mp hv
        simp; omega
      · dsimp only
        rw [Int.min_eq_right (by omega), rangeI_split (a := p.1) (b := p.2) (c := k) (by omega) (by omega), List.filter_append, filter_all_true, filter_all_false, List.append_nil]
        · intro v hv
          have := mem_rangeI.mp hv
          simp; omega
        · intro v hv
          have := mem_rangeI.mp hv
          simp; omega
    · rw [if_neg q, filter_all_false, List.nil_append]
      intro v hv
      have := mem_rangeI.mp hv
      simp; omega
theorem vals_fromOn (k : Int) : ∀ {D : Dom}, OkD D → vals (fromOnL k D) = (vals D).filter fun v => decide (k ≤ v)
  | [], _ => rfl
  | p :: D, h => by
    have hp := h.le p List.mem_cons_self
    rw [fromOn_cons, vals_cons, List.filter_append, ← vals_fromOn k h.tail]
    by_cases q : k ≤ p.2
    · rw [if_pos q, vals_cons]
      congr 1
      by_cases q2 : k ≤ p.1
      · dsimp only
        rw [Int.max_eq_left q2, filter_all_true]
        intro v hv
        have := mem_rangeI.mp hv
        simp; omega
      · dsimp only
        rw [Int.max_eq_right (by omega), rangeI_split (a := p.1) (b := p.2) (c := k - 1) (by omega) (by omega), List.filter_append, filter_all_false, filter_all_true, List.nil_append, show k - 1 + 1 = k by omega]
        · intro v hv
          have := mem_rangeI.mp hv
          simp; omega
        · intro v hv
          have := mem_rangeI.mp hv
          simp; omega
    · rw [if_neg q, filter_all_false, List.nil_append]
      intro v hv
      have := mem_rangeI.mp hv
      simp; omega
theorem mem_upTo {k : Int} {D : Dom} {q : Int × Int} : q ∈ upToL k D ↔ ∃ p ∈ D, p.1 ≤ k ∧ q = (p.1, min p.2 k) := by
  unfold upToL
  rw [List.mem_map]
  constructor
  · rintro ⟨p, hp, rfl⟩
    have := List.mem_filter.mp hp
    exact ⟨p, this.1, by simpa using this.2, rfl⟩
  · rintro ⟨p, hp, h, rfl⟩
    exact ⟨p, List.mem_filter.mpr ⟨hp, by simpa using h⟩, rfl⟩
theorem mem_fromOn {k : Int} {D : Dom} {q : Int × Int} : q ∈ fromOnL k D ↔ ∃ p ∈ D, k ≤ p.2 ∧ q = (max p.1 k, p.2) := by
  unfold fromOnL
  rw [List.mem_map]
  constructor
  · rintro ⟨p, hp, rfl⟩
    have := List.mem_filter.mp hp
    exact ⟨p, this.1, by simpa using this.2, rfl⟩
  · rintro ⟨p, hp, h, rfl⟩
    exact ⟨p, List.mem_filter.mpr ⟨hp, by simpa using h⟩, rfl⟩
theorem ok_upTo (k : Int) : ∀ {D : Dom}, OkD D → OkD (upToL k D)
  | [], _ => ⟨by simp [upToL], by simp [upToL]⟩
  | p :: D, h => by
    have ih := ok_upTo k h.tail
    have hp := h.le p List.mem_cons_self
    rw [upTo_cons]
    split
    · rename_i q
      refine ⟨fun r hr => ?_, List.pairwise_cons.mpr ⟨fun r hr => ?_, ih.pw⟩⟩
      · rcases List.mem_cons.mp hr with rfl | hr
        · dsimp only; omega
        · exact ih.le r hr
      · obtain ⟨r', hr', _, rfl⟩ := mem_upTo.mp hr
        have := h.above r' hr'
        dsimp only; omega
    · exact ih
theorem ok_fromOn (k : Int) : ∀ {D : Dom}, OkD D → OkD (fromOnL k D)
  | [], _ => ⟨by simp [fromOnL], by simp [fromOnL]⟩
  | p :: D, h => by
    have ih := ok_fromOn k h.tail
    have hp := h.le p List.mem_cons_self
    rw [fromOn_cons]
    split
    · rename_i q
      refine ⟨fun r hr => ?_, List.pairwise_cons.mpr ⟨fun r hr => ?_, ih.pw⟩⟩
      · rcases List.mem_cons.mp hr with rfl | hr
        · dsimp only; omega
        · exact ih.le r hr
      · obtain ⟨r', hr', _, rfl⟩ := mem_fromOn.mp hr
        have := h.above r' hr'
        dsimp only; omega
    · exact ih
theorem ok_without (k : Int) {D : Dom} (h : OkD D) : OkD (withoutL k D) := by
  have h1 := ok_upTo (k - 1) h
  have h2 := ok_fromOn (k + 1) h
  refine ⟨fun p hp => ?_, List.pairwise_append.mpr ⟨h1.pw, h2.pw, fun p hp q hq => ?_⟩⟩
  · rcases List.mem_append.mp hp with hp | hp
    · exact h1.le p hp
    · exact h2.le p hp
  · obtain ⟨p', _, _, rfl⟩ := mem_upTo.mp hp
    obtain ⟨q', _, _, rfl⟩ := mem_fromOn.mp hq
    dsimp only; omega
theorem ok_meet (k : Int) : ∀ {D : Dom}, OkD D → OkD (meetL k D) ∧ (∀ q ∈ meetL k D, q = (k, k))
  | [], _ => ⟨⟨by simp [meetL], by simp [meetL]⟩, by simp [meetL]⟩
  | p :: D, h => by
    obtain ⟨ih1, ih2⟩ := ok_meet k h.tail
    have hp := h.le p List.mem_cons_self
    rw [meetL]
    by_cases c : p.2 < k
    · rw [if_neg (by omega), if_pos c, List.nil_append]
      exact ⟨ih1, ih2⟩
    · rw [if_neg c, List.append_nil]
      split
      · refine ⟨⟨?_, by simp⟩, ?_⟩
        · intro q hq
          simp only [List.mem_singleton] at hq
          subst hq; dsimp only; omega
        · intro q hq
          simp only [List.mem_singleton] at hq
          subst hq
          rw [Prod.mk.injEq]; omega
      · exact ⟨⟨by simp, by simp⟩, by simp⟩
theorem vals_meet (k : Int) : ∀ {D : Dom}, OkD D → vals (meetL k D) = (vals D).filter fun v => v == k
  | [], _ => rfl
  | p :: D, h => by
    have hp := h.le p List.mem_cons_self
    rw [meetL, vals_cons, List.filter_append]
    by_cases c : p.2 < k
    · rw [if_neg (by omega), if_pos c, List.nil_append, vals_meet k h.tail, filter_all_false (l := rangeI p.1 p.2), List.nil_append]
      intro v hv
      have := mem_rangeI.mp hv
      simp; omega
    · rw [if_neg c, List.append_nil, filter_all_false (l := vals D), List.append_nil]
      · by_cases q : p.1 ≤ k
        · rw [if_pos (by omega), rangeI_split (a := p.1) (b := p.2) (c := k) (by omega) (by omega), List.filter_append, filter_all_false (l := rangeI (k + 1) p.2), List.append_nil]
          · obtain ⟨k', rfl⟩ : ∃ k', k = k' + 1 := ⟨k - 1, by omega⟩
            rw [rangeI_snoc (by omega), List.filter_append, filter_all_false (l := rangeI p.1 k'), List.nil_append]
            · rw [show max p.1 (k' + 1) = k' + 1 by omega, show min p.2 (k' + 1) = k' + 1 by omega]
              simp [vals, rangeI]
            · intro v hv
              have := mem_rangeI.mp hv
              simp; omega
          · intro v hv
            have := mem_rangeI.mp hv
            simp; omega
        · rw [if_neg (by omega), filter_all_false (l := rangeI p.1 p.2)]
          · rfl
          · intro v hv
            have := mem_rangeI.mp hv
            simp; omega
      · intro v hv
        obtain ⟨q, hq, h1, h2⟩ := mem_vals.mp hv
        have := h.above q hq
        simp; omega
theorem vals_without (k : Int) : ∀ {D : Dom}, OkD D → vals (withoutL k D) = (vals D).filter fun v => v != k := by
  intro D h
  unfold withoutL
  rw [vals_append, vals_upTo _ h, vals_fromOn _ h]
  have gen : ∀ l : List Int, l.Pairwise (· ≤ ·) → (l.filter fun v => decide (v ≤ k - 1)) ++ (l.filter fun v => decide (k + 1 ≤ v)) = l.filter fun v => v != k := by
    intro l
    induction l with
    | nil => intro _; rfl
    | cons v l ih =>
      intro hp
      rw [List.pairwise_cons] at hp
      have ih := ih hp.2
      by_cases c1 : v ≤ k - 1
      · rw [List.filter_cons, if_pos (by simpa using c1), List.filter_cons, if_neg (by simp; omega), List.filter_cons, if_pos (by simp; omega), List.cons_append, ih]
      · rw [List.filter_cons, if_neg (by simpa using c1), filter_all_false (l := l)]
        · rw [List.nil_append]
          apply List.filter_congr
          intro u hu
          rcases List.mem_cons.mp hu with rfl | hu
          · by_cases c2 : u = k
            · subst c2; simp; omega
            · have : (u != k) = true := by simpa using c2
              rw [this]; simp; omega
          · have := hp.1 u hu
            by_cases c2 : u = k
            · subst c2; simp; omega
            · have : (u != k) = true := by simpa using c2
              rw [this]; simp; omega
        · intro u hu
          have := hp.1 u hu
          simp; omega
  refine gen _ ?_
  clear gen
  induction D with
  | nil => simp [vals]
  | cons p D ih =>
    rw [vals_cons]
    refine List.pairwise_append.mpr ⟨?_, ih h.tail, ?_⟩
    · unfold rangeI
      rw [List.pairwise_map]
      exact (List.pairwise_lt_range).imp fun h => by omega
    · intro u hu v hv
      have := mem_rangeI.mp hu
      obtain ⟨q, hq, h1, h2⟩ := mem_vals.mp hv
      have := h.above q hq
      omega
def SgOk (sg : Str) : Prop := sg = ("<=" : Str) ∨ sg = (">=" : Str) ∨ sg = ("=" : Str) ∨ sg = ("!=" : Str)
theorem vals_struck {sg : Str} {k : Int} {D : Dom} (hs : SgOk sg) (h : OkD D) : vals (struckL sg k D) = (vals D).filter (metB sg k) := by
  unfold struckL
  rcases hs with rfl | rfl | rfl | rfl
  · rw [if_pos rfl, vals_upTo k h]
    apply List.filter_congr
    intro v _
    rw [metB, if_neg (by decide), if_neg (by decide), if_pos rfl]
  · rw [if_neg (by decide), if_pos rfl, vals_fromOn k h]
    apply List.filter_congr
    intro v _
    rw [metB, if_neg (by decide), if_neg (by decide), if_neg (by decide)]
  · rw [if_neg (by decide), if_neg (by decide), if_pos rfl, vals_meet k h]
    apply List.filter_congr
    intro v _
    rw [metB, if_pos rfl]
  · rw [if_neg (by decide), if_neg (by decide), if_neg (by decide), vals_without k h]
    apply List.filter_congr
    intro v _
    rw [metB, if_neg (by decide), if_pos rfl]
theorem ok_struck {sg : Str} {k : Int} {D : Dom} (h : OkD D) : OkD (struckL sg k D) := by
  unfold struckL
  split
  · exact ok_upTo k h
  · split
    · exact ok_fromOn k h
    · split
      · exact (ok_meet k h).1
      · exact ok_without k h
theorem struck_self {sg : Str} {k : Int} {D : Dom} (hs : SgOk sg) (h : OkD D) (ha : ∀ v ∈ vals D, metB sg k v = true) : struckL sg k D = D := by
  have up : ∀ (k : Int) {D : Dom}, OkD D → (∀ v ∈ vals D, v ≤ k) → upToL k D = D := by
    intro k D
    induction D with
    | nil => intro _ _; rfl
    | cons p D ih =>
      intro h ha
      have hp := h.le p List.mem_cons_self
      have h1 := ha p.1 (mem_vals.mpr ⟨p, List.mem_cons_self, Int.le_refl _, hp⟩)
      have h2 := ha p.2 (mem_vals.mpr ⟨p, List.mem_cons_self, hp, Int.le_refl _⟩)
      rw [upTo_cons, if_pos h1, ih h.tail fun v hv => ha v (by rw [vals_cons]; exact List.mem_append_right _ hv), Int.min_eq_left h2]
  have fr : ∀ (k : Int) {D : Dom}, OkD D → (∀ v ∈ vals D, k ≤ v) → fromOnL k D = D := by
    intro k D
    induction D with
    | nil => intro _ _; rfl
    | cons p D ih =>
      intro h ha
      have hp := h.le p List.mem_cons_self
      have h1 := ha p.1 (mem_vals.mpr ⟨p, List.mem_cons_self, Int.le_refl _, hp⟩)
      have h2 := ha p.2 (mem_vals.mpr ⟨p, List.mem_cons_self, hp, Int.le_refl _⟩)
      rw [fromOn_cons, if_pos h2, ih h.tail fun v hv => ha v (by rw [vals_cons]; exact List.mem_append_right _ hv), Int.max_eq_left h1]
  have upn : ∀ (k : Int) {D : Dom}, (∀ p ∈ D, k < p.1) → upToL k D = [] := by
    intro k D h
    unfold upToL
    rw [List.filter_eq_nil_iff.mpr (fun p hp => by have := h p hp; simp; omega)]; rfl
  have wo : ∀ {D : Dom}, OkD D → (∀ v ∈ vals D, v ≠ k) → withoutL k D = D := by
    intro D
    induction D with
    | nil => intro _ _; rfl
    | cons p D ih =>
      intro h ha
      have hp := h.le p List.mem_cons_self
      have hk : ¬(p.1 ≤ k ∧ k ≤ p.2) := fun q => ha k (mem_vals.mpr ⟨p, List.mem_cons_self, q.1, q.2⟩) rfl
      have ht : ∀ v ∈ vals D, v ≠ k := fun v hv => ha v (by rw [vals_cons]; exact List.mem_append_right _ hv)
      by_cases c : p.2 < k
      · have ih := ih h.tail ht
        unfold withoutL at ih ⊢
        rw [upTo_cons, if_pos (by omega), fromOn_cons, if_neg (by omega), List.cons_append, ih, Int.min_eq_left (by omega)]
      · have hab : ∀ q ∈ p :: D, k < q.1 := fun q hq => by
          rcases List.mem_cons.mp hq with rfl | hq
          · omega
          · have := h.above q hq; omega
        unfold withoutL
        rw [upn (k - 1) (fun q hq => by have := hab q hq; omega), List.nil_append]
        refine fr _ h fun v hv => ?_
        obtain ⟨q, hq, h1, h2⟩ := mem_vals.mp hv
        have := hab q hq
        omega
  have me : ∀ {D : Dom}, OkD D → (∀ v ∈ vals D, v = k) → meetL k D = D := by
    intro D h ha
    cases D with
    | nil => rfl
    | cons p D =>
      have hp := h.le p List.mem_cons_self
      have h1 := ha p.1 (mem_vals.mpr ⟨p, List.mem_cons_self, Int.le_refl _, hp⟩)
      have h2 := ha p.2 (mem_vals.mpr ⟨p, List.mem_cons_self, hp, Int.le_refl _⟩)
      have hD : D = [] := by
        cases D with
        | nil => rfl
        | cons q D =>
          have hq := h.tail.le q List.mem_cons_self
          have := h.above q List.mem_cons_self
          have := ha q.1 (mem_vals.mpr ⟨q, List.mem_cons_of_mem _ List.mem_cons_self, Int.le_refl _, hq⟩)
          omega
      subst hD
      obtain ⟨a, b⟩ := p
      dsimp only at h1 h2
      subst h1 h2
      rw [meetL]; simp
  unfold struckL
  rcases hs with rfl | rfl | rfl | rfl
  · rw [if_pos rfl]
    exact up k h fun v hv => by have := ha v hv; rw [metB, if_neg (by decide), if_neg (by decide), if_pos rfl] at this; simpa using this
  · rw [if_neg (by decide), if_pos rfl]
    exact fr k h fun v hv => by have := ha v hv; rw [metB, if_neg (by decide), if_neg (by decide), if_neg (by decide)] at this; simpa using this
  · rw [if_neg (by decide), if_neg (by decide), if_pos rfl]
    exact me h fun v hv => by have := ha v hv; rw [metB, if_pos rfl] at this; simpa using this
  · rw [if_neg (by decide), if_neg (by decide), if_neg (by decide)]
    exact wo h fun v hv => by have := ha v hv; rw [metB, if_neg (by decide), if_pos rfl] at this; simpa using this
theorem struck_eq_iff {sg : Str} {k : Int} {D : Dom} (hs : SgOk sg) (h : OkD D) : struckL sg k D = D ↔ (vals D).filter (metB sg k) = vals D := by
  constructor
  · intro e
    rw [← vals_struck hs h, e]
  · intro e
    exact struck_self hs h (List.filter_eq_self.mp e)
theorem struck_nil_iff {sg : Str} {k : Int} {D : Dom} (hs : SgOk sg) (h : OkD D) : struckL sg k D = [] ↔ (vals D).filter (metB sg k) = [] := by
  rw [← vals_struck hs h, vals_eq_nil (ok_struck h)]
theorem said_one_iff {sg : Str} {k : Int} {D : Dom} (hs : SgOk sg) (h : OkD D) : saidL sg k D = 1 ↔ ∀ v ∈ vals D, metB sg k v = true := by
  unfold saidL
  by_cases e : struckL sg k D = D
  · rw [if_pos e]
    exact ⟨fun _ => List.filter_eq_self.mp ((struck_eq_iff hs h).mp e), fun _ => rfl⟩
  · rw [if_neg e]
    constructor
    · intro q
      split at q <;> simp at q
    · intro q
      exact absurd (struck_self hs h q) e
theorem fold_behind : ∀ (ns : List Int) (D : Dom), OkD D → ns.Pairwise (· < ·) → (∀ p ∈ D, ∀ v ∈ ns, p.2 < v) → OkD (ns.foldl (fun D v => behindL D v v) D) ∧ vals (ns.foldl (fun D v => behindL D v v) D) = vals D ++ ns
  | [], D, h, _, _ => ⟨h, by simp⟩
  | v :: ns, D, h, hp, hb => by
    rw [List.pairwise_cons] at hp
    have step : OkD (behindL D v v) ∧ vals (behindL D v v) = vals D ++ [v] ∧ ∀ p ∈ behindL D v v, p.2 ≤ v := by
      rcases List.eq_nil_or_concat D with rfl | ⟨D0, p, rfl⟩
      · refine ⟨⟨by simp [behindL], by simp [behindL]⟩, by simp [behindL, vals, rangeI], by simp [behindL]⟩
      · rw [List.concat_eq_append] at *
        have hg : behindL (D0 ++ [p]) v v = if v ≤ p.2 + 1 then (if p.2 < v then D0 ++ [(p.1, v)] else D0 ++ [p]) else D0 ++ [p] ++ [(v, v)] := by
          unfold behindL; rw [List.getLast?_append]; simp
        have hpv : p.2 < v := hb p (by simp) v List.mem_cons_self
        have hpl : p.1 ≤ p.2 := h.le p (by simp)
        have hb' : ∀ q ∈ D0, q.2 < v := fun q hq => hb q (by simp [hq]) v List.mem_cons_self
        have hpw := List.pairwise_append.mp h.pw
        rw [hg]
        by_cases c : v ≤ p.2 + 1
        · rw [if_pos c, if_pos hpv]
          have hv : v = p.2 + 1 := by omega
          refine ⟨⟨?_, ?_⟩, ?_, ?_⟩
          · intro q hq
            rcases List.mem_append.mp hq with hq | hq
            · exact h.le q (by simp [hq])
            · simp only [List.mem_singleton] at hq; subst hq; dsimp only; omega
          · refine List.pairwise_append.mpr ⟨hpw.1, by simp, ?_⟩
            intro q hq r hr
            simp only [List.mem_singleton] at hr; subst hr
            exact hpw.2.2 q hq p (by simp)
          · rw [vals_append, vals_append, List.append_assoc]
            congr 1
            show rangeI p.1 v ++ [] = (rangeI p.1 p.2 ++ []) ++ [v]
            rw [hv, rangeI_snoc (by omega)]; simp
          · intro q hq
            rcases List.mem_append.mp hq with hq | hq
            · have := hb' q hq; omega
            · simp only [List.mem_singleton] at hq; subst hq; exact Int.le_refl _
        · rw [if_neg c]
          refine ⟨⟨?_, ?_⟩, ?_, ?_⟩
          · intro q hq
            rcases List.mem_append.mp hq with hq | hq
            · exact h.le q hq
            · simp only [List.mem_singleton] at hq; subst hq; exact Int.le_refl _
          · refine List.pairwise_append.mpr ⟨h.pw, by simp, ?_⟩
            intro q hq r hr
            simp only [List.mem_singleton] at hr; subst hr
            exact hb q hq v List.mem_cons_self
          · rw [vals_append]
            congr 1
            simp [vals, rangeI]
          · intro q hq
            rcases List.mem_append.mp hq with hq | hq
            · have := hb q hq v List.mem_cons_self; omega
            · simp only [List.mem_singleton] at hq; subst hq; exact Int.le_refl _
    obtain ⟨s1, s2, s3⟩ := step
    have ih := fold_behind ns (behindL D v v) s1 hp.2 fun p hq u hu => by
      have := s3 p hq
      have := hp.1 u hu
      omega
    rw [List.foldl_cons]
    refine ⟨ih.1, ?_⟩
    rw [ih.2, s2, List.append_assoc]; rfl
theorem fromL_ok {ns : List Int} (h : ns.Pairwise (· < ·)) : OkD (fromL ns) ∧ vals (fromL ns) = ns := by
  have := fold_behind ns [] ⟨by simp, by simp⟩ h (by simp)
  simpa [fromL, vals] using this
end Mine
end
section
open PySem PySem.W PySem.Calls PyProof.Rows
namespace Mine
/- the store and the law's own world, side by side -/
noncomputable def rowOf (e : Ent) : Row := (e.x, vals (struckL e.sg e.k e.old))
noncomputable def nowD (D0 : Dom) (rows : List Ent) (x : Int) : Dom := rows.foldl (fun f e => if e.x = x then struckL e.sg e.k e.old else f) D0
structure Inv (F Ds : List Dom) (FL : List (List Int)) (rows : List Ent) : Prop where
  lf : F.length = 2
  ld : Ds.length = 2
  fl : FL = F.map vals
  fk : ∀ D ∈ F, OkD D ∧ D ≠ [] ∧ (vals D).length ≤ 6 ∧ ∀ v ∈ vals D, 0 ≤ v ∧ v ≤ 5
  ent : ∀ i e, rows[i]? = some e → (e.x = 0 ∨ e.x = 1) ∧ SgOk e.sg ∧ (∃ D0, F[e.x.toNat]? = some D0 ∧ e.old = nowD D0 (rows.take i) e.x) ∧ struckL e.sg e.k e.old ≠ []
  now : ∀ (x : Nat) D0, F[x]? = some D0 → Ds[x]? = some (nowD D0 rows x)
structure MarksOk (marks : List Nat) (n : Nat) : Prop where
  le : ∀ m ∈ marks, m ≤ n
  pw : marks.Pairwise (· ≤ ·)

theorem nowD_snoc (D0 : Dom) (rows : List Ent) (e : Ent) (x : Int) : nowD D0 (rows ++ [e]) x = if e.x = x then struckL e.sg e.k e.old else nowD D0 rows x := by
  unfold nowD; rw [List.foldl_append]; rfl
theorem nowL_snoc (F0 : List Int) (rows : List Row) (r : Row) (x : Int) : nowL F0 (rows ++ [r]) x = if r.1 = x then r.2 else nowL F0 rows x := by
  unfold nowL; rw [List.foldl_append]; rfl
theorem snoc_ind {α : Type} {P : List α → Prop} (h0 : P []) (h1 : ∀ l a, P l → P (l ++ [a])) : ∀ l, P l := by
  intro l
  have : ∀ l : List α, P l.reverse := by
    intro l
    induction l with
    | nil => exact h0
    | cons a l ih => rw [List.reverse_cons]; exact h1 _ _ ih
  simpa using this l.reverse
theorem nowL_rows (D0 : Dom) (x : Int) : ∀ rows : List Ent, nowL (vals D0) (rows.map rowOf) x = vals (nowD D0 rows x) := by
  refine snoc_ind rfl fun rows e ih => ?_
  rw [List.map_append, List.map_cons, List.map_nil, nowL_snoc, nowD_snoc, ih]
  show (if e.x = x then _ else _) = _
  split <;> rfl
/-- every domain met on the way is in order and within the first one's values -/
theorem Inv.nowOk {F Ds : List Dom} {FL : List (List Int)} {rows : List Ent} (h : Inv F Ds FL rows) {x : Nat} {D0 : Dom} (hF : F[x]? = some D0) :
    ∀ n, n ≤ rows.length → OkD (nowD D0 (rows.take n) x) ∧ nowD D0 (rows.take n) x ≠ [] ∧ (vals (nowD D0 (rows.take n) x)).length ≤ 6 ∧ ∀ v ∈ vals (nowD D0 (rows.take n) x), 0 ≤ v ∧ v ≤ 5 := by
  intro n
  induction n generalizing x D0 with
  | zero => intro _; exact h.fk D0 (List.mem_of_getElem? hF)
  | succ n ih =>
    intro hn
    obtain ⟨e, he⟩ : ∃ e, rows[n]? = some e := ⟨_, List.getElem?_eq_getElem (by omega)⟩
    rw [take_snoc he, nowD_snoc]
    obtain ⟨hx, hs, ⟨D1, hF1, hold⟩, hne⟩ := h.ent n e he
    split
    · rename_i q
      have hxx : e.x.toNat = x := by omega
      rw [hxx, hF] at hF1
      cases hF1
      obtain ⟨k1, k2, k3, k4⟩ := ih hF (by omega)
      rw [← q] at k1 k2 k3 k4
      rw [← hold] at k1 k2 k3 k4
      refine ⟨ok_struck k1, hne, ?_, ?_⟩
      · rw [vals_struck hs k1]
        exact Nat.le_trans (List.length_filter_le _ _) k3
      · intro v hv
        rw [vals_struck hs k1] at hv
        exact k4 v (List.mem_filter.mp hv).1
    · exact ih hF (by omega)
theorem Inv.nowOk' {F Ds : List Dom} {FL : List (List Int)} {rows : List Ent} (h : Inv F Ds FL rows) {x : Nat} {D0 : Dom} (hF : F[x]? = some D0) :
    OkD (nowD D0 rows x) ∧ nowD D0 rows x ≠ [] ∧ (vals (nowD D0 rows x)).length ≤ 6 ∧ ∀ v ∈ vals (nowD D0 rows x), 0 ≤ v ∧ v ≤ 5 := by
  have := h.nowOk hF rows.length (Nat.le_refl _)
  rwa [List.take_length] at this
theorem Inv.oldOk {F Ds : List Dom} {FL : List (List Int)} {rows : List Ent} (h : Inv F Ds FL rows) {i : Nat} {e : Ent} (he : rows[i]? = some e) : OkD e.old ∧ (vals e.old).length ≤ 6 ∧ SgOk e.sg ∧ (e.x = 0 ∨ e.x = 1) := by
  obtain ⟨hx, hs, ⟨D1, hF1, hold⟩, hne⟩ := h.ent i e he
  obtain ⟨hi, _⟩ := List.getElem?_eq_some_iff.mp he
  have := h.nowOk hF1 i (by omega)
  rw [show ((e.x.toNat : Nat) : Int) = e.x by omega] at this
  rw [← hold] at this
  exact ⟨this.1, this.2.2.1, hs, hx⟩

/-- one literal entered: the store and the world go on side by side -/
theorem step_ok {F Ds : List Dom} {FL : List (List Int)} {rows : List Ent} (h : Inv F Ds FL rows) {x k : Int} {sg : Str} {D D0 : Dom} (hx : x = 0 ∨ x = 1) (hs : SgOk sg) (hF : F[x.toNat]? = some D0) (hD : Ds[x.toNat]? = some D) :
    (entP Ds rows x sg k D).1 = (saidP (vals D0) (rows.map rowOf) x sg k).1 ∧ (saidP (vals D0) (rows.map rowOf) x sg k).2 = (entP Ds rows x sg k D).2.2.map rowOf ∧ Inv F (entP Ds rows x sg k D).2.1 FL (entP Ds rows x sg k D).2.2 ∧
      rows.length ≤ (entP Ds rows x sg k D).2.2.length ∧ (entP Ds rows x sg k D).2.2.length ≤ rows.length + 1 := by
  have hxn : ((x.toNat : Nat) : Int) = x := by omega
  have hn := h.now _ _ hF
  rw [hD] at hn
  injection hn with hn
  rw [hxn] at hn
  have ok := h.nowOk' hF
  rw [hxn, ← hn] at ok
  have hl : nowL (vals D0) (rows.map rowOf) x = vals D := by rw [nowL_rows, hn]
  unfold entP saidP
  simp only [hl]
  have e1 := struck_nil_iff (k := k) hs ok.1
  have e2 := struck_eq_iff (k := k) hs ok.1
  by_cases c1 : struckL sg k D = []
  · rw [if_pos c1, if_pos (e1.mp c1)]
    exact ⟨rfl, rfl, h, Nat.le_refl _, Nat.le_succ _⟩
  · rw [if_neg c1, if_neg (fun q => c1 (e1.mpr q))]
    by_cases c2 : struckL sg k D = D
    · rw [if_pos c2, if_pos (e2.mp c2)]
      exact ⟨rfl, rfl, h, Nat.le_refl _, Nat.le_succ _⟩
    · rw [if_neg c2, if_neg (fun q => c2 (e2.mpr q))]
      refine ⟨rfl, ?_, ?_, by simp, by simp⟩
      · show _ ++ _ = List.map rowOf (_ ++ _)
        rw [List.map_append, List.map_cons, List.map_nil, rowOf, vals_struck hs ok.1]
      · refine ⟨h.lf, by simp [h.ld], h.fl, h.fk, ?_, ?_⟩
        · intro i e he
          by_cases hi : i < rows.length
          · rw [List.getElem?_append_left hi] at he
            have := h.ent i e he
            rw [List.take_append_of_le_length (by omega)]
            exact this
          · rw [List.getElem?_append_right (by omega)] at he
            have hi' : i = rows.length := by
              cases q : i - rows.length with
              | zero => omega
              | succ n => rw [q] at he; simp at he
            subst hi'
            simp only [Nat.sub_self, List.getElem?_cons_zero, Option.some.injEq] at he
            subst he
            refine ⟨hx, hs, ⟨D0, hF, ?_⟩, c1⟩
            dsimp only
            rw [List.take_append_of_le_length (Nat.le_refl _), List.take_length, hn]
        · intro y D1 hF1
          rw [nowD_snoc]
          by_cases q : x = (y : Int)
          · rw [if_pos q]
            have : x.toNat = y := by omega
            rw [this] at hD ⊢
            obtain ⟨hlt, _⟩ := List.getElem?_eq_some_iff.mp hD
            exact List.getElem?_set_self hlt
          · rw [if_neg q, List.getElem?_set_ne (by omega)]
            exact h.now y D1 hF1

theorem undo_snoc (Ds : List Dom) (rows : List Ent) (e : Ent) : undo Ds (rows ++ [e]) = undo (Ds.set e.x.toNat e.old) rows := by
  unfold undo; rw [List.foldr_append]; rfl
theorem Inv.back {F Ds : List Dom} {FL : List (List Int)} {rows : List Ent} {e : Ent} (h : Inv F Ds FL (rows ++ [e])) : Inv F (Ds.set e.x.toNat e.old) FL rows := by
  have he : (rows ++ [e])[rows.length]? = some e := by simp
  obtain ⟨hx, hs, ⟨D1, hF1, hold⟩, hne⟩ := h.ent _ e he
  rw [List.take_append_of_le_length (Nat.le_refl _), List.take_length] at hold
  refine ⟨h.lf, by simp [h.ld], h.fl, h.fk, ?_, ?_⟩
  · intro i e' he'
    obtain ⟨hi, _⟩ := List.getElem?_eq_some_iff.mp he'
    have := h.ent i e' (by rw [List.getElem?_append_left hi]; exact he')
    rwa [List.take_append_of_le_length (by omega)] at this
  · intro y D0 hF
    have hn := h.now y D0 hF
    rw [nowD_snoc] at hn
    by_cases q : e.x = (y : Int)
    · have hy : e.x.toNat = y := by omega
      rw [hy] at hF1 ⊢
      rw [hF] at hF1
      cases hF1
      obtain ⟨hlt, _⟩ := List.getElem?_eq_some_iff.mp hn
      rw [List.getElem?_set_self hlt, hold, q]
    · rw [if_neg q] at hn
      rw [List.getElem?_set_ne (by omega)]
      exact hn
theorem Inv.undo {F : List Dom} {FL : List (List Int)} (m : Nat) : ∀ (rows : List Ent) (Ds : List Dom), Inv F Ds FL rows → Inv F (Mine.undo Ds (rows.drop m)) FL (rows.take m) := by
  refine snoc_ind ?_ ?_
  · intro Ds h; simpa [Mine.undo] using h
  · intro rows e ih Ds h
    by_cases q : m ≤ rows.length
    · rw [List.drop_append_of_le_length q, undo_snoc, List.take_append_of_le_length q]
      exact ih _ h.back
    · rw [List.drop_of_length_le (by simp; omega), List.take_of_length_le (by simp; omega)]
      exact h
end Mine
end
section
open PySem PySem.W PySem.Calls PyProof.Rows
set_option maxRecDepth 100000
set_option maxHeartbeats 8000000
namespace Mine
section
variable {α β : Type} {prog : Program} {w : World} {A : Around} {z : Heap} {l : Led} {s : Shared} {env : Env}

structure JOk (z : Heap) (o : Sto) (wd : Wld) (F Ds : List Dom) (FL : List (List Int)) (rows : List Ent) (marks : List Nat) : Prop where
  s : StoOk z o F Ds rows marks
  w : WldOk z wd FL (rows.map rowOf) marks
  i : Inv F Ds FL rows
  m : MarksOk marks rows.length
theorem JOk.up {z z' : Heap} {o : Sto} {wd : Wld} {F Ds : List Dom} {FL : List (List Int)} {rows : List Ent} {marks : List Nat} (h : JOk z o wd F Ds FL rows marks) (i : z.StaysIn z') : JOk z' o wd F Ds FL rows marks := ⟨h.s.up i, h.w.up i, h.i, h.m⟩
theorem MarksOk.more {marks : List Nat} {n m : Nat} (h : MarksOk marks n) (k : n ≤ m) : MarksOk marks m := ⟨fun a ha => Nat.le_trans (h.le a ha) k, h.pw⟩
structure KeptS where
  o : Sto
  wd : Wld
  Ds : List Dom
  rows : List Ent
  li : Option Value
  du : Option Value
def LitsAt (z : Heap) (x : Int) (vs : List Value) : Prop := ∀ v ∈ vs, ∃ a sg k, v = .ref a ∧ LitAt z a x sg k ∧ SgOk sg
theorem LitsAt.up {z z' : Heap} {x : Int} {vs : List Value} (h : LitsAt z x vs) (i : z.StaysIn z') : LitsAt z' x vs := fun v hv => let ⟨a, sg, k, e, hl, hs⟩ := h v hv; ⟨a, sg, k, e, hl.up i, hs⟩
theorem kept_ok {o : Sto} {wd : Wld} {F Ds : List Dom} {FL : List (List Int)} {rows : List Ent} {marks : List Nat} {x : Int} {tx : Tok} {sa : Addr} {ns : List Int} {Q : Post Value} (R : Rm 8 A) (J : JOk z o wd F Ds FL rows marks) (hx : x = 0 ∨ x = 1)
    (hS : IL z sa ns) (hne : ns ≠ []) (hnl : ns.length ≤ 10) (hnr : ∀ n ∈ ns, 0 ≤ n ∧ n ≤ 6) (hr : rows.length ≤ 900)
    (h : ∀ z' (o' : Sto) (wd' : Wld) Ds' rows', z.StaysIn z' → o'.X = o.X → wd'.W = wd.W → JOk z' o' wd' F Ds' FL rows' marks → rows'.length ≤ rows.length + 10 → Q (.bool true) z' (o'.led prog w ++ (wd'.led prog w ++ l))) :
    T prog w A (call (.ref 362) [.ref o.X, .ref wd.W, .int x tx, .ref sa]) Q z (o.led prog w ++ (wd.led prog w ++ l)) := by
  refine t_def [(("store" : Str), some (.ref o.X)), (("world" : Str), some (.ref wd.W)), (("literals" : Str), none), (("literal" : Str), none), (("due" : Str), none)] (fun L => [(L + 2, CelP (some (.ref sa))), (L + 1, CelP (some (.int x tx)))]) (by k_is) (by k_is) R.room (by rfl) (by rfl) (by decide) (by wtm_at "M_nd") (by exact ⟨rfl, rfl, rfl, rfl, rfl, trivial⟩) (fun L => by rfl) (fun L => ?_) (by rfl) (by rfl) (by rfl)
  have hh := R.hh
  have R : ∀ env, Rm 7 (A.deeper env) := fun _ => R.deeper
  simp only [List.cons_append, List.nil_append]

  obtain ⟨svs, hsL, hsI⟩ := hS
  have hsl := ints_len hsI
  have hsn : ns.length ≠ 0 := fun e => hne (List.eq_nil_of_length_eq_zero e)
  obtain ⟨n0, hn0⟩ : ∃ n, ns[0]? = some n := ⟨_, List.getElem?_eq_getElem (by omega)⟩
  obtain ⟨n1, hn1⟩ : ∃ n, ns[ns.length - 1]? = some n := ⟨_, List.getElem?_eq_getElem (by omega)⟩
  obtain ⟨t0, hv0⟩ := ints_get hsI hn0
  obtain ⟨t1, hv1⟩ := ints_get hsI hn1
  have hr0 := hnr n0 (List.mem_of_getElem? hn0)
  have hr1 := hnr n1 (List.mem_of_getElem? hn1)
  have hlast : svs[((-1 : Int) + (svs.length : Int)).toNat]? = some (.int n1 t1) := by
    rw [show ((-1 : Int) + (svs.length : Int)).toNat = ns.length - 1 by omega]; exact hv1
  simp only [Sto.led, Wld.led, List.cons_append, List.nil_append]
  wtm_at "M_go"
  refine t_itemL (LsAt.fz hsL) (by decide) (by decide) hv0 ?_ (by with_unfolding_all rfl)
  wtm_at "M_go"
  refine ⟨by wtm_at "M_nat", fun c1 z1 i1 hc1 => ?_⟩
  wtm_at "M_go"
  refine t_itemN (LsAt.fz (is_up hsL i1)) (by decide) (by omega) (by decide) hlast ?_ (by with_unfolding_all rfl)
  wtm_at "M_go"
  refine ⟨by wtm_at "M_nat", fun c2 z2 i2 hc2 => ?_⟩
  wtm_at "M_go"
  refine ⟨by wtm_at "M_sz", fun aL => ?_⟩
  wtm_at "M_go"
  have i12 : z.StaysIn z2 := fun _ _ e => i2 _ _ (i1 _ _ e)
  have hsL2 := is_up hsL i12
  refine t_For ?_
  wtm_at "M_go"
  refine t_Comp (σ := Unit) [("v" : Str)] (by rfl) (by decide) (by rfl) (by decide) (by decide) ?_ (by intro _; rfl)
  wtm_at "M_go"
  refine t_itemL (LsAt.fz hsL2) (by decide) (by decide) hv0 ?_ (by with_unfolding_all rfl)
  wtm_at "M_go"
  refine t_itemN (LsAt.fz hsL2) (by decide) (by omega) (by decide) hlast ?_ (by with_unfolding_all rfl)
  wtm_at "M_go"
  refine t_range2 fun r => ?_
  obtain ⟨hsm, hsz⟩ := range_small (a := n0) (b := n1) (by omega) (by omega) (by omega) (by omega)
  refine t_iterR hsm hsz fun I => ?_
  have hlit1 : LitAt z1 c1 x ">=" n0 := ⟨_, _, _, hc1⟩
  have hlit2 : LitAt z2 c2 x "<=" n1 := ⟨_, _, _, hc2⟩
  refine CompOn.intro (fun _ => _) (fun i _ ys z' => ys.length ≤ i ∧ LitsAt z' x ys) () (steps_range (a := n0) (n := (n1 - n0).toNat) (R _).hh (by rfl)) (by omega) ⟨Nat.le_refl _, by intro v hv; cases hv⟩ (by rfl) (fun _ _ _ _ _ _ _ _ _ => trivial) ?_ ?_ ?_
  · rintro C Dx i _ ys z₁ z₂ v f hi i1' i2' ⟨hlen, hok⟩ ⟨tv, rfl⟩
    dsimp only [nmsOf, List.map]
    simp only [List.cons_append, List.nil_append]
    have i12' := fun b o e => i2' b o (i1' b o e)
    wtm_at "M_go"
    refine t_tst1 ?_
    wtm_at "M_go"
    refine t_notinI (LsAt.fz (is_up hsL2 i12')) hsI ?_
    refine t_truthy (and_b (fun q => ?_) (fun q => ?_))
    · wtm_at "M_go"
      refine ⟨by wtm_at "M_nat", fun c3 z3 i3 hc3 => ?_⟩
      refine ⟨(), _, (by wtm_at "M_sub"), by rfl, by simp; omega, ?_⟩
      intro v hv
      rcases List.mem_append.mp hv with hv | hv
      · exact (hok.up (fun _ _ e => i3 _ _ (i2' _ _ e))) v hv
      · simp only [List.mem_singleton] at hv
        exact ⟨c3, _, _, hv, ⟨_, _, _, hc3⟩, .inr (.inr (.inr rfl))⟩
    · exact ⟨(), _, (by wtm_at "M_sub"), by rfl, by omega, hok.up i2'⟩
  · rintro i _ ys z' ⟨hlen, _⟩
    exact hlen
  · rintro _ ys z3 i3 ⟨hlen, hok⟩ D
    dsimp only
    refine t_addL (LsAt.own (by wtm_at "M_mm")) (LsAt.own (by wtm_at "M_mm")) (by simp; omega) fun c3 => ?_
    have i13 : z.StaysIn z3 := fun _ _ e => i3 _ _ (i12 _ _ e)
    have hall : LitsAt z3 x ([Value.ref c1, .ref c2] ++ ys) := by
      intro v hv
      rcases List.mem_append.mp hv with hv | hv
      · rcases List.mem_cons.mp hv with rfl | hv
        · exact ⟨c1, _, _, rfl, hlit1.up (fun _ _ e => i3 _ _ (i2 _ _ e)), .inr (.inl rfl)⟩
        · simp only [List.mem_singleton] at hv
          subst hv
          exact ⟨c2, _, _, rfl, hlit2.up i3, .inl rfl⟩
      · exact hok v hv
    refine T.frzL fun z4 i4 hc4 => ?_
    have hall := hall.up i4
    have J4 := J.up (fun b o e => i4 b o (i13 b o e))
    refine t_iterL (LsAt.fz hc4) fun I2 => ?_
    refine tc_for (σ := KeptS) (fun s => (D, LstP ys) :: (aL, LstP [Value.ref c1, Value.ref c2]) :: (L, LocP [(("store" : Str), some (.ref o.X)), (("world" : Str), some (.ref wd.W)), (("literals" : Str), some (.ref aL)), (("literal" : Str), s.li), (("due" : Str), s.du)]) ::
        (L + 2, CelP (some (.ref sa))) :: (L + 1, CelP (some (.int x tx))) :: (s.o.led prog w ++ (s.wd.led prog w ++ l)))
      (fun i s z' => s.o.X = o.X ∧ s.wd.W = wd.W ∧ JOk z' s.o s.wd F s.Ds FL s.rows marks ∧ s.rows.length ≤ rows.length + i) ⟨o, wd, Ds, rows, none, none⟩ (steps_list (vs := [Value.ref c1, Value.ref c2] ++ ys) (ax := c3) (R _).hh (by rfl))
      ⟨rfl, rfl, J4, Nat.le_refl _⟩ (by rfl) (fun i s z' i' _ => LsAt.fz (is_up hc4 i')) ?_ ?_
    · rintro i ⟨o1, wd1, Ds1, rows1, li, du⟩ z5 z6 v hi i5 i6 ⟨hX, hW, J1, hl1⟩ hv
      dsimp only at hX hW J1 hl1 ⊢
      have hi2 : i < 10 := by simp at hi; omega
      obtain ⟨la, sg, k, rfl, hlit, hsg⟩ := (hall.up (fun _ _ e => i6 _ _ (i5 _ _ e))) v (List.mem_of_getElem? hv)
      have J1 := J1.up i6
      have hxl : x.toNat < F.length := by rw [J1.i.lf]; omega
      obtain ⟨D0, hF⟩ : ∃ D0, F[x.toNat]? = some D0 := ⟨_, List.getElem?_eq_getElem hxl⟩
      have hDs := J1.i.now _ _ hF
      rw [show ((x.toNat : Nat) : Int) = x by omega] at hDs
      have hFL : FL[x.toNat]? = some (vals D0) := by rw [J1.i.fl, List.getElem?_map, hF]; rfl
      have hno := J1.i.nowOk' hF
      rw [show ((x.toNat : Nat) : Int) = x by omega] at hno
      have hnl := len_vals hno.1
      have hst := step_ok J1.i (k := k) hx hsg hF hDs
      rw [← hX, ← hW]
      simp only [Sto.led, Wld.led, List.cons_append, List.nil_append]
      wtm_at "M_go"
      refine T.take (ps := wd1.led prog w) (by wtm_at "M_take") ?_
      refine said_ok ((R _).le (by decide)) J1.w hlit (by omega) (by omega) hFL (by rw [List.length_map]; omega) (by rw [nowL_rows]; omega) fun z7 wd2 i7 hW2 W2 => ?_
      simp only [Sto.led, Wld.led, List.cons_append, List.nil_append]
      wtm_at "M_go"
      refine ⟨by wtm_at "M_nat", fun c8 z8 i8 hc8 => ?_⟩
      wtm_at "M_go"
      refine T.take (ps := o1.led prog w) (by wtm_at "M_take") ?_
      refine strike_ok (R _) (J1.s.up (fun _ _ e => i8 _ _ (i7 _ _ e))) (hlit.up (fun _ _ e => i8 _ _ (i7 _ _ e))) hx hDs (by omega) (by omega) hc8 (by decide) fun z9 o2 i9 hX2 S2 => ?_
      have J2 : JOk z9 o2 wd2 F (entP Ds1 rows1 x sg k (nowD D0 rows1 x)).2.1 FL (entP Ds1 rows1 x sg k (nowD D0 rows1 x)).2.2 marks :=
        ⟨S2, by rw [← hst.2.1]; exact W2.up (fun _ _ e => i9 _ _ (i8 _ _ e)), hst.2.2.1, J1.m.more hst.2.2.2.1⟩
      refine T.take (ps := (I2, LIt c3 (i + 1)) :: (D, LstP ys) :: (aL, LstP [Value.ref c1, Value.ref c2]) :: (L, LocP [(("store" : Str), some (.ref o1.X)), (("world" : Str), some (.ref wd1.W)), (("literals" : Str), some (.ref aL)), (("literal" : Str), some (.ref la)),
          (("due" : Str), some (.bool (saidP (vals D0) (List.map rowOf rows1) x sg k).1))]) :: (L + 2, CelP (some (.ref sa))) :: (L + 1, CelP (some (.int x tx))) :: (o2.led prog w ++ wd2.led prog w)) (by wtm_at "M_take") ?_
      simp only [Sto.led, Wld.led, List.cons_append, List.nil_append]
      have i49 : z.StaysIn z9 := fun _ _ e => i9 _ _ (i8 _ _ (i7 _ _ (i6 _ _ (i5 _ _ (i4 _ _ (i13 _ _ e))))))
      wtm_at "M_go"
      refine br_b (fun q => ?_) (fun _ => ?_)
      · exfalso
        rw [hst.1] at q
        simp at q
      wtm_at "M_go"
      refine br_n (fun q => ?_) (fun q => ?_)
      · wtm_at "M_go"
        exact ⟨_, sub_refl, t_seqR (RetQ.ret (l' := o2.led prog w ++ (wd2.led prog w ++ l)) (by wtm_at "M_sub") (h z9 o2 wd2 _ _ i49 (hX2.trans hX) (hW2.trans hW) J2 (by have := hst.2.2.2.2; omega)))⟩
      · wtm_at "M_go"
        exact ⟨⟨o2, wd2, _, _, some (.ref la), some (.bool (saidP (vals D0) (List.map rowOf rows1) x sg k).1)⟩, sub_refl, hX2, hW2, J2, by have := hst.2.2.2.2; show (entP Ds1 rows1 x sg k (nowD D0 rows1 x)).2.2.length ≤ _; omega⟩
    · rintro ⟨o1, wd1, Ds1, rows1, li, du⟩ z5 i5 ⟨hX, hW, J1, hl1⟩
      dsimp only at hX hW J1 hl1 ⊢
      simp only [Sto.led, Wld.led, List.cons_append, List.nil_append]
      wtm_at "M_go"
      have hlen' : rows1.length ≤ rows.length + 10 := by simp at hl1; omega
      exact RetQ.ret (l' := o1.led prog w ++ (wd1.led prog w ++ l)) (by wtm_at "M_sub") (h z5 o1 wd1 _ _ (fun _ _ e => i5 _ _ (i4 _ _ (i13 _ _ e))) hX hW J1 hlen')
end
end Mine
end
section
open PySem PySem.W PySem.Calls PyProof.Rows
set_option maxRecDepth 100000
set_option maxHeartbeats 8000000
namespace Mine
section
variable {α β : Type} {prog : Program} {w : World} {A : Around} {z : Heap} {l : Led} {s : Shared} {env : Env}

theorem marks_snoc {marks : List Nat} {n : Nat} (h : MarksOk marks n) : MarksOk (marks ++ [n]) n := by
  refine ⟨fun m hm => ?_, List.pairwise_append.mpr ⟨h.pw, by simp, fun a ha b hb => ?_⟩⟩
  · rcases List.mem_append.mp hm with hm | hm
    · exact h.le m hm
    · simp only [List.mem_singleton] at hm; omega
  · simp only [List.mem_singleton] at hb; subst hb; exact h.le a ha
theorem marks_back {marks : List Nat} {n i m : Nat} (h : MarksOk marks n) (hm : marks[i]? = some m) : MarksOk (marks.take i) (min m n) := by
  refine ⟨fun a ha => ?_, List.Pairwise.sublist (List.take_sublist i marks) h.pw⟩
  have hle := h.le a (List.mem_of_mem_take ha)
  obtain ⟨hi, rfl⟩ := List.getElem?_eq_some_iff.mp hm
  obtain ⟨j, hj, rfl⟩ := List.mem_iff_getElem.mp ha
  rw [List.length_take] at hj
  rw [List.getElem_take] at *
  have := List.pairwise_iff_getElem.mp h.pw j i (by omega) hi (by omega)
  omega
theorem ints_unsnoc {vs : List Value} : ∀ {ns : List Int} {m : Int}, IntsAre vs (ns ++ [m]) → ∃ vs0 t, vs = vs0 ++ [Value.int m t] ∧ IntsAre vs0 ns := by
  induction vs with
  | nil => intro ns m h; cases ns <;> cases h
  | cons v vs ih =>
    intro ns m h
    cases ns with
    | nil =>
      cases h with
      | cons _ t h => cases h; exact ⟨[], t, rfl, .nil⟩
    | cons n ns =>
      cases h with
      | cons _ t h =>
        obtain ⟨vs0, t', rfl, k⟩ := ih h
        exact ⟨_ :: vs0, t', rfl, .cons _ _ k⟩
def rowsAt (rows : List Ent) (marks : List Nat) (i : Nat) : List Ent := if i = 0 then rows else rows.take (marks.getD (marks.length - i) 0)
theorem rowsAt_step {rows : List Ent} {marks : List Nat} {i n m : Nat} (h : MarksOk marks n) (hi : i < marks.length) (hm : marks[marks.length - (i + 1)]? = some m) : (rowsAt rows marks i).take m = rowsAt rows marks (i + 1) := by
  have e1 : marks.getD (marks.length - (i + 1)) 0 = m := by rw [List.getD_eq_getElem?_getD, hm]; rfl
  unfold rowsAt
  rw [if_neg (Nat.succ_ne_zero i), e1]
  by_cases q : i = 0
  · rw [if_pos q]
  · rw [if_neg q, List.take_take]
    obtain ⟨h1, rfl⟩ := List.getElem?_eq_some_iff.mp hm
    have h2 : marks.length - i < marks.length := by omega
    have := List.pairwise_iff_getElem.mp h.pw (marks.length - (i + 1)) (marks.length - i) h1 h2 (by omega)
    rw [List.getD_eq_getElem?_getD, List.getElem?_eq_getElem h2, Option.getD_some, Nat.min_eq_left this]
structure PopW where
  wd : Wld
  lp : Option Value
def DeedPost (prog : Program) (w : World) (z : Heap) (sd c : Addr) (N : Int) (o : Sto) (wd : Wld) (F : List Dom) (FL : List (List Int)) (rows : List Ent) (marks : List Nat) (l : Led) (Q : Post Value) : Prop :=
  ∀ z' (o' : Sto) (wd' : Wld) Ds' rows' marks', z.StaysIn z' → o'.X = o.X → wd'.W = wd.W → JOk z' o' wd' F Ds' FL rows' marks' → rows'.length ≤ rows.length + 10 → marks'.length ≤ marks.length + 1 → Q (.bool true) z' (o'.led prog w ++ (wd'.led prog w ++ ((sd, SrcP prog w c (N + 12)) :: l)))
set_option maxHeartbeats 16000000 in
theorem deed_ok {sd c : Addr} {N : Int} {o : Sto} {wd : Wld} {F Ds : List Dom} {FL : List (List Int)} {rows : List Ent} {marks : List Nat} {Q : Post Value} (R : Rm 9 A) (ok : SrcOk z c) (hN : N ≤ 900) (J : JOk z o wd F Ds FL rows marks)
    (hr : rows.length ≤ 800) (hm : marks.length ≤ 800) (h : DeedPost prog w z sd c N o wd F FL rows marks l Q) :
    T prog w A (call (.ref 367) [.ref sd, .ref o.X, .ref wd.W]) Q z ((sd, SrcP prog w c N) :: (o.led prog w ++ (wd.led prog w ++ l))) := by
  refine t_def [(("store" : Str), some (.ref o.X)), (("world" : Str), some (.ref wd.W)), (("way" : Str), none), (("x" : Str), none), (("many" : Str), none), (("lap" : Str), none), (("low" : Str), none), (("some" : Str), none), (("literal" : Str), none), (("due" : Str), none)] (fun L => [(L + 1, CelP (some (.ref sd)))]) (by k_is) (by k_is) R.room (by rfl) (by rfl) (by decide) (by wtm_at "M_nd") (by exact ⟨rfl, rfl, rfl, rfl, rfl, rfl, rfl, rfl, rfl, rfl, trivial⟩) (fun L => by rfl) (fun L => ?_) (by rfl) (by rfl) (by rfl)
  have hh := R.hh
  have R : ∀ env, Rm 8 (A.deeper env) := fun _ => R.deeper
  simp only [List.cons_append, List.nil_append]

  have hwl := J.w.r.len
  rw [List.length_map] at hwl
  have hwm := ints_len J.w.m
  rw [List.length_map] at hwm
  simp only [Sto.led, Wld.led, List.cons_append, List.nil_append]
  wtm_at "M_go"
  refine T.pick (p := (sd, SrcP prog w c N)) (by wtm_at "M_pc") ?_
  refine draw_ok ((R _).le (by decide)) ok (by omega) (by decide) (by decide) fun way tw z1 i1 hw0 hw1 => ?_
  wtm_at "M_go"
  refine draw_ok ((R _).le (by decide)) (ok.up i1) (by omega) (by decide) (by decide) fun x tx z2 i2 hx0 hx1 => ?_
  wtm_at "M_go"
  refine ⟨by wtm_at "M_nat", fun c3 z3 i3 hc3 => ⟨c3, _, _, rfl, hc3, ?_⟩⟩
  wtm_at "M_go"
  have i13 : z.StaysIn z3 := fun _ _ e => i3 _ _ (i2 _ _ (i1 _ _ e))
  have J3 := J.up i13
  have ok3 := ok.up i13
  refine br_i (fun q5 => ?_) (fun q5 => ?_)
  · -- a mark is set
    wtm_at "M_go"
    refine T.take (ps := o.led prog w) (by wtm_at "M_take") ?_
    refine push_ok ((R _).le (by decide)) J3.s (by omega) (by omega) fun o' hX S' => ?_
    simp only [Sto.led, Wld.led, List.cons_append, List.nil_append]
    wtm_at "M_go"
    refine t_lenL (LsAt.own (by wtm_at "M_mm")) (by omega) fun t1 => ?_
    wtm_at "M_go"
    refine t_append (by wtm_at "M_up") (by omega) ?_
    refine T.take (ps := o'.led prog w ++ (({ wd with vM := wd.vM ++ [Value.int wd.vR.length t1] } : Wld).led prog w ++ [(sd, SrcP prog w c (N + 1 + 1))])) (by wtm_at "M_take") ?_
    simp only [Sto.led, Wld.led, List.cons_append, List.nil_append]
    refine T.weaken (P' := SrcP prog w c (N + 12)) (a := sd) (by wtm_at "M_up") (SrcP.le (by omega)) ?_
    wtm_at "M_go"
    refine RetQ.ret (l' := o'.led prog w ++ (({ wd with vM := wd.vM ++ [Value.int wd.vR.length t1] } : Wld).led prog w ++ ((sd, SrcP prog w c (N + 12)) :: l))) (by wtm_at "M_sub")
      (h z3 o' { wd with vM := wd.vM ++ [Value.int wd.vR.length t1] } Ds rows (marks ++ [rows.length]) i13 hX rfl ⟨S', ⟨J3.w.f, J3.w.r, ?_⟩, J3.i, marks_snoc J3.m⟩ (by omega) (by simp))
    rw [List.map_append, hwl]
    exact J3.w.m.append (.cons _ _ .nil)
  wtm_at "M_go"
  refine br_i (fun q6 => ?_) (fun q6 => ?_)
  · -- back to a mark
    wtm_at "M_go"
    refine draw_ok ((R _).le (by decide)) ok3 (by omega) (by decide) (by decide) fun r tr z4 i4 hr0 hr1 => ?_
    wtm_at "M_go"
    refine t_lenL (LsAt.own (by wtm_at "M_mm")) (by omega) fun t1 => ?_
    have J4 := J3.up i4
    obtain ⟨n, hn⟩ : ∃ n : Nat, min (1 + r) (wd.vM.length : Int) = (n : Int) := ⟨(min (1 + r) (wd.vM.length : Int)).toNat, by omega⟩
    wtm_at "M_go"
    rw [hn]
    rename_i tmin
    refine T.take (ps := o.led prog w) (by wtm_at "M_take") ?_
    refine pop_ok ((R _).le (by decide)) J4.s (by omega) (by omega) (by omega) (by rw [J4.i.ld]; decide) (by rw [J4.i.lf]; decide) (fun e he => ?_) fun z5 o' i5 hX S5 => ?_
    · obtain ⟨k, hk⟩ := List.getElem?_of_mem he
      have := (J4.i.ent k e hk).1
      rw [J4.i.ld]; omega
    refine T.take (ps := (L, LocP [(("store" : Str), some (.ref o.X)), (("world" : Str), some (.ref wd.W)), (("way" : Str), some (.int way tw)), (("x" : Str), some (.int x tx)), (("many" : Str), some (.int n tmin)), (("lap" : Str), none), (("low" : Str), none), (("some" : Str), none), (("literal" : Str), none), (("due" : Str), none)]) :: (L + 1, CelP (some (.ref sd))) :: (sd, SrcP prog w c (N + 1 + 1 + 1)) :: (o'.led prog w ++ wd.led prog w)) (by wtm_at "M_take") ?_
    simp only [Sto.led, Wld.led, List.cons_append, List.nil_append]
    wtm_at "M_go"
    have J5 := J4.up i5
    refine t_For ?_
    wtm_at "M_go"
    refine t_range1 fun rg => ?_
    obtain ⟨hsm, hsz⟩ := range_small (a := 0) (b := (n : Int)) (by omega) (by omega) (by omega) (by omega)
    refine t_iterR hsm hsz fun I => ?_
    refine tc_for (σ := PopW) (fun y => (L, LocP [(("store" : Str), some (.ref o.X)), (("world" : Str), some (.ref wd.W)), (("way" : Str), some (.int way tw)), (("x" : Str), some (.int x tx)), (("many" : Str), some (.int n tmin)), (("lap" : Str), y.lp), (("low" : Str), none), (("some" : Str), none), (("literal" : Str), none), (("due" : Str), none)]) :: (L + 1, CelP (some (.ref sd))) :: (sd, SrcP prog w c (N + 1 + 1 + 1)) :: (o'.led prog w ++ (y.wd.led prog w ++ l)))
      (fun i y z' => y.wd.W = wd.W ∧ WldOk z' y.wd FL ((rowsAt rows marks i).map rowOf) (marks.take (marks.length - i))) ⟨wd, none⟩ (steps_range (a := 0) (n := ((n : Int) - 0).toNat) (R _).hh (by rfl))
      ⟨rfl, by simpa [rowsAt] using J5.w⟩ (by rfl) (fun _ _ _ _ _ => trivial) ?_ ?_
    · rintro i ⟨wd1, lp⟩ z6 z7 v hi i6 i7 ⟨hW, W1⟩ ⟨tv, rfl⟩
      dsimp only at hW W1 ⊢
      have W1 := W1.up i7
      have hin : i < n := by omega
      obtain ⟨m, hm'⟩ : ∃ m, marks[marks.length - (i + 1)]? = some m := ⟨_, List.getElem?_eq_getElem (by omega)⟩
      have hmm : marks.take (marks.length - i) = marks.take (marks.length - (i + 1)) ++ [m] := by
        have := take_snoc hm'
        rwa [show marks.length - (i + 1) + 1 = marks.length - i by omega] at this
      have hvm := W1.m
      rw [hmm, List.map_append] at hvm
      obtain ⟨vM0, tm, hvM, hM0⟩ := ints_unsnoc hvm
      have hrl := W1.r.len
      have hml := ints_len hM0
      rw [List.length_map, List.length_take] at hml
      have hrl2 : wd1.vR.length ≤ 1000 := by
        rw [hrl, List.length_map]
        unfold rowsAt
        split
        · omega
        · rw [List.length_take]; omega
      obtain ⟨W, aF, aR, aM, vF, vR, vM⟩ := wd1
      dsimp only at hW hvM hrl hrl2 hM0 W1
      subst hvM hW
      simp only [Sto.led, Wld.led, List.cons_append, List.nil_append]
      iterate 19 wtm_at "M_ss"
      refine t_pop (by wtm_at "M_up") (by omega) ?_
      wtm_at "M_go"
      intro sl
      refine t_subUp (LsAt.own (by wtm_at "M_mm")) (by omega) (by omega) (fun c8 => ?_) (by with_unfolding_all rfl)
      refine T.take (ps := (I, RIt (0 + ((i + 1 : Nat) : Int)) (((((n : Int) - 0).toNat : Nat) : Int) - ((i + 1 : Nat) : Int))) :: (L, LocP [(("store" : Str), some (.ref o.X)), (("world" : Str), some (.ref wd.W)), (("way" : Str), some (.int way tw)), (("x" : Str), some (.int x tx)), (("many" : Str), some (.int n tmin)), (("lap" : Str), some (.int (0 + (i : Int)) tv)), (("low" : Str), none), (("some" : Str), none), (("literal" : Str), none), (("due" : Str), none)]) :: (L + 1, CelP (some (.ref sd))) :: (sd, SrcP prog w c (N + 1 + 1 + 1)) ::
        (o'.led prog w ++ [(wd.W, DctP prog w [("firsts", .ref aF), ("rows", .ref aR), ("marks", .ref aM)]), (aF, LstP vF), (c8, LstP (vR.take (m : Int).toNat)), (aM, LstP vM0)])) (by wtm_at "M_take") ?_
      simp only [Sto.led, Wld.led, List.cons_append, List.nil_append]
      wtm_at "M_go"
      refine ⟨⟨⟨wd.W, aF, c8, aM, vF, vR.take (m : Int).toNat, vM0⟩, _⟩, (by wtm_at "M_sub"), rfl, W1.f, ?_, hM0⟩
      rw [← rowsAt_step J5.m (by omega) hm', List.map_take]
      have := W1.r.take m
      simpa using this
    · rintro ⟨wd1, lp⟩ z6 i6 ⟨hW, W1⟩
      dsimp only at hW W1 ⊢
      have hnn : ((n : Int) - 0).toNat = n := by omega
      rw [hnn] at W1
      simp only [Sto.led, Wld.led, List.cons_append, List.nil_append]
      have fin : ∃ Ds' rows' marks', JOk z6 o' wd1 F Ds' FL rows' marks' ∧ rows'.length ≤ rows.length + 10 ∧ marks'.length ≤ marks.length + 1 := by
        by_cases q0 : n = 0
        · rw [if_pos q0] at S5
          subst q0
          exact ⟨Ds, rows, marks, ⟨S5.up i6, by simpa [rowsAt] using W1, J5.i, J5.m⟩, by omega, by omega⟩
        · rw [if_neg q0] at S5
          obtain ⟨m, hmk, S5⟩ := S5
          have e : rowsAt rows marks n = rows.take m := by
            unfold rowsAt
            rw [if_neg q0, List.getD_eq_getElem?_getD, hmk, Option.getD_some]
          rw [e] at W1
          refine ⟨_, _, _, ⟨S5.up i6, W1, J5.i.undo m rows Ds, ?_⟩, ?_, ?_⟩
          · have := marks_back J5.m hmk
            rwa [← List.length_take] at this
          · rw [List.length_take]; omega
          · rw [List.length_take]; omega
      obtain ⟨Ds', rows', marks', J6, hl1, hl2⟩ := fin
      refine T.take (ps := o'.led prog w ++ (wd1.led prog w ++ [(sd, SrcP prog w c (N + 1 + 1 + 1))])) (by wtm_at "M_take") ?_
      simp only [Sto.led, Wld.led, List.cons_append, List.nil_append]
      refine T.weaken (P' := SrcP prog w c (N + 12)) (a := sd) (by wtm_at "M_up") (SrcP.le (by omega)) ?_
      wtm_at "M_go"
      exact RetQ.ret (l' := o'.led prog w ++ (wd1.led prog w ++ ((sd, SrcP prog w c (N + 12)) :: l))) (by wtm_at "M_sub")
        (h z6 o' wd1 Ds' rows' marks' (fun _ _ e => i6 _ _ (i5 _ _ (i4 _ _ (i13 _ _ e)))) hX hW J6 hl1 hl2)
  wtm_at "M_go"
  refine br_i (fun q4 => ?_) (fun q4 => ?_)
  · -- some values are kept
    wtm_at "M_go"
    refine draw_ok ((R _).le (by decide)) ok3 (by omega) (by decide) (by decide) fun low tl z4 i4 hl0 hl1 => ?_
    wtm_at "M_go"
    refine ⟨by wtm_at "M_sz", fun b0 => ?_⟩
    refine t_Comp (σ := Int) [("v" : Str)] (by rfl) (by decide) (by rfl) (by decide) (by decide) ?_ (by intro _; rfl)
    wtm_at "M_go"
    refine t_range2 fun rg => ?_
    obtain ⟨hsm, hsz⟩ := range_small (a := low + 1) (b := 7) (by omega) (by omega) (by omega) (by omega)
    refine t_iterR hsm hsz fun I => ?_
    have ok4 := ok3.up i4
    have J4 := J3.up i4
    refine CompOn.intro (fun M => (b0, LstP [Value.int low tl]) :: (sd, SrcP prog w c M) :: (L, LocP [(("store" : Str), some (.ref o.X)), (("world" : Str), some (.ref wd.W)), (("way" : Str), some (.int way tw)), (("x" : Str), some (.int x tx)), (("many" : Str), none), (("lap" : Str), none), (("low" : Str), some (.int low tl)), (("some" : Str), none), (("literal" : Str), none), (("due" : Str), none)]) :: (L + 1, CelP (some (.ref sd))) :: (o.led prog w ++ (wd.led prog w ++ l)))
      (fun i M ys z' => M = N + 1 + 1 + 1 + i ∧ ∃ ms, IntsAre ys ms ∧ ms.length ≤ i ∧ ∀ n ∈ ms, 0 ≤ n ∧ n ≤ 6) (N + 1 + 1 + 1) (steps_range (a := low + 1) (n := (7 - (low + 1)).toNat) (R _).hh (by rfl)) (by omega)
      ⟨by omega, [], .nil, Nat.le_refl _, by simp⟩ (by rfl) (fun _ _ _ _ _ _ _ _ _ => trivial) ?_ ?_ ?_
    · rintro C Dx i M ys z₁ z₂ v f hi i1' i2' ⟨rfl, ms, hms, hml, hmr⟩ ⟨tv, rfl⟩
      dsimp only [nmsOf, List.map]
      simp only [Sto.led, Wld.led, List.cons_append, List.nil_append]
      wtm_at "M_go"
      refine t_tst1 ?_
      wtm_at "M_go"
      refine T.pick (p := (sd, SrcP prog w c (N + 1 + 1 + 1 + i))) (by wtm_at "M_pc") ?_
      refine draw_ok ((R _).le (by decide)) (ok4.up (fun _ _ e => i2' _ _ (i1' _ _ e))) (by omega) (by decide) (by decide) fun r tr z5 i5 hr0 hr1 => ?_
      refine T.take (ps := (I, RIt (low + 1 + ((i + 1 : Nat) : Int)) ((((7 - (low + 1)).toNat : Nat) : Int) - ((i + 1 : Nat) : Int))) :: (C, LocP [(("v" : Str), some (.int (low + 1 + (i : Int)) tv))]) :: (Dx, LstP ys) :: (b0, LstP [Value.int low tl]) :: (sd, SrcP prog w c (N + 1 + 1 + 1 + i + 1)) :: (L, LocP [(("store" : Str), some (.ref o.X)), (("world" : Str), some (.ref wd.W)), (("way" : Str), some (.int way tw)), (("x" : Str), some (.int x tx)), (("many" : Str), none), (("lap" : Str), none), (("low" : Str), some (.int low tl)), (("some" : Str), none), (("literal" : Str), none), (("due" : Str), none)]) ::
        (L + 1, CelP (some (.ref sd))) :: (o.led prog w ++ wd.led prog w)) (by wtm_at "M_take") ?_
      simp only [Sto.led, Wld.led, List.cons_append, List.nil_append]
      refine T.weaken (P' := SrcP prog w c (N + 1 + 1 + 1 + ((i + 1 : Nat) : Int))) (a := sd) (by wtm_at "M_up") (SrcP.le (by omega)) ?_
      wtm_at "M_go"
      refine and_i (fun q => ?_) (fun q => ?_)
      · wtm_at "M_go"
        refine ⟨_, _, sub_refl, by rfl, rfl, ms ++ [low + 1 + (i : Int)], hms.append (.cons _ _ .nil), by simp; omega, ?_⟩
        intro n hn
        rcases List.mem_append.mp hn with hn | hn
        · exact hmr n hn
        · simp only [List.mem_singleton] at hn
          omega
      · exact ⟨_, _, sub_refl, by rfl, rfl, ms, hms, by omega, hmr⟩
    · rintro i M ys z' ⟨_, ms, hms, hml, _⟩
      rw [ints_len hms]; exact hml
    · rintro M ys z5 i5 ⟨rfl, ms, hms, hml, hmr⟩ D
      have e1 := ints_len hms
      simp only [Sto.led, Wld.led, List.cons_append, List.nil_append]
      refine t_addL (LsAt.own (by wtm_at "M_mm")) (LsAt.own (by wtm_at "M_mm")) (by simp; omega) fun c6 => ?_
      refine T.frzL fun z6 i6 hc6 => ?_
      have i36 : z3.StaysIn z6 := fun _ _ e => i6 _ _ (i5 _ _ (i4 _ _ e))
      wtm_at "M_go"
      refine T.weaken (P' := SrcP prog w c (N + 12)) (a := sd) (by wtm_at "M_up") (SrcP.le (by omega)) ?_
      refine T.take (ps := o.led prog w ++ wd.led prog w) (by wtm_at "M_take") ?_
      rw [List.append_assoc]
      refine kept_ok (R _) (J3.up i36) (by omega) (ns := low :: ms) ⟨_, hc6, IntsAre.append (.cons _ _ .nil) hms⟩ (by simp) (by simp; omega) (fun n hn => ?_) (by omega) fun z7 o' wd' Ds' rows' i7 hX hW J7 hl7 => ?_
      · rcases List.mem_cons.mp hn with rfl | hn
        · omega
        · exact hmr n hn
      wtm_at "M_go"
      exact RetQ.ret (l' := o'.led prog w ++ (wd'.led prog w ++ ((sd, SrcP prog w c (N + 12)) :: l))) (by wtm_at "M_sub") (h z7 o' wd' Ds' rows' marks (fun _ _ e => i7 _ _ (i36 _ _ (i13 _ _ e))) hX hW J7 hl7 (by omega))
  -- one literal
  wtm_at "M_go"
  rename_i s1 s2 s3 s4
  refine ⟨by wtm_at "M_sz", fun b0 => ?_⟩
  wtm_at "M_go"
  refine T.pick (p := (sd, SrcP prog w c (N + 1 + 1))) (by wtm_at "M_pc") ?_
  refine draw_ok ((R _).le (by decide)) ok3 (by omega) (by decide) (by decide) fun r tr z4 i4 hr0 hr1 => ?_
  obtain ⟨sg, ts, hsgv, hsg⟩ : ∃ sg ts, [Value.str "<=" s1, .str ">=" s2, .str "!=" s3, .str "=" s4][r.toNat]? = some (.str sg ts) ∧ SgOk sg := by
    have : r = 0 ∨ r = 1 ∨ r = 2 ∨ r = 3 := by omega
    rcases this with rfl | rfl | rfl | rfl
    · exact ⟨_, _, rfl, .inl rfl⟩
    · exact ⟨_, _, rfl, .inr (.inl rfl)⟩
    · exact ⟨_, _, rfl, .inr (.inr (.inr rfl))⟩
    · exact ⟨_, _, rfl, .inr (.inr (.inl rfl))⟩
  refine t_itemL (LsAt.own (by wtm_at "M_mm")) hr0 (by omega) hsgv ?_ (by with_unfolding_all rfl)
  wtm_at "M_go"
  refine draw_ok ((R _).le (by decide)) (ok3.up i4) (by omega) (by decide) (by decide) fun kk tk z5 i5 hk0 hk1 => ?_
  wtm_at "M_go"
  refine ⟨by wtm_at "M_nat", fun la z6 i6 hla => ?_⟩
  wtm_at "M_go"
  rename_i tk2
  have hlit : LitAt z6 la x sg (kk - 1) := ⟨_, _, _, hla⟩
  have i36 : z3.StaysIn z6 := fun _ _ e => i6 _ _ (i5 _ _ (i4 _ _ e))
  have J6 := J3.up i36
  have hx : x = 0 ∨ x = 1 := by omega
  have hxl : x.toNat < F.length := by rw [J6.i.lf]; omega
  obtain ⟨D0, hF⟩ : ∃ D0, F[x.toNat]? = some D0 := ⟨_, List.getElem?_eq_getElem hxl⟩
  have hDs := J6.i.now _ _ hF
  rw [show ((x.toNat : Nat) : Int) = x by omega] at hDs
  have hFL : FL[x.toNat]? = some (vals D0) := by rw [J6.i.fl, List.getElem?_map, hF]; rfl
  have hno := J6.i.nowOk' hF
  rw [show ((x.toNat : Nat) : Int) = x by omega] at hno
  have hnl := len_vals hno.1
  have hst := step_ok J6.i (k := kk - 1) hx hsg hF hDs
  have hlen := hst.2.2.2.2
  refine T.take (ps := wd.led prog w) (by wtm_at "M_take") ?_
  refine said_ok ((R _).le (by decide)) J6.w hlit (by omega) (by omega) hFL (by rw [List.length_map]; omega) (by rw [nowL_rows]; omega) fun z7 wd2 i7 hW2 W2 => ?_
  simp only [Sto.led, Wld.led, List.cons_append, List.nil_append]
  have i37 : z3.StaysIn z7 := fun _ _ e => i7 _ _ (i36 _ _ e)
  refine T.weaken (P' := SrcP prog w c (N + 12)) (a := sd) (by wtm_at "M_up") (SrcP.le (by omega)) ?_
  wtm_at "M_go"
  refine br_i (fun q3 => ?_) (fun q3 => ?_)
  · wtm_at "M_go"
    refine T.take (ps := o.led prog w) (by wtm_at "M_take") ?_
    refine decide_ok ((R _).le (by decide)) (J6.s.up i7) (hlit.up i7) hx hDs (by omega) (by omega) fun z8 o2 i8 hX2 S2 => ?_
    have J8 : JOk z8 o2 wd2 F (entP Ds rows x sg (kk - 1) (nowD D0 rows x)).2.1 FL (entP Ds rows x sg (kk - 1) (nowD D0 rows x)).2.2 marks :=
      ⟨S2, by rw [← hst.2.1]; exact W2.up i8, hst.2.2.1, J6.m.more hst.2.2.2.1⟩
    refine T.take (ps := o2.led prog w ++ wd2.led prog w) (by wtm_at "M_take") ?_
    simp only [Sto.led, Wld.led, List.cons_append, List.nil_append]
    wtm_at "M_go"
    rw [hst.1, beq_self_eq_true]
    exact RetQ.ret (l' := o2.led prog w ++ (wd2.led prog w ++ ((sd, SrcP prog w c (N + 12)) :: l))) (by wtm_at "M_sub") (h z8 o2 wd2 _ _ marks (fun _ _ e => i8 _ _ (i37 _ _ (i13 _ _ e))) hX2 hW2 J8 (by omega) (by omega))
  · wtm_at "M_go"
    refine ⟨by wtm_at "M_nat", fun c9 z9 i9 hc9 => ?_⟩
    wtm_at "M_go"
    refine ⟨by wtm_at "M_nat", fun c10 z10 i10 hc10 => ?_⟩
    wtm_at "M_go"
    have i710 : z7.StaysIn z10 := fun _ _ e => i10 _ _ (i9 _ _ e)
    refine T.take (ps := o.led prog w) (by wtm_at "M_take") ?_
    refine strike_ok ((R _).le (by decide)) (J6.s.up (fun _ _ e => i710 _ _ (i7 _ _ e))) (hlit.up (fun _ _ e => i710 _ _ (i7 _ _ e))) hx hDs (by omega) (by omega) hc10 (by wtm_at "M_nat") fun z8 o2 i8 hX2 S2 => ?_
    have J8 : JOk z8 o2 wd2 F (entP Ds rows x sg (kk - 1) (nowD D0 rows x)).2.1 FL (entP Ds rows x sg (kk - 1) (nowD D0 rows x)).2.2 marks :=
      ⟨S2, by rw [← hst.2.1]; exact W2.up (fun _ _ e => i8 _ _ (i710 _ _ e)), hst.2.2.1, J6.m.more hst.2.2.2.1⟩
    refine T.take (ps := o2.led prog w ++ wd2.led prog w) (by wtm_at "M_take") ?_
    simp only [Sto.led, Wld.led, List.cons_append, List.nil_append]
    wtm_at "M_go"
    rw [hst.1, beq_self_eq_true]
    exact RetQ.ret (l' := o2.led prog w ++ (wd2.led prog w ++ ((sd, SrcP prog w c (N + 12)) :: l))) (by wtm_at "M_sub") (h z8 o2 wd2 _ _ marks (fun _ _ e => i8 _ _ (i710 _ _ (i37 _ _ (i13 _ _ e)))) hX2 hW2 J8 (by omega) (by omega))
end
end Mine
end
section
open PySem PySem.W PySem.Calls PyProof.Rows
set_option maxRecDepth 100000
set_option maxHeartbeats 8000000
namespace Mine
section
variable {α β : Type} {prog : Program} {w : World} {A : Around} {z : Heap} {l : Led} {s : Shared} {env : Env}

noncomputable def spotP (F0 : Dom) (rows : List Ent) (x : Int) (sg : Str) (k : Int) : Option Int :=
  if saidL sg k F0 = 1 then some (-1) else ((List.range rows.length).find? fun i => match rows[i]? with
    | some e => e.x == x && saidL sg k (struckL e.sg e.k e.old) == 1
    | none => false).map fun (i : Nat) => (i : Int)
def IsDue (v : Value) : Option Int → Prop
  | some i => ∃ t, v = .int i t
  | none => ∃ t, v = .str "refused" t
def ToldStmt (prog : Program) (w : World) : Prop := ∀ (A : Around) (z : Heap) (l : Led) (o : Sto) (F Ds : List Dom) (rows : List Ent) (marks : List Nat) (x k : Int) (sg : Str) (b : Addr) (F0 : Dom) (Q : Post Value), Rm 8 A → Frm A l → StoOk z o F Ds rows marks → LitAt z b x sg k → (x = 0 ∨ x = 1) →
  F[x.toNat]? = some F0 → F0.length ≤ 100 → (∀ e ∈ rows, e.old.length ≤ 100 ∧ (struckL e.sg e.k e.old).length ≤ 100) → rows.length ≤ 1000 → (∀ z' v, z.StaysIn z' → IsDue v (spotP F0 rows x sg k) → Q v z' (o.led prog w ++ l)) →
  T prog w A (call (.ref 374) [.ref o.X, .ref b]) Q z (o.led prog w ++ l)

/- what the law's own steps say -/
def stepsFrom (rows : List Row) (x : Int) : List Row := (rows.zipIdx.filter fun p => p.1.1 == x).map fun p => ((p.2 : Int), p.1.2)
def stepsL (lot : List Int) (rows : List Row) (x : Int) : List Row := (-1, lot) :: stepsFrom rows x
def passB (sg : Str) (k : Int) (r : Row) : Bool := r.2.all (metB sg k)
def dueP (steps : List Row) (sg : Str) (k : Int) : Option Int := (steps.find? (passB sg k)).map (·.1)
theorem stepsFrom_snoc (rows : List Row) (r : Row) (x : Int) : stepsFrom (rows ++ [r]) x = stepsFrom rows x ++ (if r.1 == x then [((rows.length : Int), r.2)] else []) := by
  unfold stepsFrom
  rw [List.zipIdx_append, List.filter_append, List.map_append]
  congr 1
  simp only [List.zipIdx_cons, List.zipIdx_nil, Nat.zero_add, List.filter_cons, List.filter_nil]
  split <;> simp
theorem due_spot {F Ds : List Dom} {FL : List (List Int)} {rows : List Ent} (h : Inv F Ds FL rows) {x k : Int} {sg : Str} {F0 : Dom} (hs : SgOk sg) (hF : F[x.toNat]? = some F0) : dueP (stepsL (vals F0) (rows.map rowOf) x) sg k = spotP F0 rows x sg k := by
  unfold dueP stepsL spotP
  have h0 := (h.fk F0 (List.mem_of_getElem? hF)).1
  have e0 : passB sg k (-1, vals F0) = decide (saidL sg k F0 = 1) := by
    unfold passB
    by_cases q : saidL sg k F0 = 1
    · rw [decide_eq_true q, List.all_eq_true]; exact (said_one_iff hs h0).mp q
    · rw [decide_eq_false q]
      rw [← Bool.not_eq_true, List.all_eq_true]
      exact fun z => q ((said_one_iff hs h0).mpr z)
  rw [List.find?_cons, e0]
  by_cases q : saidL sg k F0 = 1
  · rw [decide_eq_true q, if_pos q]; rfl
  rw [decide_eq_false q, if_neg q]
  dsimp only
  -- row by row
  have key : ∀ n, n ≤ rows.length → ((stepsFrom ((rows.take n).map rowOf) x).find? (passB sg k)).map (·.1) = ((List.range n).find? fun i => match rows[i]? with
      | some e => e.x == x && saidL sg k (struckL e.sg e.k e.old) == 1
      | none => false).map fun (i : Nat) => (i : Int) := by
    intro n
    induction n with
    | zero => intro _; rfl
    | succ n ih =>
      intro hn
      obtain ⟨e, he⟩ : ∃ e, rows[n]? = some e := ⟨_, List.getElem?_eq_getElem (by omega)⟩
      rw [take_snoc he, List.map_append, List.map_cons, List.map_nil, stepsFrom_snoc, List.range_succ, List.find?_append, List.find?_append, Option.map_or, Option.map_or, ih (by omega)]
      congr 1
      have hlen : ((rows.take n).map rowOf).length = n := by rw [List.length_map, List.length_take]; omega
      have hold := h.oldOk he
      have hok := ok_struck (sg := e.sg) (k := e.k) hold.1
      rw [hlen, List.find?_cons, he]
      by_cases c1 : e.x = x
      · subst c1
        by_cases c2 : saidL sg k (struckL e.sg e.k e.old) = 1
        · have p1 : passB sg k ((n : Int), vals (struckL e.sg e.k e.old)) = true := by
            unfold passB; rw [List.all_eq_true]; exact (said_one_iff hs hok).mp c2
          simp [rowOf, p1, c2]
        · have p1 : passB sg k ((n : Int), vals (struckL e.sg e.k e.old)) = false := by
            unfold passB
            rw [← Bool.not_eq_true, List.all_eq_true]
            exact fun z => c2 ((said_one_iff hs hok).mpr z)
          have c2' : (saidL sg k (struckL e.sg e.k e.old) == 1) = false := by simpa using c2
          simp [rowOf, p1, c2']
      · have : (e.x == x) = false := by simpa using c1
        simp [rowOf, this]
  have := key rows.length (Nat.le_refl _)
  rwa [List.take_length] at this

def boolsD (bs : List Bool) : List PyData := bs.map .bool
inductive BoolsAre : List Value → List Bool → Prop
  | nil : BoolsAre [] []
  | cons (b : Bool) {vs : List Value} {bs : List Bool} : BoolsAre vs bs → BoolsAre (.bool b :: vs) (b :: bs)
theorem BoolsAre.reads {vs : List Value} {bs : List Bool} (h : BoolsAre vs bs) (hp : Heap) : ReadsAll hp vs (boolsD bs) [] := by
  induction h with
  | nil => exact .nil
  | cons b _ ih => exact .cons (as := []) (.bool _) ih
theorem BoolsAre.len {vs : List Value} {bs : List Bool} (h : BoolsAre vs bs) : vs.length = bs.length := by
  induction h with
  | nil => rfl
  | cons b _ ih => simp [ih]
theorem BoolsAre.snoc {vs : List Value} {bs : List Bool} {b : Bool} (h : BoolsAre vs bs) : BoolsAre (vs ++ [.bool b]) (bs ++ [b]) := by
  induction h with
  | nil => exact .cons b .nil
  | cons b _ ih => exact .cons b ih
theorem canLay_bools : ∀ bs : List Bool, PyData.canLayAll0 (boolsD bs) = true
  | [] => by simp [boolsD, PyData.canLayAll0]
  | b :: bs => by have := canLay_bools bs; simp [boolsD, PyData.canLayAll0, PyData.canLay0] at this ⊢; exact this
theorem noFalse_eq : ∀ bs : List Bool, (!(boolsD bs).any fun y => PyData.eqv y (.bool false)) = bs.all id
  | [] => rfl
  | b :: bs => by
    have ih := noFalse_eq bs
    simp only [boolsD, List.map_cons, List.any_cons, List.all_cons, Bool.not_or] at ih ⊢
    rw [ih]
    cases b <;> simp [PyData.eqv]
theorem t_noFalse {a : Addr} {vs : List Value} {bs : List Bool} {Q : Post Value} (ha : LsAt w z l a vs) (hB : BoolsAre vs bs) (hu : A.units + 64 < cLine) (h : Q (.bool (bs.all id)) z l) : T prog w A (compareOp .NotIn (.bool false) (.ref a)) Q z l := fun s S => by
  obtain ⟨o, ho, hc, n, hd⟩ := ha _ S
  have r1 : Reads s.heap (.ref a) (.list (boolsD bs)) (a :: []) := .list ho hc hd (by simpa using hB.reads s.heap)
  refine SeqAt.notIn_list_reads r1 (.bool false) (canLay_bools bs) (by rfl) (by have := Nat.min_le_right (PyData.depthAll (boolsD bs)) (PyData.bool false).depth; rw [show (PyData.bool false).depth = 0 from rfl] at this ⊢; omega) ?_
  rw [noFalse_eq bs]
  exact Lft.here S h
theorem IsDue.none {v : Value} (h : IsDue v none) : ∃ t, v = .str "refused" t := h
theorem t_neDue {u v : Value} {r : Option Int} {Q : Post Value} (hu : IsDue u r) (hv : IsDue v r) (h : Q (.bool false) z l) : T prog w A (compareOp .NotEq u v) Q z l := by
  cases r with
  | none =>
    obtain ⟨t, rfl⟩ := hu
    obtain ⟨t', rfl⟩ := hv
    exact t_neS (by simpa using h)
  | some i =>
    obtain ⟨t, rfl⟩ := hu
    obtain ⟨t', rfl⟩ := hv
    exact t_ne (by simpa using h)
theorem t_subRev {value slice : PySem.Expr} {a sl : Addr} {vs : List Value} {t : Tok} {ops : List Value} {Q : Post Value} (hl : LsAt w z l a vs) (hn : vs.length ≤ 1000000)
    (h : ∀ c, Q (.ref c) z ((c, LstP vs.reverse) :: l)) (hs : subscripted slice false (.ref a) (.ref sl) = operate ops (getItem (.ref a) (.ref sl))) : T prog w A (subscriptTail value slice (.ref a) (.ref sl)) Q z ((sl, SlcP .none .none (.int (-1) t)) :: l) :=
  t_subSlice hl hn .none .none (.int (-1) t) (by simp) (fun c => by rw [krv_pick]; simpa using h c) hs
theorem IL.get {a : Addr} {ns : List Int} (h : IL z a ns) : ∃ vs, z.IsList a (vs : List Value).toArray ∧ IntsAre vs ns := h
theorem RowsAt.rev {vs : List Value} {rs : List Row} (h : RowsAt z vs rs) : RowsAt z vs.reverse rs.reverse := by
  induction h with
  | nil => exact .nil
  | cons h _ ih => rw [List.reverse_cons, List.reverse_cons]; exact ih.snoc h
theorem due_step (steps : List Row) (sg : Str) (k : Int) (i : Nat) (r : Row) (hr : steps.reverse[i]? = some r) : dueP (steps.reverse.take (i + 1)).reverse sg k = if passB sg k r then some r.1 else dueP (steps.reverse.take i).reverse sg k := by
  rw [take_snoc hr, List.reverse_append]
  unfold dueP
  simp only [List.reverse_cons, List.reverse_nil, List.nil_append, List.cons_append, List.find?_cons]
  split
  · rename_i h; rw [h]; rfl
  · rename_i h; rw [if_neg (by rw [h]; decide)]
end
end Mine
end
section
open PySem PySem.W PySem.Calls PyProof.Rows
set_option maxRecDepth 100000
set_option maxHeartbeats 8000000
namespace Mine
section
variable {α β : Type} {prog : Program} {w : World} {A : Around} {z : Heap} {l : Led} {s : Shared} {env : Env}

theorem t_iterE {e it : Addr} {Q : Post Value} (h : Q (.ref e) z ((e, EIt it 0) :: l)) : T prog w A (pyIter (.ref e)) Q z ((e, EIt it 0) :: l) := fun s S => by
  obtain ⟨oe, hoe, old, rfl⟩ := S.get (List.mem_cons_self (a := (e, EIt it 0)) (l := l))
  exact wpAny_pyIter_enum hoe (Lft.here S h)
theorem steps_short {F Ds : List Dom} {FL : List (List Int)} {rows : List Ent} (h : Inv F Ds FL rows) {x : Int} {F0 : Dom} (hF : F[x.toNat]? = some F0) : ∀ r ∈ stepsL (vals F0) (rows.map rowOf) x, r.2.length ≤ 6 := by
  intro r hr
  rcases List.mem_cons.mp hr with rfl | hr
  · exact (h.fk F0 (List.mem_of_getElem? hF)).2.2.1
  · unfold stepsFrom at hr
    obtain ⟨⟨q, n⟩, hq, rfl⟩ := List.mem_map.mp hr
    have hq := (List.mem_filter.mp hq).1
    have hq2 : q ∈ rows.map rowOf := by
      have := List.mem_zipIdx hq
      rw [this.2.2]
      exact List.getElem_mem _
    obtain ⟨e, he, rfl⟩ := List.mem_map.mp hq2
    obtain ⟨m, hm⟩ := List.getElem?_of_mem he
    have h1 := h.oldOk hm
    show (vals (struckL e.sg e.k e.old)).length ≤ 6
    rw [vals_struck h1.2.2.1 h1.1]
    exact Nat.le_trans (List.length_filter_le _ _) h1.2.1
structure SpS where
  li : Option Value
  sg : Option Value
  k : Option Value
  du : Option Value
  sp : Option Value
  lf : Option Value
set_option maxHeartbeats 16000000 in
theorem spots_ok (told : ToldStmt prog w) {o : Sto} {wd : Wld} {F Ds : List Dom} {FL : List (List Int)} {rows : List Ent} {marks : List Nat} {x : Int} {tx : Tok} {ga : Addr} {gs : List Value} {Q : Post Value} (R : Rm 9 A) (fr : Frm A l) (J : JOk z o wd F Ds FL rows marks) (hx : x = 0 ∨ x = 1)
    (hg : z.IsList ga gs.toArray) (hgs : ∀ v ∈ gs, ∃ sg t, v = .str sg t ∧ SgOk sg) (hgn : gs.length ≤ 10) (hr : rows.length ≤ 900)
    (h : ∀ z', z.StaysIn z' → Q (.bool true) z' (o.led prog w ++ (wd.led prog w ++ l))) :
    T prog w A (call (.ref 379) [.ref o.X, .ref wd.W, .int x tx, .ref ga]) Q z (o.led prog w ++ (wd.led prog w ++ l)) := by
  refine t_def [(("store" : Str), some (.ref o.X)), (("world" : Str), some (.ref wd.W)), (("signs" : Str), some (.ref ga)), (("steps" : Str), none), (("sign" : Str), none), (("k" : Str), none), (("due" : Str), none), (("spot" : Str), none), (("left" : Str), none)] (fun L => [(L + 2, CelP none), (L + 1, CelP (some (.int x tx)))]) (by k_is) (by k_is) R.room (by rfl) (by rfl) (by decide) (by wtm_at "M_nd") (by exact ⟨rfl, rfl, rfl, rfl, rfl, rfl, rfl, rfl, rfl, trivial⟩) (fun L => by rfl) (fun L => ?_) (by rfl) (by rfl) (by rfl)
  have hh := R.hh
  have R : ∀ env, Rm 8 (A.deeper env) := fun _ => R.deeper
  simp only [List.cons_append, List.nil_append]

  have hxl : x.toNat < F.length := by rw [J.i.lf]; omega
  obtain ⟨F0, hF⟩ : ∃ F0, F[x.toNat]? = some F0 := ⟨_, List.getElem?_eq_getElem hxl⟩
  have hFL : FL[x.toNat]? = some (vals F0) := by rw [J.i.fl, List.getElem?_map, hF]; rfl
  obtain ⟨fa, hfa, hIL⟩ := J.w.f.get hFL
  have hrl := J.w.r.len
  rw [List.length_map] at hrl
  simp only [Sto.led, Wld.led, List.cons_append, List.nil_append]
  wtm_at "M_go"
  refine t_itemL (LsAt.own (by wtm_at "M_mm")) (by omega) (by omega) hfa ?_ (by with_unfolding_all rfl)
  wtm_at "M_go"
  rename_i tm1
  refine ⟨by wtm_at "M_nat", fun c1 z1 i1 hc1 => ?_⟩
  wtm_at "M_go"
  refine ⟨by wtm_at "M_sz", fun b0 => ?_⟩
  refine t_Comp (σ := Unit) [("k" : Str), ("row" : Str)] (by rfl) (by decide) (by rfl) (by decide) (by decide) ?_ (by intro _; rfl)
  wtm_at "M_go"
  refine t_enum (LsAt.own (by wtm_at "M_mm")) fun e it => ?_
  refine t_iterE ?_
  have hRows := J.w.r.up i1
  refine CompOn.intro (fun _ => _) (fun i _ ys z' => RowsAt z' ys (stepsFrom ((rows.map rowOf).take i) x)) () (steps_enum (e := e) (it := it) (ax := wd.aR) (vs := wd.vR) (R _).hh) (by omega) .nil (by rfl) ?_ ?_ ?_ ?_
  · intro i x ys z' f C D i' _
    exact LsAt.own (by wtm_at "M_mm")
  · rintro C Dx i _ ys z₁ z₂ v f hi i1' i2' hok ⟨ea, te, rv, rfl, hrv, hpair⟩
    have hpair := tupP_is hpair
    have i12 := fun b o e => i2' b o (i1' b o e)
    obtain ⟨rw0, hrw, ra, rt, la, rfl, hrt, hrl2⟩ := (hRows.up i12).at hrv
    have htk := take_snoc hrw
    have hok := hok.up i2'
    dsimp only [nmsOf, List.map]
    simp only [List.cons_append, List.nil_append]
    refine t_assign2 (R _).hh hpair ?_
    wtm_at "M_go"
    refine t_tst1 ?_
    wtm_at "M_go"
    have hlen : ((rows.map rowOf).take i).length = i := by rw [List.length_take, List.length_map]; omega
    refine and_i (fun q => ?_) (fun q => ?_)
    · wtm_at "M_go"
      refine ⟨by wtm_at "M_nat", fun c3 z3 i3 hc3 => ?_⟩
      refine ⟨(), _, (by wtm_at "M_sub"), by rfl, ?_⟩
      rw [htk, stepsFrom_snoc, hlen, if_pos (by simpa using q)]
      exact (hok.up i3).snoc ⟨c3, te, la, rfl, hc3, hrl2.up i3⟩
    · refine ⟨(), _, (by wtm_at "M_sub"), by rfl, ?_⟩
      rw [htk, stepsFrom_snoc, if_neg (by simpa using q), List.append_nil]
      exact hok
  · intro i _ ys z' hok
    rw [hok.len]
    unfold stepsFrom
    rw [List.length_map]
    refine Nat.le_trans (List.length_filter_le _ _) ?_
    rw [List.length_zipIdx, List.length_take]; omega
  · intro _ ys z2 i2 hok D
    rw [List.take_of_length_le (by rw [List.length_map]; omega)] at hok
    have hyl := hok.len
    have hyl2 : ys.length ≤ 1000 := by
      rw [hyl]; unfold stepsFrom
      rw [List.length_map]
      refine Nat.le_trans (List.length_filter_le _ _) ?_
      rw [List.length_zipIdx, List.length_map]; omega
    dsimp only
    refine t_addL (LsAt.own (by wtm_at "M_mm")) (LsAt.own (by wtm_at "M_mm")) (by simp; omega) fun cS => ?_
    have hS : RowsAt z2 ([Value.ref c1] ++ ys) (stepsL (vals F0) (rows.map rowOf) x) := .cons ⟨c1, _, fa, rfl, tp_up hc1 i2, hIL.up (fun _ _ e => i2 _ _ (i1 _ _ e))⟩ hok
    refine T.frzL fun z3 i3 hcS => ?_
    have hS := hS.up i3
    have i03 : z.StaysIn z3 := fun _ _ e => i3 _ _ (i2 _ _ (i1 _ _ e))
    have J3 := J.up i03
    wtm_at "M_go"
    have hnow0 := (J.i.fk F0 (List.mem_of_getElem? hF))
    have hF0l := len_vals hnow0.1
    have hshort := steps_short J.i hF
    have hSl := hS.len
    refine t_For ?_
    wtm_at "M_go"
    refine t_iterL (LsAt.fz (is_up hg i03)) fun I1 => ?_
    refine tc_for (σ := SpS) (fun s => (D, LstP ys) :: (b0, LstP [Value.ref c1]) :: (L, LocP [(("store" : Str), some (.ref o.X)), (("world" : Str), some (.ref wd.W)), (("signs" : Str), some (.ref ga)), (("steps" : Str), some (.ref cS)), (("sign" : Str), s.sg), (("k" : Str), s.k), (("due" : Str), s.du), (("spot" : Str), s.sp), (("left" : Str), s.lf)]) :: (L + 2, CelP s.li) :: (L + 1, CelP (some (.int x tx))) :: (o.led prog w ++ (wd.led prog w ++ l))) (fun i s z' => True) ⟨none, none, none, none, none, none⟩ (steps_list (vs := gs) (ax := ga) (R _).hh (by rfl)) trivial (by rfl) (fun i s z' i' _ => LsAt.fz (is_up hg (fun _ _ e => i' _ _ (i03 _ _ e)))) ?_ ?_
    · rintro i s z4 z5 v hi i4 i5 - hv
      obtain ⟨sg, tsg, rfl, hsg⟩ := hgs v (List.mem_of_getElem? hv)
      try dsimp only
      simp only [Sto.led, Wld.led, List.cons_append, List.nil_append]
      wtm_at "M_go"
      refine t_For ?_
      wtm_at "M_go"
      refine t_range2 fun rg => ?_
      obtain ⟨hsm, hsz⟩ := range_small (a := -1) (b := 7) (by decide) (by decide) (by decide) (by decide)
      refine t_iterR hsm hsz fun I2 => ?_
      have i35 : z3.StaysIn z5 := fun _ _ e => i5 _ _ (i4 _ _ e)
      refine tc_for (σ := SpS) (fun s => (I1, LIt ga (i + 1)) :: (D, LstP ys) :: (b0, LstP [Value.ref c1]) :: (L, LocP [(("store" : Str), some (.ref o.X)), (("world" : Str), some (.ref wd.W)), (("signs" : Str), some (.ref ga)), (("steps" : Str), some (.ref cS)), (("sign" : Str), some (.str sg tsg)), (("k" : Str), s.k), (("due" : Str), s.du), (("spot" : Str), s.sp), (("left" : Str), s.lf)]) :: (L + 2, CelP s.li) :: (L + 1, CelP (some (.int x tx))) :: (o.led prog w ++ (wd.led prog w ++ l))) (fun i s z' => True) s (steps_range (a := -1) (n := ((7 : Int) - -1).toNat) (R _).hh (by rfl)) trivial (by rfl) (fun _ _ _ _ _ => trivial) ?_ ?_
      · rintro i2 s z6 z7 v hi2 i6 i7 - ⟨tk, rfl⟩
        try dsimp only
        simp only [Sto.led, Wld.led, List.cons_append, List.nil_append]
        have i37 : z3.StaysIn z7 := fun _ _ e => i7 _ _ (i6 _ _ (i35 _ _ e))
        wtm_at "M_go"
        refine ⟨by wtm_at "M_nat", fun cl z8 i8 hcl => ?_⟩
        wtm_at "M_go"
        rename_i tref
        refine ⟨by wtm_at "M_nat", fun cp z9 i9 hcp => ?_⟩
        wtm_at "M_go"
        refine t_For ?_
        wtm_at "M_go"
        intro sl
        have i39 : z3.StaysIn z9 := fun _ _ e => i9 _ _ (i8 _ _ (i37 _ _ e))
        have hlit : LitAt z9 cl x sg (-1 + (i2 : Int)) := LitAt.up ⟨_, _, _, hcl⟩ i9
        refine t_subRev (LsAt.fz (is_up hcS i39)) (by simp; omega) (fun cR => ?_) (by with_unfolding_all rfl)
        refine t_iterL (LsAt.own (by wtm_at "M_mm")) fun I3 => ?_
        have hSr := (hS.up i39).rev
        refine tc_for (σ := SpS) (fun s => (cR, LstP ([Value.ref c1] ++ ys).reverse) :: (I2, RIt (-1 + ((i2 + 1 : Nat) : Int)) (((((7 : Int) - -1).toNat : Nat) : Int) - ((i2 + 1 : Nat) : Int))) :: (I1, LIt ga (i + 1)) :: (D, LstP ys) :: (b0, LstP [Value.ref c1]) :: (L, LocP [(("store" : Str), some (.ref o.X)), (("world" : Str), some (.ref wd.W)), (("signs" : Str), some (.ref ga)), (("steps" : Str), some (.ref cS)), (("sign" : Str), some (.str sg tsg)), (("k" : Str), some (.int (-1 + (i2 : Int)) tk)), (("due" : Str), s.du), (("spot" : Str), s.sp), (("left" : Str), s.lf)]) :: (L + 2, CelP (some (.ref cl))) :: (L + 1, CelP (some (.int x tx))) :: (o.led prog w ++ (wd.led prog w ++ l)))
          (fun j s z' => ∃ v, s.du = some v ∧ IsDue v (dueP ((stepsL (vals F0) (rows.map rowOf) x).reverse.take j).reverse sg (-1 + (i2 : Int)))) ⟨some (.ref cl), none, none, some (.str "refused" tref), s.sp, s.lf⟩ (steps_list (vs := ([Value.ref c1] ++ ys).reverse) (ax := cR) (R _).hh (by rfl)) ⟨_, rfl, tref, rfl⟩ (by rfl)
          (fun i s z' i' _ => LsAt.own (by wtm_at "M_mm")) ?_ ?_
        · rintro j s z10 z11 v hj i10 i11 ⟨dv, hdv, hdue⟩ hv
          try dsimp only at hdv ⊢
          try rw [hdv]
          have i911 : z9.StaysIn z11 := fun _ _ e => i11 _ _ (i10 _ _ e)
          obtain ⟨r, hr', ra, rt, la, rfl, hrt, hIL2⟩ := (hSr.up i911).at hv
          have hds := due_step _ sg (-1 + (i2 : Int)) j r hr'
          obtain ⟨lvs, hlL, hlI⟩ := hIL2
          have hll := ints_len hlI
          have hlit := hlit.up i911
          simp only [Sto.led, Wld.led, List.cons_append, List.nil_append]
          refine t_assign2 (R _).hh hrt ?_
          wtm_at "M_go"
          refine t_Comp (σ := Unit) [("v" : Str)] (by rfl) (by decide) (by rfl) (by decide) (by decide) ?_ (by intro _; rfl)
          wtm_at "M_go"
          refine t_iterL (LsAt.fz hlL) fun I4 => ?_
          refine CompOn.intro (fun _ => _) (fun n _ ys z' => BoolsAre ys ((r.2.take n).map (metB sg (-1 + (i2 : Int))))) () (steps_list (vs := lvs) (ax := la) (R _).hh (by rfl)) (by have := hshort r (by have := List.mem_of_getElem? hr'; rwa [List.mem_reverse] at this); omega) .nil (by rfl) (fun i x ys z' f C D i' _ => LsAt.fz (is_up hlL i')) ?_ ?_ ?_
          · intro C Dx n _ ys2 z₁ z₂ v f hn i1' i2' hok hv
            obtain ⟨m, tm, rfl, hm⟩ := hlI.at n v hv
            have htk := take_snoc hm
            have i12 := fun b o e => i2' b o (i1' b o e)
            dsimp only [nmsOf, List.map]
            simp only [List.cons_append, List.nil_append]
            wtm_at "M_go"
            refine t_tst0 (and_t ?_)
            wtm_at "M_go"
            refine met_ok ((R _).le (by decide)) (hlit.up i12) fun z13 i13 => ?_
            refine ⟨(), _, (by wtm_at "M_sub"), by rfl, ?_⟩
            rw [htk, List.map_append]
            exact hok.snoc
          · intro n _ ys2 z' hok
            rw [hok.len, List.length_map, List.length_take]; omega
          · intro _ ys2 z12 i12 hok D2
            rw [hll, List.take_length] at hok
            dsimp only
            refine t_noFalse (LsAt.own (by wtm_at "M_mm")) hok (R _).unit ?_
            rw [List.all_map, show (r.2.all (id ∘ metB sg (-1 + (i2 : Int)))) = passB sg (-1 + (i2 : Int)) r from rfl]
            wtm_at "M_go"
            refine br_b (fun q => ?_) (fun q => ?_)
            · wtm_at "M_go"
              refine ⟨⟨some (.ref cl), none, none, some (.int r.1 rt), some (.int r.1 rt), some (.ref la)⟩, (by wtm_at "M_sub"), .int r.1 rt, rfl, ?_⟩
              rw [hds, if_pos q]
              exact ⟨rt, rfl⟩
            · wtm_at "M_go"
              refine ⟨⟨some (.ref cl), none, none, some dv, some (.int r.1 rt), some (.ref la)⟩, (by wtm_at "M_sub"), dv, rfl, ?_⟩
              rw [hds, if_neg (by rw [q]; decide)]
              exact hdue
        · rintro s z10 i10 ⟨dv, hdv, hdue⟩
          try dsimp only at hdv ⊢
          try rw [hdv]
          rw [show ([Value.ref c1] ++ ys).reverse.length = (stepsL (vals F0) (rows.map rowOf) x).reverse.length by rw [List.length_reverse, List.length_reverse, hSl], List.take_length, List.reverse_reverse, due_spot J.i hsg hF] at hdue
          simp only [Sto.led, Wld.led, List.cons_append, List.nil_append]
          wtm_at "M_go"
          have i310 : z3.StaysIn z10 := fun _ _ e => i10 _ _ (i39 _ _ e)
          refine T.take (ps := o.led prog w) (by wtm_at "M_take") ?_
          refine told _ _ _ o F Ds rows marks x (-1 + (i2 : Int)) sg cl F0 _ (R _) (fr.deeper (by show ScopeKind.function ≠ ScopeKind.module; decide) (by rfl) (by wtm_at "M_mm") (by intro p hp; with_reducible (repeat (first | exact hp | apply List.mem_cons_of_mem)))) (J3.s.up i310) (hlit.up i10) hx hF (by omega) (fun e he => ?_) (by omega) fun z14 u i14 hu => ?_
          · obtain ⟨n, hn⟩ := List.getElem?_of_mem he
            have h1 := J.i.oldOk hn
            have h2 := len_vals h1.1
            have h3 := len_vals (ok_struck (sg := e.sg) (k := e.k) h1.1)
            have h4 : (vals (struckL e.sg e.k e.old)).length ≤ (vals e.old).length := by rw [vals_struck h1.2.2.1 h1.1]; exact List.length_filter_le _ _
            omega
          refine T.take (ps := (cR, LstP ([Value.ref c1] ++ ys).reverse) :: (I2, RIt (-1 + ((i2 + 1 : Nat) : Int)) (((((7 : Int) - -1).toNat : Nat) : Int) - ((i2 + 1 : Nat) : Int))) :: (I1, LIt ga (i + 1)) :: (D, LstP ys) :: (b0, LstP [Value.ref c1]) :: (L, LocP [(("store" : Str), some (.ref o.X)), (("world" : Str), some (.ref wd.W)), (("signs" : Str), some (.ref ga)), (("steps" : Str), some (.ref cS)), (("sign" : Str), some (.str sg tsg)), (("k" : Str), some (.int (-1 + (i2 : Int)) tk)), (("due" : Str), some dv), (("spot" : Str), s.sp), (("left" : Str), s.lf)]) :: (L + 2, CelP (some (.ref cl))) :: (L + 1, CelP (some (.int x tx))) :: (o.led prog w ++ wd.led prog w)) (by wtm_at "M_take") ?_
          simp only [Sto.led, Wld.led, List.cons_append, List.nil_append]
          wtm_at "M_go"
          refine t_neDue hu hdue ?_
          wtm_at "M_go"
          refine br_f ?_
          wtm_at "M_go"
          exact ⟨⟨some (.ref cl), none, some (.int (-1 + (i2 : Int)) tk), some dv, s.sp, s.lf⟩, (by wtm_at "M_sub"), trivial⟩
      · rintro s z6 i6 -
        try dsimp only
        simp only [Sto.led, Wld.led, List.cons_append, List.nil_append]
        wtm_at "M_go"
        exact ⟨⟨s.li, some (.str sg tsg), s.k, s.du, s.sp, s.lf⟩, (by wtm_at "M_sub"), trivial⟩
    · rintro s z4 i4 -
      try dsimp only
      simp only [Sto.led, Wld.led, List.cons_append, List.nil_append]
      wtm_at "M_go"
      exact RetQ.ret (l' := o.led prog w ++ (wd.led prog w ++ l)) (by wtm_at "M_sub") (h z4 (fun _ _ e => i4 _ _ (i03 _ _ e)))
end
end Mine
end
section
open PySem PySem.W PySem.Calls PyProof.Rows
set_option maxRecDepth 100000
set_option maxHeartbeats 8000000
namespace Mine
section
variable {α β : Type} {prog : Program} {w : World} {A : Around} {z : Heap} {l : Led} {s : Shared} {env : Env}

structure LawA where
  o : Sto
  wd : Wld
  F : List Dom
  x : Option Value
  lot : Option Value
structure LawB where
  N : Int
  o : Sto
  wd : Wld
  Ds : List Dom
  rows : List Ent
  marks : List Nat
  x : Option Value
  lap : Option Value
  sg : Option Value
def FstOk (F : List Dom) : Prop := ∀ D ∈ F, OkD D ∧ D ≠ [] ∧ (vals D).length ≤ 6 ∧ ∀ v ∈ vals D, 0 ≤ v ∧ v ≤ 5
set_option maxHeartbeats 16000000 in
theorem law_core (told : ToldStmt prog w) {name qual : Str} {params : Arguments} {body : List Stmt} {scope : Scope} {dV kV doc pm cdv ct oc : Value} {an od : Option Addr} {osl : Array (Option Value)}
    (ho : (Mine.hd.heap_39 w.params).lookup 384 = some ⟨oc, od, .func (fnOf name qual params body scope dV kV doc pm an cdv ct), osl⟩) {L f : Addr} {cdv' : Value} {a : Addr} {svs : List Value} {ns : List Int} {Q : Post Flow} (R : ∀ env, Rm 9 (A.deeper env)) (hA : A.frames = some [])
    (ha : z.IsList a svs.toArray) (hI : IntsAre svs ns) (hn : ns.length ≤ 100) (h : ∀ z' l', z.StaysIn z' → Q (.ret (.bool true)) z' l') :
    T prog w (A.deeper (envOfC qual scope L f cdv')) (execs body (envOfC qual scope L f cdv')) Q z ((L, LocP [(("script" : Str), some (.ref a)), (("store" : Str), none), (("world" : Str), none), (("x" : Str), none), (("lot" : Str), none), (("lap" : Str), none), (("signs" : Str), none)]) :: (L + 1, CelP none) :: l) := by
  have e := ho.symm.trans (by k_is)
  cases e
  have hh : A.handled = none := (R default).hh
  wtm_at "M_go"
  refine src_ok ((R _).le (by decide)) ha hI hn fun sd c tsp z1 i1 ok1 => ?_
  wtm_at "M_go"
  refine make_ok ((R _).le (by decide)) fun z2 o i2 S2 => ?_
  refine T.take (ps := (L, LocP [(("script" : Str), some (.ref a)), (("store" : Str), none), (("world" : Str), none), (("x" : Str), none), (("lot" : Str), none), (("lap" : Str), none), (("signs" : Str), none)]) :: (L + 1, CelP none) :: (sd, DctP prog w [("cells", .ref c), ("spot", .int 0 tsp)]) :: o.led prog w) (by wtm_at "M_take") ?_
  simp only [Sto.led, Wld.led, List.cons_append, List.nil_append]
  refine T.weaken (P' := SrcP prog w c 0) (a := sd) (by wtm_at "M_up") (fun ob d => ⟨0, _, by decide, by decide, d⟩) ?_
  wtm_at "M_go"
  refine ⟨by wtm_at "M_nat", fun c3 z3 i3 hc3 => ?_⟩
  wtm_at "M_go"
  refine t_Dict (by rfl) (by rfl) (by simp) (by decide) fun W => ?_
  wtm_at "M_go"
  refine ⟨by wtm_at "M_sz", fun aF => ?_⟩
  wtm_at "M_go"
  refine ⟨by wtm_at "M_sz", fun aR => ?_⟩
  wtm_at "M_go"
  refine ⟨by wtm_at "M_sz", fun aM => ?_⟩
  wtm_at "M_go"
  refine ⟨_, _, carries1 (carries1 (carries1 carries0)), (by wtm_at "M_up"), ?_⟩
  have em : merged [] [(("firsts" : Str), Value.ref aF), (("rows" : Str), Value.ref aR), (("marks" : Str), Value.ref aM)] = [(("firsts" : Str), Value.ref aF), (("rows" : Str), Value.ref aR), (("marks" : Str), Value.ref aM)] := by with_unfolding_all rfl
  rw [em]
  let wd0 : Wld := ⟨W, aF, aR, aM, [], [], []⟩
  refine T.take (ps := (L, LocP [(("script" : Str), some (.ref a)), (("store" : Str), some (.ref o.X)), (("world" : Str), none), (("x" : Str), none), (("lot" : Str), none), (("lap" : Str), none), (("signs" : Str), none)]) :: (L + 1, CelP (some (.ref sd))) :: (sd, SrcP prog w c 0) :: (o.led prog w ++ [(W, DctP prog w [("firsts", .ref aF), ("rows", .ref aR), ("marks", .ref aM)]), (aF, LstP []), (aR, LstP []), (aM, LstP [])])) (by wtm_at "M_take") ?_
  simp only [Sto.led, Wld.led, List.cons_append, List.nil_append]
  wtm_at "M_go"
  have ok3 := (ok1.up i2).up i3
  have i03 : z.StaysIn z3 := fun _ _ e => i3 _ _ (i2 _ _ (i1 _ _ e))
  refine t_For ?_
  wtm_at "M_go"
  refine t_range1 fun rg => ?_
  obtain ⟨hsm, hsz⟩ := range_small (a := 0) (b := 2) (by decide) (by decide) (by decide) (by decide)
  refine t_iterR hsm hsz fun I => ?_
  have fin : ∀ (z4 : Heap) (s : LawA), z3.StaysIn z4 → s.o.X = o.X → s.wd.W = W → StoOk z4 s.o s.F s.F [] [] → WldOk z4 s.wd (s.F.map vals) [] [] → s.F.length = 2 → FstOk s.F → True := fun _ _ _ _ _ _ _ _ _ => trivial
  refine tc_for (σ := LawA) (fun s => (L, LocP [(("script" : Str), some (.ref a)), (("store" : Str), some (.ref o.X)), (("world" : Str), some (.ref W)), (("x" : Str), s.x), (("lot" : Str), s.lot), (("lap" : Str), none), (("signs" : Str), none)]) :: (L + 1, CelP (some (.ref sd))) :: (sd, SrcP prog w c (6 * s.F.length)) :: (s.o.led prog w ++ (s.wd.led prog w ++ l)))
    (fun i s z' => s.o.X = o.X ∧ s.wd.W = W ∧ StoOk z' s.o s.F s.F [] [] ∧ WldOk z' s.wd (s.F.map vals) [] [] ∧ s.F.length = i ∧ FstOk s.F) ⟨o, wd0, [], none, none⟩ (steps_range (a := 0) (n := ((2 : Int) - 0).toNat) (R _).hh (by rfl))
    ⟨rfl, rfl, S2.up i3, ⟨.nil, .nil, .nil⟩, rfl, by intro D hD; cases hD⟩ (by rfl) (fun _ _ _ _ _ => trivial) ?_ ?_
  · rintro i ⟨o1, wd1, F, ox, olot⟩ z4 z5 v hi i4 i5 ⟨hX, hW, S4, W4, hFl, hF⟩ ⟨tv, rfl⟩
    try dsimp only at hX hW S4 W4 hFl hF ⊢
    have hi2 : i < 2 := hi
    have i35 : z3.StaysIn z5 := fun _ _ e => i5 _ _ (i4 _ _ e)
    have ok5 := ok3.up i35
    rw [← hX, ← hW]
    simp only [Sto.led, Wld.led, List.cons_append, List.nil_append]
    wtm_at "M_go"
    refine t_CompA1 (σ := Int) [("v" : Str)] (by with_unfolding_all rfl) (by rfl) (by decide) (by rfl) (by decide) (by decide) (by rfl) (by rfl) (by intro _; rfl) ?_
    wtm_at "M_go"
    refine t_range1 fun rg2 => ?_
    obtain ⟨hsm2, hsz2⟩ := range_small (a := 0) (b := 6) (by decide) (by decide) (by decide) (by decide)
    refine t_iterR hsm2 hsz2 fun I2 => ?_
    have hFe : F.length < 2 := by omega
    refine CompOn.intro (fun M => (I, RIt (0 + ((i + 1 : Nat) : Int)) (((((2 : Int) - 0).toNat : Nat) : Int) - ((i + 1 : Nat) : Int))) :: (L, LocP [(("script" : Str), some (.ref a)), (("store" : Str), some (.ref o1.X)), (("world" : Str), some (.ref wd1.W)), (("x" : Str), some (.int (0 + (i : Int)) tv)), (("lot" : Str), olot), (("lap" : Str), none), (("signs" : Str), none)]) :: (L + 1, CelP (some (.ref sd))) :: (sd, SrcP prog w c M) :: (o1.led prog w ++ (wd1.led prog w ++ l)))
      (fun n M ys z' => M = 6 * (F.length : Int) + n ∧ ∃ ms, IntsAre ys ms ∧ ms.length ≤ n ∧ ms.Pairwise (· < ·) ∧ ∀ m ∈ ms, 0 ≤ m ∧ m < n) (6 * (F.length : Int)) (steps_range (a := 0) (n := ((6 : Int) - 0).toNat) (R _).hh (by rfl)) (by decide)
      ⟨by omega, [], .nil, Nat.le_refl _, .nil, by simp⟩ (by rfl) (fun _ _ _ _ _ _ _ _ _ => trivial) ?_ ?_ ?_
    · rintro C Dx n M ys z₁ z₂ v f' hn' i1' i2' ⟨rfl, ms, hms, hml, hmp, hmr⟩ ⟨tn, rfl⟩
      have hn6 : n < 6 := hn'
      dsimp only [nmsOf, List.map]
      simp only [Sto.led, Wld.led, List.cons_append, List.nil_append]
      wtm_at "M_go"
      refine t_tst1 ?_
      wtm_at "M_go"
      refine T.pick (p := (sd, SrcP prog w c (6 * (F.length : Int) + n))) (by wtm_at "M_pc") ?_
      refine draw_ok ((R _).le (by decide)) (ok5.up (fun _ _ e => i2' _ _ (i1' _ _ e))) (by omega) (by decide) (by decide) fun r tr z6 i6 hr0 hr1 => ?_
      refine T.take (ps := (I2, RIt (0 + ((n + 1 : Nat) : Int)) (((((6 : Int) - 0).toNat : Nat) : Int) - ((n + 1 : Nat) : Int))) :: (C, LocP [(("v" : Str), some (.int (0 + (n : Int)) tn))]) :: (Dx, LstP ys) :: (I, RIt (0 + ((i + 1 : Nat) : Int)) (((((2 : Int) - 0).toNat : Nat) : Int) - ((i + 1 : Nat) : Int))) :: (L, LocP [(("script" : Str), some (.ref a)), (("store" : Str), some (.ref o1.X)), (("world" : Str), some (.ref wd1.W)), (("x" : Str), some (.int (0 + (i : Int)) tv)), (("lot" : Str), olot), (("lap" : Str), none), (("signs" : Str), none)]) :: (L + 1, CelP (some (.ref sd))) :: (sd, SrcP prog w c (6 * (F.length : Int) + n + 1)) :: (o1.led prog w ++ wd1.led prog w)) (by wtm_at "M_take") ?_
      simp only [Sto.led, Wld.led, List.cons_append, List.nil_append]
      refine T.weaken (P' := SrcP prog w c (6 * (F.length : Int) + ((n + 1 : Nat) : Int))) (a := sd) (by wtm_at "M_up") (SrcP.le (by omega)) ?_
      wtm_at "M_go"
      refine and_p (fun q => ?_) (fun q => ?_)
      · wtm_at "M_go"
        refine ⟨_, _, sub_refl, by rfl, rfl, ms ++ [0 + (n : Int)], hms.append (.cons _ _ .nil), by simp; omega, List.pairwise_append.mpr ⟨hmp, by simp, ?_⟩, ?_⟩
        · intro p hp q hq
          simp only [List.mem_singleton] at hq
          have := hmr p hp
          omega
        · intro m hm
          rcases List.mem_append.mp hm with hm | hm
          · have := hmr m hm; omega
          · simp only [List.mem_singleton] at hm; omega
      · exact ⟨_, _, sub_refl, by rfl, rfl, ms, hms, by omega, hmp, fun m hm => by have := hmr m hm; omega⟩
    · rintro n M ys z' ⟨_, ms, hms, hml, _⟩
      rw [ints_len hms]; exact hml
    · rintro M ys z6 i6 ⟨rfl, ms, hms, hml, hmp, hmr⟩ D
      have hml6 : ms.length ≤ 6 := hml
      have e1 := ints_len hms
      simp only [Sto.led, Wld.led, List.cons_append, List.nil_append]
      refine ⟨_, _, _, (by wtm_at "M_up"), (by wtm_at "M_pu"), ?_⟩
      refine t_seq ?_
      refine t_cut (fun z' l' => z6.StaysIn z' ∧ ∃ ca vs ms', IntsAre vs ms' ∧ ms'.Pairwise (· < ·) ∧ (∀ m ∈ ms', 0 ≤ m ∧ m ≤ 5) ∧ ms'.length ≤ 6 ∧ ms' ≠ [] ∧ ((ca, LstP vs) :: (I, RIt (0 + ((i + 1 : Nat) : Int)) (((((2 : Int) - 0).toNat : Nat) : Int) - ((i + 1 : Nat) : Int))) :: (L, LocP [(("script" : Str), some (.ref a)), (("store" : Str), some (.ref o1.X)), (("world" : Str), some (.ref wd1.W)), (("x" : Str), some (.int (0 + (i : Int)) tv)), (("lot" : Str), some (.ref ca)), (("lap" : Str), none), (("signs" : Str), none)]) :: (L + 1, CelP (some (.ref sd))) :: (sd, SrcP prog w c (6 * (F.length : Int) + ((((6 : Int) - 0).toNat : Nat) : Int))) :: (o1.led prog w ++ (wd1.led prog w ++ l))).Sublist l') ?_ ?_
      · wtm_at "M_go"
        refine t_lenL (LsAt.own (by wtm_at "M_mm")) (by omega) fun t1 => ?_
        wtm_at "M_go"
        refine br_p (fun q => ?_) (fun q => ?_)
        · wtm_at "M_go"
          refine ⟨rfl, fun _ _ e => e, D, ys, ms, hms, hmp, fun m hm => ?_, hml6, fun e => ?_, (by wtm_at "M_sub")⟩
          · have := hmr m hm
            have : ((((6 : Int) - 0).toNat : Nat) : Int) = 6 := rfl
            omega
          · subst e; simp at e1; rw [e1] at q; simp at q
        · wtm_at "M_go"
          refine ⟨by wtm_at "M_sz", fun b1 => ?_⟩
          wtm_at "M_go"
          exact ⟨rfl, fun _ _ e => e, b1, _, [1, 4], .cons _ _ (.cons _ _ .nil), by decide, by decide, by decide, by decide, (by wtm_at "M_sub")⟩
      · rintro z7 l7 i7 ⟨i67, ca, vs, ms', hvs, hp', hr', hl', hne', hsub⟩
        refine T.drop hsub ?_
        refine T.frzL fun z8 i8 hca => ?_
        simp only [Sto.led, Wld.led, List.cons_append, List.nil_append]
        have hfl := fromL_ok hp'
        have i48 : z5.StaysIn z8 := fun _ _ e => i8 _ _ (i67 _ _ (i6 _ _ e))
        have i38 : z3.StaysIn z8 := fun _ _ e => i48 _ _ (i35 _ _ e)
        have S8 := (S4.up i5).up i48
        have W8 := (W4.up i5).up i48
        have hvl := W8.f.len
        rw [List.length_map] at hvl
        wtm_at "M_go"
        refine t_append (by wtm_at "M_up") (by omega) ?_
        wtm_at "M_go"
        refine from_values_ok ((R _).le (by decide)) hca hvs (hp'.imp fun q => Int.le_of_lt q) (by omega) fun c9 z9 i9 hd9 => ?_
        wtm_at "M_go"
        refine T.take (ps := o1.led prog w) (by wtm_at "M_take") ?_
        have hnl : fromL ms' ≠ [] := fun e => hne' (by rw [← hfl.2, e]; rfl)
        refine new_var_ok ((R _).le (by decide)) (S8.up i9) hd9 hnl (by omega) (by omega) fun z10 o' v10 i10 hX' S10 => ?_
        have W10 := W8.up (fun b o e => i10 b o (i9 b o e))
        refine T.take (ps := (I, RIt (0 + ((i + 1 : Nat) : Int)) (((((2 : Int) - 0).toNat : Nat) : Int) - ((i + 1 : Nat) : Int))) :: (L, LocP [(("script" : Str), some (.ref a)), (("store" : Str), some (.ref o1.X)), (("world" : Str), some (.ref wd1.W)), (("x" : Str), some (.int (0 + (i : Int)) tv)), (("lot" : Str), some (.ref ca)), (("lap" : Str), none), (("signs" : Str), none)]) :: (L + 1, CelP (some (.ref sd))) :: (sd, SrcP prog w c (6 * (F.length : Int) + ((((6 : Int) - 0).toNat : Nat) : Int))) :: (o'.led prog w ++ ({ wd1 with vF := wd1.vF ++ [Value.ref ca] } : Wld).led prog w)) (by wtm_at "M_take") ?_
        simp only [Sto.led, Wld.led, List.cons_append, List.nil_append]
        refine T.weaken (P' := SrcP prog w c (6 * ((F ++ [fromL ms']).length : Int))) (a := sd) (by wtm_at "M_up") (SrcP.le (by rw [List.length_append]; show 6 * (F.length : Int) + 6 ≤ _; simp; omega)) ?_
        wtm_at "M_go"
        refine ⟨⟨o', { wd1 with vF := wd1.vF ++ [Value.ref ca] }, F ++ [fromL ms'], _, _⟩, sub_refl, hX', rfl, S10, ⟨?_, W10.r, W10.m⟩, by simp; omega, ?_⟩
        · rw [List.map_append]
          refine W10.f.snoc ⟨vs, is_up hca (fun _ _ e => i10 _ _ (i9 _ _ e)), ?_⟩
          rw [hfl.2]; exact hvs
        · intro D' hD'
          rcases List.mem_append.mp hD' with hD' | hD'
          · exact hF D' hD'
          · simp only [List.mem_singleton] at hD'
            subst hD'
            rw [hfl.2]
            exact ⟨hfl.1, hnl, hl', hr'⟩
  · rintro ⟨o1, wd1, F, ox, olot⟩ z4 i4 ⟨hX, hW, S4, W4, hFl, hF⟩
    try dsimp only at hX hW S4 W4 hFl hF ⊢
    rw [← hX, ← hW]
    have hF2 : F.length = 2 := hFl
    have J4 : JOk z4 o1 wd1 F F (F.map vals) [] [] := ⟨S4, W4, ⟨hF2, hF2, rfl, hF, fun i e he => by simp at he, fun x D0 hx => hx⟩, ⟨by simp, by simp⟩⟩
    simp only [Sto.led, Wld.led, List.cons_append, List.nil_append]
    wtm_at "M_go"
    refine t_For ?_
    wtm_at "M_go"
    refine T.pick (p := (sd, SrcP prog w c (6 * (F.length : Int)))) (by wtm_at "M_pc") ?_
    have ok4 := ok3.up i4
    refine draw_ok ((R _).le (by decide)) ok4 (by omega) (by decide) (by decide) fun r tr z5 i5 hr0 hr1 => ?_
    wtm_at "M_go"
    refine t_range1 fun rg2 => ?_
    obtain ⟨hsm2, hsz2⟩ := range_small (a := 0) (b := 2 + r) (by decide) (by decide) (by omega) (by omega)
    refine t_iterR hsm2 hsz2 fun I2 => ?_
    have i05 : z.StaysIn z5 := fun _ _ e => i5 _ _ (i4 _ _ (i03 _ _ e))
    refine tc_for (σ := LawB) (fun s => (sd, SrcP prog w c s.N) :: (L, LocP [(("script" : Str), some (.ref a)), (("store" : Str), some (.ref o1.X)), (("world" : Str), some (.ref wd1.W)), (("x" : Str), s.x), (("lot" : Str), olot), (("lap" : Str), s.lap), (("signs" : Str), s.sg)]) :: (L + 1, CelP (some (.ref sd))) :: (s.o.led prog w ++ (s.wd.led prog w ++ l)))
      (fun i s z' => s.o.X = o1.X ∧ s.wd.W = wd1.W ∧ JOk z' s.o s.wd F s.Ds (F.map vals) s.rows s.marks ∧ s.N ≤ 100 + 14 * i ∧ s.rows.length ≤ 10 * i ∧ s.marks.length ≤ i) ⟨6 * (F.length : Int) + 1, o1, wd1, F, [], [], ox, none, none⟩ (steps_range (a := 0) (n := (2 + r - 0).toNat) (R _).hh (by rfl))
      ⟨rfl, rfl, J4.up i5, by dsimp only; omega, by simp, by simp⟩ (by rfl) (fun _ _ _ _ _ => trivial) ?_ ?_
    · rintro i ⟨N, o2, wd2, Ds, rows, marks, bx, blap, bsg⟩ z6 z7 v hi i6 i7 ⟨hX2, hW2, J6, hN, hrl, hml⟩ ⟨tv, rfl⟩
      try dsimp only at hX2 hW2 J6 hN hrl hml ⊢
      have hi5 : i < 5 := by omega
      rw [← hX2, ← hW2]
      have J7 := J6.up i7
      have i57 : z5.StaysIn z7 := fun _ _ e => i7 _ _ (i6 _ _ e)
      have ok7 := (ok4.up i5).up i57
      simp only [Sto.led, Wld.led, List.cons_append, List.nil_append]
      wtm_at "M_go"
      refine T.take (ps := (sd, SrcP prog w c N) :: (o2.led prog w ++ wd2.led prog w)) (by wtm_at "M_take") ?_
      rw [List.cons_append, List.append_assoc]
      refine deed_ok (R _) ok7 (by omega) J7 (by omega) (by omega) fun z8 o3 wd3 Ds3 rows3 marks3 i8 hX3 hW3 J8 hr3 hm3 => ?_
      have e1 := J8.s.t.len
      have e2 := J8.w.r.len
      rw [List.length_map] at e2
      simp only [Sto.led, Wld.led, List.cons_append, List.nil_append]
      wtm_at "M_go"
      rw [← hX3, ← hW3]
      refine br_n (fun q => by cases q) (fun _ => ?_)
      wtm_at "M_go"
      refine t_lenL (LsAt.own (by wtm_at "M_mm")) (by omega) fun t1 => ?_
      wtm_at "M_go"
      refine t_lenL (LsAt.own (by wtm_at "M_mm")) (by omega) fun t2 => ?_
      wtm_at "M_go"
      rw [show ((o3.vT.length : Int) != (wd3.vR.length : Int)) = false by rw [e1, e2]; simp]
      refine br_f ?_
      wtm_at "M_go"
      refine T.pick (p := (sd, SrcP prog w c (N + 12))) (by wtm_at "M_pc") ?_
      have ok8 := ok7.up i8
      refine draw_ok ((R _).le (by decide)) ok8 (by omega) (by decide) (by decide) fun x tx z9 i9 hx0 hx1 => ?_
      wtm_at "M_go"
      refine ⟨by wtm_at "M_sz", fun g1 => ?_⟩
      wtm_at "M_go"
      refine ⟨by wtm_at "M_sz", fun g2 => ?_⟩
      wtm_at "M_go"
      refine ⟨by wtm_at "M_sz", fun g3 => ?_⟩
      wtm_at "M_go"
      refine T.pick (p := (sd, SrcP prog w c (N + 12 + 1))) (by wtm_at "M_pc") ?_
      refine draw_ok ((R _).le (by decide)) (ok8.up i9) (by omega) (by decide) (by decide) fun r2 tr2 z10 i10 hy0 hy1 => ?_
      rename_i ta tb tc td te
      refine T.pick (p := (g1, LstP [Value.str "<=" ta, .str "!=" tb])) (by wtm_at "M_pc") ?_
      refine T.frzL fun z11 i11 hg1 => ?_
      refine T.pick (p := (g2, LstP [Value.str ">=" tc, .str "=" td])) (by wtm_at "M_pc") ?_
      refine T.frzL fun z12 i12 hg2 => ?_
      obtain ⟨gx, gs, hgx, hgl, hgs, hgn⟩ : ∃ gx gs, [Value.ref g1, .ref g2][r2.toNat]? = some (.ref gx) ∧ z12.IsList gx (gs : List Value).toArray ∧ (∀ v ∈ gs, ∃ sg t, v = .str sg t ∧ SgOk sg) ∧ gs.length ≤ 10 := by
        have : r2 = 0 ∨ r2 = 1 := by omega
        rcases this with rfl | rfl
        · refine ⟨g1, _, rfl, is_up hg1 i12, ?_, by simp⟩
          intro v hv
          simp only [List.mem_cons, List.not_mem_nil, or_false] at hv
          rcases hv with rfl | rfl
          · exact ⟨_, _, rfl, .inl rfl⟩
          · exact ⟨_, _, rfl, .inr (.inr (.inr rfl))⟩
        · refine ⟨g2, _, rfl, hg2, ?_, by simp⟩
          intro v hv
          simp only [List.mem_cons, List.not_mem_nil, or_false] at hv
          rcases hv with rfl | rfl
          · exact ⟨_, _, rfl, .inr (.inl rfl)⟩
          · exact ⟨_, _, rfl, .inr (.inr (.inl rfl))⟩
      refine t_itemL (LsAt.own (by wtm_at "M_mm")) hy0 (by omega) hgx ?_ (by with_unfolding_all rfl)
      wtm_at "M_go"
      refine ⟨by wtm_at "M_nat", fun c13 z13 i13 hc13 => ⟨c13, _, _, rfl, hc13, ?_⟩⟩
      wtm_at "M_go"
      have i813 : z8.StaysIn z13 := fun _ _ e => i13 _ _ (i12 _ _ (i11 _ _ (i10 _ _ (i9 _ _ e))))
      refine T.take (ps := o3.led prog w ++ wd3.led prog w) (by wtm_at "M_take") ?_
      rw [List.append_assoc]
      refine spots_ok told (R _) ((Frm.nil hA).deeper (by show ScopeKind.function ≠ ScopeKind.module; decide) (by rfl) (by wtm_at "M_mm") (by intro p hp; cases hp)) (J8.up i813) (by omega) (is_up hgl i13) hgs hgn (by omega) fun z14 i14 => ?_
      have J14 := (J8.up i813).up i14
      refine T.take (ps := (I2, RIt (0 + ((i + 1 : Nat) : Int)) ((((2 + r - 0).toNat : Nat) : Int) - ((i + 1 : Nat) : Int))) :: (sd, SrcP prog w c (N + 12 + 1 + 1)) :: (L, LocP [(("script" : Str), some (.ref a)), (("store" : Str), some (.ref o3.X)), (("world" : Str), some (.ref wd3.W)), (("x" : Str), some (.int x tx)), (("lot" : Str), olot), (("lap" : Str), some (.int (0 + (i : Int)) tv)), (("signs" : Str), some (.ref gx))]) :: (L + 1, CelP (some (.ref sd))) :: (o3.led prog w ++ wd3.led prog w)) (by wtm_at "M_take") ?_
      simp only [Sto.led, Wld.led, List.cons_append, List.nil_append]
      wtm_at "M_go"
      refine br_n (fun q => by cases q) (fun _ => ?_)
      wtm_at "M_go"
      exact ⟨⟨N + 12 + 1 + 1, o3, wd3, Ds3, rows3, marks3, some (.int x tx), some (.int (0 + (i : Int)) tv), some (.ref gx)⟩, (by dsimp only; wtm_at "M_sub"), rfl, rfl, J14, by dsimp only; omega, by dsimp only; omega, by dsimp only; omega⟩
    · rintro ⟨N, o2, wd2, Ds, rows, marks, bx, blap, bsg⟩ z6 i6 -
      simp only [Sto.led, Wld.led, List.cons_append, List.nil_append]
      wtm_at "M_go"
      exact h _ _ (fun _ _ e => i6 _ _ (i05 _ _ e))
end
end Mine
end
section
open PySem PySem.W PySem.Calls PyProof.Rows
set_option maxRecDepth 100000
set_option maxHeartbeats 8000000
namespace Mine
section
variable {α β : Type} {prog : Program} {w : World} {A : Around} {z : Heap} {l : Led} {s : Shared} {env : Env}

structure SpotS where
  sp : Option Value
  en : Option Value
theorem spotP_none {F0 : Dom} {rows : List Ent} {x k : Int} {sg : Str} (h0 : ¬ saidL sg k F0 = 1) (h : ∀ (i : Nat) (e : Ent), rows[i]? = some e → ¬(e.x = x ∧ saidL sg k (struckL e.sg e.k e.old) = 1)) : spotP F0 rows x sg k = none := by
  unfold spotP
  rw [if_neg h0, Option.map_eq_none_iff, List.find?_eq_none]
  intro i hi
  rw [List.mem_range] at hi
  obtain ⟨e, he⟩ : ∃ e, rows[i]? = some e := ⟨_, List.getElem?_eq_getElem hi⟩
  rw [he]
  have := h i e he
  simpa using this
theorem spotP_some {F0 : Dom} {rows : List Ent} {x k : Int} {sg : Str} {i : Nat} {e : Ent} (h0 : ¬ saidL sg k F0 = 1) (he : rows[i]? = some e) (hx : e.x = x) (h1 : saidL sg k (struckL e.sg e.k e.old) = 1)
    (h : ∀ (j : Nat) (e : Ent), j < i → rows[j]? = some e → ¬(e.x = x ∧ saidL sg k (struckL e.sg e.k e.old) = 1)) : spotP F0 rows x sg k = some (i : Int) := by
  unfold spotP
  rw [if_neg h0]
  have hi : i < rows.length := (List.getElem?_eq_some_iff.mp he).1
  have : (List.range rows.length).find? (fun i => match rows[i]? with
      | some e => e.x == x && saidL sg k (struckL e.sg e.k e.old) == 1
      | none => false) = some i := by
    rw [List.find?_range_eq_some]
    refine ⟨by rw [he]; simp [hx, h1], by simpa using hi, fun j hj => ?_⟩
    obtain ⟨e', he'⟩ : ∃ e', rows[j]? = some e' := ⟨_, List.getElem?_eq_getElem (by omega)⟩
    rw [he']
    have q : (e'.x == x && saidL sg k (struckL e'.sg e'.k e'.old) == 1) = false := by
      rw [Bool.eq_false_iff]
      intro q
      simp only [Bool.and_eq_true, beq_iff_eq] at q
      exact h j e' hj he' q
    simp only [q, Bool.not_false]
  exact congrArg (Option.map fun (i : Nat) => (i : Int)) this
theorem spot_te {name qual : Str} {params : Arguments} {body : List Stmt} {scope : Scope} {dV kV doc pm cdv ct oc : Value} {an od : Option Addr} {osl : Array (Option Value)}
    (ho : (Mine.hd.heap_39 w.params).lookup 172 = some ⟨oc, od, .func (fnOf name qual params body scope dV kV doc pm an cdv ct), osl⟩) {L f : Addr} {cdv' : Value} {o : Sto} {F Ds : List Dom} {rows : List Ent} {marks : List Nat} {x k : Int} {sg : Str} {b : Addr} {F0 : Dom} {Q : Post Flow} {X : Post Value}
    (R : ∀ env, Rm 6 (A.deeper env)) (ok : StoOk z o F Ds rows marks) (hl : LitAt z b x sg k) (hx : x = 0 ∨ x = 1) (hF : F[x.toNat]? = some F0) (hF0 : F0.length ≤ 100)
    (hR : ∀ e ∈ rows, e.old.length ≤ 100 ∧ (struckL e.sg e.k e.old).length ≤ 100) (hr : rows.length ≤ 1000)
    (h1 : ∀ z' i t l', z.StaysIn z' → spotP F0 rows x sg k = some i → (o.led prog w ++ l).Sublist l' → Q (.ret (.int i t)) z' l')
    (h2 : ∀ z' tx sp en, z.StaysIn z' → spotP F0 rows x sg k = none → TE prog w (A.deeper (envOfC qual scope L f cdv')) (execs (body.drop 3) (envOfC qual scope L f cdv')) Q X z' ((L, LocP [(("store" : Str), some (.ref o.X)), (("literal" : Str), some (.ref b)), (("x" : Str), some (.int x tx)), (("spot" : Str), sp), (("entry" : Str), en)]) :: (o.led prog w ++ l))) :
    TE prog w (A.deeper (envOfC qual scope L f cdv')) (execs body (envOfC qual scope L f cdv')) Q X z ((L, LocP [(("store" : Str), some (.ref o.X)), (("literal" : Str), some (.ref b)), (("x" : Str), none), (("spot" : Str), none), (("entry" : Str), none)]) :: (o.led prog w ++ l)) := by
  have e := ho.symm.trans (by k_is)
  cases e
  clear ho
  have hh : A.handled = none := (R default).hh
  obtain ⟨t1, t2, t3, hlt⟩ := id hl
  simp only [Sto.led, List.cons_append, List.nil_append]
  refine te_step ?_
  wtm_at "M_go"
  refine te_seq (te_step ?_)
  wtm_at "M_go"
  refine T.take (ps := o.led prog w) (by wtm_at "M_take") ?_
  refine initial_ok ((R _).le (by decide)) ok (by omega) (by omega) hF fun ia hia => ?_
  wtm_at "M_go"
  refine said_of_ok ((R _).le (by decide)) hl hia (by omega) fun z1 ts i1 => ?_
  wtm_at "M_go"
  refine br_i (fun q => ?_) (fun q => ?_)
  · wtm_at "M_go"
    refine te_seqR ?_
    exact h1 z1 (-1) _ _ i1 (by rw [spotP, if_pos q]) (by wtm_at "M_sub")
  have hT := ok.t.len
  wtm_at "M_go"
  refine te_seq (te_step (T.take (ps := (L, LocP [(("store" : Str), some (.ref o.X)), (("literal" : Str), some (.ref b)), (("x" : Str), some (.int x t1)), (("spot" : Str), none), (("entry" : Str), none)]) :: o.led prog w) (by wtm_at "M_take") ?_))
  simp only [Sto.led, List.cons_append, List.nil_append]
  refine t_For ?_
  wtm_at "M_go"
  refine t_lenL (LsAt.own (by wtm_at "M_mm")) (by omega) fun t4 => ?_
  wtm_at "M_go"
  refine t_range1 fun rg => ?_
  obtain ⟨hsm, hsz⟩ := range_small (a := 0) (b := (o.vT.length : Int)) (by decide) (by decide) (by omega) (by omega)
  refine t_iterR hsm hsz fun I => ?_
  refine tc_for (σ := SpotS) (fun s => (L, LocP [(("store" : Str), some (.ref o.X)), (("literal" : Str), some (.ref b)), (("x" : Str), some (.int x t1)), (("spot" : Str), s.sp), (("entry" : Str), s.en)]) :: (o.led prog w ++ l))
    (fun i s z' => ∀ (j : Nat) (e : Ent), j < i → rows[j]? = some e → ¬(e.x = x ∧ saidL sg k (struckL e.sg e.k e.old) = 1)) ⟨none, none⟩ (steps_range (a := 0) (n := ((o.vT.length : Int) - 0).toNat) (R _).hh (by rfl))
    (fun j e hj => by omega) (by rfl) (fun _ _ _ _ _ => trivial) ?_ ?_
  · rintro i ⟨sp, en⟩ z2 z3 v hi i2 i3 hno ⟨tv, rfl⟩
    have hir : i < rows.length := by omega
    have i13 : z1.StaysIn z3 := fun _ _ e => i3 _ _ (i2 _ _ e)
    have i03 : z.StaysIn z3 := fun _ _ e => i13 _ _ (i1 _ _ e)
    obtain ⟨e, he⟩ : ∃ e, rows[i]? = some e := ⟨_, List.getElem?_eq_getElem hir⟩
    obtain ⟨v, hv, hent⟩ := (ok.t.up i03).get he
    obtain ⟨ea, et, oa, la, er, es, rfl, hp, hd, hle⟩ := hent
    have hRe := hR e (List.mem_of_getElem? he)
    simp only [Sto.led, List.cons_append, List.nil_append]
    wtm_at "M_go"
    refine t_itemL (LsAt.own (by wtm_at "M_mm")) (by omega) (by omega) (by rw [show (0 + (i : Int)).toNat = i by omega]; exact hv) ?_ (by with_unfolding_all rfl)
    wtm_at "M_go"
    refine br_i (fun q1 => ?_) (fun q1 => ?_)
    · iterate 21 wtm_at "M_ss"
      refine struck_ok ((R _).le (by decide)) hle hd (by omega) fun c4 z4 i4 hd4 => ?_
      wtm_at "M_ss"
      refine said_of_ok ((R _).le (by decide)) ((hl.up i03).up i4) hd4 (by omega) fun z5 t5 i5 => ?_
      wtm_at "M_go"
      refine br_i (fun q2 => ?_) (fun q2 => ?_)
      · wtm_at "M_go"
        refine ⟨_, sub_refl, te_seqR ?_⟩
        exact h1 z5 (0 + (i : Int)) _ _ (fun _ _ e => i5 _ _ (i4 _ _ (i03 _ _ e))) (by rw [spotP_some q he q1 q2 hno, Int.zero_add]) (by wtm_at "M_sub")
      · wtm_at "M_go"
        refine ⟨⟨_, _⟩, (by wtm_at "M_sub"), fun j e' hj he' => ?_⟩
        rcases Nat.lt_succ_iff_lt_or_eq.mp hj with hj | rfl
        · exact hno j e' hj he'
        · rw [he] at he'; cases he'
          exact fun hq => q2 hq.2
    · refine br_f ?_
      wtm_at "M_go"
      refine ⟨⟨_, _⟩, (by wtm_at "M_sub"), fun j e' hj he' => ?_⟩
      rcases Nat.lt_succ_iff_lt_or_eq.mp hj with hj | rfl
      · exact hno j e' hj he'
      · rw [he] at he'; cases he'
        exact fun hq => q1 hq.1
  · rintro ⟨sp, en⟩ z2 i2 hno
    refine te_seq ?_
    exact h2 z2 t1 sp en (fun _ _ e => i2 _ _ (i1 _ _ e)) (spotP_none q fun i e he => hno i e (by have := (List.getElem?_eq_some_iff.mp he).1; omega) he)
end
end Mine
end
section
open PySem PySem.W PySem.Calls PyProof.Rows
set_option maxRecDepth 100000
namespace Mine
section
variable {α β : Type} {prog : Program} {w : World} {A : Around} {z : Heap} {l : Led} {s : Shared} {env : Env}

/-- an exception's record -/
def ExcP (C : Addr) (od : Option Addr) (T : Value) : Obj → Prop := fun o => o.cls = .ref C ∧ o.dict = od ∧ ∃ vs : Array Value, o.data = .fields vs ∧ vs.size = 6 ∧ vs[1]? = some T
/-- an entry of a traceback -/
def TbP (fl : Value) : Obj → Prop := fun o => ∃ vs : Array Value, o.data = .fields vs ∧ vs[3]? = some fl
theorem LocP.slots {ml : Nms} {o : Obj} {sl : Array (Option Value)} (h : LocP ml o) : LocP ml { o with slots := sl } := by
  obtain ⟨m, n, k, d⟩ := h
  exact ⟨m, n, k, d⟩
theorem LocP.noRec {ml : Nms} {o : Obj} (h : LocP ml o) : ∀ vs, o.data ≠ .fields vs := by
  obtain ⟨m, ⟨es, ep, hd, _⟩, _⟩ := h
  intro vs e
  rw [hd] at e
  cases e
theorem FrmL.at {h : Heap} (S : St w z l h) : ∀ {r : List Env}, FrmL r l → ∀ b ∈ r.filterMap (·.frame), ∃ ml o, (b, LocP ml) ∈ l ∧ h.get? b = some o ∧ LocP ml o
  | [], _, b, hb => by simp at hb
  | env :: r, ⟨_, ⟨L, ml, h2, h3⟩, h4⟩, b, hb => by
    rw [List.filterMap_cons, h2] at hb
    rcases List.mem_cons.mp hb with rfl | hb
    · obtain ⟨o, ho, P⟩ := S.get h3
      exact ⟨ml, o, h3, ho, P⟩
    · exact FrmL.at S h4 b hb
theorem FrmL.funFrames {h base : Heap} (S : St w z l h) : ∀ {r : List Env}, FrmL r l → (∀ b ∈ r.filterMap (·.frame), base.get? b = none) → h.FunFrames base r
  | [], _, _ => trivial
  | env :: r, ⟨h1, ⟨L, ml, h2, h3⟩, h4⟩, hb => by
    obtain ⟨o, ho, P⟩ := S.get h3
    rw [List.filterMap_cons, h2] at hb
    exact ⟨h1, ⟨L, o, h2, hb L List.mem_cons_self, ho, P.noRec⟩, FrmL.funFrames S h4 fun b k => hb b (List.mem_cons_of_mem _ k)⟩
theorem led_unique {l : Led} (nd : (l.map (·.1)).Nodup) {a : Addr} {P P' : Obj → Prop} (h : (a, P) ∈ l) (h' : (a, P') ∈ l) : P = P' := by
  induction l with
  | nil => cases h
  | cons p r ih =>
    rw [List.map_cons, List.nodup_cons] at nd
    rcases List.mem_cons.mp h with e | h1
    · rcases List.mem_cons.mp h' with e' | h2
      · rw [← e] at e'; cases e'; rfl
      · exact absurd (List.mem_map.mpr ⟨_, h2, by rw [← e]⟩) nd.1
    · rcases List.mem_cons.mp h' with e' | h2
      · exact absurd (List.mem_map.mpr ⟨_, h1, by rw [← e']⟩) nd.1
      · exact ih nd.2 h1 h2
/-- only the slots of the frames' objects change -/
theorem St.slots {h h' : Heap} {r : List Env} (S : St w z l h) (F : FrmL r l) (x : Heap.SlotsOnly (r.filterMap (·.frame)) h h') : St w z l h' := by
  refine ⟨S.bs, fun b o e => ?_, fun p hp => ?_, S.off, S.nd⟩
  · rw [x.2.1 b fun hb => ?_]
    · exact S.fz b o e
    · obtain ⟨ml, _, hm, _⟩ := FrmL.at S F b hb
      have := S.off _ hm
      rw [this] at e; cases e
  · obtain ⟨o, ho, P⟩ := S.own p hp
    by_cases hb : p.1 ∈ r.filterMap (·.frame)
    · obtain ⟨ml, o', hm, ho', P'⟩ := FrmL.at S F _ hb
      obtain ⟨sl, hs⟩ := x.2.2 _ _ ho'
      have : p.2 = LocP ml := led_unique S.nd (show (p.1, p.2) ∈ l from hp) hm
      exact ⟨_, hs, this ▸ P'.slots⟩
    · exact ⟨o, (x.2.1 _ hb).trans ho, P⟩
theorem t_frameOf {env : Env} {outer : List Env} {L : Addr} {Q : Post Value} (hfr : A.frames = some (env :: outer)) (F : FrmL (env :: outer) l) (hf : env.frame = some L) (h : Q (.ref L) z l) : T prog w A (frameOf env) Q z l := fun s S =>
  wpAny_frameOf_fun (base := z) hfr (F.funFrames S fun b hb => by obtain ⟨ml, _, hm, _⟩ := F.at S b hb; exact S.off _ hm) hf fun h' x => ⟨z, l, ⟨⟨h', s.toks, rfl⟩, fun _ _ e => e⟩, S.slots F x, h⟩
theorem mapFields_exc {C : Addr} {od : Option Addr} {T T' : Value} {o : Obj} (h : ExcP C od T o) : ExcP C od T' (Obj.mapFields (·.setIfInBounds 1 T') o) := by
  obtain ⟨h1, h2, vs, h3, h4, h5⟩ := h
  obtain ⟨c, d, dt, sl⟩ := o
  dsimp only at h1 h2 h3
  subst h3
  exact ⟨h1, h2, vs.setIfInBounds 1 T', rfl, by simp [h4], by simp [h4]⟩
theorem mapFields_tb {fl fl' : Value} {o : Obj} (h : TbP fl o) : TbP fl' (Obj.mapFields (·.setIfInBounds 3 fl') o) := by
  obtain ⟨vs, h3, h5⟩ := h
  obtain ⟨c, d, dt, sl⟩ := o
  dsimp only at h3
  subst h3
  have := (Array.getElem?_eq_some_iff.mp h5).1
  exact ⟨vs.setIfInBounds 3 fl', rfl, by simp [this]⟩
theorem t_excField1 {e C : Addr} {od : Option Addr} {T' : Value} {Q : Post Value} (hm : (e, ExcP C od T') ∈ l) (h : Q T' z l) : T prog w A (field (.ref e) 1) Q z l := fun s S => by
  obtain ⟨o, ho, h1, h2, vs, h3, h4, h5⟩ := S.get hm
  exact wpAny_field ho h3 h5 (Lft.here S h)
theorem t_tbField3 {e : Addr} {fl : Value} {Q : Post Value} (hm : (e, TbP fl) ∈ l) (h : Q fl z l) : T prog w A (field (.ref e) 3) Q z l := fun s S => by
  obtain ⟨o, ho, vs, h3, h5⟩ := S.get hm
  exact wpAny_field ho h3 h5 (Lft.here S h)
theorem t_excSet1 {e C : Addr} {od : Option Addr} {T' T'' : Value} {g : (Obj → Prop) → Led} {Q : Post Unit} (U : Upd1 e (ExcP C od T') l g) (h : Q () z (g (ExcP C od T''))) : T prog w A (setField (.ref e) 1 T'') Q z l := fun s S => by
  obtain ⟨o, ho, P⟩ := S.get U.mem
  obtain ⟨h1, h2, vs, h3, h4, h5⟩ := id P
  refine wpAny_setField ho h3 (by omega) ⟨z, _, ⟨⟨_, s.toks, rfl⟩, fun _ _ e => e⟩, S.upd U (fun b o hb e => (Heap.get?_update_other _ _ (Ne.symm hb)).trans e) ⟨_, Heap.get?_update_self _ ho ?_, mapFields_exc P⟩, h⟩
  exact Obj.isFreed_of_fields (Obj.data_mapFields h3 _)
theorem t_tbSet3 {e : Addr} {fl fl' : Value} {g : (Obj → Prop) → Led} {Q : Post Unit} (U : Upd1 e (TbP fl) l g) (h : Q () z (g (TbP fl'))) : T prog w A (setField (.ref e) 3 fl') Q z l := fun s S => by
  obtain ⟨o, ho, P⟩ := S.get U.mem
  obtain ⟨vs, h3, h5⟩ := id P
  have := (Array.getElem?_eq_some_iff.mp h5).1
  refine wpAny_setField ho h3 (by omega) ⟨z, _, ⟨⟨_, s.toks, rfl⟩, fun _ _ e => e⟩, S.upd U (fun b o hb e => (Heap.get?_update_other _ _ (Ne.symm hb)).trans e) ⟨_, Heap.get?_update_self _ ho ?_, mapFields_tb P⟩, h⟩
  exact Obj.isFreed_of_fields (Obj.data_mapFields h3 _)
theorem T.bind' {m : Sem α} {f : α → Sem β} {Q : Post β} (h : T prog w A m (fun a z l => T prog w A (f a) Q z l) z l) : T prog w A (m >>= f) Q z l := T.bind h
theorem t_entry {head : Value} {L : Addr} {b : Bool} {Q : Post Value} (h : ∀ T', Q (.ref T') z ((T', TbP (rawInt L)) :: l)) : T prog w A (do let pl ← entryPlaceOf L b; EntryCells.newEntry head (.ref L) .none (rawInt L) .none pl) Q z l := fun s S => by
  refine wpAny_bind (wpAny_entryPlaceOf fun pl hpl => ?_)
  unfold EntryCells.newEntry newFields
  refine wpAny_newObj_type ?_ (hpl.sizeOk5 _ _ _ _ _)
  exact ⟨z, _, ⟨⟨_, s.toks, rfl⟩, fun _ _ e => e⟩, S.new (P := TbP (rawInt L)) rfl ⟨_, rfl, by simp⟩, h _⟩
/-- an exception reaches a frame: a new entry on its traceback, in flight there -/
theorem t_noteFirst {env : Env} {outer : List Env} {e C L : Addr} {od : Option Addr} {g : (Obj → Prop) → Led} {Q : Post Unit} (hfr : A.frames = some (env :: outer)) (F : FrmL (env :: outer) l) (hf : env.frame = some L)
    (U : Upd1 e (ExcP C od .none) l g) (h : ∀ T', Q () z ((T', TbP (rawInt L)) :: g (ExcP C od (.ref T')))) : T prog w A (noteFrame (.ref e) env) Q z l := by
  unfold noteFrame
  simp only [hf]
  refine T.bind (t_excField1 U.mem ?_)
  rw [if_neg (by decide)]
  refine T.bind (t_frameOf hfr F hf ?_)
  have := @t_entry prog w A z l .none L (Value.none != Value.none) (fun b z l => T prog w A (setField (.ref e) 1 b) Q z l) fun T' => t_excSet1 (Upd1.tail U) (h T')
  have q := T.bind this
  simp only [bind_assoc] at q
  exact q
theorem t_noteNext {env : Env} {outer : List Env} {e C L T₀ : Addr} {od : Option Addr} {g g' : (Obj → Prop) → Led} {Q : Post Unit} (hfr : A.frames = some (env :: outer)) (F : FrmL (env :: outer) (g (TbP .none))) (hf : env.frame = some L)
    (he : (e, ExcP C od (.ref T₀)) ∈ l) (U : Upd1 T₀ (TbP .none) l g) (U' : Upd1 e (ExcP C od (.ref T₀)) (g (TbP .none)) g') (h : ∀ T', Q () z ((T', TbP (rawInt L)) :: g' (ExcP C od (.ref T')))) : T prog w A (noteFrame (.ref e) env) Q z l := by
  unfold noteFrame
  simp only [hf]
  refine T.bind (t_excField1 he ?_)
  rw [if_pos (show (Value.ref T₀ != Value.none) = true from by simp)]
  refine T.bind (t_tbField3 U.mem ?_)
  rw [if_neg (show ¬ ((Value.none == rawInt L) = true) from by simp [rawInt])]
  refine T.bind (t_tbSet3 U ?_)
  refine T.bind (t_frameOf hfr F hf ?_)
  have := @t_entry prog w A z (g (TbP .none)) (.ref T₀) L (Value.ref T₀ != Value.none) (fun b z l => T prog w A (setField (.ref e) 1 b) Q z l) fun T' => t_excSet1 (Upd1.tail U') (h T')
  have q := T.bind this
  simp only [bind_assoc] at q
  exact q
theorem t_flightNone {e C T₀ : Addr} {od : Option Addr} {fl : Value} {g : (Obj → Prop) → Led} {Q : Post Unit} (he : (e, ExcP C od (.ref T₀)) ∈ l) (U : Upd1 T₀ (TbP fl) l g) (h : Q () z (g (TbP .none))) : T prog w A (setFlight (.ref e) none) Q z l := by
  unfold setFlight
  refine T.bind (t_excField1 he ?_)
  rw [if_pos (show (Value.ref T₀ != Value.none) = true from by simp)]
  exact t_tbSet3 U h
theorem t_flightNone0 {e C : Addr} {od : Option Addr} {Q : Post Unit} (he : (e, ExcP C od .none) ∈ l) (h : Q () z l) : T prog w A (setFlight (.ref e) none) Q z l := by
  unfold setFlight
  refine T.bind (t_excField1 he ?_)
  rw [if_neg (by decide)]
  exact T.pure h
theorem t_leaveFirst {env : Env} {outer : List Env} {e C L : Addr} {od : Option Addr} {g : (Obj → Prop) → Led} {Q : Post Unit} (hfr : A.frames = some (env :: outer)) (F : FrmL (env :: outer) l) (hf : env.frame = some L)
    (U : Upd1 e (ExcP C od .none) l g) (hm : ∀ P, (e, P) ∈ g P) (h : ∀ T', Q () z ((T', TbP .none) :: g (ExcP C od (.ref T')))) : T prog w A (leaving env (.ref e)) Q z l := by
  unfold leaving
  exact T.bind (t_noteFirst hfr F hf U fun T' => t_flightNone (List.mem_cons_of_mem _ (hm _)) Upd1.head (h T'))
theorem Upd1.has {a : Addr} {P : Obj → Prop} {l : Led} {g : (Obj → Prop) → Led} (U : Upd1 a P l g) (P' : Obj → Prop) : (a, P') ∈ g P' := by
  obtain ⟨pre, post, _, h⟩ := U.split
  rw [h]
  exact List.mem_append_right _ List.mem_cons_self
end
end Mine
end
section
open PySem PySem.W PySem.Calls PyProof.Rows
set_option maxRecDepth 100000
set_option maxHeartbeats 8000000
namespace Mine
section
variable {M : Model} {prog : Program} {w : World} {A : Around} {E : Value → Shared → Prop} {R : Result → Shared → Prop} {h : Heap} {g : Array GenState} {d : Drawn} {t : Nat} {os : OsState}
variable {nm q : Str} {C N : Addr} {bs bm bmB : List Value} {hdct : Bool} {sn : List Str} {sub : List Value} {ab : Bool} {col : Option Bool} {dd : Option Addr} {k0 k1 k2 k3 k5 : Option Value} {B newId inN : String}

theorem pf_check_new (F : ExcBaseFacts B newId inN bmB) (hB : bm.contains (.type B) = true) {rest : List Value} {Q : Unit → Shared → Prop} (hC : h.get? C = some (excClassObj nm q C N bs bm hdct sn sub ab col dd k0 k1 k2 k3 k5 newId))
    (hq : Q () ⟨h, g, d, t, os⟩) : wpAny M A (checkBuiltinCall newId ⟨.ref C :: rest, []⟩) Q E ⟨h, g, d, t, os⟩ := by
  have c1 : (Value.ref C :: bm).contains (.type B) = true := by rw [List.contains_cons, hB, Bool.or_true]
  have hstar := F.noStar
  simp only [checkBuiltinCall, F.newKind, F.newSplit, F.newRow]
  repeat (first | refine wpAny_loadPart_at hC ?_ | (refine wpAny_isSubtype_exc hC ?_; rw [c1]) | refine wpAny_staticBase_exc hC ?_ | refine wpAny_madeBy_exc hC ?_ | simp only [bne_self_eq_false, Bool.false_eq_true, if_false] | wp_step)
  exact hq
theorem pf_new (F : ExcBaseFacts B newId inN bmB) (hB : bm.contains (.type B) = true) (hA : bm.contains (.type "AttributeError") = false) (hN : bm.contains (.type "NameError") = false) {rest : List Value}
    (hC : h.get? C = some (excClassObj nm q C N bs bm hdct sn sub ab col dd k0 k1 k2 k3 k5 newId))
    (hq : R (.ok (.ret (.ref (h.objs.size + 1)))) ⟨(h.push { cls := .type "tuple", data := .seq rest.toArray }).push
      { cls := .ref C, data := .fields #[.ref h.objs.size, .none, .none, .none, .bool false, .none] }, g, d, t, os⟩) (hrest : rest.length ≤ sizeLine) :
    codeAny (model prog w) A (.builtin newId ⟨.ref C :: rest, []⟩) R ⟨h, g, d, t, os⟩ := by
  have hends := F.ends
  have c1 : (Value.ref C :: bm).contains (.type B) = true := by rw [List.contains_cons, hB, Bool.or_true]
  have c2 : (Value.ref C :: bm).contains (.type "AttributeError") = false := by rw [List.contains_cons, hA]; rfl
  have c3 : (Value.ref C :: bm).contains (.type "NameError") = false := by rw [List.contains_cons, hN]; rfl
  refine codeAny_builtinAt F.entry ?_
  unfold Builtin.«BaseException.__new__»
  refine PySem.wpAt_bind ?_
  show PySem.wpAt _ _ _ (stack >>= _) _ _ _
  refine PySem.wpAt_bind (PySem.wpAt_stack fun p below => PySem.wpAt_of_wpAny ?_)
  wp_walk
  refine PySem.wpAt_of_wpAny ?_
  rw [F.owner]
  repeat (first | with_reducible refine wpAny_madeHere_exc F.canon hC ?_ | with_reducible refine wpAny_loadPart_at hC ?_ | (with_reducible refine wpAny_isSubtype_exc hC ?_; first | rw [c1] | rw [c2] | rw [c3]) | wp_step)
  show R _ _
  rw [Heap.size_push]
  exact hq
theorem pf_typecall (F : ExcBaseFacts B newId inN bmB) (hB : bm.contains (.type B) = true) (hA : bm.contains (.type "AttributeError") = false) (hN : bm.contains (.type "NameError") = false) {rest : List Value} {fI : Addr} {oI : Obj} {Q : Fin → Shared → Prop}
    (hC : h.get? C = some (excClassObj nm q C N bs bm hdct sn sub ab col dd k0 k1 k2 k3 k5 newId)) (hi : Looks (model prog w) h (typeLookup (.ref C) "__init__") (some (.ref fI)))
    (hfI : h.get? fI = some oI) (hfc : oI.cls = .type "function")
    (hq : ∀ h' e, Heap.MadeExcOf h h' e (.ref C) rest →
      wpAny (model prog w) A (call (.ref fI) (.ref e :: rest)) (fun r s' => r = .none ∧ Q (.done (.ret (.ref e))) s') E ⟨h', g, d, t, os⟩) (hrest : rest.length ≤ sizeLine) :
    wpAny (model prog w) A (Builtin.«type.__call__» ⟨.ref C :: rest, []⟩) Q E ⟨h, g, d, t, os⟩ := by
  repeat (first | with_reducible refine wpAny_loadPart_at hC ?_ | with_reducible refine wpAny_madeBy_exc hC ?_ | wp_step)
  refine codeAny_call_builtin_code (Code.quiet_builtin _ F.quiet) (pf_check_new F hB hC ?_)
  refine pf_new F hB hA hN hC ?_ hrest
  show wpAny _ _ _ _ _ _
  have up : ∀ b o, h.get? b = some o → ((h.push { cls := .type "tuple", data := .seq rest.toArray }).push { cls := .ref C, data := .fields #[.ref h.objs.size, .none, .none, .none, .bool false, .none] }).get? b = some o :=
    fun b o e => Heap.get?_push_of_some _ (Heap.get?_push_of_some _ e)
  have hC₁ := up _ _ hC
  have hget : ((h.push { cls := .type "tuple", data := .seq rest.toArray }).push
      { cls := .ref C, data := .fields #[.ref h.objs.size, .none, .none, .none, .bool false, .none] }).get? (h.objs.size + 1) = some
      { cls := .ref C, data := .fields #[.ref h.objs.size, .none, .none, .none, .bool false, .none] } := by heap_get
  have hcC : (Value.ref C :: bm).contains (.ref C) = true := by simp
  unfold isInstance
  repeat (first | with_reducible refine wpAny_loadPart_at hget ?_ | (with_reducible refine wpAny_isSubtype_exc hC₁ ?_; rw [hcC]) | wp_step)
  show wpAny _ _ (typeLookup (.ref C) _) _ _ _
  refine (hi.keeps up).at ?_
  refine wpAny_holding (wpAny_bind ?_)
  unfold bindSpecial
  refine wpAny_bind (wpAny_typeOf (T := "function") ⟨_, up _ _ hfI, hfc⟩ ?_)
  rw [if_pos (by decide)]
  refine wpAny_pure (wpAny_bind (wpAny_mono (hq _ (h.objs.size + 1) ⟨up, Heap.get?_none_of_le (Nat.le_succ _), h.objs.size, hget, Heap.get?_none_of_le (Nat.le_refl _), ?_⟩) (fun r s' hr => ?_) fun _ _ x => x))
  · exact Heap.get?_push_of_some _ (Heap.get?_push_at rfl rfl)
  · obtain ⟨rfl, hQ⟩ := hr
    wp_walk
    exact hQ
theorem pf_call (F : ExcBaseFacts B newId inN bmB) (hB : bm.contains (.type B) = true) (hA : bm.contains (.type "AttributeError") = false) (hN : bm.contains (.type "NameError") = false) {rest : List Value} {fI : Addr} {oI : Obj} {Q : Value → Shared → Prop}
    (hC : h.get? C = some (excClassObj nm q C N bs bm hdct sn sub ab col dd k0 k1 k2 k3 k5 newId)) (hi : Looks (model prog w) h (typeLookup (.ref C) "__init__") (some (.ref fI)))
    (hfI : h.get? fI = some oI) (hfc : oI.cls = .type "function")
    (hq : ∀ h' e, Heap.MadeExcOf h h' e (.ref C) rest →
      wpAny (model prog w) (A.under (.builtin "type.__call__" ⟨.ref C :: rest, []⟩)) (call (.ref fI) (.ref e :: rest)) (fun r s' => r = .none ∧ Q (.ref e) s') E ⟨h', g, d, t, os⟩) (hrest : rest.length ≤ sizeLine) :
    wpAny (model prog w) A (call (.ref C) rest) Q E ⟨h, g, d, t, os⟩ := by
  have f1 := tc_lookup
  have f2 := tc_bind (.ref C)
  have hT : (⟨h, g, d, t, os⟩ : Shared).TypeIs (.ref C) "type" := ⟨_, hC, rfl⟩
  refine wpAny_call (codeAny_of_tree ?_)
  show wpAny _ _ (callAny (.ref C) _) _ _ _
  repeat (any_goals (first | assumption | with_reducible refine wpAny_loadPart_at hC ?_ | wp_step))
  refine ⟨rfl, ?_⟩
  refine codeAny_call_builtin_at (Code.quiet_builtin _ (by decide +kernel)) entry_typeCall (wpAny_check_type_call_sub hC (pf_typecall (hrest := hrest) F hB hA hN hC hi hfI hfc fun h' e hm => ?_))
  exact hq h' e hm
end
section
variable {α β : Type} {prog : Program} {w : World} {A : Around} {z : Heap} {l : Led} {s : Shared} {env : Env}
/-- what the written heap says of ProofFault -/
theorem pf_obj : ∃ nm q N bs hdct sn sub ab col dd k0 k1 k2 k3 k5, (Mine.hd.heap_39 w.params).lookup 163 = some (excClassObj nm q 163 N bs [.ref 134, .type "Exception", .type "BaseException", .type "object"] hdct sn sub ab col dd k0 k1 k2 k3 k5 "Exception.__new__") := by
  repeat' apply Exists.intro
  k_is
theorem t_looks {t : Sem α} {r : α} {Q : Post α} (e : ∀ {h : Heap}, (Mine.hd.heap_39 w.params).In h → Looks (model prog w) h t r) (h : Q r z l) : T prog w A t Q z l := fun s S =>
  (e (S.bs.k.keeps S.fz)).here (Lft.here S h)
theorem St.newAt {h h' : Heap} {a : Addr} {P : Obj → Prop} (S : St w z l h) (k : ∀ b o, h.get? b = some o → h'.get? b = some o) (hn : h.get? a = none) (ha : ∃ o, h'.get? a = some o ∧ P o) : St w z ((a, P) :: l) h' := by
  refine ⟨S.bs, fun b o' e => k _ _ (S.fz b o' e), fun p hp => ?_, fun p hp => ?_, ?_⟩
  · rcases List.mem_cons.mp hp with rfl | hp
    · exact ha
    · obtain ⟨o', ho', q⟩ := S.own p hp
      exact ⟨o', k _ _ ho', q⟩
  · rcases List.mem_cons.mp hp with rfl | hp
    · cases e : z.get? a with
      | none => rfl
      | some o' => have := S.fz _ _ e; rw [hn] at this; cases this
    · exact S.off p hp
  · rw [List.map_cons, List.nodup_cons]
    refine ⟨fun hm => ?_, S.nd⟩
    obtain ⟨p, hp, e⟩ := List.mem_map.mp hm
    obtain ⟨o', ho', _⟩ := S.own p hp
    rw [e, hn] at ho'; cases ho'
theorem t_makeFault {rest : List Value} {Q : Post Value} (hrest : rest.length ≤ sizeLine)
    (h : ∀ e, T prog w (A.under (.builtin "type.__call__" ⟨.ref 163 :: rest, []⟩)) (call (.ref 153) (.ref e :: rest)) (fun r z' l' => r = .none ∧ Q (.ref e) z' l') z ((e, ExcP 163 none .none) :: l)) : T prog w A (call (.ref 163) rest) Q z l := fun s S => by
  obtain ⟨hp, gs, dr, tk, os⟩ := s
  obtain ⟨nm, q, N, bs, hdct, sn, sub, ab, col, dd, k0, k1, k2, k3, k5, ho⟩ := pf_obj (w := w)
  have X := S.bs.k.keeps S.fz
  obtain ⟨oI, hoI, hcI⟩ : ∃ oI, (Mine.hd.heap_39 w.params).lookup 153 = some oI ∧ oI.cls = .type "function" := by
    have e : typeIn (Mine.hd.heap_39 w.params) (.ref 153) = some (.type "function") := by k_is
    exact Option.map_eq_some_iff.mp e
  refine pf_call F.excBase_Exception (by decide) (by decide) (by decide) (X _ _ ho) (looks_findIn X (r := some (.ref 153)) (by k_is)) (X _ _ hoI) hcI (fun h' e m => ?_) hrest
  obtain ⟨t0, he, _, _⟩ := m.there
  refine wpAny_mono (h e ⟨h', gs, dr, tk, os⟩ (S.newAt m.keeps m.new ⟨_, he, rfl, rfl, _, rfl, rfl, rfl⟩)) (fun r s' ⟨z', l', i, S', hr, q⟩ => ?_) fun _ _ x => x
  obtain ⟨⟨h'', tk', rfl⟩, i⟩ := i
  exact ⟨hr, z', l', ⟨⟨_, _, rfl⟩, i⟩, S', q⟩
end
end Mine
end
section
open PySem PySem.W PySem.Calls PyProof.Rows
set_option maxRecDepth 100000
set_option maxHeartbeats 8000000
namespace Mine
section
variable {α β : Type} {prog : Program} {w : World} {A : Around} {z : Heap} {l : Led} {s : Shared} {env : Env} {c : Code}

/-- the triple of a tree of a known activation -/
def TA {α : Type} (prog : Program) (w : World) (A : Around) (c : Code) (t : Sem α) (Q : Post α) (z : Heap) (l : Led) : Prop :=
  ∀ s : Shared, St w z l s.heap → PySem.wpAt (model prog w) A c t (Lft w s z Q) NoE s
theorem T.ta {t : Sem α} {Q : Post α} (h : T prog w A t Q z l) : TA prog w A c t Q z l := fun s S => PySem.wpAt_of_wpAny (h s S)
theorem TA.nest {t : Sem α} {P : Post α} {R : α → Shared → Prop} (h : TA prog w A c t P z l) (S : St w z l s.heap)
    (k : ∀ a s₁ z₁ l₁, Sm s z s₁ z₁ → St w z₁ l₁ s₁.heap → P a z₁ l₁ → R a s₁) : PySem.wpAt (model prog w) A c t R NoE s :=
  ks_wpAt_mono (h s S) (fun a s₁ ⟨z₁, l₁, i, S₁, p⟩ => k a s₁ z₁ l₁ i S₁ p) fun _ _ x => x
def SeqA (prog : Program) (w : World) (A : Around) (c : Code) (rest : List Stmt) (env : Env) (Q : Post Flow) : Post Flow := fun f z l => match f with
  | .next => TA prog w A c (execs rest env) Q z l
  | f => Q f z l
theorem ta_cons {st : Stmt} {rest : List Stmt} {Q : Post Flow} (h : TA prog w A c (exec st env) (SeqA prog w A c rest env Q) z l) : TA prog w A c (execs (st :: rest) env) Q z l :=
  fun s S => ks_wpAt_execs_cons (h.nest S fun f s₁ z₁ l₁ i S₁ p => by
    cases f with
    | next => exact ks_wpAt_mono (p s₁ S₁) (fun _ _ ⟨z₂, l₂, i₂, S₂, q⟩ => ⟨z₂, l₂, i.trans i₂, S₂, q⟩) fun _ _ x => x
    | brk => exact ⟨z₁, l₁, i, S₁, p⟩
    | cont => exact ⟨z₁, l₁, i, S₁, p⟩
    | ret v => exact ⟨z₁, l₁, i, S₁, p⟩)
theorem ta_Expr {e : PySem.Expr} {pos : Pos} {Q : Post Flow} (h : TA prog w A c (eval e env) (fun _ => Q .next) z l)
    (hi : interactive env = false := by rfl) (hs : swapsWith e none pos.line env = pure false := by rfl) : TA prog w A c (exec (.Expr e pos) env) Q z l :=
  fun s S => ks_wpAt_Expr_any (h s S) hi hs
theorem ta_CallM {o : PySem.Expr} {name : Str} {apos pos : Pos} {args : List PySem.Expr} {pl : Sem Bool} {Q : Post Value}
    (h : TA prog w A c (attributeBase o name env (eval o env)) (fun ov => T prog w A (getMethod ov name pl) (fun fx => T prog w A (callWith pos fx.1 fx.2 (backTo pos (starEach args env)) []) Q)) z l)
    (he : eval (.Call (.Attribute o name apos) args [] pos) env = (do
      let ov ← attributeBase o name env (eval o env)
      standAt apos.atName
      let (f, first) ← holding [ov] (getMethod ov name pl)
      callWith pos f first (backTo pos (starEach args env)) []) := by rfl) : TA prog w A c (eval (.Call (.Attribute o name apos) args [] pos) env) Q z l :=
  fun s S => ks_wpAt_MethodCall (h.nest S fun v s₁ z₁ l₁ i₁ S₁ p => p.nest S₁ fun v s₂ z₂ l₂ i₂ S₂ p => T.up p S₂ (i₁.trans i₂)) he

/-- a def that closes over __class__ -/
theorem tc_defS {R : Post Result} {name qual : Str} {params : Arguments} {body : List Stmt} {scope : Scope} {dV kV doc pm cdv ct oc : Value} {an od : Option Addr} {osl : Array (Option Value)} {f cc : Addr} {vals : List Value} {binds : List (Str × Value)} {ml : Nms}
    (ho : (Mine.hd.heap_39 w.params).lookup f = some ⟨oc, od, .func (ksFn name qual params body scope dV kV doc pm an cdv ct cc), osl⟩) (hcd : codeIn (Mine.hd.heap_39 w.params) cdv qual = true) (hroom : A.depth < recursionLimit)
    (hbind : bindArgs (ksFn name qual params body scope dV kV doc pm an cdv ct cc) ⟨vals, []⟩ = pure binds)
    (hloc : ∀ y ∈ binds, scope.names.lookup y.1 = some .local) (hml : (ml.map (·.1)).Nodup)
    (hat : AllAt (fun y => binds.reverse.lookup y) ml)
    (h : ∀ L, TA prog w (A.deeper (ksEnv qual scope L f cdv cc)) (.func body (ksEnv qual scope L f cdv cc)) (execs body (ksEnv qual scope L f cdv cc)) (fun fl z' l' => ∃ l'', l''.Sublist l' ∧ R (.ok (.ret (match fl with | .ret v => v | _ => .none))) z' l'') z ((L, LocP ml) :: l))
    (hcell : ∀ x ∈ scope.names, x.2 ≠ .cell) (hco : scope.isCoroutine = false) (hgen : scope.isGenerator = false) (hk : scope.kind = .function) : TC prog w A (.call (.ref f) ⟨vals, []⟩) R z l := fun s S => by
  obtain ⟨p, lo, me, mg, mb, t⟩ := S.bs.t
  have X := S.bs.k.keeps S.fz
  refine ks_codeAny_call_defAt (fd := ksFn name qual params body scope dV kV doc pm an cdv ct cc) (body := body) (binds := binds) hroom (X _ _ ho) rfl (t.nolimit.keeps S.fz) (codeRec_of X hcd) rfl (BindsTo.of_eq hbind) hcell hloc (fun h₁ ns keep => ?_) hco hgen hk
  obtain ⟨oL, hoL, nL⟩ := LCg.ns_obj ns
  have S₁ : St w z ((s.heap.objs.size, LocP ml) :: l) h₁ := S.newAt keep (Heap.get?_none_of_le (Nat.le_refl _)) ⟨oL, hoL, _, nL, hat.all, hml⟩
  refine ks_wpAt_mono (h s.heap.objs.size { s with heap := h₁, toks := s.toks + binds.length } S₁) (fun fl s' ⟨z', l', i, S', l'', k, q⟩ => ?_) fun _ _ x => x.elim
  exact ⟨z', l'', Sm.trans (Sm.mk' (s := s) (z := z)) i, S'.sub k, q⟩

def SupP (D x C : Addr) : Obj → Prop := fun o => o = ks_superObj D x C
def MetP (f : Value) (x : Addr) : Obj → Prop := fun o => o = { cls := .type "method", data := .fields #[f, .ref x] }
def MwrP (f : Value) (x : Addr) : Obj → Prop := fun o => o = { cls := .type "method-wrapper", data := .fields #[f, .ref x] }
theorem ta_super {body : List Stmt} {q : Str} {scope : Scope} {p0 p1 : Pos} {attr : Str} {whole : Sem Value} {fd : FuncData} {ar : Arg} {vs : Array Value} {file : Str} {tf : Tok} {oc ccl cl : Value} {od cdd cld od' : Option Addr} {osl ccs csl : Array (Option Value)} {cdD : ClassData}
    {L f cda cc D x C : Addr} {ml : Nms} {T₀ : Value} {Q : Post Value}
    (hm : (L, LocP ml) ∈ l) (hf : (Mine.hd.heap_39 w.params).lookup f = some ⟨oc, od, .func fd, osl⟩) (hp : (fd.params.posonlyargs ++ fd.params.args).head? = some ar) (hv : (ar.arg, some (.ref x)) ∈ ml) (hx : (x, ExcP C od' T₀) ∈ l)
    (hcode : (Mine.hd.heap_39 w.params).lookup cda = some ⟨ccl, cdd, .fields vs, ccs⟩) (hvs : vs[2]? = some (.str file tf)) (hfile : ((prog.main.file : Str) == file) = true)
    (hcell : (Mine.hd.heap_39 w.params).lookup cc = some ⟨cl, cld, .cell (some (.ref D)), csl⟩) (hD : clsIn (Mine.hd.heap_39 w.params) D = some cdD) (hsub : mroIn (Mine.hd.heap_39 w.params) C (.ref D) = some true) (hsuper : nsIn (Mine.hd.heap_39 w.params) mainGlobals "super" = some none)
    (hat : (attr == ("__class__" : Str)) = false) (hks : scope.names.lookup ("super" : Str) = some .globalImplicit) (hkc : scope.names.lookup ("__class__" : Str) = some .free) (hka : scope.names.lookup ar.arg = some .local) (hk : scope.kind = .function)
    (htop : (prog.main.scope.names.lookup ("super" : Str)).isSome = false) (hboot : bootBuiltins "super" = some (.type "super"))
    (h : ∀ so, Q (.ref so) z ((so, SupP D x C) :: l)) :
    TA prog w A (.func body (ksEnv q scope L f (.ref cda) cc)) (attributeBase (.Call (.Name "super" p0) [] [] p1) attr (ksEnv q scope L f (.ref cda) cc) whole) Q z l := fun s S => by
  obtain ⟨p, lo, me, mg, mb, t⟩ := S.bs.t
  obtain ⟨oL, hoL, PL⟩ := S.get hm
  obtain ⟨m, n, k, _⟩ := PL.ns hoL
  obtain ⟨ox, hox, x1, x2, xs, x3, x4, x5⟩ := S.get hx
  have X := S.bs.k.keeps S.fz
  obtain ⟨hh, g, d, tk, os⟩ := s
  dsimp only at S hoL n hox X
  obtain ⟨oD, hD1, hD2⟩ : ∃ oD, hh.get? D = some oD ∧ oD.data = .cls cdD := by
    unfold clsIn at hD
    split at hD
    · rename_i c d cd' sl ho
      cases hD
      exact ⟨_, X _ _ ho, rfl⟩
    · cases hD
  refine ks_wpAt_super_base (env := ksEnv q scope L f (.ref cda) cc) hks hkc hat rfl (X _ _ hf) rfl hp rfl (X _ _ hcode) rfl hvs hfile htop ?_
  refine ks_loadName_global hk hks (loadGlobal_builtin (env := ksEnv q scope L f (.ref cda) cc) (t.g.keeps S.fz) (mg_none_of S.bs.k t.g hsuper) (t.b.keeps S.fz) ((t.builtins _ (by decide +kernel)).trans hboot) ⟨rfl, ?_⟩)
  refine wpAny_loadName_free hk hkc rfl ⟨_, X _ _ hcell, rfl⟩ ?_
  refine wpAny_loadName_local hk hka n (k _ hv) ?_
  refine ks_wpAny_isType_cls hD1 hD2 ⟨rfl, ?_⟩
  refine ks_wpAny_call_super hD1 hD2 hox x1 (fun c e => by rw [x3] at e; cases e) (looks_mroIn X hsub) (fun h' e kk => ?_)
  exact ⟨z, _, ⟨⟨h', tk, rfl⟩, fun _ _ e => e⟩, S.newAt (P := SupP D x C) kk (Heap.get?_none_of_le (Nat.le_refl _)) ⟨_, e, rfl⟩, h _⟩
theorem t_supMeth {so D x C f2 : Addr} {name : Str} {pl : Sem Bool} {od' : Option Addr} {T₀ : Value} {Q : Post (Value × List Value)} (hso : (so, SupP D x C) ∈ l) (hx : (x, ExcP C od' T₀) ∈ l) (ho : nsIn (Mine.hd.heap_39 w.params) cStatics "thirdparty.any" = some none)
    (hm : ks_superIn (Mine.hd.heap_39 w.params) C D name = some (some (.ref f2))) (ht : typeIn (Mine.hd.heap_39 w.params) (.ref f2) = some (.type "function")) (hn : (name == ("__class__" : Str)) = false)
    (h : ∀ q, Q (.ref q, []) z ((q, MetP (.ref f2) x) :: l)) : T prog w A (getMethod (.ref so) name pl) Q z l := fun s S => by
  obtain ⟨oso, hoso, rfl⟩ := S.get hso
  obtain ⟨ox, hox, x1, x2, xs, x3, x4, x5⟩ := S.get hx
  have X := S.bs.k.keeps S.fz
  obtain ⟨hh, g, d, t, os⟩ := s
  dsimp only at S hoso hox X
  cases hc : clsIn (Mine.hd.heap_39 w.params) C with
  | none => unfold ks_superIn at hm; rw [hc] at hm; cases hm
  | some cd =>
    have hC : ∃ oC, hh.get? C = some oC ∧ oC.data = .cls cd := by
      have hc' := hc
      unfold clsIn at hc'
      split at hc'
      · rename_i c d cd' sl ho
        cases hc'
        exact ⟨_, X _ _ ho, rfl⟩
      · cases hc'
    have ne : x ≠ C := fun e => by
      obtain ⟨oC, hC1, hC2⟩ := hC
      rw [← e, hox] at hC1
      cases hC1
      rw [x3] at hC2; cases hC2
    unfold ks_superIn at hm
    rw [hc] at hm
    obtain ⟨of, hof, hofc⟩ : ∃ of, hh.get? f2 = some of ∧ of.cls = .type "function" := by
      have ht' : ((Mine.hd.heap_39 w.params).lookup f2).map (·.cls) = some (.type "function") := ht
      obtain ⟨of, a, b⟩ := Option.map_eq_some_iff.mp ht'
      exact ⟨of, X _ _ a, b⟩
    refine ks_wpAny_getMethod_super hoso (looks_opaque X ho) (l₀ := cd.mro) ?_ rfl X hm hof hofc ne hn ?_
    · exact fun A Q E s k q => wpAny_bind ((looks_clsIn X hc) A _ E s k (wpAny_pure q))
    · exact ⟨z, _, ⟨⟨_, _, rfl⟩, fun _ _ e => e⟩, S.new (P := MetP (.ref f2) x) rfl rfl, h _⟩
end
end Mine
end
section
open PySem PySem.W PySem.Calls PyProof.Rows
set_option maxRecDepth 100000
set_option maxHeartbeats 8000000
namespace Mine
theorem slot_wd_get : Slot "wrapper_descriptor" "__get__" "wrapper_descriptor.__get__" := .of (owner := "wrapper_descriptor") (n := "__get__") (by rw [typeLookup_type, builtinLookup_eq_fast]; kernel_rfl) (by decide +kernel) (by decide +kernel) (by decide +kernel)
  (by first | exact .inl (by decide +kernel) | exact .inr (by decide +kernel)) (by rw [isSubtype_type]; kernel_rfl)
theorem entry_wd_get : entryFor table "wrapper_descriptor.__get__" = some Builtin.«wrapper_descriptor.__get__» := entryFor_of_tree (by kernel_rfl)
theorem args_wd_get (a b c : Value) : argsOk "wrapper_descriptor.__get__" ⟨[a, b, c], []⟩ := by unfold argsOk; kernel_rfl
theorem type_ei : typeOf (.builtin "Exception.__init__") = pure (.type "wrapper_descriptor") := by kernel_rfl
theorem upd_at {a : Addr} {P : Obj → Prop} {post : Led} : ∀ (pre : Led), Upd1 a P (pre ++ (a, P) :: post) (fun P' => pre ++ (a, P') :: post)
  | [] => .head
  | _ :: pre => .tail (upd_at pre)
theorem owner_ei : (".".intercalate ("Exception.__init__".cutAt '.').dropLast) = "Exception" := by
  have e0 : "Exception.__init__".cutAt '.' = ["Exception", "__init__"] := by first | rfl | decide +kernel
  rw [e0]; decide +kernel
section
variable {prog : Program} {w : World} {M : Model} {A : Around} {E : Value → Shared → Prop} {h : Heap} {g : Array GenState} {d : Drawn} {t : Nat} {os : OsState}
theorem wd_get {x C : Addr} {ox : Obj} {Q : Fin → Shared → Prop} (hx : h.get? x = some ox) (hcl : ox.cls = .ref C) (hs : Looks (model prog w) h (isSubtype (.ref C) (.type "Exception")) true)
    (hq : Q (.done (.ret (.ref h.objs.size))) ⟨h.push { cls := .type "method-wrapper", data := .fields #[.builtin "Exception.__init__", .ref x] }, g, d, t, os⟩) :
    wpAny (model prog w) A (Builtin.«wrapper_descriptor.__get__» ⟨[.builtin "Exception.__init__", .ref x, .ref C], []⟩) Q E ⟨h, g, d, t, os⟩ := by
  have h1 : Looks (model prog w) h (typeOf (.ref x)) (.ref C) := hcl ▸ (Looks.ld hx).andThen .now
  rw [← owner_ei] at hs
  unfold Builtin.«wrapper_descriptor.__get__»
  repeat (first | (with_reducible refine wpAny_newObj_type ?_ (by size_fits)) | lk)
  exact hq
theorem sup_ga_slot {so D x C : Addr} {ox : Obj} {l₀ l : List Value} {K : Frag} {name : Str} {tk : Tok} {Q : Fin → Shared → Prop}
    (hso : h.get? so = some { cls := .type "super", dict := none, data := .fields #[.ref D, .ref x, .ref C], slots := #[] }) (hno : Looks (model prog w) h (opaqueClassAbove (.ref C)) none)
    (hC : Looks (model prog w) h (mroOf (.ref C)) l₀) (hl : (l₀.dropWhile (· != .ref D)).drop 1 = l) (X : K.In h)
    (hf : alongIn K name l = some (some (.builtin "Exception.__init__"))) (hx : h.get? x = some ox) (hcl : ox.cls = .ref C) (hs : Looks (model prog w) h (isSubtype (.ref C) (.type "Exception")) true) (hxC : x ≠ C) (hn : (name == ("__class__" : Str)) = false)
    (hq : Q (.done (.ret (.ref h.objs.size))) ⟨h.push { cls := .type "method-wrapper", data := .fields #[.builtin "Exception.__init__", .ref x] }, g, d, t, os⟩) :
    wpAny (model prog w) A (Builtin.«super.__getattribute__» ⟨[.ref so, .str name tk], []⟩) Q E ⟨h, g, d, t, os⟩ := by
  have hlk := slot_wd_get.lookup
  have hne : (Value.ref x == Value.ref C) = false := by simp [hxC]
  have hTf : (⟨h, g, d, t, os⟩ : Shared).TypeIs (.builtin "Exception.__init__") "wrapper_descriptor" := type_ei
  have hdt : ({ cls := .type "super", dict := none, data := .fields #[.ref D, .ref x, .ref C], slots := #[] } : Obj).data = .fields #[.ref D, .ref x, .ref C] := rfl
  have f0 : (#[.ref D, .ref x, .ref C] : Array Value)[0]? = some (.ref D) := rfl
  have f1 : (#[.ref D, .ref x, .ref C] : Array Value)[1]? = some (.ref x) := rfl
  have f2 : (#[.ref D, .ref x, .ref C] : Array Value)[2]? = some (.ref C) := rfl
  unfold Builtin.«super.__getattribute__»
  repeat (first
    | (with_reducible refine wpAny_field hso hdt f0 ?_) | (with_reducible refine wpAny_field hso hdt f1 ?_) | (with_reducible refine wpAny_field hso hdt f2 ?_)
    | (with_reducible refine ks_wpAny_notOpaque hno ?_)
    | (with_reducible refine Looks.at hC ?_; rw [hl])
    | (refine ks_forIn_along X (fun _ _ => rfl) rfl ?_ hf)
    | (with_reducible refine wpAny_typeOf hTf ?_)
    | (with_reducible refine wpAny_call_entry slot_wd_get hTf entry_wd_get ?_ (args_wd_get _ _ _))
    | (with_reducible refine wd_get hx hcl hs ?_)
    | (with_reducible refine ⟨_, rfl, ?_⟩)
    | (simp only [hn, hne, Bool.or_false, Bool.false_eq_true, if_false])
    | wp_step
    | dsimp only)
  all_goals exact hq
theorem sup_getMethod_slot {so D x C : Addr} {ox : Obj} {l₀ l : List Value} {K : Frag} {name : Str} {pl : Sem Bool} {Q : Value × List Value → Shared → Prop}
    (hso : h.get? so = some { cls := .type "super", dict := none, data := .fields #[.ref D, .ref x, .ref C], slots := #[] }) (hno : Looks (model prog w) h (opaqueClassAbove (.ref C)) none)
    (hC : Looks (model prog w) h (mroOf (.ref C)) l₀) (hl : (l₀.dropWhile (· != .ref D)).drop 1 = l) (X : K.In h)
    (hf : alongIn K name l = some (some (.builtin "Exception.__init__"))) (hx : h.get? x = some ox) (hcl : ox.cls = .ref C) (hs : Looks (model prog w) h (isSubtype (.ref C) (.type "Exception")) true) (hxC : x ≠ C) (hn : (name == ("__class__" : Str)) = false)
    (hq : Q (.ref h.objs.size, []) ⟨h.push { cls := .type "method-wrapper", data := .fields #[.builtin "Exception.__init__", .ref x] }, g, d, t + 1, os⟩) :
    wpAny (model prog w) A (getMethod (.ref so) name pl) Q E ⟨h, g, d, t, os⟩ := by
  have hlk := F.ks_slot_super_ga.lookup
  have hcan := F.ks_canon_super_ga
  have hT : ∀ t', (⟨h, g, d, t', os⟩ : Shared).TypeIs (.ref so) "super" := fun _ => ⟨_, hso, rfl⟩
  unfold getMethod
  refine wpAny_bind (wpAny_specialOf (hT _) hlk ?_)
  show wpAny _ _ (if (Manifest.canonical "super.__getattribute__" != "object.__getattribute__") = true then _ else _) _ _ _
  rw [if_pos hcan]
  unfold getAttr getAttrBy
  refine wpAny_bind (wpAny_bind (wpAny_mkText (wpAny_holding (wpAny_bind (wpAny_typeOf (hT _) (wpAny_bind (wpAny_of_eq hlk ?_)))))))
  show wpAny _ _ (getAttrByItsOwn (.ref so) (.str name t) (.type "super") (.builtin "super.__getattribute__") true false) _ _ _
  unfold getAttrByItsOwn hookBefore callGetattribute boundAndCalled
  refine wpAny_bind (wpAny_of_eq (show (if onTheHeap (.type "super") then typeLookup (.type "super") "__getattr__" else pure none) = pure none from rfl) ?_)
  refine wpAny_bind (wpAny_attempt (wpAny_holding ?_))
  show wpAny _ _ (bindSpecial (.builtin "super.__getattribute__") (.ref so) >>= _) _ _ _
  refine wpAny_bind (wpAny_of_eq (F.ks_slot_super_ga.bind _) ?_)
  refine wpAny_mono (Q := fun v s' => v = .ref h.objs.size ∧ s' = ⟨h.push { cls := .type "method-wrapper", data := .fields #[.builtin "Exception.__init__", .ref x] }, g, d, t + 1, os⟩) (E := fun _ _ => False)
    (wpAny_call_entry F.ks_slot_super_ga (hT _) F.ks_entry_super_ga (sup_ga_slot hso hno hC hl X hf hx hcl hs hxC hn ⟨_, rfl, rfl, rfl⟩) (F.ks_gaArgs_super _ _)) (fun v s' hv => ?_) fun _ _ z => z.elim
  obtain ⟨rfl, rfl⟩ := hv
  exact wpAny_pure (wpAny_pure hq)
end
section
variable {α β : Type} {prog : Program} {w : World} {A : Around} {z : Heap} {l : Led} {s : Shared} {env : Env} {c : Code}
theorem t_supSlot {so D x C : Addr} {name : Str} {pl : Sem Bool} {od' : Option Addr} {T₀ : Value} {Q : Post (Value × List Value)} (hso : (so, SupP D x C) ∈ l) (hx : (x, ExcP C od' T₀) ∈ l) (ho : nsIn (Mine.hd.heap_39 w.params) cStatics "thirdparty.any" = some none)
    (hm : ks_superIn (Mine.hd.heap_39 w.params) C D name = some (some (.builtin "Exception.__init__"))) (hsub : mroIn (Mine.hd.heap_39 w.params) C (.type "Exception") = some true) (hn : (name == ("__class__" : Str)) = false)
    (h : ∀ q, Q (.ref q, []) z ((q, MwrP (.builtin "Exception.__init__") x) :: l)) : T prog w A (getMethod (.ref so) name pl) Q z l := fun s S => by
  obtain ⟨oso, hoso, rfl⟩ := S.get hso
  obtain ⟨ox, hox, x1, x2, xs, x3, x4, x5⟩ := S.get hx
  have X := S.bs.k.keeps S.fz
  obtain ⟨hh, g, d, t, os⟩ := s
  dsimp only at S hoso hox X
  cases hc : clsIn (Mine.hd.heap_39 w.params) C with
  | none => unfold ks_superIn at hm; rw [hc] at hm; cases hm
  | some cd =>
    have hC : ∃ oC, hh.get? C = some oC ∧ oC.data = .cls cd := by
      have hc' := hc
      unfold clsIn at hc'
      split at hc'
      · rename_i c d cd' sl ho
        cases hc'
        exact ⟨_, X _ _ ho, rfl⟩
      · cases hc'
    have ne : x ≠ C := fun e => by
      obtain ⟨oC, hC1, hC2⟩ := hC
      rw [← e, hox] at hC1
      cases hC1
      rw [x3] at hC2; cases hC2
    unfold ks_superIn at hm
    rw [hc] at hm
    refine sup_getMethod_slot hoso (looks_opaque X ho) (l₀ := cd.mro) ?_ rfl X hm hox x1 (looks_mroIn X hsub) ne hn ?_
    · exact fun A Q E s k q => wpAny_bind ((looks_clsIn X hc) A _ E s k (wpAny_pure q))
    · exact ⟨z, _, ⟨⟨_, _, rfl⟩, fun _ _ e => e⟩, S.new (P := MwrP (.builtin "Exception.__init__") x) rfl rfl, h _⟩
/- calls of a method object and of a method-wrapper -/
theorem t_cwMet {pos : Pos} {q g x : Addr} {e : PySem.Expr} {rest : List PySem.Expr} {Q : Post Value} (hf : fnIn (Mine.hd.heap_39 w.params) g = true)
    (h : T prog w A (spliced (backTo pos (starEach (e :: rest) env))) (fun vs z l => (q, MetP (.ref g) x) ∈ l ∧ T prog w A (call (.ref q) vs) Q z l) z l)
    (he : starEach (e :: rest) env = (false, eval e env) :: starEach rest env := by rfl) (hplain : (backTo pos (starEach rest env)).any (·.1) = false := by rfl) :
    T prog w A (callWith pos (.ref q) [] (backTo pos (starEach (e :: rest) env)) []) Q z l := fun s S => by
  rw [he] at h ⊢
  exact callWith_of (P := MethP (Mine.hd.heap_39 w.params) q g (.ref x)) (by show ((false || (backTo pos (starEach rest env)).any (·.1)) || false) = false; rw [hplain]; rfl) (keeps_M hf) (evalArgs_plain (h.nest S fun vs s₁ z₁ l₁ i₁ S₁ p => by
    obtain ⟨o, ho, rfl⟩ := S₁.get p.1
    exact ⟨⟨ho, S₁.bs.k.keeps S₁.fz⟩, T.up p.2 S₁ i₁⟩))
theorem keeps_W {M : Model} {q : Addr} {f self : Value} (h : Heap) (X : h.get? q = some { cls := .type "method-wrapper", data := .fields #[f, self] }) : ∃ k, (k = Keeper.frame ∨ k = Keeper.machine ∨ k = Keeper.boundFrame) ∧ Looks M h (keeperOf (.ref q)) k :=
  ⟨.machine, .inr (.inl rfl), (Looks.ld (part := none) X).andThen .now⟩
theorem t_cwMwr {pos : Pos} {q x : Addr} {f : Value} {e : PySem.Expr} {rest : List PySem.Expr} {Q : Post Value}
    (h : T prog w A (spliced (backTo pos (starEach (e :: rest) env))) (fun vs z l => (q, MwrP f x) ∈ l ∧ T prog w A (call (.ref q) vs) Q z l) z l)
    (he : starEach (e :: rest) env = (false, eval e env) :: starEach rest env := by rfl) (hplain : (backTo pos (starEach rest env)).any (·.1) = false := by rfl) :
    T prog w A (callWith pos (.ref q) [] (backTo pos (starEach (e :: rest) env)) []) Q z l := fun s S => by
  rw [he] at h ⊢
  exact callWith_of (P := fun h => h.get? q = some { cls := .type "method-wrapper", data := .fields #[f, .ref x] }) (by show ((false || (backTo pos (starEach rest env)).any (·.1)) || false) = false; rw [hplain]; rfl) (fun h X => keeps_W h X) (evalArgs_plain (h.nest S fun vs s₁ z₁ l₁ i₁ S₁ p => by
    obtain ⟨o, ho, rfl⟩ := S₁.get p.1
    exact ⟨ho, T.up p.2 S₁ i₁⟩))
theorem t_callMet {q f x : Addr} {vals : List Value} {Q : Post Value} (hq : (q, MetP (.ref f) x) ∈ l) (h : TC prog w A (.call (.ref f) ⟨.ref x :: vals, []⟩) (fun r z l => match r with | .ok (.ret v) => Q v z l | _ => False) z l) : T prog w A (call (.ref q) vals) Q z l :=
  t_run fun s S => by
    obtain ⟨o, ho, rfl⟩ := S.get hq
    exact ks_codeAny_call_bound ho (h s S)
end
section
variable {prog : Program} {w : World} {M : Model} {A : Around} {E : Value → Shared → Prop} {h : Heap} {g : Array GenState} {d : Drawn} {t : Nat} {os : OsState}
variable {nm q : Str} {C N : Addr} {bs bm bmB : List Value} {hdct : Bool} {sn : List Str} {sub : List Value} {ab : Bool} {col : Option Bool} {dd : Option Addr} {k0 k1 k2 k3 k5 : Option Value} {B newId inN : String}
theorem checkBound_ei {x : Addr} {ox : Obj} {vals : List Value} {Q : Unit → Shared → Prop} (hC : h.get? C = some (excClassObj nm q C N bs bm hdct sn sub ab col dd k0 k1 k2 k3 k5 newId)) (hx : h.get? x = some ox) (hcl : ox.cls = .ref C) (hq : Q () ⟨h, g, d, t, os⟩) :
    wpAny M A (checkBoundCall "Exception.__init__" ⟨.ref x :: vals, []⟩) Q E ⟨h, g, d, t, os⟩ := by
  have F := F.excCall_Exception
  have hshort := F.noStar
  unfold checkBoundCall
  simp only [F.initKind, F.initRow]
  repeat (first | (with_reducible refine wpAny_loadPart_at hx ?_; rw [hcl]) | with_reducible refine wpAny_loadPart_at hC ?_ | wp_step)
  refine wpAny_onRaise ?_
  rw [show ∀ (a b : String) (n : Nat), Bind.check ⟨.positional, "*", "Exception", .self, [⟨"args", .varPos, false⟩]⟩ a b n (List.map (fun x => x.fst) ({ pos := Value.ref x :: vals } : Args).kw) = pure () from
    fun a b n => check_star_args _ _ _ _ _ _]
  exact wpAny_pure hq
end
section
variable {α β : Type} {prog : Program} {w : World} {A : Around} {z : Heap} {l : Led} {s : Shared} {env : Env} {c : Code}
theorem mapFields_exc0 {C : Addr} {od : Option Addr} {T v : Value} {o : Obj} (h : ExcP C od T o) : ExcP C od T (Obj.mapFields (·.setIfInBounds 0 v) o) := by
  obtain ⟨h1, h2, vs, h3, h4, h5⟩ := h
  obtain ⟨c, d, dt, sl⟩ := o
  dsimp only at h1 h2 h3
  subst h3
  exact ⟨h1, h2, vs.setIfInBounds 0 v, rfl, by simp [h4], by simpa using h5⟩
theorem t_callMwr {q x : Addr} {v : Value} {od : Option Addr} {T₀ : Value} {Q : Post Value} (hq : (q, MwrP (.builtin "Exception.__init__") x) ∈ l) (hx : (x, ExcP 163 od T₀) ∈ l) (h : Q .none z l) : T prog w A (call (.ref q) [v]) Q z l := fun s S => by
  obtain ⟨o, ho, rfl⟩ := S.get hq
  obtain ⟨ox, hox, P⟩ := S.get hx
  obtain ⟨x1, x2, xs, x3, x4, x5⟩ := id P
  obtain ⟨nm, qn, N, bs, hdct, sn, sub, ab, col, dd, k0, k1, k2, k3, k5, hC⟩ := pf_obj (w := w)
  have X := S.bs.k.keeps S.fz
  obtain ⟨hh, g, d, t, os⟩ := s
  dsimp only at S ho hox X
  refine wpAny_call (codeAny_of_tree ?_)
  show wpAny _ A.in1 (callAny (.ref q) ⟨[v], []⟩) _ _ _
  unfold callAny
  refine wpAny_bind (wpAny_load ho ?_)
  show wpAny _ A.in1 (checkBoundCall "Exception.__init__" ⟨.ref x :: [v], []⟩ >>= fun _ => again (.builtin "Exception.__init__" ⟨.ref x :: [v], []⟩)) _ _ _
  refine wpAny_bind (checkBound_ei (X _ _ hC) hox x1 ?_)
  refine wpAny_pure ⟨Code.quiet_builtin _ (by decide +kernel), codeAny_builtin F.excCall_Exception.initEntry ?_⟩
  unfold Builtin.«BaseException.__init__»
  dsimp only
  rw [if_neg (by simp)]
  unfold newTuple Builtin.BaseException.bexcPut
  have h0 : xs[0]? = some xs[0] := Array.getElem?_eq_getElem (by omega)
  have he₁ := Heap.get?_push_of_some (h := hh) { cls := .type "tuple", data := .seq [v].toArray } hox
  refine wpAny_bind (wpAny_newObj_type (wpAny_bind (wpAny_bind (wpAny_field he₁ x3 h0 (wpAny_bind (wpAny_setField he₁ x3 (by omega) ?_))))) (by size_fits))
  have key : Lft w ⟨hh, g, d, t, os⟩ z Q .none ⟨(hh.push { cls := .type "tuple", data := .seq #[v] }).update x (Obj.mapFields fun y => y.setIfInBounds 0 (.ref hh.objs.size)), g, d, t, os⟩ := by
    refine ⟨z, l, ⟨⟨_, t, rfl⟩, fun _ _ e => e⟩, ?_, h⟩
    have S' := S.grow (h' := hh.push { cls := .type "tuple", data := .seq [v].toArray }) fun b o e => Heap.get?_push_of_some _ e
    obtain ⟨pre, post, rfl⟩ := List.append_of_mem hx
    have U : Upd1 x (ExcP 163 od T₀) (pre ++ (x, ExcP 163 od T₀) :: post) (fun P' => pre ++ (x, P') :: post) := upd_at pre
    exact S'.upd (P' := ExcP 163 od T₀) U (fun b o hb e => (Heap.get?_update_other _ _ (Ne.symm hb)).trans e) ⟨_, Heap.get?_update_self _ he₁ (Obj.isFreed_of_fields (Obj.data_mapFields x3 _)), mapFields_exc0 P⟩
  split
  · exact wpAny_letGo (wpAny_pure key)
  · exact wpAny_pure (wpAny_pure key)
end
end Mine
end
section
open PySem PySem.W PySem.Calls PyProof.Rows
set_option maxRecDepth 100000
set_option maxHeartbeats 8000000
namespace Mine
section
variable {α β : Type} {prog : Program} {w : World} {A : Around} {z : Heap} {l : Led} {s : Shared} {env : Env} {c : Code}
open Builtin Builtin.ObjectAttr
theorem exc_noCls {C : Addr} {od : Option Addr} {T₀ : Value} {o : Obj} (h : ExcP C od T₀ o) : notCls o = true := by
  obtain ⟨_, _, vs, h3, _⟩ := h
  unfold notCls
  rw [h3]
theorem exc_inst {h : Heap} {x C dx : Addr} {T₀ : Value} {o odx : Obj} (hx : h.get? x = some o) (P : ExcP C (some dx) T₀ o) (hd : h.get? dx = some odx) : InstAt h x o C (some odx) :=
  ⟨hx, P.1, exc_noCls P, by rw [P.2.1]; exact hd⟩
theorem exc_inst0 {h : Heap} {x C : Addr} {T₀ : Value} {o : Obj} (hx : h.get? x = some o) (P : ExcP C none T₀ o) : InstAt h x o C none :=
  ⟨hx, P.1, exc_noCls P, by rw [P.2.1]; trivial⟩
theorem t_storeInDict {dx : Addr} {kvs kvs' : Kvs} {name : Str} {tk : Tok} {v : Value} {g : (Obj → Prop) → Led} {Q : Post Fin} (U : Upd1 dx (DctP prog w kvs) l g) (P : PySem.stored kvs name v = kvs') (hz : kvs.length ≤ 900)
    (h : Q (.done (.ret .none)) z (g (DctP prog w kvs'))) : T prog w A (storeInDict dx (.str name tk) name v) Q z l := fun s S => by
  obtain ⟨hp0, gs, dr, tk0, os⟩ := s
  dsimp only at S
  obtain ⟨od, hod, D⟩ := S.get U.mem
  have nd := dct_nodup D
  obtain ⟨es, n, rfl, hl, hlen⟩ := dct_form D
  unfold storeInDict newKeyGuard
  refine wpAny_bind (wpAny_pure (wpAny_bind ?_))
  unfold nsSet
  refine wpAny_bind (wpAny_bind (wpAny_askSetting (wpAny_pure (wpAny_bind (wpAny_mkText (wpAny_bind (wpAny_loadPart hod ?_)))))))
  dsimp only
  have c : aRefKeyMayBeTheName name es.toArray = false := by
    rw [aRefKeyMayBeTheName_at]
    obtain ⟨es', ep, ex, h4, hk, hp', _⟩ := D
    have : es.toArray.any (·.refKey) = false := by
      rw [Array.any_eq_false']
      intro en he
      obtain ⟨rfl, rfl⟩ : es.toArray = es' ∧ n = ep := by simpa [dictOf] using h4
      obtain ⟨k, a, _⟩ := hk en he
      obtain ⟨t, a⟩ := Value.isStrOf_shape a
      simp [DictEntry.refKey, a]
    rw [this, Bool.and_false]
  rw [c]
  refine wpAny_updatePart hod ?_
  have D' := dct_put (x := name) (t := tk0) (v := v) D
  have len' : (PySem.stored kvs name v).length ≤ 901 := by
    have := stored_length_le kvs name v
    omega
  obtain ⟨es2, n2, e2, _, len2⟩ := dct_form D'
  have ho' : (hp0.update dx (Obj.putName name (PyData.keyHash w.params name) (.str name tk0) v)).get? dx = some (dictOf es2 n2) := by
    rw [Heap.get?_update_self _ hod (by rw [e2]; rfl), e2]
  refine wpAny_bind (wpAny_lookBehind ho' (pastItsLine_dict (by rw [List.size_toArray, sizeLine_eq]; omega)) ?_)
  refine wpAny_pure ?_
  exact ⟨z, _, ⟨⟨_, _, rfl⟩, fun _ _ e => e⟩, S.upd U (fun b o hb e => (Heap.get?_update_other _ _ (Ne.symm hb)).trans e) ⟨_, ho', P ▸ e2 ▸ D'⟩, h⟩
theorem t_ownDict {x C dx : Addr} {T₀ : Value} {Q : Post (Option Addr)} (hx : (x, ExcP C (some dx) T₀) ∈ l) (hh : hasDictIn (Mine.hd.heap_39 w.params) C = true) (h : Q (some dx) z l) : T prog w A (ownDictForStores (.ref x)) Q z l := fun s S => by
  obtain ⟨ox, hox, P⟩ := S.get hx
  have X := S.bs.k.keeps S.fz
  obtain ⟨hh0, g, d, tk, os⟩ := s
  dsimp only at S hox X
  obtain ⟨cd, hc, hd'⟩ := any_some hh
  unfold ownDictForStores instanceDict
  refine wpAny_bind (wpAny_loadPart hox ?_)
  rw [P.1]
  dsimp only
  refine wpAny_bind ((looks_clsIn X hc).at ?_)
  rw [hd', P.2.1]
  exact wpAny_pure (Lft.here S h)
theorem t_ownDict0 {x C : Addr} {T₀ : Value} {g : (Obj → Prop) → Led} {Q : Post (Option Addr)} (U : Upd1 x (ExcP C none T₀) l g) (hh : hasDictIn (Mine.hd.heap_39 w.params) C = true) (h : ∀ dx, Q (some dx) z ((dx, DctP prog w []) :: g (ExcP C (some dx) T₀))) :
    T prog w A (ownDictForStores (.ref x)) Q z l := fun s S => by
  obtain ⟨ox, hox, P⟩ := S.get U.mem
  have X := S.bs.k.keeps S.fz
  obtain ⟨hh0, gs, d, tk, os⟩ := s
  dsimp only at S hox X
  obtain ⟨cd, hc, hd'⟩ := any_some hh
  unfold ownDictForStores instanceDict
  refine wpAny_bind (wpAny_loadPart hox ?_)
  have P' := P
  obtain ⟨p1, p2, vs, p3, p4, p5⟩ := P'
  obtain ⟨oc, od, dt, sl⟩ := ox
  dsimp only at p1 p2 p3
  subst p1 p2 p3
  dsimp only
  refine wpAny_bind ((looks_clsIn X hc).at ?_)
  rw [hd']
  have S1 : St w z ((hh0.objs.size, DctP prog w []) :: l) (hh0.push { cls := .type "dict", data := .dict #[] }) := S.new (P := DctP prog w []) rfl dct_empty
  have hx1 := Heap.get?_push_of_some (h := hh0) { cls := .type "dict", data := .dict #[] } hox
  refine wpAny_bind (wpAny_alloc' ?_)
  refine wpAny_bind (wpAny_update' hx1 ?_)
  refine wpAny_pure ?_
  have S2 := S1.upd (P' := ExcP C (some hh0.objs.size) T₀) (h' := (hh0.push { cls := .type "dict", data := .dict #[] }).update x fun o => { o with dict := some hh0.objs.size }) (Upd1.tail U) (fun b o hb e => (Heap.get?_update_other _ _ (Ne.symm hb)).trans e)
    ⟨_, Heap.get?_update_self _ hx1 rfl, rfl, rfl, vs, rfl, p4, p5⟩
  exact ⟨z, _, ⟨⟨_, tk, rfl⟩, fun _ _ e => e⟩, S2, h _⟩
theorem osa_exc {x C : Addr} {cd : ClassData} {name : Str} {v : Value} {Q : Post Unit} {T₀ : Value} {dd : Option Addr} (hx : (x, ExcP C dd T₀) ∈ l) (hc : clsIn (Mine.hd.heap_39 w.params) C = some cd) (hm : ∃ a b, cd.mro = [.ref a, .ref b, .type "Exception", .type "BaseException", .type "object"])
    (hs : findIn (Mine.hd.heap_39 w.params) (.ref C) "__setattr__" = some (some (.builtin "object.__setattr__"))) (hf : findIn (Mine.hd.heap_39 w.params) (.ref C) name = some none)
    (h : ∀ tk b, T prog w A.in1 (storeInOwnDict (.ref x) (.ref C) (.str name tk) name v b) (fun fin z l => fin = .done (.ret .none) ∧ Q () z l) z l) :
    T prog w A (setAttr (.ref x) name v) Q z l := fun s S => by
  obtain ⟨ox, hox, P⟩ := S.get hx
  have X := S.bs.k.keeps S.fz
  obtain ⟨hh0, gs, d, tk, os⟩ := s
  dsimp only at S hox X
  have S' : St w z l (⟨hh0, gs, d, tk + 1, os⟩ : Shared).heap := S
  have tyL : Looks (model prog w) hh0 (typeOf (.ref x)) (.ref C) := P.1 ▸ (Looks.ld hox).andThen .now
  obtain ⟨a, b, hm⟩ := hm
  have mroL : Looks (model prog w) hh0 (mroOf (.ref C)) cd.mro := (looks_clsIn X hc).andThen .now
  have sub : Looks (model prog w) hh0 (isInstance (.ref x) (.type "object")) true := tyL.andThen (looks_mroIn X (by unfold mroIn; rw [hc, Option.bind_some, hm]; rfl))
  have SF := PySem.F.store_object
  refine wpAny_bind (wpAny_mkText (wpAny_bind (wpAny_bind (wpAny_bind (tyL.at (looks_findIn X hs _ _ _ _ (fun _ _ e => e) (wpAny_holding ?_)))))))
  rw [SF.slot.bind]
  refine wpAny_bind (wpAny_pure (wpAny_bind (wpAny_call ?_)))
  refine codeAny_call_builtin SF.slot.plain SF.entry (@check_slot (model prog w) _ _ ⟨hh0, gs, d, tk + 1, os⟩ "object.__setattr__" "object" "__setattr__" (.ref x) [.str name tk, v] [] _ SF.kind SF.split sub (SF.args (.ref x) (.str name tk) v) ?_)
  show wpAny _ A.in1 (Builtin.«object.__setattr__» ⟨[.ref x, .str name tk, v], []⟩) _ _ _
  rw [osa_eq, refuse_eq]
  refine wpAny_bind (wpAny_bind (tyL.at (wpAny_bind (mroL.at ?_))))
  rw [hm, refuseLoop_ref, refuseLoop_ref, PySem.F.store_Exception.passes]
  refine wpAny_pure (wpAny_bind (tyL.at (wpAny_bind ((looks_findIn X hf).at (wpAny_bind (wpAny_pure ?_))))))
  refine wpAny_mono (h tk false ⟨hh0, gs, d, tk + 1, os⟩ S') (fun fin s' ⟨z', l', i, S'', e, q⟩ => ?_) fun _ _ x => x.elim
  subst e
  exact wpAny_pure (wpAny_pure ⟨z', l', Sm.trans ⟨⟨hh0, tk + 1, rfl⟩, fun _ _ e => e⟩ i, S'', q⟩)
theorem t_store2 {x C : Addr} {name : Str} {tk : Tok} {v : Value} {b : Bool} {Q : Post Fin} (h : T prog w A (ownDictForStores (.ref x)) (fun r z l => ∃ d, r = some d ∧ T prog w A (storeInDict d (.str name tk) name v) Q z l) z l) :
    T prog w A (storeInOwnDict (.ref x) (.ref C) (.str name tk) name v b) Q z l := by
  unfold storeInOwnDict
  refine T.bind (T.pure ?_)
  refine T.bind (T.mono h fun r z' l' _ ⟨d, e, q⟩ => ?_)
  subst e
  exact q
end
end Mine
end
section
open PySem PySem.W PySem.Calls PyProof.Rows
set_option maxRecDepth 100000
set_option maxHeartbeats 8000000
namespace Mine
section
variable {α β : Type} {prog : Program} {w : World} {A : Around} {z : Heap} {l : Led} {s : Shared} {env : Env} {c : Code}
open Builtin Builtin.ObjectAttr
theorem slot_bga : Slot "Exception" "__getattribute__" "BaseException.__getattribute__" := PySem.F.attr_Exception.ga
theorem t_excGet {x C dx : Addr} {kvs : Kvs} {name : Str} {v : Value} {expr : Bool} {T₀ : Value} {Q : Post Value} (hx : (x, ExcP C (some dx) T₀) ∈ l) (hd : (dx, DctP prog w kvs) ∈ l)
    (hga : findIn (Mine.hd.heap_39 w.params) (.ref C) "__getattribute__" = some (some (.builtin "BaseException.__getattribute__"))) (hgn : findIn (Mine.hd.heap_39 w.params) (.ref C) "__getattr__" = some none)
    (hsub : mroIn (Mine.hd.heap_39 w.params) C (.type "BaseException") = some true) (hh : hasDictIn (Mine.hd.heap_39 w.params) C = true) (ha : findIn (Mine.hd.heap_39 w.params) (.ref C) name = some none)
    (hv : (name, v) ∈ kvs) (hhd : handedIn v = true) (h : Q v z l) : T prog w A (getAttr (.ref x) name expr) Q z l := fun s S => by
  obtain ⟨od, hod, D⟩ := S.get hd
  obtain ⟨ox, hox, P⟩ := S.get hx
  have nd := dct_nodup D
  obtain ⟨es, n, rfl, hl, _⟩ := dct_form D
  have X := S.bs.k.keeps S.fz
  obtain ⟨hh0, gs, d, tk, os⟩ := s
  dsimp only at S hox X hod
  have S' : St w z l (⟨hh0, gs, d, tk + 1, os⟩ : Shared).heap := S
  have I := exc_inst hox P hod
  have tyL : Looks (model prog w) hh0 (typeOf (.ref x)) (.ref C) := P.1 ▸ (Looks.ld hox).andThen .now
  have sub : Looks (model prog w) hh0 (isInstance (.ref x) (.type "BaseException")) true := tyL.andThen (looks_mroIn X hsub)
  have L3 : Looks (model prog w) hh0 (find (.ref x) (.ref C) name) (.value v) := looks_find X I (findObj_own hh ha rfl (by rw [lookIn_dict, hl, value_of_mem nd hv]))
  have hx2 : (Value.builtin "BaseException.__getattribute__" == Value.builtin "object.__getattribute__") = false := by decide +kernel
  have hk : builtinKind "BaseException.__getattribute__" = some .slot := by decide +kernel
  have hsplit : splitId "BaseException.__getattribute__" = some ("BaseException", "__getattribute__") := by decide +kernel
  unfold getAttr getAttrBy
  refine wpAny_bind (wpAny_mkText (wpAny_holding (wpAny_bind (tyL.at (wpAny_bind ((looks_findIn X hga).at ?_))))))
  dsimp only
  rw [if_neg (by rw [hx2, Bool.and_false]; exact Bool.false_ne_true)]
  unfold getAttrByItsOwn hookBefore callGetattribute boundAndCalled
  refine wpAny_bind ((looks_findIn X hgn).at ?_)
  refine wpAny_bind (wpAny_attempt (wpAny_holding ?_))
  rw [if_neg (by cases expr <;> exact Bool.false_ne_true)]
  refine wpAny_bind (wpAny_of_eq (slot_bga.bind _) ?_)
  refine wpAny_call (codeAny_call_builtin slot_bga.plain PySem.F.entry_bexc_ga (@check_slot (model prog w) _ _ ⟨hh0, gs, d, tk + 1, os⟩ "BaseException.__getattribute__" "BaseException" "__getattribute__" (.ref x) [.str name tk] [] _ hk hsplit sub (PySem.F.args_bexc_ga (.ref x) (.str name tk)) ?_))
  show wpAny _ A.in1 (Builtin.«object.__getattribute__» ⟨[.ref x, .str name tk], []⟩) _ _ _
  unfold Builtin.«object.__getattribute__»
  refine wpAny_bind (wpAny_pure (wpAny_bind (wpAny_pure (wpAny_bind (tyL.at (wpAny_bind (L3.at ?_)))))))
  refine wpAny_pure ?_
  show wpAny _ _ (handedOut v) _ _ _
  rw [handedOut_of hhd]
  exact wpAny_pure ⟨z, l, ⟨⟨hh0, tk + 1, rfl⟩, fun _ _ e => e⟩, S', h⟩
theorem pf_clsIn : ∃ cd a b, clsIn (Mine.hd.heap_39 w.params) 163 = some cd ∧ cd.mro = [.ref a, .ref b, .type "Exception", .type "BaseException", .type "object"] := by
  obtain ⟨nm, q, N, bs, hdct, sn, sub, ab, col, dd, k0, k1, k2, k3, k5, ho⟩ := pf_obj (w := w)
  exact ⟨_, 163, 134, by unfold clsIn; rw [ho], rfl⟩
theorem t_excSetNew {x : Addr} {name : Str} {v : Value} {g : (Obj → Prop) → Led} {Q : Post Unit} {T₀ : Value} (U : Upd1 x (ExcP 163 none T₀) l g) (hf : findIn (Mine.hd.heap_39 w.params) (.ref 163) name = some none)
    (h : ∀ dx, Q () z ((dx, DctP prog w [(name, v)]) :: g (ExcP 163 (some dx) T₀))) : T prog w A (setAttr (.ref x) name v) Q z l := by
  obtain ⟨cd, a, b, hc, hm⟩ := pf_clsIn (w := w)
  refine osa_exc U.mem hc ⟨a, b, hm⟩ (by k_is) hf fun tk b => t_store2 (t_ownDict0 U (by k_is) fun dx => ⟨dx, rfl, ?_⟩)
  exact t_storeInDict Upd1.head rfl (by simp) ⟨rfl, h dx⟩
theorem t_excSetOld {x dx : Addr} {kvs kvs' : Kvs} {name : Str} {v : Value} {g : (Obj → Prop) → Led} {Q : Post Unit} {T₀ : Value} (hx : (x, ExcP 163 (some dx) T₀) ∈ l) (U : Upd1 dx (DctP prog w kvs) l g) (P : PySem.stored kvs name v = kvs') (hz : kvs.length ≤ 900) (hf : findIn (Mine.hd.heap_39 w.params) (.ref 163) name = some none)
    (h : Q () z (g (DctP prog w kvs'))) : T prog w A (setAttr (.ref x) name v) Q z l := by
  obtain ⟨cd, a, b, hc, hm⟩ := pf_clsIn (w := w)
  exact osa_exc hx hc ⟨a, b, hm⟩ (by k_is) hf fun tk b => t_store2 (t_ownDict hx (by k_is) ⟨dx, rfl, t_storeInDict U P hz ⟨rfl, h⟩⟩)
/-- what is asked of the program around: where its text lies, and that it writes no super of its own -/
structure PrOk (prog : Program) : Prop where
  file : prog.main.file = Mine.view.main.file
  sup : (prog.main.scope.names.lookup ("super" : Str)).isSome = false
theorem n_LS {qual : Str} {scope : Scope} {L f cc : Addr} {cdv : Value} {x : Str} {pos : Pos} {ml : Nms} {v : Value} {Q : Post Value} (hk : scope.kind = .function) (hl : scope.names.lookup x = some .local) (hd : (x == ("__debug__" : Str)) = false)
    (hm : (L, LocP ml) ∈ l) (hv : (x, some v) ∈ ml) (h : Q v z l) : T prog w A (eval (.Name x pos) (ksEnv qual scope L f cdv cc)) Q z l := n_L (env := ksEnv qual scope L f cdv cc) hk hl hd hm hv h
theorem fd_init {x : Addr} {v : Value} {g : (Obj → Prop) → Led} {Q : Post Value} (R : Rm 2 A) (pr : PrOk prog) (U : Upd1 x (ExcP 163 none .none) l g) (h : ∀ dx, Q .none z ((dx, DctP prog w [("what", v)]) :: g (ExcP 163 (some dx) .none))) :
    TC prog w A (.call (.ref 124) ⟨[.ref x, v], []⟩) (fun r z l => match r with | .ok (.ret v) => Q v z l | _ => False) z l := by
  refine tc_defS (ml := [(("self" : Str), some (.ref x)), (("what" : Str), some v)]) (by k_is) (by k_is) R.room (by rfl) (locs rfl) (by wtm_at "M_nd") (by exact ⟨rfl, rfl, trivial⟩) (fun L => ?_) (by decide) (by rfl) (by rfl) (by rfl)
  refine ta_cons (ta_Expr (ta_CallM (ta_super (x := x) List.mem_cons_self (by k_is) (by rfl) (by wtm_at "M_mm") (List.mem_cons_of_mem _ U.mem) (by k_is) (by rfl) (by rw [pr.file]; first | rfl | decide +kernel) (by k_is) (by k_is) (by k_is) (by k_is) (by decide) (by rfl) (by rfl) (by rfl) (by rfl) pr.sup (by first | boot_by_name | rfl | kernel_rfl) fun so => ?_) (by with_unfolding_all rfl)) (by with_unfolding_all rfl) (by with_unfolding_all rfl))
  refine t_supSlot List.mem_cons_self (by exact List.mem_cons_of_mem _ (List.mem_cons_of_mem _ U.mem)) (by k_is) (by ks_is) (by k_is) (by decide) fun q => ?_
  refine t_cwMwr (t_spl1 (n_LS (by rfl) (by rfl) (by decide) (List.mem_cons_of_mem _ (List.mem_cons_of_mem _ List.mem_cons_self)) (by wtm_at "M_mm") (t_spl0 ⟨List.mem_cons_self, ?_⟩)) (by with_unfolding_all rfl)) (by with_unfolding_all rfl) (by with_unfolding_all rfl)
  refine t_callMwr List.mem_cons_self (by exact List.mem_cons_of_mem _ (List.mem_cons_of_mem _ (List.mem_cons_of_mem _ U.mem))) ?_
  refine T.ta ?_
  refine t_cons (t_AssignAttr (n_LS (by rfl) (by rfl) (by decide) (List.mem_cons_of_mem _ (List.mem_cons_of_mem _ List.mem_cons_self)) (by wtm_at "M_mm") (n_LS (by rfl) (by rfl) (by decide) (List.mem_cons_of_mem _ (List.mem_cons_of_mem _ List.mem_cons_self)) (by wtm_at "M_mm") ?_)) (by with_unfolding_all rfl))
  refine t_excSetNew (Upd1.tail (Upd1.tail (Upd1.tail U))) (by k_is) fun dx => ?_
  refine t_seq (t_nil ?_)
  exact ⟨_, by wtm_at "M_sub", h dx⟩
end
end Mine
end
section
open PySem PySem.W PySem.Calls PyProof.Rows
set_option maxRecDepth 100000
set_option maxHeartbeats 8000000
namespace Mine
section
variable {α β : Type} {prog : Program} {w : World} {A : Around} {z : Heap} {l : Led} {s : Shared} {env : Env} {c : Code}
theorem pf_init {x : Addr} {v st : Value} {g : (Obj → Prop) → Led} {Q : Post Value} (R : Rm 3 A) (pr : PrOk prog) (U : Upd1 x (ExcP 163 none .none) l g) (h : ∀ dx, Q .none z ((dx, DctP prog w [("what", v), ("step", st)]) :: g (ExcP 163 (some dx) .none))) :
    TC prog w A (.call (.ref 153) ⟨[.ref x, v, st], []⟩) (fun r z l => match r with | .ok (.ret v) => Q v z l | _ => False) z l := by
  refine tc_defS (ml := [(("self" : Str), some (.ref x)), (("what" : Str), some v), (("step" : Str), some st)]) (by k_is) (by k_is) R.room (by rfl) (locs rfl) (by wtm_at "M_nd") (by exact ⟨rfl, rfl, rfl, trivial⟩) (fun L => ?_) (by decide) (by rfl) (by rfl) (by rfl)
  refine ta_cons (ta_Expr (ta_CallM (ta_super (x := x) List.mem_cons_self (by k_is) (by rfl) (by wtm_at "M_mm") (List.mem_cons_of_mem _ U.mem) (by k_is) (by rfl) (by rw [pr.file]; first | rfl | decide +kernel) (by k_is) (by k_is) (by k_is) (by k_is) (by decide) (by rfl) (by rfl) (by rfl) (by rfl) pr.sup (by first | boot_by_name | rfl | kernel_rfl) fun so => ?_) (by with_unfolding_all rfl)) (by with_unfolding_all rfl) (by with_unfolding_all rfl))
  refine t_supMeth List.mem_cons_self (by exact List.mem_cons_of_mem _ (List.mem_cons_of_mem _ U.mem)) (by k_is) (by ks_is) (by k_is) (by decide) fun q => ?_
  refine t_cwMet (by k_is) (t_spl1 (n_LS (by rfl) (by rfl) (by decide) (List.mem_cons_of_mem _ (List.mem_cons_of_mem _ List.mem_cons_self)) (by wtm_at "M_mm") (t_spl0 ⟨List.mem_cons_self, ?_⟩)) (by with_unfolding_all rfl)) (by with_unfolding_all rfl) (by with_unfolding_all rfl)
  refine t_callMet List.mem_cons_self (fd_init R.deeper pr (Upd1.tail (Upd1.tail (Upd1.tail U))) fun dx => ?_)
  refine T.ta ?_
  refine t_cons (t_AssignAttr (n_LS (by rfl) (by rfl) (by decide) (by wtm_at "M_mm") (by wtm_at "M_mm") (n_LS (by rfl) (by rfl) (by decide) (by wtm_at "M_mm") (by wtm_at "M_mm") ?_)) (by with_unfolding_all rfl))
  refine t_excSetOld (dx := dx) (kvs' := [("what", v), ("step", st)]) (by exact List.mem_cons_of_mem _ (List.mem_cons_of_mem _ (List.mem_cons_of_mem _ (List.mem_cons_of_mem _ (U.has _))))) Upd1.head (by rfl) (by simp) (by k_is) ?_
  refine t_seq (t_nil ?_)
  exact ⟨_, by wtm_at "M_sub", h dx⟩
theorem Rm.underE {k : Nat} {v st : Value} (R : Rm (k + 1) A) : Rm k (A.under (.builtin "type.__call__" ⟨[.ref 163, v, st], []⟩)) := by
  have hd := R.d
  have hu := R.u
  have ew : (Code.builtin "type.__call__" ⟨[.ref 163, v, st], []⟩).weight ≤ 1 := by first | exact Nat.le_of_ble_eq_true rfl | decide | decide +kernel
  have eu : (Code.builtin "type.__call__" ⟨[.ref 163, v, st], []⟩).cUnits ≤ 3 := by first | exact Nat.le_of_ble_eq_true rfl | decide | decide +kernel
  refine ⟨R.hh, ?_, ?_⟩
  · show A.depth + (Code.builtin "type.__call__" ⟨[.ref 163, v, st], []⟩).weight + k < 1000
    omega
  · show A.units + (Code.builtin "type.__call__" ⟨[.ref 163, v, st], []⟩).cUnits + 3 * k + 100 < 9900
    omega
theorem t_fault {v st : Value} {Q : Post Value} (R : Rm 4 A) (pr : PrOk prog) (h : ∀ e dx, Q (.ref e) z ((dx, DctP prog w [("what", v), ("step", st)]) :: (e, ExcP 163 (some dx) .none) :: l)) : T prog w A (call (.ref 163) [v, st]) Q z l :=
  t_makeFault (by rw [sizeLine_eq]; exact Nat.le_of_ble_eq_true rfl) fun e => t_run (pf_init R.underE pr Upd1.head fun dx => ⟨rfl, h e dx⟩)
end
end Mine
end
section
open PySem PySem.W PySem.Calls PyProof.Rows
set_option maxRecDepth 100000
set_option maxHeartbeats 8000000
namespace Mine
section
variable {α β : Type} {prog : Program} {w : World} {A : Around} {z : Heap} {l : Led} {s : Shared} {env : Env} {c : Code}
theorem te_Ret {e : PySem.Expr} {pos : Pos} {Q : Post Flow} {X : Post Value} (h : TE prog w A (eval e env) (fun v => Q (.ret v)) X z l) : TE prog w A (exec (.Return (some e) pos) env) Q X z l :=
  fun s S => wpAny_Return_some (h s S)
theorem T.nestE {t : Sem α} {P : Post α} {R : α → Shared → Prop} {E : Value → Shared → Prop} (h : T prog w A t P z l) (S : St w z l s.heap)
    (k : ∀ a s₁ z₁ l₁, Sm s z s₁ z₁ → St w z₁ l₁ s₁.heap → P a z₁ l₁ → R a s₁) : wpAny (model prog w) A t R E s := noE_noted (h.nest S k)
theorem te_Call {func : PySem.Expr} {args : List PySem.Expr} {pos : Pos} {Q : Post Value} {X : Post Value} (h : T prog w A (eval func env) (fun f => TE prog w A (callWith pos f [] (backTo pos (starEach args env)) []) Q X) z l)
    (he : eval (.Call func args [] pos) env = (do callWith pos (← eval func env) [] (backTo pos (starEach args env)) (backToKw pos (keywordEach [] env))) := by rfl) : TE prog w A (eval (.Call func args [] pos) env) Q X z l :=
  fun s S => Call_ (h.nestE S fun v s₁ z₁ l₁ i₁ S₁ p => TE.up p S₁ i₁) he
theorem te_cwK {pos : Pos} {f : Value} {e : PySem.Expr} {rest : List PySem.Expr} {Q : Post Value} {X : Post Value} (hk : keepIn (Mine.hd.heap_39 w.params) f = true)
    (h : T prog w A (spliced (backTo pos (starEach (e :: rest) env))) (fun vs => TE prog w A (call f vs) Q X) z l)
    (he : starEach (e :: rest) env = (false, eval e env) :: starEach rest env := by rfl) (hplain : (backTo pos (starEach rest env)).any (·.1) = false := by rfl) :
    TE prog w A (callWith pos f [] (backTo pos (starEach (e :: rest) env)) []) Q X z l :=
  fun s S => callWith_K S.bs.k hk (h.nestE S fun v s₁ z₁ l₁ i₁ S₁ p => ⟨S₁.bs.k.keeps S₁.fz, TE.up p S₁ i₁⟩) he hplain
theorem tc_defE {R : Post Result} {name qual : Str} {params : Arguments} {body : List Stmt} {scope : Scope} {dV kV doc pm cdv ct oc : Value} {an od : Option Addr} {osl : Array (Option Value)} {f : Addr} {vals : List Value} {binds : List (Str × Value)} {ml : Nms}
    (ho : (Mine.hd.heap_39 w.params).lookup f = some ⟨oc, od, .func (fnOf name qual params body scope dV kV doc pm an cdv ct), osl⟩) (hcd : codeIn (Mine.hd.heap_39 w.params) cdv qual = true) (hroom : A.depth < recursionLimit)
    (hbind : bindArgs (fnOf name qual params body scope dV kV doc pm an cdv ct) ⟨vals, []⟩ = pure binds)
    (hkind : (binds.all fun y => scope.names.lookup y.1 == some .local || scope.names.lookup y.1 == some .cell) = true) (hml : (ml.map (·.1)).Nodup)
    (hat : AllAt (bindL (fun x => scope.names.lookup x) binds fun _ => none) ml)
    (h : ∀ L, TE prog w (A.deeper (envOfC qual scope L f cdv)) (execs body (envOfC qual scope L f cdv)) (fun fl z' l' => ∃ l'', l''.Sublist l' ∧ R (.ok (.ret (match fl with | .ret v => v | _ => .none))) z' l'')
      (fun v z' l' => T prog w (A.deeper (envOfC qual scope L f cdv)) (leaving (envOfC qual scope L f cdv) v) (fun _ z'' l'' => ∃ l3, l3.Sublist l'' ∧ R (.error v) z'' l3) z' l') z ((L, LocP ml) :: l))
    (hco : scope.isCoroutine = false) (hgen : scope.isGenerator = false) (hk : scope.kind = .function) : TC prog w A (.call (.ref f) ⟨vals, []⟩) R z l := fun s S => by
  obtain ⟨p, lo, me, mg, mb, t⟩ := S.bs.t
  have X := S.bs.k.keeps S.fz
  refine codeAny_call_cells hroom (X _ _ ho) rfl (t.nolimit.keeps S.fz) (codeRec_of X hcd) rfl hbind rfl (kindsX hkind _) (fun s₁ x => ?_) hco hgen hk
  obtain ⟨⟨h₁, tk, rfl⟩, ns, keep, fresh⟩ := id x.toInCall
  obtain ⟨oL, hoL, nL⟩ := LCg.ns_obj ns
  have S₁ : St w z ((s.heap.objs.size, LocP ml) :: l) h₁ := S.newAt keep (Heap.get?_none_of_le (Nat.le_refl _)) ⟨oL, hoL, _, nL, hat.all, hml⟩
  refine wpAny_mono (h _ { s with heap := h₁, toks := tk } S₁) (fun fl s' ⟨z', l', i, S', l'', k, q⟩ => ?_) (fun v s' ⟨z', l', i, S', q⟩ => ?_)
  · exact ⟨z', l'', Sm.trans (Sm.mk' (s := s) (z := z)) i, S'.sub k, q⟩
  · exact q.nestE S' fun _ s₂ z₂ l₂ i₂ S₂ ⟨l3, k, r⟩ => ⟨z₂, l3, (Sm.trans (Sm.mk' (s := s) (z := z)) i).trans i₂, S₂.sub k, r⟩
theorem te_run {f : Value} {vals : List Value} {Q X : Post Value} (h : TC prog w A (.call f ⟨vals, []⟩) (fun r z l => match r with | .ok (.ret v) => Q v z l | .error v => X v z l | _ => False) z l) : TE prog w A (call f vals) Q X z l := fun s S => by
  refine wpAny_call (codeAny_mono (h s S) fun r s' ⟨z', l', i, S', q⟩ => ?_)
  match r, q with
  | .ok (.ret v), q => exact ⟨z', l', i, S', q⟩
  | .error v, q => exact ⟨z', l', i, S', q⟩
/-- raise with a made fault -/
theorem te_Raise {e : PySem.Expr} {pos : Pos} {Q : Post Flow} {X : Post Value} (hh : A.handled = none)
    (h : T prog w A (eval e env) (fun v z l => ∃ a od, v = .ref a ∧ (a, ExcP 163 od .none) ∈ l ∧ X v z l) z l) : TE prog w A (exec (.Raise (some e) none pos) env) Q X z l := fun s S => by
  show wpAny _ A (do standAt pos; raiseStmt env (some (do let v ← eval e env; standAt pos; pure v)) none) _ _ s
  refine wpAny_bind (wpAny_standAt ?_)
  unfold raiseStmt
  dsimp only
  refine wpAny_bind (wpAny_bind (h.nestE S fun v s₁ z₁ l₁ i₁ S₁ p => wpAny_bind (wpAny_standAt (wpAny_pure ?_))))
  obtain ⟨a, od, rfl, hm, hX⟩ := p
  obtain ⟨ox, hox, P⟩ := S₁.get hm
  obtain ⟨p1, p2, vs, p3, p4, p5⟩ := id P
  obtain ⟨nm, qn, N, bs, hdct, sn, sub, ab, col, dd, k0, k1, k2, k3, k5, hC⟩ := pf_obj (w := w)
  have X₁ := S₁.bs.k.keeps S₁.fz
  have hfin : Lft w s z X (.ref a) s₁ := ⟨z₁, l₁, i₁, S₁, hX⟩
  obtain ⟨hh0, gs, d, tk, os⟩ := s₁
  dsimp only at hox X₁
  have tyL : Looks (model prog w) hh0 (typeOf (.ref a)) (.ref 163) := p1 ▸ (Looks.ld hox).andThen .now
  have isB : Looks (model prog w) hh0 (isInstance (.ref a) (.type "BaseException")) true := tyL.andThen (looks_mroIn X₁ (by k_is))
  have tyC : Looks (model prog w) hh0 (typeOf (.ref 163)) (.type "type") := (Looks.ld (X₁ _ _ hC)).andThen .now
  have hnt : ∀ {Q' : Bool → Shared → Prop} {E : Value → Shared → Prop}, Q' false ⟨hh0, gs, d, tk, os⟩ → wpAny (model prog w) A (isType (.ref a)) Q' E ⟨hh0, gs, d, tk, os⟩ := fun hq =>
    ks_wpAny_isType_inst hox (fun c e => by rw [p3] at e; cases e) hq
  refine wpAny_bind (wpAny_pure ?_)
  dsimp only
  refine wpAny_bind (wpAny_holding ?_)
  unfold excFromValue isExcClass
  refine wpAny_bind (wpAny_bind (hnt ?_))
  simp only [Bool.false_eq_true, if_false]
  refine wpAny_pure ?_
  simp only [Bool.false_eq_true, if_false]
  refine wpAny_bind (isB.at ?_)
  simp only [if_true]
  refine wpAny_pure ?_
  refine wpAny_bind (hnt ?_)
  simp only [Bool.false_eq_true, if_false]
  unfold raisedInstance
  refine wpAny_bind (wpAny_bind (tyL.at (wpAny_bind (tyC.at ?_))))
  rw [if_pos (by decide)]
  refine wpAny_pure ?_
  unfold setFlight
  refine wpAny_bind (wpAny_bind (wpAny_field hox p3 p5 ?_))
  rw [if_neg (by decide)]
  exact wpAny_pure (wpAny_raiseNew_none hh hfin)
theorem t_Try {body : List Stmt} {h₀ : ExceptHandler} {hs : List ExceptHandler} {pos : Pos} {Q : Post Flow}
    (h : TE prog w A (execs body env) (fun f z l => match f with | .next => False | f => Q f z l) (fun e z l => T prog w A (noteFrame e env) (fun _ => T prog w A (setFlight e none) (fun _ => T prog w A (handleBy e env (h₀ :: hs)) Q)) z l) z l) :
    T prog w A (exec (.Try body (h₀ :: hs) [] [] pos) env) Q z l := fun s S => by
  refine wpAny_Try_except (wpAny_mono (h s S) (fun f s₁ ⟨z₁, l₁, i₁, S₁, p⟩ => ?_) (fun e s₁ ⟨z₁, l₁, i₁, S₁, p⟩ => ?_))
  · cases f with
    | next => exact p.elim
    | brk => exact ⟨z₁, l₁, i₁, S₁, p⟩
    | cont => exact ⟨z₁, l₁, i₁, S₁, p⟩
    | ret v => exact ⟨z₁, l₁, i₁, S₁, p⟩
  · exact p.nest S₁ fun _ s₂ z₂ l₂ i₂ S₂ p => p.nest S₂ fun _ s₃ z₃ l₃ i₃ S₃ p => T.up p S₃ ((i₁.trans i₂).trans i₃)
theorem t_nameGoes {n : Str} {pos : Pos} {ml : Nms} {g : (Obj → Prop) → Led} {Q : Post Unit} (U : Upd1 env.locals (LocP ml) l g) (hl : env.kindOf n = some .local) (hp : (env.scope.kind == .class || (env.scope.kind == .module && env.locals != env.globals)) = false)
    (h : Q () z (g (LocP []))) : T prog w A (do bindName env n .none; unbindBehindTheSuite env n pos) Q z l := fun s S => by
  obtain ⟨o, ho, W⟩ := S.get U.mem
  obtain ⟨m, hn, k, nd⟩ := W.ns ho
  refine wpAny_nameGoes hl hn hp fun h' m' hn' hs => ?_
  obtain ⟨o', ho', no'⟩ := LCg.ns_obj hn'
  exact ⟨z, _, ⟨⟨h', _, rfl⟩, fun _ _ e => e⟩, S.upd U (fun b o hb e => (hs.2 b hb).trans e) ⟨o', ho', m', no', fun p hp => (nomatch hp), List.nodup_nil⟩, h⟩
theorem t_handle {e : Addr} {t : PySem.Expr} {n : Str} {b₀ : Stmt} {suite : List Stmt} {pos : Pos} {rest : List ExceptHandler} {Q : Post Flow} {od : Option Addr} {T₀ : Value}
    (h : T prog w (A.mark (some (.ref e))) (eval t env) (fun c z l => c = .ref 163 ∧ (e, ExcP 163 od T₀) ∈ l ∧
      T prog w (A.mark (some (.ref e))) (setFlight (.ref e) none) (fun _ => T prog w (A.mark (some (.ref e))) (storeName env n (.ref e)) (fun _ => T prog w (A.mark (some (.ref e))) (execs (b₀ :: suite) env)
        (fun f => T prog w A (do bindName env n .none; unbindBehindTheSuite env n pos) (fun _ => Q f)))) z l) z l) :
    T prog w A (handleBy (.ref e) env (.ExceptHandler (some t) (some n) (b₀ :: suite) pos :: rest)) Q z l := fun s S => by
  refine wpAny_handleBy_cons (codeAny_handlers_test (h.nestE S fun c s₁ z₁ l₁ i₁ S₁ p => ?_)) (by intro q; cases q)
  obtain ⟨rfl, hm, hk⟩ := p
  obtain ⟨ox, hox, P⟩ := S₁.get hm
  obtain ⟨nm, qn, N, bs, hdct, sn, sub, ab, col, dd, k0, k1, k2, k3, k5, hC⟩ := pf_obj (w := w)
  have X₁ := S₁.bs.k.keeps S₁.fz
  obtain ⟨hh0, gs, d, tk, os⟩ := s₁
  dsimp only at hox X₁
  refine wpAny_excMatches_sub_self (X₁ _ _ hC) hox P.1 (by decide) ?_
  refine codeAny_handlers_suite_as (hk.nestE S₁ fun _ s₂ z₂ l₂ i₂ S₂ p => p.nestE S₂ fun _ s₃ z₃ l₃ i₃ S₃ p => p.nestE S₃ fun f s₄ z₄ l₄ i₄ S₄ p => ?_)
  exact p.nest S₄ fun _ s₅ z₅ l₅ i₅ S₅ q => ⟨z₅, l₅, (((i₁.trans i₂).trans i₃).trans i₄).trans i₅, S₅, q⟩
end
end Mine
end
section
open PySem PySem.W PySem.Calls PyProof.Rows
set_option maxRecDepth 100000
set_option maxHeartbeats 8000000
namespace Mine
section
variable {α β : Type} {prog : Program} {w : World} {A : Around} {z : Heap} {l : Led} {s : Shared} {env : Env}
theorem mem_skip {p : Addr × (Obj → Prop)} {l : Led} : ∀ (pre : Led) {q : Addr × (Obj → Prop)}, q ∈ l → q ∈ pre ++ l := fun pre _ h => List.mem_append_right _ h
theorem spot_call {o : Sto} {F Ds : List Dom} {rows : List Ent} {marks : List Nat} {x k : Int} {sg : Str} {b : Addr} {F0 : Dom} {Q X : Post Value} {outer : List Env}
    (R : Rm 7 A) (pr : PrOk prog) (hfr : A.frames = some outer) (Fr : FrmL outer l) (ok : StoOk z o F Ds rows marks) (hl : LitAt z b x sg k) (hx : x = 0 ∨ x = 1) (hF : F[x.toNat]? = some F0) (hF0 : F0.length ≤ 100)
    (hR : ∀ e ∈ rows, e.old.length ≤ 100 ∧ (struckL e.sg e.k e.old).length ≤ 100) (hr : rows.length ≤ 1000)
    (h1 : ∀ z' i t, z.StaysIn z' → spotP F0 rows x sg k = some i → Q (.int i t) z' (o.led prog w ++ l))
    (h2 : ∀ z' e dx T' tv ts, z.StaysIn z' → spotP F0 rows x sg k = none → X (.ref e) z' ((T', TbP .none) :: (dx, DctP prog w [("what", .str "a reason does not hold" tv), ("step", .int (-1) ts)]) :: (e, ExcP 163 (some dx) (.ref T')) :: (o.led prog w ++ l))) :
    TE prog w A (call (.ref 172) [.ref o.X, .ref b]) Q X z (o.led prog w ++ l) := by
  refine te_run (tc_defE (ml := [(("store" : Str), some (.ref o.X)), (("literal" : Str), some (.ref b)), (("x" : Str), none), (("spot" : Str), none), (("entry" : Str), none)]) (by k_is) (by k_is) R.room (by rfl) (by rfl) (by wtm_at "M_nd") (by exact ⟨rfl, rfl, rfl, rfl, rfl, trivial⟩) (fun L => ?_) (by rfl) (by rfl) (by rfl))
  refine spot_te (by k_is) (fun env => R.deeper) ok hl hx hF hF0 hR hr (fun z' i t l' i1 e k => ?_) (fun z' tx sp en i1 e => ?_)
  · exact ⟨_, k, h1 z' i t i1 e⟩
  · refine te_cons (te_Raise R.hh ?_)
    wtm_at "M_go"
    rename_i tv _ ts
    refine t_fault (R.deeper.le (by decide)) pr fun e' dx => ⟨e', some dx, rfl, by wtm_at "M_mm", ?_⟩
    refine t_leaveFirst (outer := outer) (Around.frames_deeper hfr) ⟨by show ScopeKind.function ≠ ScopeKind.module; decide, ⟨L, _, rfl, List.mem_cons_of_mem _ (List.mem_cons_of_mem _ List.mem_cons_self)⟩, Fr.mono fun p hp => ?_⟩ rfl (Upd1.tail Upd1.head) (fun P => List.mem_cons_of_mem _ List.mem_cons_self) fun T' => ?_
    · exact List.mem_cons_of_mem _ (List.mem_cons_of_mem _ (List.mem_cons_of_mem _ (List.mem_append_right _ hp)))
    · exact ⟨_, by wtm_at "M_sub", h2 z' e' dx T' tv ts i1 e⟩
end
end Mine
end
section
open PySem PySem.W PySem.Calls PyProof.Rows
set_option maxRecDepth 100000
set_option maxHeartbeats 8000000
namespace Mine
section
variable {α β : Type} {prog : Program} {w : World} {A : Around} {z : Heap} {l : Led} {s : Shared} {env : Env}
theorem told_ok (pr : PrOk prog) : ToldStmt prog w := by
  intro A z l o F Ds rows marks x k sg b F0 Q R Fr ok hl hx hF hF0 hR hr h
  obtain ⟨outer, hfr, Fr⟩ := Fr
  refine t_def [(("store" : Str), some (.ref o.X)), (("literal" : Str), some (.ref b)), (("fault" : Str), none)] (fun L => []) (by k_is) (by k_is) R.room (by rfl) (by rfl) (by decide) (by wtm_at "M_nd") (by exact ⟨rfl, rfl, rfl, trivial⟩) (fun L => by rfl) (fun L => ?_) (by rfl) (by rfl) (by rfl)
  have hh := R.hh
  have R : ∀ env, Rm 7 (A.deeper env) := fun _ => R.deeper
  simp only [List.nil_append]
  refine t_cons (t_Try (te_cons (te_Ret (te_Call ?_ (by with_unfolding_all rfl)))))
  wtm_at "M_ss"
  refine te_cwK (by k_is) ?_ (by with_unfolding_all rfl) (by with_unfolding_all rfl)
  wtm_at "M_go"
  refine TE.perm (l' := o.led prog w ++ ((L, LocP [(("store" : Str), some (.ref o.X)), (("literal" : Str), some (.ref b)), (("fault" : Str), none)]) :: l)) List.perm_middle.symm ?_
  refine spot_call (outer := _ :: outer) (R _) pr (Around.frames_deeper hfr) ⟨by show ScopeKind.function ≠ ScopeKind.module; decide, ⟨L, _, rfl, List.mem_cons_self⟩, Fr.mono fun p hp => List.mem_cons_of_mem _ hp⟩ ok hl hx hF hF0 hR hr (fun z' i t i1 e => ?_) (fun z' e dx T' tv ts i1 hn => ?_)
  · refine te_seqR ?_
    refine t_seqR ?_
    exact RetQ.ret (l' := o.led prog w ++ l) (List.Sublist.append_left (List.sublist_cons_self _ _) _) (h z' _ i1 (by rw [e]; exact ⟨t, rfl⟩))
  · refine T.perm (l' := (T', TbP .none) :: (dx, DctP prog w [("what", .str "a reason does not hold" tv), ("step", .int (-1) ts)]) :: (e, ExcP 163 (some dx) (.ref T')) :: (L, LocP [(("store" : Str), some (.ref o.X)), (("literal" : Str), some (.ref b)), (("fault" : Str), none)]) :: (o.led prog w ++ l))
      (.cons _ (.cons _ (.cons _ List.perm_middle))) ?_
    refine t_noteNext (outer := outer) (Around.frames_deeper hfr) ⟨by show ScopeKind.function ≠ ScopeKind.module; decide, ⟨L, _, rfl, List.mem_cons_of_mem _ (List.mem_cons_of_mem _ (List.mem_cons_of_mem _ List.mem_cons_self))⟩, Fr.mono fun p hp => List.mem_cons_of_mem _ (List.mem_cons_of_mem _ (List.mem_cons_of_mem _ (List.mem_cons_of_mem _ (List.mem_append_right _ hp))))⟩ rfl
      (List.mem_cons_of_mem _ (List.mem_cons_of_mem _ List.mem_cons_self)) Upd1.head (Upd1.tail (Upd1.tail Upd1.head)) fun T2 => ?_
    refine t_flightNone (e := e) (by wtm_at "M_mm") Upd1.head ?_
    refine t_handle (od := some dx) (T₀ := .ref T2) ?_
    wtm_at "M_ss"
    refine ⟨rfl, by wtm_at "M_mm", ?_⟩
    refine t_flightNone (e := e) (by wtm_at "M_mm") Upd1.head ?_
    wtm_at "M_go"
    refine t_excGet (dx := dx) (by wtm_at "M_mm") (by wtm_at "M_mm") (by k_is) (by k_is) (by k_is) (by k_is) (by k_is) (by wtm_at "M_mm") (by rfl) ?_
    wtm_at "M_go"
    refine br_i (fun _ => ?_) (fun q => absurd rfl q)
    wtm_at "M_go"
    refine t_nameGoes (Upd1.tail (Upd1.tail (Upd1.tail (Upd1.tail Upd1.head)))) (by rfl) (by rfl) ?_
    wtm_at "M_go"
    exact RetQ.ret (l' := o.led prog w ++ l) (by wtm_at "M_sub") (h z' _ i1 (by rw [hn]; exact ⟨_, rfl⟩))
end
end Mine
end
section
open PySem PySem.W PySem.Calls PyProof.Rows
set_option maxRecDepth 100000
set_option maxHeartbeats 8000000
namespace Mine
theorem rm_caller (env : Env) : Rm 9 (callerA.deeper env) := ⟨rfl, by show callerA.depth + 1 + 9 < 1000; decide, by show callerA.units + 3 + 3 * 9 + 100 < 9900; decide⟩
theorem law_entry {prog : Program} {w : World} (told : ToldStmt prog w) {p : Program} {loose : List Str} {mean : ExcName → Option Value} {mg mb : Str → Option Value} {hp : Heap} {m : Str → Option Value} {f : Addr} {cdv' : Value} {a : Addr} {svs : List Value} {ns : List Int} {qc : Obj} {s : Shared}
    {name qual : Str} {params : Arguments} {body : List Stmt} {scope : Scope} {dV kV doc pm cdv ct oc : Value} {an od : Option Addr} {osl : Array (Option Value)} {Q : Flow → Shared → Prop} {E : Value → Shared → Prop}
    (ho : (Mine.hd.heap_39 w.params).lookup 384 = some ⟨oc, od, .func (fnOf name qual params body scope dV kV doc pm an cdv ct), osl⟩)
    (KX : (Mine.hd.heap_39 w.params).In hp) (TP : Top p loose mean mg mb hp) (F : Fr hp hp.objs.size s.heap m)
    (hm : AllAt m [(("script" : Str), some (.ref a)), (("store" : Str), none), (("world" : Str), none), (("x" : Str), none), (("lot" : Str), none), (("lap" : Str), none), (("signs" : Str), none)])
    (hN : s.heap.get? (hp.objs.size + 1) = some qc) (hq : qc.data = .cell none) (hl : hp.IsList a svs.toArray) (hI : IntsAre svs ns) (hn : ns.length ≤ 100)
    (q : ∀ h' tk, hp.StaysIn h' → Q (.ret (.bool true)) { s with heap := h', toks := tk }) :
    wpAny (model prog w) (callerA.deeper (envOfC qual scope hp.objs.size f cdv')) (execs body (envOfC qual scope hp.objs.size f cdv')) Q E s := by
  obtain ⟨oL, hoL, nL⟩ := LCg.ns_obj F.ns
  have off : ∀ b, hp.objs.size ≤ b → hp.get? b = none := fun b hb => Heap.get?_none_of_le hb
  have S : St w hp ((hp.objs.size, LocP [(("script" : Str), some (.ref a)), (("store" : Str), none), (("world" : Str), none), (("x" : Str), none), (("lot" : Str), none), (("lap" : Str), none), (("signs" : Str), none)]) :: (hp.objs.size + 1, CelP none) :: []) s.heap := by
    refine ⟨⟨KX, _, _, _, _, _, TP⟩, F.keep, ?_, ?_, ?_⟩
    · intro p hp'
      rcases List.mem_cons.mp hp' with rfl | hp'
      · exact ⟨oL, hoL, m, nL, hm.all, by wtm_at "M_nd"⟩
      · simp only [List.mem_singleton] at hp'
        subst hp'
        exact ⟨qc, hN, hq⟩
    · intro p hp'
      rcases List.mem_cons.mp hp' with rfl | hp'
      · exact off _ (Nat.le_refl _)
      · simp only [List.mem_singleton] at hp'
        subst hp'
        exact off _ (Nat.le_succ _)
    · show [hp.objs.size, hp.objs.size + 1].Nodup
      simp
  refine noE_noted (T.nest (law_core told ho (A := callerA) rm_caller (by rfl) hl hI hn (Q := fun fl z' _ => fl = .ret (.bool true)) (fun _ _ _ => rfl)) S fun fl s₁ z₁ l₁ i S₁ e => ?_)
  subst e
  obtain ⟨⟨h', tk, rfl⟩, j⟩ := i
  exact q h' tk fun b o e => S₁.fz b o (j b o e)
theorem ent : PySem.Challenge.rw_nz0017_01.Holds := Mine.hd_walk (by
  k_go0
  refine law_entry (told_ok ⟨by rfl, by rfl⟩) (by k_is) (by assumption) (by assumption) (by assumption) ?_ (by exact (by assumption : News _ _ _ _) _ List.mem_cons_self |>.1) ?_ (by assumption) (by assumption) ?_ ?_
  · exact ⟨rfl, rfl, rfl, rfl, rfl, rfl, rfl, trivial⟩
  · assumption
  · omega
  · intro h' tk i
    exact ⟨.inl ⟨.bool true, .bool true, [], rfl, fun _ => rfl, .bool _, (by first | exact beq_self_eq_true _ | wrow_post | kernel_rfl), fun _ => ⟨List.nodup_nil, by simp⟩⟩, fun b o e => i b o e, rfl, by assumption⟩)
end Mine
end
set_option maxRecDepth 100000 in
set_option maxHeartbeats 8000000 in
theorem PySem.Challenge.cw_nz0017_01_holds : PySem.Challenge.rw_nz0017_01.Holds := by
  exact Mine.ent
