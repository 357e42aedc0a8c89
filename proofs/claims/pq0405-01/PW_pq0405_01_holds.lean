import PyProof.Rows.All
import Wide.All
import OpenK.AllK
import Wide.FinOn
import PySem.Challenge.RW_pq0405_01
set_option Elab.async false
set_option maxRecDepth 100000
set_option maxHeartbeats 8000000
section
open PySem PySem.W PyProof.Rows
namespace Mine
noncomputable def nth : List Stmt → Nat → Stmt
  | [], _ => .Pass ⟨0, 0, 0, 0⟩
  | s :: _, 0 => s
  | _ :: l, n + 1 => nth l n
noncomputable def clsBody : Stmt → List Stmt
  | .ClassDef _ _ _ body _ _ _ _ _ _ _ => body
  | _ => []
noncomputable def fnO (st : Stmt) (q : Str) (pm : Value) (cd : Addr) : Obj := match st with
  | .FunctionDef n args body _ _ _ scope _ _ _ => ⟨.type "function", none, .func (fnOf n q args body scope .none .none .none pm none (.ref cd) .none), #[]⟩
  | _ => default
noncomputable def hd.st0 : Stmt := PSigma.fst (β := fun s => nth PySem.Challenge.pw_pq0405_01.main.body 0 = s) (by refine ⟨?a, ?b⟩; (case b => conv => lhs; whnf))
noncomputable def hd.st2 : Stmt := PSigma.fst (β := fun s => nth PySem.Challenge.pw_pq0405_01.main.body 2 = s) (by refine ⟨?a, ?b⟩; (case b => conv => lhs; whnf))
noncomputable def hd.st3 : Stmt := PSigma.fst (β := fun s => nth PySem.Challenge.pw_pq0405_01.main.body 3 = s) (by refine ⟨?a, ?b⟩; (case b => conv => lhs; whnf))
noncomputable def hd.st5 : Stmt := PSigma.fst (β := fun s => nth PySem.Challenge.pw_pq0405_01.main.body 5 = s) (by refine ⟨?a, ?b⟩; (case b => conv => lhs; whnf))
noncomputable def hd.st6 : Stmt := PSigma.fst (β := fun s => nth PySem.Challenge.pw_pq0405_01.main.body 6 = s) (by refine ⟨?a, ?b⟩; (case b => conv => lhs; whnf))
noncomputable def hd.st7 : Stmt := PSigma.fst (β := fun s => nth PySem.Challenge.pw_pq0405_01.main.body 7 = s) (by refine ⟨?a, ?b⟩; (case b => conv => lhs; whnf))
noncomputable def hd.st8 : Stmt := PSigma.fst (β := fun s => nth PySem.Challenge.pw_pq0405_01.main.body 8 = s) (by refine ⟨?a, ?b⟩; (case b => conv => lhs; whnf))
noncomputable def hd.st9 : Stmt := PSigma.fst (β := fun s => nth PySem.Challenge.pw_pq0405_01.main.body 9 = s) (by refine ⟨?a, ?b⟩; (case b => conv => lhs; whnf))
noncomputable def hd.st10 : Stmt := PSigma.fst (β := fun s => nth PySem.Challenge.pw_pq0405_01.main.body 10 = s) (by refine ⟨?a, ?b⟩; (case b => conv => lhs; whnf))
noncomputable def hd.st11 : Stmt := PSigma.fst (β := fun s => nth PySem.Challenge.pw_pq0405_01.main.body 11 = s) (by refine ⟨?a, ?b⟩; (case b => conv => lhs; whnf))
noncomputable def hd.st12 : Stmt := PSigma.fst (β := fun s => nth PySem.Challenge.pw_pq0405_01.main.body 12 = s) (by refine ⟨?a, ?b⟩; (case b => conv => lhs; whnf))
noncomputable def hd.st13 : Stmt := PSigma.fst (β := fun s => nth PySem.Challenge.pw_pq0405_01.main.body 13 = s) (by refine ⟨?a, ?b⟩; (case b => conv => lhs; whnf))
noncomputable def hd.st14 : Stmt := PSigma.fst (β := fun s => nth PySem.Challenge.pw_pq0405_01.main.body 14 = s) (by refine ⟨?a, ?b⟩; (case b => conv => lhs; whnf))
noncomputable def hd.st15 : Stmt := PSigma.fst (β := fun s => nth PySem.Challenge.pw_pq0405_01.main.body 15 = s) (by refine ⟨?a, ?b⟩; (case b => conv => lhs; whnf))
noncomputable def hd.st16 : Stmt := PSigma.fst (β := fun s => nth PySem.Challenge.pw_pq0405_01.main.body 16 = s) (by refine ⟨?a, ?b⟩; (case b => conv => lhs; whnf))
noncomputable def hd.st17 : Stmt := PSigma.fst (β := fun s => nth PySem.Challenge.pw_pq0405_01.main.body 17 = s) (by refine ⟨?a, ?b⟩; (case b => conv => lhs; whnf))
noncomputable def hd.st19 : Stmt := PSigma.fst (β := fun s => nth PySem.Challenge.pw_pq0405_01.main.body 19 = s) (by refine ⟨?a, ?b⟩; (case b => conv => lhs; whnf))
noncomputable def hd.st20 : Stmt := PSigma.fst (β := fun s => nth PySem.Challenge.pw_pq0405_01.main.body 20 = s) (by refine ⟨?a, ?b⟩; (case b => conv => lhs; whnf))
noncomputable def hd.st21 : Stmt := PSigma.fst (β := fun s => nth PySem.Challenge.pw_pq0405_01.main.body 21 = s) (by refine ⟨?a, ?b⟩; (case b => conv => lhs; whnf))
noncomputable def hd.st22 : Stmt := PSigma.fst (β := fun s => nth PySem.Challenge.pw_pq0405_01.main.body 22 = s) (by refine ⟨?a, ?b⟩; (case b => conv => lhs; whnf))
noncomputable def hd.st24 : Stmt := PSigma.fst (β := fun s => nth PySem.Challenge.pw_pq0405_01.main.body 24 = s) (by refine ⟨?a, ?b⟩; (case b => conv => lhs; whnf))
noncomputable def hd.st25 : Stmt := PSigma.fst (β := fun s => nth PySem.Challenge.pw_pq0405_01.main.body 25 = s) (by refine ⟨?a, ?b⟩; (case b => conv => lhs; whnf))
noncomputable def hd.st26 : Stmt := PSigma.fst (β := fun s => nth PySem.Challenge.pw_pq0405_01.main.body 26 = s) (by refine ⟨?a, ?b⟩; (case b => conv => lhs; whnf))
noncomputable def hd.st28 : Stmt := PSigma.fst (β := fun s => nth PySem.Challenge.pw_pq0405_01.main.body 28 = s) (by refine ⟨?a, ?b⟩; (case b => conv => lhs; whnf))
noncomputable def hd.st30 : Stmt := PSigma.fst (β := fun s => nth PySem.Challenge.pw_pq0405_01.main.body 30 = s) (by refine ⟨?a, ?b⟩; (case b => conv => lhs; whnf))
noncomputable def hd.st31 : Stmt := PSigma.fst (β := fun s => nth PySem.Challenge.pw_pq0405_01.main.body 31 = s) (by refine ⟨?a, ?b⟩; (case b => conv => lhs; whnf))
noncomputable def hd.st32 : Stmt := PSigma.fst (β := fun s => nth PySem.Challenge.pw_pq0405_01.main.body 32 = s) (by refine ⟨?a, ?b⟩; (case b => conv => lhs; whnf))
noncomputable def hd.st33 : Stmt := PSigma.fst (β := fun s => nth PySem.Challenge.pw_pq0405_01.main.body 33 = s) (by refine ⟨?a, ?b⟩; (case b => conv => lhs; whnf))
noncomputable def hd.st34 : Stmt := PSigma.fst (β := fun s => nth PySem.Challenge.pw_pq0405_01.main.body 34 = s) (by refine ⟨?a, ?b⟩; (case b => conv => lhs; whnf))
noncomputable def hd.st35 : Stmt := PSigma.fst (β := fun s => nth PySem.Challenge.pw_pq0405_01.main.body 35 = s) (by refine ⟨?a, ?b⟩; (case b => conv => lhs; whnf))
noncomputable def hd.st36 : Stmt := PSigma.fst (β := fun s => nth PySem.Challenge.pw_pq0405_01.main.body 36 = s) (by refine ⟨?a, ?b⟩; (case b => conv => lhs; whnf))
noncomputable def hd.st37 : Stmt := PSigma.fst (β := fun s => nth PySem.Challenge.pw_pq0405_01.main.body 37 = s) (by refine ⟨?a, ?b⟩; (case b => conv => lhs; whnf))
noncomputable def hd.st38 : Stmt := PSigma.fst (β := fun s => nth PySem.Challenge.pw_pq0405_01.main.body 38 = s) (by refine ⟨?a, ?b⟩; (case b => conv => lhs; whnf))
noncomputable def hd.st39 : Stmt := PSigma.fst (β := fun s => nth PySem.Challenge.pw_pq0405_01.main.body 39 = s) (by refine ⟨?a, ?b⟩; (case b => conv => lhs; whnf))
noncomputable def hd.st2_0 : Stmt := PSigma.fst (β := fun s => nth (clsBody hd.st2) 0 = s) (by refine ⟨?a, ?b⟩; (case b => conv => lhs; whnf))
noncomputable def hd.st19_0 : Stmt := PSigma.fst (β := fun s => nth (clsBody hd.st19) 0 = s) (by refine ⟨?a, ?b⟩; (case b => conv => lhs; whnf))
noncomputable def hd.st24_0 : Stmt := PSigma.fst (β := fun s => nth (clsBody hd.st24) 0 = s) (by refine ⟨?a, ?b⟩; (case b => conv => lhs; whnf))
noncomputable def hd.st28_0 : Stmt := PSigma.fst (β := fun s => nth (clsBody hd.st28) 0 = s) (by refine ⟨?a, ?b⟩; (case b => conv => lhs; whnf))
noncomputable def hd.st28_1 : Stmt := PSigma.fst (β := fun s => nth (clsBody hd.st28) 1 = s) (by refine ⟨?a, ?b⟩; (case b => conv => lhs; whnf))
noncomputable def hd.st28_2 : Stmt := PSigma.fst (β := fun s => nth (clsBody hd.st28) 2 = s) (by refine ⟨?a, ?b⟩; (case b => conv => lhs; whnf))
noncomputable def hd.st28_3 : Stmt := PSigma.fst (β := fun s => nth (clsBody hd.st28) 3 = s) (by refine ⟨?a, ?b⟩; (case b => conv => lhs; whnf))
noncomputable def hd.st28_4 : Stmt := PSigma.fst (β := fun s => nth (clsBody hd.st28) 4 = s) (by refine ⟨?a, ?b⟩; (case b => conv => lhs; whnf))
noncomputable def hd.st28_5 : Stmt := PSigma.fst (β := fun s => nth (clsBody hd.st28) 5 = s) (by refine ⟨?a, ?b⟩; (case b => conv => lhs; whnf))
noncomputable def hd.st28_6 : Stmt := PSigma.fst (β := fun s => nth (clsBody hd.st28) 6 = s) (by refine ⟨?a, ?b⟩; (case b => conv => lhs; whnf))
noncomputable def hd.st28_7 : Stmt := PSigma.fst (β := fun s => nth (clsBody hd.st28) 7 = s) (by refine ⟨?a, ?b⟩; (case b => conv => lhs; whnf))
noncomputable def hd.st28_8 : Stmt := PSigma.fst (β := fun s => nth (clsBody hd.st28) 8 = s) (by refine ⟨?a, ?b⟩; (case b => conv => lhs; whnf))
noncomputable def hd.st28_9 : Stmt := PSigma.fst (β := fun s => nth (clsBody hd.st28) 9 = s) (by refine ⟨?a, ?b⟩; (case b => conv => lhs; whnf))
noncomputable def hd.st28_10 : Stmt := PSigma.fst (β := fun s => nth (clsBody hd.st28) 10 = s) (by refine ⟨?a, ?b⟩; (case b => conv => lhs; whnf))
noncomputable def hd.st28_11 : Stmt := PSigma.fst (β := fun s => nth (clsBody hd.st28) 11 = s) (by refine ⟨?a, ?b⟩; (case b => conv => lhs; whnf))
noncomputable def hd.st28_12 : Stmt := PSigma.fst (β := fun s => nth (clsBody hd.st28) 12 = s) (by refine ⟨?a, ?b⟩; (case b => conv => lhs; whnf))
noncomputable def hd.st28_13 : Stmt := PSigma.fst (β := fun s => nth (clsBody hd.st28) 13 = s) (by refine ⟨?a, ?b⟩; (case b => conv => lhs; whnf))
noncomputable def hd.st28_14 : Stmt := PSigma.fst (β := fun s => nth (clsBody hd.st28) 14 = s) (by refine ⟨?a, ?b⟩; (case b => conv => lhs; whnf))
noncomputable def hd.st28_15 : Stmt := PSigma.fst (β := fun s => nth (clsBody hd.st28) 15 = s) (by refine ⟨?a, ?b⟩; (case b => conv => lhs; whnf))
noncomputable def hd.st28_16 : Stmt := PSigma.fst (β := fun s => nth (clsBody hd.st28) 16 = s) (by refine ⟨?a, ?b⟩; (case b => conv => lhs; whnf))
noncomputable def hd.st28_17 : Stmt := PSigma.fst (β := fun s => nth (clsBody hd.st28) 17 = s) (by refine ⟨?a, ?b⟩; (case b => conv => lhs; whnf))
noncomputable def hd.st28_18 : Stmt := PSigma.fst (β := fun s => nth (clsBody hd.st28) 18 = s) (by refine ⟨?a, ?b⟩; (case b => conv => lhs; whnf))
noncomputable def hd.st28_19 : Stmt := PSigma.fst (β := fun s => nth (clsBody hd.st28) 19 = s) (by refine ⟨?a, ?b⟩; (case b => conv => lhs; whnf))
noncomputable def hd.st28_20 : Stmt := PSigma.fst (β := fun s => nth (clsBody hd.st28) 20 = s) (by refine ⟨?a, ?b⟩; (case b => conv => lhs; whnf))
noncomputable def hd.st28_21 : Stmt := PSigma.fst (β := fun s => nth (clsBody hd.st28) 21 = s) (by refine ⟨?a, ?b⟩; (case b => conv => lhs; whnf))
noncomputable def hd.st28_22 : Stmt := PSigma.fst (β := fun s => nth (clsBody hd.st28) 22 = s) (by refine ⟨?a, ?b⟩; (case b => conv => lhs; whnf))
noncomputable def hd.st28_23 : Stmt := PSigma.fst (β := fun s => nth (clsBody hd.st28) 23 = s) (by refine ⟨?a, ?b⟩; (case b => conv => lhs; whnf))
noncomputable def hd.st28_24 : Stmt := PSigma.fst (β := fun s => nth (clsBody hd.st28) 24 = s) (by refine ⟨?a, ?b⟩; (case b => conv => lhs; whnf))
noncomputable def hd.st28_25 : Stmt := PSigma.fst (β := fun s => nth (clsBody hd.st28) 25 = s) (by refine ⟨?a, ?b⟩; (case b => conv => lhs; whnf))
noncomputable def hd.st28_26 : Stmt := PSigma.fst (β := fun s => nth (clsBody hd.st28) 26 = s) (by refine ⟨?a, ?b⟩; (case b => conv => lhs; whnf))
noncomputable def hd.st28_27 : Stmt := PSigma.fst (β := fun s => nth (clsBody hd.st28) 27 = s) (by refine ⟨?a, ?b⟩; (case b => conv => lhs; whnf))
noncomputable def hd.st28_28 : Stmt := PSigma.fst (β := fun s => nth (clsBody hd.st28) 28 = s) (by refine ⟨?a, ?b⟩; (case b => conv => lhs; whnf))
noncomputable def hd.st28_29 : Stmt := PSigma.fst (β := fun s => nth (clsBody hd.st28) 29 = s) (by refine ⟨?a, ?b⟩; (case b => conv => lhs; whnf))
noncomputable def hd.st28_30 : Stmt := PSigma.fst (β := fun s => nth (clsBody hd.st28) 30 = s) (by refine ⟨?a, ?b⟩; (case b => conv => lhs; whnf))
noncomputable def hd.view_39 : Program := { PySem.Challenge.pw_pq0405_01 with main := { PySem.Challenge.pw_pq0405_01.main with body := [hd.st0, hd.st2, hd.st3, hd.st5, hd.st6, hd.st7, hd.st8, hd.st9, hd.st10, hd.st11, hd.st12, hd.st13, hd.st14, hd.st15, hd.st16, hd.st17, hd.st19, hd.st20, hd.st21, hd.st22, hd.st24, hd.st25, hd.st26, hd.st28, hd.st30, hd.st31, hd.st32, hd.st33, hd.st34, hd.st35, hd.st36, hd.st37, hd.st38, hd.st39] } }
noncomputable def hd.heap_39 : Params → Frag := fun P =>
  (nat_lit 2, { cls := Value.none,   data :=     Data.dict       #[{ hash := PyData.keyHash P (Str.ofString "type.__subclasses__.Exception.0"),           key := Value.str (Str.ofString "type.__subclasses__.Exception.0") 221, val := Value.int 38 0 },         { hash := PyData.keyHash P (Str.ofString "type.__subclasses__.Exception.n"),           key := Value.str (Str.ofString "type.__subclasses__.Exception.n") 222, val := Value.int 1 0 }]       2 }) ::
  (nat_lit 3, { cls := Value.type "dict",   data :=     Data.dict       #[{ hash := PyData.keyHash P (Str.ofString "__name__"), key := Value.str (Str.ofString "__name__") 165,           val := Value.str (Str.ofString "law_pq0405_01") 710 },         { hash := PyData.keyHash P (Str.ofString "__doc__"), key := Value.str (Str.ofString "__doc__") 166,           val := Value.none },         { hash := PyData.keyHash P (Str.ofString "__package__"), key := Value.str (Str.ofString "__package__") 167,           val := Value.none },         { hash := PyData.keyHash P (Str.ofString "__loader__"), key := Value.str (Str.ofString "__loader__") 168,           val := Value.builtin "__main__.__loader__#opaque" },         { hash := PyData.keyHash P (Str.ofString "__spec__"), key := Value.str (Str.ofString "__spec__") 169,           val := Value.none },         { hash := PyData.keyHash P (Str.ofString "__annotations__"),           key := Value.str (Str.ofString "__annotations__") 170, val := Value.ref 6 },         { hash := PyData.keyHash P (Str.ofString "__builtins__"), key := Value.str (Str.ofString "__builtins__") 171,           val := Value.ref 4 },         { hash := PyData.keyHash P (Str.ofString "__file__"), key := Value.str (Str.ofString "__file__") 173,           val := Value.str (Str.ofString "/claim/cut.py") 172 },         { hash := PyData.keyHash P (Str.ofString "__cached__"), key := Value.str (Str.ofString "__cached__") 174,           val := Value.none },         { hash := PyData.keyHash P (Str.ofString "_wall"), key := Value.str (Str.ofString "_wall") 193,           val := Value.ref 21 },         { hash := PyData.keyHash P (Str.ofString "MachineFault"), key := Value.str (Str.ofString "MachineFault") 224,           val := Value.ref 38 },         { hash := PyData.keyHash P (Str.ofString "Halt"), key := Value.str (Str.ofString "Halt") 240,           val := Value.ref 51 },         { hash := PyData.keyHash P (Str.ofString "WARM"), key := Value.str (Str.ofString "WARM") 244,           val := Value.int 100 243 },         { hash := PyData.keyHash P (Str.ofString "COLD_SLOT"), key := Value.str (Str.ofString "COLD_SLOT") 246,           val := Value.int 2100 245 },         { hash := PyData.keyHash P (Str.ofString "SET_SLOT"), key := Value.str (Str.ofString "SET_SLOT") 248,           val := Value.int 20000 247 },         { hash := PyData.keyHash P (Str.ofString "RESET_SLOT"), key := Value.str (Str.ofString "RESET_SLOT") 250,           val := Value.int 2900 249 },         { hash := PyData.keyHash P (Str.ofString "CLEARED_SLOT"), key := Value.str (Str.ofString "CLEARED_SLOT") 252,           val := Value.int 4800 251 },         { hash := PyData.keyHash P (Str.ofString "STIPEND"), key := Value.str (Str.ofString "STIPEND") 254,           val := Value.int 2300 253 },         { hash := PyData.keyHash P (Str.ofString "REFUND_PART"), key := Value.str (Str.ofString "REFUND_PART") 256,           val := Value.int 5 255 },         { hash := PyData.keyHash P (Str.ofString "slot_read_cost"),           key := Value.str (Str.ofString "slot_read_cost") 263, val := Value.ref 60 },         { hash := PyData.keyHash P (Str.ofString "need_stipend"), key := Value.str (Str.ofString "need_stipend") 270,           val := Value.ref 67 },         { hash := PyData.keyHash P (Str.ofString "slot_change_cost"),           key := Value.str (Str.ofString "slot_change_cost") 279, val := Value.ref 74 },         { hash := PyData.keyHash P (Str.ofString "slot_refund"), key := Value.str (Str.ofString "slot_refund") 289,           val := Value.ref 81 },         { hash := PyData.keyHash P (Str.ofString "slot_cost"), key := Value.str (Str.ofString "slot_cost") 300,           val := Value.ref 88 },         { hash := PyData.keyHash P (Str.ofString "refund_cap"), key := Value.str (Str.ofString "refund_cap") 307,           val := Value.ref 95 },         { hash := PyData.keyHash P (Str.ofString "Account"), key := Value.str (Str.ofString "Account") 344,           val := Value.ref 112 },         { hash := PyData.keyHash P (Str.ofString "no_account"), key := Value.str (Str.ofString "no_account") 350,           val := Value.ref 123 },         { hash := PyData.keyHash P (Str.ofString "is_empty_account"),           key := Value.str (Str.ofString "is_empty_account") 357, val := Value.ref 130 },         { hash := PyData.keyHash P (Str.ofString "put_slot"), key := Value.str (Str.ofString "put_slot") 366,           val := Value.ref 137 },         { hash := PyData.keyHash P (Str.ofString "Row"), key := Value.str (Str.ofString "Row") 403,           val := Value.ref 154 },         { hash := PyData.keyHash P (Str.ofString "undone_value"), key := Value.str (Str.ofString "undone_value") 411,           val := Value.ref 165 },         { hash := PyData.keyHash P (Str.ofString "undone"), key := Value.str (Str.ofString "undone") 419,           val := Value.ref 172 },         { hash := PyData.keyHash P (Str.ofString "State"), key := Value.str (Str.ofString "State") 709,           val := Value.ref 399 },         { hash := PyData.keyHash P (Str.ofString "_law_table"), key := Value.str (Str.ofString "_law_table") 717,           val := Value.ref 410 },         { hash := PyData.keyHash P (Str.ofString "_law_dip"), key := Value.str (Str.ofString "_law_dip") 726,           val := Value.ref 417 },         { hash := PyData.keyHash P (Str.ofString "_law_due"), key := Value.str (Str.ofString "_law_due") 741,           val := Value.ref 424 },         { hash := PyData.keyHash P (Str.ofString "_law_walked"), key := Value.str (Str.ofString "_law_walked") 755,           val := Value.ref 431 },         { hash := PyData.keyHash P (Str.ofString "_law_lead"), key := Value.str (Str.ofString "_law_lead") 763,           val := Value.ref 438 },         { hash := PyData.keyHash P (Str.ofString "_law_net"), key := Value.str (Str.ofString "_law_net") 769,           val := Value.ref 443 },         { hash := PyData.keyHash P (Str.ofString "_law_is_alike"), key := Value.str (Str.ofString "_law_is_alike") 775,           val := Value.ref 448 },         { hash := PyData.keyHash P (Str.ofString "_law_stage"), key := Value.str (Str.ofString "_law_stage") 781,           val := Value.ref 453 },         { hash := PyData.keyHash P (Str.ofString "_law_halts"), key := Value.str (Str.ofString "_law_halts") 789,           val := Value.ref 460 },         { hash := PyData.keyHash P (Str.ofString "law"), key := Value.str (Str.ofString "law") 795,           val := Value.ref 465 }]       43 }) ::
  (nat_lit 20, { cls := Value.type "code",   data :=     Data.fields       #[Value.str (Str.ofString "_wall") 187, Value.str (Str.ofString "_wall") 188,         Value.str (Str.ofString "/claim/cut.py") 189, Value.int 1 0, Value.int 1 0, Value.int 0 0, Value.int 0 0,         Value.int 3 0, Value.ref 15, Value.bool true, Value.int 181 0, Value.ref 16, Value.none, Value.ref 17,         Value.ref 18, Value.ref 19, Value.int 191 0, Value.int 1 0, Value.str (Str.ofString "/claim/cut.py") 192] }) ::
  (nat_lit 21, fnO hd.st0 (Str.ofString "_wall") (Value.str (Str.ofString "__main__") 164) 20) ::
  (nat_lit 34, { cls := Value.type "code",   data :=     Data.fields       #[Value.str (Str.ofString "__init__") 208, Value.str (Str.ofString "MachineFault.__init__") 209,         Value.str (Str.ofString "/claim/cut.py") 210, Value.int 7 0, Value.int 2 0, Value.int 0 0, Value.int 0 0,         Value.int 3 0, Value.ref 29, Value.bool true, Value.int 181 0, Value.ref 30, Value.none, Value.ref 31,         Value.ref 32, Value.ref 33, Value.int 213 0, Value.int 7 0, Value.str (Str.ofString "/claim/cut.py") 214] }) ::
  (nat_lit 35, fnO hd.st2_0 (Str.ofString "MachineFault.__init__") (Value.str (Str.ofString "gasledger.errors") 194) 34) ::
  (nat_lit 37, { cls := Value.type "dict",   data :=     Data.dict       #[{ hash := PyData.keyHash P (Str.ofString "__module__"), key := Value.str (Str.ofString "__module__") 203,           val := Value.str (Str.ofString "gasledger.errors") 194 },         { hash := PyData.keyHash P (Str.ofString "__firstlineno__"),           key := Value.str (Str.ofString "__firstlineno__") 207, val := Value.int 5 206 },         { hash := PyData.keyHash P (Str.ofString "__init__"), key := Value.str (Str.ofString "__init__") 215,           val := Value.ref 35 },         { hash := PyData.keyHash P (Str.ofString "__static_attributes__"),           key := Value.str (Str.ofString "__static_attributes__") 217, val := Value.ref 36 },         { hash := PyData.keyHash P (Str.ofString "__weakref__"), key := Value.str (Str.ofString "__weakref__") 219,           val := Value.ref 39 },         { hash := PyData.keyHash P (Str.ofString "__doc__"), key := Value.str (Str.ofString "__doc__") 220,           val := Value.none }]       3 }) ::
  (nat_lit 38, { cls := Value.type "type",   data :=     Data.cls       { name := Str.ofString "MachineFault", bases := [Value.type "Exception"],         mro := [Value.ref 38, Value.type "Exception", Value.type "BaseException", Value.type "object"], ns := 37,         qualname := Str.ofString "MachineFault", subclasses := [Value.ref 51] },   slots :=     #[some (Value.ref 22), none, some (Value.str (Str.ofString "MachineFault") 196),       some (Value.str (Str.ofString "MachineFault") 204), some (Value.builtin "Exception.__new__"),       some (Value.bool true)] }) ::
  (nat_lit 39, { cls := Value.type "getset_descriptor",   data :=     Data.fields       #[Value.str (Str.ofString "__weakref__") 218, Value.ref 38, Value.builtin "ExceptionGroup.__weakref__",         Value.none] }) ::
  (nat_lit 50, { cls := Value.type "dict",   data :=     Data.dict       #[{ hash := PyData.keyHash P (Str.ofString "__module__"), key := Value.str (Str.ofString "__module__") 232,           val := Value.str (Str.ofString "gasledger.errors") 194 },         { hash := PyData.keyHash P (Str.ofString "__firstlineno__"),           key := Value.str (Str.ofString "__firstlineno__") 236, val := Value.int 10 235 },         { hash := PyData.keyHash P (Str.ofString "__static_attributes__"),           key := Value.str (Str.ofString "__static_attributes__") 237, val := Value.ref 49 },         { hash := PyData.keyHash P (Str.ofString "__doc__"), key := Value.str (Str.ofString "__doc__") 238,           val := Value.none }]       2 }) ::
  (nat_lit 51, { cls := Value.type "type",   data :=     Data.cls       { name := Str.ofString "Halt", bases := [Value.ref 38],         mro := [Value.ref 51, Value.ref 38, Value.type "Exception", Value.type "BaseException", Value.type "object"],         ns := 50, qualname := Str.ofString "Halt" },   slots :=     #[some (Value.ref 42), none, some (Value.str (Str.ofString "Halt") 225), some (Value.str (Str.ofString "Halt") 233),       some (Value.builtin "Exception.__new__"), some (Value.bool true)] }) ::
  (nat_lit 59, { cls := Value.type "code",   data :=     Data.fields       #[Value.str (Str.ofString "slot_read_cost") 257, Value.str (Str.ofString "slot_read_cost") 258,         Value.str (Str.ofString "/claim/cut.py") 259, Value.int 20 0, Value.int 1 0, Value.int 0 0, Value.int 0 0,         Value.int 3 0, Value.ref 54, Value.bool true, Value.int 181 0, Value.ref 55, Value.none, Value.ref 56,         Value.ref 57, Value.ref 58, Value.int 261 0, Value.int 20 0, Value.str (Str.ofString "/claim/cut.py") 262] }) ::
  (nat_lit 60, fnO hd.st12 (Str.ofString "slot_read_cost") (Value.str (Str.ofString "gasledger.gas") 241) 59) ::
  (nat_lit 66, { cls := Value.type "code",   data :=     Data.fields       #[Value.str (Str.ofString "need_stipend") 264, Value.str (Str.ofString "need_stipend") 265,         Value.str (Str.ofString "/claim/cut.py") 266, Value.int 22 0, Value.int 1 0, Value.int 0 0, Value.int 0 0,         Value.int 3 0, Value.ref 61, Value.bool true, Value.int 181 0, Value.ref 62, Value.none, Value.ref 63,         Value.ref 64, Value.ref 65, Value.int 268 0, Value.int 22 0, Value.str (Str.ofString "/claim/cut.py") 269] }) ::
  (nat_lit 67, fnO hd.st13 (Str.ofString "need_stipend") (Value.str (Str.ofString "gasledger.gas") 241) 66) ::
  (nat_lit 73, { cls := Value.type "code",   data :=     Data.fields       #[Value.str (Str.ofString "slot_change_cost") 271, Value.str (Str.ofString "slot_change_cost") 272,         Value.str (Str.ofString "/claim/cut.py") 273, Value.int 25 0, Value.int 3 0, Value.int 0 0, Value.int 0 0,         Value.int 3 0, Value.ref 68, Value.bool true, Value.int 181 0, Value.ref 69, Value.none, Value.ref 70,         Value.ref 71, Value.ref 72, Value.int 277 0, Value.int 25 0, Value.str (Str.ofString "/claim/cut.py") 278] }) ::
  (nat_lit 74, fnO hd.st14 (Str.ofString "slot_change_cost") (Value.str (Str.ofString "gasledger.gas") 241) 73) ::
  (nat_lit 80, { cls := Value.type "code",   data :=     Data.fields       #[Value.str (Str.ofString "slot_refund") 280, Value.str (Str.ofString "slot_refund") 281,         Value.str (Str.ofString "/claim/cut.py") 282, Value.int 29 0, Value.int 3 0, Value.int 0 0, Value.int 0 0,         Value.int 3 0, Value.ref 75, Value.bool true, Value.int 181 0, Value.ref 76, Value.none, Value.ref 77,         Value.ref 78, Value.ref 79, Value.int 287 0, Value.int 29 0, Value.str (Str.ofString "/claim/cut.py") 288] }) ::
  (nat_lit 81, fnO hd.st15 (Str.ofString "slot_refund") (Value.str (Str.ofString "gasledger.gas") 241) 80) ::
  (nat_lit 87, { cls := Value.type "code",   data :=     Data.fields       #[Value.str (Str.ofString "slot_cost") 290, Value.str (Str.ofString "slot_cost") 291,         Value.str (Str.ofString "/claim/cut.py") 292, Value.int 40 0, Value.int 4 0, Value.int 0 0, Value.int 0 0,         Value.int 3 0, Value.ref 82, Value.bool true, Value.int 181 0, Value.ref 83, Value.none, Value.ref 84,         Value.ref 85, Value.ref 86, Value.int 298 0, Value.int 40 0, Value.str (Str.ofString "/claim/cut.py") 299] }) ::
  (nat_lit 88, fnO hd.st16 (Str.ofString "slot_cost") (Value.str (Str.ofString "gasledger.gas") 241) 87) ::
  (nat_lit 94, { cls := Value.type "code",   data :=     Data.fields       #[Value.str (Str.ofString "refund_cap") 301, Value.str (Str.ofString "refund_cap") 302,         Value.str (Str.ofString "/claim/cut.py") 303, Value.int 43 0, Value.int 1 0, Value.int 0 0, Value.int 0 0,         Value.int 3 0, Value.ref 89, Value.bool true, Value.int 181 0, Value.ref 90, Value.none, Value.ref 91,         Value.ref 92, Value.ref 93, Value.int 305 0, Value.int 43 0, Value.str (Str.ofString "/claim/cut.py") 306] }) ::
  (nat_lit 95, fnO hd.st17 (Str.ofString "refund_cap") (Value.str (Str.ofString "gasledger.gas") 241) 94) ::
  (nat_lit 108, { cls := Value.type "code",   data :=     Data.fields       #[Value.str (Str.ofString "__init__") 322, Value.str (Str.ofString "Account.__init__") 323,         Value.str (Str.ofString "/claim/cut.py") 324, Value.int 48 0, Value.int 5 0, Value.int 0 0, Value.int 0 0,         Value.int 3 0, Value.ref 103, Value.bool true, Value.int 181 0, Value.ref 104, Value.none, Value.ref 105,         Value.ref 106, Value.ref 107, Value.int 330 0, Value.int 48 0, Value.str (Str.ofString "/claim/cut.py") 331] }) ::
  (nat_lit 109, fnO hd.st19_0 (Str.ofString "Account.__init__") (Value.str (Str.ofString "gasledger.account") 308) 108) ::
  (nat_lit 111, { cls := Value.type "dict",   data :=     Data.dict       #[{ hash := PyData.keyHash P (Str.ofString "__module__"), key := Value.str (Str.ofString "__module__") 317,           val := Value.str (Str.ofString "gasledger.account") 308 },         { hash := PyData.keyHash P (Str.ofString "__firstlineno__"),           key := Value.str (Str.ofString "__firstlineno__") 321, val := Value.int 46 320 },         { hash := PyData.keyHash P (Str.ofString "__init__"), key := Value.str (Str.ofString "__init__") 332,           val := Value.ref 109 },         { hash := PyData.keyHash P (Str.ofString "__static_attributes__"),           key := Value.str (Str.ofString "__static_attributes__") 337, val := Value.ref 110 },         { hash := PyData.keyHash P (Str.ofString "__dict__"), key := Value.str (Str.ofString "__dict__") 339,           val := Value.ref 113 },         { hash := PyData.keyHash P (Str.ofString "__weakref__"), key := Value.str (Str.ofString "__weakref__") 341,           val := Value.ref 114 },         { hash := PyData.keyHash P (Str.ofString "__doc__"), key := Value.str (Str.ofString "__doc__") 342,           val := Value.none }]       4 }) ::
  (nat_lit 112, { cls := Value.type "type",   data :=     Data.cls       { name := Str.ofString "Account", bases := [Value.type "object"], mro := [Value.ref 112, Value.type "object"],         ns := 111, qualname := Str.ofString "Account" },   slots :=     #[none, none, some (Value.str (Str.ofString "Account") 310), some (Value.str (Str.ofString "Account") 318),       some (Value.builtin "object.__new__"), some (Value.bool true)] }) ::
  (nat_lit 113, { cls := Value.type "getset_descriptor",   data :=     Data.fields       #[Value.str (Str.ofString "__dict__") 338, Value.ref 112, Value.builtin "function.__dict__",         Value.builtin "function.__dict__#set"] }) ::
  (nat_lit 114, { cls := Value.type "getset_descriptor",   data :=     Data.fields       #[Value.str (Str.ofString "__weakref__") 340, Value.ref 112, Value.builtin "ExceptionGroup.__weakref__",         Value.none] }) ::
  (nat_lit 122, { cls := Value.type "code",   data :=     Data.fields       #[Value.str (Str.ofString "no_account") 345, Value.str (Str.ofString "no_account") 346,         Value.str (Str.ofString "/claim/cut.py") 347, Value.int 53 0, Value.int 0 0, Value.int 0 0, Value.int 0 0,         Value.int 3 0, Value.ref 117, Value.bool true, Value.int 181 0, Value.ref 118, Value.none, Value.ref 119,         Value.ref 120, Value.ref 121, Value.int 348 0, Value.int 53 0, Value.str (Str.ofString "/claim/cut.py") 349] }) ::
  (nat_lit 123, fnO hd.st20 (Str.ofString "no_account") (Value.str (Str.ofString "gasledger.account") 308) 122) ::
  (nat_lit 129, { cls := Value.type "code",   data :=     Data.fields       #[Value.str (Str.ofString "is_empty_account") 351, Value.str (Str.ofString "is_empty_account") 352,         Value.str (Str.ofString "/claim/cut.py") 353, Value.int 55 0, Value.int 1 0, Value.int 0 0, Value.int 0 0,         Value.int 3 0, Value.ref 124, Value.bool true, Value.int 181 0, Value.ref 125, Value.none, Value.ref 126,         Value.ref 127, Value.ref 128, Value.int 355 0, Value.int 55 0, Value.str (Str.ofString "/claim/cut.py") 356] }) ::
  (nat_lit 130, fnO hd.st21 (Str.ofString "is_empty_account") (Value.str (Str.ofString "gasledger.account") 308) 129) ::
  (nat_lit 136, { cls := Value.type "code",   data :=     Data.fields       #[Value.str (Str.ofString "put_slot") 358, Value.str (Str.ofString "put_slot") 359,         Value.str (Str.ofString "/claim/cut.py") 360, Value.int 57 0, Value.int 3 0, Value.int 0 0, Value.int 0 0,         Value.int 3 0, Value.ref 131, Value.bool true, Value.int 181 0, Value.ref 132, Value.none, Value.ref 133,         Value.ref 134, Value.ref 135, Value.int 364 0, Value.int 57 0, Value.str (Str.ofString "/claim/cut.py") 365] }) ::
  (nat_lit 137, fnO hd.st22 (Str.ofString "put_slot") (Value.str (Str.ofString "gasledger.account") 308) 136) ::
  (nat_lit 150, { cls := Value.type "code",   data :=     Data.fields       #[Value.str (Str.ofString "__init__") 381, Value.str (Str.ofString "Row.__init__") 382,         Value.str (Str.ofString "/claim/cut.py") 383, Value.int 65 0, Value.int 5 0, Value.int 0 0, Value.int 0 0,         Value.int 3 0, Value.ref 145, Value.bool true, Value.int 181 0, Value.ref 146, Value.none, Value.ref 147,         Value.ref 148, Value.ref 149, Value.int 389 0, Value.int 65 0, Value.str (Str.ofString "/claim/cut.py") 390] }) ::
  (nat_lit 151, fnO hd.st24_0 (Str.ofString "Row.__init__") (Value.str (Str.ofString "gasledger.journal") 367) 150) ::
  (nat_lit 153, { cls := Value.type "dict",   data :=     Data.dict       #[{ hash := PyData.keyHash P (Str.ofString "__module__"), key := Value.str (Str.ofString "__module__") 376,           val := Value.str (Str.ofString "gasledger.journal") 367 },         { hash := PyData.keyHash P (Str.ofString "__firstlineno__"),           key := Value.str (Str.ofString "__firstlineno__") 380, val := Value.int 63 379 },         { hash := PyData.keyHash P (Str.ofString "__init__"), key := Value.str (Str.ofString "__init__") 391,           val := Value.ref 151 },         { hash := PyData.keyHash P (Str.ofString "__static_attributes__"),           key := Value.str (Str.ofString "__static_attributes__") 396, val := Value.ref 152 },         { hash := PyData.keyHash P (Str.ofString "__dict__"), key := Value.str (Str.ofString "__dict__") 398,           val := Value.ref 155 },         { hash := PyData.keyHash P (Str.ofString "__weakref__"), key := Value.str (Str.ofString "__weakref__") 400,           val := Value.ref 156 },         { hash := PyData.keyHash P (Str.ofString "__doc__"), key := Value.str (Str.ofString "__doc__") 401,           val := Value.none }]       4 }) ::
  (nat_lit 154, { cls := Value.type "type",   data :=     Data.cls       { name := Str.ofString "Row", bases := [Value.type "object"], mro := [Value.ref 154, Value.type "object"],         ns := 153, qualname := Str.ofString "Row" },   slots :=     #[none, none, some (Value.str (Str.ofString "Row") 369), some (Value.str (Str.ofString "Row") 377),       some (Value.builtin "object.__new__"), some (Value.bool true)] }) ::
  (nat_lit 155, { cls := Value.type "getset_descriptor",   data :=     Data.fields       #[Value.str (Str.ofString "__dict__") 397, Value.ref 154, Value.builtin "function.__dict__",         Value.builtin "function.__dict__#set"] }) ::
  (nat_lit 156, { cls := Value.type "getset_descriptor",   data :=     Data.fields       #[Value.str (Str.ofString "__weakref__") 399, Value.ref 154, Value.builtin "ExceptionGroup.__weakref__",         Value.none] }) ::
  (nat_lit 164, { cls := Value.type "code",   data :=     Data.fields       #[Value.str (Str.ofString "undone_value") 404, Value.str (Str.ofString "undone_value") 405,         Value.str (Str.ofString "/claim/cut.py") 406, Value.int 70 0, Value.int 2 0, Value.int 0 0, Value.int 0 0,         Value.int 3 0, Value.ref 159, Value.bool true, Value.int 181 0, Value.ref 160, Value.none, Value.ref 161,         Value.ref 162, Value.ref 163, Value.int 409 0, Value.int 70 0, Value.str (Str.ofString "/claim/cut.py") 410] }) ::
  (nat_lit 165, fnO hd.st25 (Str.ofString "undone_value") (Value.str (Str.ofString "gasledger.journal") 367) 164) ::
  (nat_lit 171, { cls := Value.type "code",   data :=     Data.fields       #[Value.str (Str.ofString "undone") 412, Value.str (Str.ofString "undone") 413,         Value.str (Str.ofString "/claim/cut.py") 414, Value.int 79 0, Value.int 2 0, Value.int 0 0, Value.int 0 0,         Value.int 3 0, Value.ref 166, Value.bool true, Value.int 181 0, Value.ref 167, Value.none, Value.ref 168,         Value.ref 169, Value.ref 170, Value.int 417 0, Value.int 79 0, Value.str (Str.ofString "/claim/cut.py") 418] }) ::
  (nat_lit 172, fnO hd.st26 (Str.ofString "undone") (Value.str (Str.ofString "gasledger.journal") 367) 171) ::
  (nat_lit 185, { cls := Value.type "code",   data :=     Data.fields       #[Value.str (Str.ofString "__init__") 434, Value.str (Str.ofString "State.__init__") 435,         Value.str (Str.ofString "/claim/cut.py") 436, Value.int 99 0, Value.int 2 0, Value.int 0 0, Value.int 0 0,         Value.int 3 0, Value.ref 180, Value.bool true, Value.int 181 0, Value.ref 181, Value.none, Value.ref 182,         Value.ref 183, Value.ref 184, Value.int 439 0, Value.int 99 0, Value.str (Str.ofString "/claim/cut.py") 440] }) ::
  (nat_lit 186, fnO hd.st28_0 (Str.ofString "State.__init__") (Value.str (Str.ofString "gasledger.state") 420) 185) ::
  (nat_lit 192, { cls := Value.type "code",   data :=     Data.fields       #[Value.str (Str.ofString "account") 442, Value.str (Str.ofString "State.account") 443,         Value.str (Str.ofString "/claim/cut.py") 444, Value.int 111 0, Value.int 2 0, Value.int 0 0, Value.int 0 0,         Value.int 3 0, Value.ref 187, Value.bool true, Value.int 181 0, Value.ref 188, Value.none, Value.ref 189,         Value.ref 190, Value.ref 191, Value.int 447 0, Value.int 111 0, Value.str (Str.ofString "/claim/cut.py") 448] }) ::
  (nat_lit 193, fnO hd.st28_1 (Str.ofString "State.account") (Value.str (Str.ofString "gasledger.state") 420) 192) ::
  (nat_lit 199, { cls := Value.type "code",   data :=     Data.fields       #[Value.str (Str.ofString "addresses") 450, Value.str (Str.ofString "State.addresses") 451,         Value.str (Str.ofString "/claim/cut.py") 452, Value.int 114 0, Value.int 1 0, Value.int 0 0, Value.int 0 0,         Value.int 3 0, Value.ref 194, Value.bool true, Value.int 181 0, Value.ref 195, Value.none, Value.ref 196,         Value.ref 197, Value.ref 198, Value.int 454 0, Value.int 114 0, Value.str (Str.ofString "/claim/cut.py") 455] }) ::
  (nat_lit 200, fnO hd.st28_2 (Str.ofString "State.addresses") (Value.str (Str.ofString "gasledger.state") 420) 199) ::
  (nat_lit 206, { cls := Value.type "code",   data :=     Data.fields       #[Value.str (Str.ofString "total") 457, Value.str (Str.ofString "State.total") 458,         Value.str (Str.ofString "/claim/cut.py") 459, Value.int 117 0, Value.int 1 0, Value.int 0 0, Value.int 0 0,         Value.int 3 0, Value.ref 201, Value.bool true, Value.int 181 0, Value.ref 202, Value.none, Value.ref 203,         Value.ref 204, Value.ref 205, Value.int 461 0, Value.int 117 0, Value.str (Str.ofString "/claim/cut.py") 462] }) ::
  (nat_lit 207, fnO hd.st28_3 (Str.ofString "State.total") (Value.str (Str.ofString "gasledger.state") 420) 206) ::
  (nat_lit 213, { cls := Value.type "code",   data :=     Data.fields       #[Value.str (Str.ofString "written") 464, Value.str (Str.ofString "State.written") 465,         Value.str (Str.ofString "/claim/cut.py") 466, Value.int 120 0, Value.int 2 0, Value.int 0 0, Value.int 0 0,         Value.int 3 0, Value.ref 208, Value.bool true, Value.int 181 0, Value.ref 209, Value.none, Value.ref 210,         Value.ref 211, Value.ref 212, Value.int 469 0, Value.int 120 0, Value.str (Str.ofString "/claim/cut.py") 470] }) ::
  (nat_lit 214, fnO hd.st28_4 (Str.ofString "State.written") (Value.str (Str.ofString "gasledger.state") 420) 213) ::
  (nat_lit 220, { cls := Value.type "code",   data :=     Data.fields       #[Value.str (Str.ofString "touch") 472, Value.str (Str.ofString "State.touch") 473,         Value.str (Str.ofString "/claim/cut.py") 474, Value.int 129 0, Value.int 2 0, Value.int 0 0, Value.int 0 0,         Value.int 3 0, Value.ref 215, Value.bool true, Value.int 181 0, Value.ref 216, Value.none, Value.ref 217,         Value.ref 218, Value.ref 219, Value.int 477 0, Value.int 129 0, Value.str (Str.ofString "/claim/cut.py") 478] }) ::
  (nat_lit 221, fnO hd.st28_5 (Str.ofString "State.touch") (Value.str (Str.ofString "gasledger.state") 420) 220) ::
  (nat_lit 227, { cls := Value.type "code",   data :=     Data.fields       #[Value.str (Str.ofString "exists") 480, Value.str (Str.ofString "State.exists") 481,         Value.str (Str.ofString "/claim/cut.py") 482, Value.int 132 0, Value.int 2 0, Value.int 0 0, Value.int 0 0,         Value.int 3 0, Value.ref 222, Value.bool true, Value.int 181 0, Value.ref 223, Value.none, Value.ref 224,         Value.ref 225, Value.ref 226, Value.int 485 0, Value.int 132 0, Value.str (Str.ofString "/claim/cut.py") 486] }) ::
  (nat_lit 228, fnO hd.st28_6 (Str.ofString "State.exists") (Value.str (Str.ofString "gasledger.state") 420) 227) ::
  (nat_lit 234, { cls := Value.type "code",   data :=     Data.fields       #[Value.str (Str.ofString "is_empty") 488, Value.str (Str.ofString "State.is_empty") 489,         Value.str (Str.ofString "/claim/cut.py") 490, Value.int 135 0, Value.int 2 0, Value.int 0 0, Value.int 0 0,         Value.int 3 0, Value.ref 229, Value.bool true, Value.int 181 0, Value.ref 230, Value.none, Value.ref 231,         Value.ref 232, Value.ref 233, Value.int 493 0, Value.int 135 0, Value.str (Str.ofString "/claim/cut.py") 494] }) ::
  (nat_lit 235, fnO hd.st28_7 (Str.ofString "State.is_empty") (Value.str (Str.ofString "gasledger.state") 420) 234) ::
  (nat_lit 241, { cls := Value.type "code",   data :=     Data.fields       #[Value.str (Str.ofString "balance") 496, Value.str (Str.ofString "State.balance") 497,         Value.str (Str.ofString "/claim/cut.py") 498, Value.int 138 0, Value.int 2 0, Value.int 0 0, Value.int 0 0,         Value.int 3 0, Value.ref 236, Value.bool true, Value.int 181 0, Value.ref 237, Value.none, Value.ref 238,         Value.ref 239, Value.ref 240, Value.int 501 0, Value.int 138 0, Value.str (Str.ofString "/claim/cut.py") 502] }) ::
  (nat_lit 242, fnO hd.st28_8 (Str.ofString "State.balance") (Value.str (Str.ofString "gasledger.state") 420) 241) ::
  (nat_lit 248, { cls := Value.type "code",   data :=     Data.fields       #[Value.str (Str.ofString "set_balance") 504, Value.str (Str.ofString "State.set_balance") 505,         Value.str (Str.ofString "/claim/cut.py") 506, Value.int 141 0, Value.int 3 0, Value.int 0 0, Value.int 0 0,         Value.int 3 0, Value.ref 243, Value.bool true, Value.int 181 0, Value.ref 244, Value.none, Value.ref 245,         Value.ref 246, Value.ref 247, Value.int 510 0, Value.int 141 0, Value.str (Str.ofString "/claim/cut.py") 511] }) ::
  (nat_lit 249, fnO hd.st28_9 (Str.ofString "State.set_balance") (Value.str (Str.ofString "gasledger.state") 420) 248) ::
  (nat_lit 255, { cls := Value.type "code",   data :=     Data.fields       #[Value.str (Str.ofString "moved") 513, Value.str (Str.ofString "State.moved") 514,         Value.str (Str.ofString "/claim/cut.py") 515, Value.int 144 0, Value.int 4 0, Value.int 0 0, Value.int 0 0,         Value.int 3 0, Value.ref 250, Value.bool true, Value.int 181 0, Value.ref 251, Value.none, Value.ref 252,         Value.ref 253, Value.ref 254, Value.int 520 0, Value.int 144 0, Value.str (Str.ofString "/claim/cut.py") 521] }) ::
  (nat_lit 256, fnO hd.st28_10 (Str.ofString "State.moved") (Value.str (Str.ofString "gasledger.state") 420) 255) ::
  (nat_lit 262, { cls := Value.type "code",   data :=     Data.fields       #[Value.str (Str.ofString "nonce") 523, Value.str (Str.ofString "State.nonce") 524,         Value.str (Str.ofString "/claim/cut.py") 525, Value.int 147 0, Value.int 2 0, Value.int 0 0, Value.int 0 0,         Value.int 3 0, Value.ref 257, Value.bool true, Value.int 181 0, Value.ref 258, Value.none, Value.ref 259,         Value.ref 260, Value.ref 261, Value.int 528 0, Value.int 147 0, Value.str (Str.ofString "/claim/cut.py") 529] }) ::
  (nat_lit 263, fnO hd.st28_11 (Str.ofString "State.nonce") (Value.str (Str.ofString "gasledger.state") 420) 262) ::
  (nat_lit 269, { cls := Value.type "code",   data :=     Data.fields       #[Value.str (Str.ofString "set_nonce") 531, Value.str (Str.ofString "State.set_nonce") 532,         Value.str (Str.ofString "/claim/cut.py") 533, Value.int 150 0, Value.int 3 0, Value.int 0 0, Value.int 0 0,         Value.int 3 0, Value.ref 264, Value.bool true, Value.int 181 0, Value.ref 265, Value.none, Value.ref 266,         Value.ref 267, Value.ref 268, Value.int 538 0, Value.int 150 0, Value.str (Str.ofString "/claim/cut.py") 539] }) ::
  (nat_lit 270, fnO hd.st28_12 (Str.ofString "State.set_nonce") (Value.str (Str.ofString "gasledger.state") 420) 269) ::
  (nat_lit 276, { cls := Value.type "code",   data :=     Data.fields       #[Value.str (Str.ofString "code") 541, Value.str (Str.ofString "State.code") 542,         Value.str (Str.ofString "/claim/cut.py") 543, Value.int 155 0, Value.int 2 0, Value.int 0 0, Value.int 0 0,         Value.int 3 0, Value.ref 271, Value.bool true, Value.int 181 0, Value.ref 272, Value.none, Value.ref 273,         Value.ref 274, Value.ref 275, Value.int 546 0, Value.int 155 0, Value.str (Str.ofString "/claim/cut.py") 547] }) ::
  (nat_lit 277, fnO hd.st28_13 (Str.ofString "State.code") (Value.str (Str.ofString "gasledger.state") 420) 276) ::
  (nat_lit 283, { cls := Value.type "code",   data :=     Data.fields       #[Value.str (Str.ofString "set_code") 549, Value.str (Str.ofString "State.set_code") 550,         Value.str (Str.ofString "/claim/cut.py") 551, Value.int 158 0, Value.int 3 0, Value.int 0 0, Value.int 0 0,         Value.int 3 0, Value.ref 278, Value.bool true, Value.int 181 0, Value.ref 279, Value.none, Value.ref 280,         Value.ref 281, Value.ref 282, Value.int 555 0, Value.int 158 0, Value.str (Str.ofString "/claim/cut.py") 556] }) ::
  (nat_lit 284, fnO hd.st28_14 (Str.ofString "State.set_code") (Value.str (Str.ofString "gasledger.state") 420) 283) ::
  (nat_lit 290, { cls := Value.type "code",   data :=     Data.fields       #[Value.str (Str.ofString "code_hash") 558, Value.str (Str.ofString "State.code_hash") 559,         Value.str (Str.ofString "/claim/cut.py") 560, Value.int 161 0, Value.int 2 0, Value.int 0 0, Value.int 0 0,         Value.int 3 0, Value.ref 285, Value.bool true, Value.int 181 0, Value.ref 286, Value.none, Value.ref 287,         Value.ref 288, Value.ref 289, Value.int 563 0, Value.int 161 0, Value.str (Str.ofString "/claim/cut.py") 564] }) ::
  (nat_lit 291, fnO hd.st28_15 (Str.ofString "State.code_hash") (Value.str (Str.ofString "gasledger.state") 420) 290) ::
  (nat_lit 297, { cls := Value.type "code",   data :=     Data.fields       #[Value.str (Str.ofString "slot") 566, Value.str (Str.ofString "State.slot") 567,         Value.str (Str.ofString "/claim/cut.py") 568, Value.int 164 0, Value.int 3 0, Value.int 0 0, Value.int 0 0,         Value.int 3 0, Value.ref 292, Value.bool true, Value.int 181 0, Value.ref 293, Value.none, Value.ref 294,         Value.ref 295, Value.ref 296, Value.int 572 0, Value.int 164 0, Value.str (Str.ofString "/claim/cut.py") 573] }) ::
  (nat_lit 298, fnO hd.st28_16 (Str.ofString "State.slot") (Value.str (Str.ofString "gasledger.state") 420) 297) ::
  (nat_lit 304, { cls := Value.type "code",   data :=     Data.fields       #[Value.str (Str.ofString "set_slot") 575, Value.str (Str.ofString "State.set_slot") 576,         Value.str (Str.ofString "/claim/cut.py") 577, Value.int 167 0, Value.int 4 0, Value.int 0 0, Value.int 0 0,         Value.int 3 0, Value.ref 299, Value.bool true, Value.int 181 0, Value.ref 300, Value.none, Value.ref 301,         Value.ref 302, Value.ref 303, Value.int 584 0, Value.int 167 0, Value.str (Str.ofString "/claim/cut.py") 585] }) ::
  (nat_lit 305, fnO hd.st28_17 (Str.ofString "State.set_slot") (Value.str (Str.ofString "gasledger.state") 420) 304) ::
  (nat_lit 311, { cls := Value.type "code",   data :=     Data.fields       #[Value.str (Str.ofString "original_slot") 587, Value.str (Str.ofString "State.original_slot") 588,         Value.str (Str.ofString "/claim/cut.py") 589, Value.int 175 0, Value.int 3 0, Value.int 0 0, Value.int 0 0,         Value.int 3 0, Value.ref 306, Value.bool true, Value.int 181 0, Value.ref 307, Value.none, Value.ref 308,         Value.ref 309, Value.ref 310, Value.int 593 0, Value.int 175 0, Value.str (Str.ofString "/claim/cut.py") 594] }) ::
  (nat_lit 312, fnO hd.st28_18 (Str.ofString "State.original_slot") (Value.str (Str.ofString "gasledger.state") 420) 311) ::
  (nat_lit 318, { cls := Value.type "code",   data :=     Data.fields       #[Value.str (Str.ofString "is_warm") 596, Value.str (Str.ofString "State.is_warm") 597,         Value.str (Str.ofString "/claim/cut.py") 598, Value.int 178 0, Value.int 2 0, Value.int 0 0, Value.int 0 0,         Value.int 3 0, Value.ref 313, Value.bool true, Value.int 181 0, Value.ref 314, Value.none, Value.ref 315,         Value.ref 316, Value.ref 317, Value.int 601 0, Value.int 178 0, Value.str (Str.ofString "/claim/cut.py") 602] }) ::
  (nat_lit 319, fnO hd.st28_19 (Str.ofString "State.is_warm") (Value.str (Str.ofString "gasledger.state") 420) 318) ::
  (nat_lit 325, { cls := Value.type "code",   data :=     Data.fields       #[Value.str (Str.ofString "warm") 604, Value.str (Str.ofString "State.warm") 605,         Value.str (Str.ofString "/claim/cut.py") 606, Value.int 181 0, Value.int 2 0, Value.int 0 0, Value.int 0 0,         Value.int 3 0, Value.ref 320, Value.bool true, Value.int 181 0, Value.ref 321, Value.none, Value.ref 322,         Value.ref 323, Value.ref 324, Value.int 609 0, Value.int 181 0, Value.str (Str.ofString "/claim/cut.py") 610] }) ::
  (nat_lit 326, fnO hd.st28_20 (Str.ofString "State.warm") (Value.str (Str.ofString "gasledger.state") 420) 325) ::
  (nat_lit 332, { cls := Value.type "code",   data :=     Data.fields       #[Value.str (Str.ofString "is_warm_slot") 612, Value.str (Str.ofString "State.is_warm_slot") 613,         Value.str (Str.ofString "/claim/cut.py") 614, Value.int 186 0, Value.int 3 0, Value.int 0 0, Value.int 0 0,         Value.int 3 0, Value.ref 327, Value.bool true, Value.int 181 0, Value.ref 328, Value.none, Value.ref 329,         Value.ref 330, Value.ref 331, Value.int 618 0, Value.int 186 0, Value.str (Str.ofString "/claim/cut.py") 619] }) ::
  (nat_lit 333, fnO hd.st28_21 (Str.ofString "State.is_warm_slot") (Value.str (Str.ofString "gasledger.state") 420) 332) ::
  (nat_lit 339, { cls := Value.type "code",   data :=     Data.fields       #[Value.str (Str.ofString "warm_slot") 621, Value.str (Str.ofString "State.warm_slot") 622,         Value.str (Str.ofString "/claim/cut.py") 623, Value.int 189 0, Value.int 3 0, Value.int 0 0, Value.int 0 0,         Value.int 3 0, Value.ref 334, Value.bool true, Value.int 181 0, Value.ref 335, Value.none, Value.ref 336,         Value.ref 337, Value.ref 338, Value.int 627 0, Value.int 189 0, Value.str (Str.ofString "/claim/cut.py") 628] }) ::
  (nat_lit 340, fnO hd.st28_22 (Str.ofString "State.warm_slot") (Value.str (Str.ofString "gasledger.state") 420) 339) ::
  (nat_lit 346, { cls := Value.type "code",   data :=     Data.fields       #[Value.str (Str.ofString "add_refund") 630, Value.str (Str.ofString "State.add_refund") 631,         Value.str (Str.ofString "/claim/cut.py") 632, Value.int 194 0, Value.int 2 0, Value.int 0 0, Value.int 0 0,         Value.int 3 0, Value.ref 341, Value.bool true, Value.int 181 0, Value.ref 342, Value.none, Value.ref 343,         Value.ref 344, Value.ref 345, Value.int 635 0, Value.int 194 0, Value.str (Str.ofString "/claim/cut.py") 636] }) ::
  (nat_lit 347, fnO hd.st28_23 (Str.ofString "State.add_refund") (Value.str (Str.ofString "gasledger.state") 420) 346) ::
  (nat_lit 353, { cls := Value.type "code",   data :=     Data.fields       #[Value.str (Str.ofString "add_log") 638, Value.str (Str.ofString "State.add_log") 639,         Value.str (Str.ofString "/claim/cut.py") 640, Value.int 198 0, Value.int 2 0, Value.int 0 0, Value.int 0 0,         Value.int 3 0, Value.ref 348, Value.bool true, Value.int 181 0, Value.ref 349, Value.none, Value.ref 350,         Value.ref 351, Value.ref 352, Value.int 643 0, Value.int 198 0, Value.str (Str.ofString "/claim/cut.py") 644] }) ::
  (nat_lit 354, fnO hd.st28_24 (Str.ofString "State.add_log") (Value.str (Str.ofString "gasledger.state") 420) 353) ::
  (nat_lit 360, { cls := Value.type "code",   data :=     Data.fields       #[Value.str (Str.ofString "destroy") 646, Value.str (Str.ofString "State.destroy") 647,         Value.str (Str.ofString "/claim/cut.py") 648, Value.int 201 0, Value.int 2 0, Value.int 0 0, Value.int 0 0,         Value.int 3 0, Value.ref 355, Value.bool true, Value.int 181 0, Value.ref 356, Value.none, Value.ref 357,         Value.ref 358, Value.ref 359, Value.int 651 0, Value.int 201 0, Value.str (Str.ofString "/claim/cut.py") 652] }) ::
  (nat_lit 361, fnO hd.st28_25 (Str.ofString "State.destroy") (Value.str (Str.ofString "gasledger.state") 420) 360) ::
  (nat_lit 367, { cls := Value.type "code",   data :=     Data.fields       #[Value.str (Str.ofString "is_destroyed") 654, Value.str (Str.ofString "State.is_destroyed") 655,         Value.str (Str.ofString "/claim/cut.py") 656, Value.int 204 0, Value.int 2 0, Value.int 0 0, Value.int 0 0,         Value.int 3 0, Value.ref 362, Value.bool true, Value.int 181 0, Value.ref 363, Value.none, Value.ref 364,         Value.ref 365, Value.ref 366, Value.int 659 0, Value.int 204 0, Value.str (Str.ofString "/claim/cut.py") 660] }) ::
  (nat_lit 368, fnO hd.st28_26 (Str.ofString "State.is_destroyed") (Value.str (Str.ofString "gasledger.state") 420) 367) ::
  (nat_lit 374, { cls := Value.type "code",   data :=     Data.fields       #[Value.str (Str.ofString "mark") 662, Value.str (Str.ofString "State.mark") 663,         Value.str (Str.ofString "/claim/cut.py") 664, Value.int 207 0, Value.int 1 0, Value.int 0 0, Value.int 0 0,         Value.int 3 0, Value.ref 369, Value.bool true, Value.int 181 0, Value.ref 370, Value.none, Value.ref 371,         Value.ref 372, Value.ref 373, Value.int 666 0, Value.int 207 0, Value.str (Str.ofString "/claim/cut.py") 667] }) ::
  (nat_lit 375, fnO hd.st28_27 (Str.ofString "State.mark") (Value.str (Str.ofString "gasledger.state") 420) 374) ::
  (nat_lit 381, { cls := Value.type "code",   data :=     Data.fields       #[Value.str (Str.ofString "back") 669, Value.str (Str.ofString "State.back") 670,         Value.str (Str.ofString "/claim/cut.py") 671, Value.int 210 0, Value.int 2 0, Value.int 0 0, Value.int 0 0,         Value.int 3 0, Value.ref 376, Value.bool true, Value.int 181 0, Value.ref 377, Value.none, Value.ref 378,         Value.ref 379, Value.ref 380, Value.int 674 0, Value.int 210 0, Value.str (Str.ofString "/claim/cut.py") 675] }) ::
  (nat_lit 382, fnO hd.st28_28 (Str.ofString "State.back") (Value.str (Str.ofString "gasledger.state") 420) 381) ::
  (nat_lit 388, { cls := Value.type "code",   data :=     Data.fields       #[Value.str (Str.ofString "begin") 677, Value.str (Str.ofString "State.begin") 678,         Value.str (Str.ofString "/claim/cut.py") 679, Value.int 214 0, Value.int 1 0, Value.int 0 0, Value.int 0 0,         Value.int 3 0, Value.ref 383, Value.bool true, Value.int 181 0, Value.ref 384, Value.none, Value.ref 385,         Value.ref 386, Value.ref 387, Value.int 681 0, Value.int 214 0, Value.str (Str.ofString "/claim/cut.py") 682] }) ::
  (nat_lit 389, fnO hd.st28_29 (Str.ofString "State.begin") (Value.str (Str.ofString "gasledger.state") 420) 388) ::
  (nat_lit 395, { cls := Value.type "code",   data :=     Data.fields       #[Value.str (Str.ofString "end") 684, Value.str (Str.ofString "State.end") 685,         Value.str (Str.ofString "/claim/cut.py") 686, Value.int 219 0, Value.int 1 0, Value.int 0 0, Value.int 0 0,         Value.int 3 0, Value.ref 390, Value.bool true, Value.int 181 0, Value.ref 391, Value.none, Value.ref 392,         Value.ref 393, Value.ref 394, Value.int 689 0, Value.int 219 0, Value.str (Str.ofString "/claim/cut.py") 690] }) ::
  (nat_lit 396, fnO hd.st28_30 (Str.ofString "State.end") (Value.str (Str.ofString "gasledger.state") 420) 395) ::
  (nat_lit 398, { cls := Value.type "dict",   data :=     Data.dict       #[{ hash := PyData.keyHash P (Str.ofString "__module__"), key := Value.str (Str.ofString "__module__") 429,           val := Value.str (Str.ofString "gasledger.state") 420 },         { hash := PyData.keyHash P (Str.ofString "__firstlineno__"),           key := Value.str (Str.ofString "__firstlineno__") 433, val := Value.int 97 432 },         { hash := PyData.keyHash P (Str.ofString "__init__"), key := Value.str (Str.ofString "__init__") 441,           val := Value.ref 186 },         { hash := PyData.keyHash P (Str.ofString "account"), key := Value.str (Str.ofString "account") 449,           val := Value.ref 193 },         { hash := PyData.keyHash P (Str.ofString "addresses"), key := Value.str (Str.ofString "addresses") 456,           val := Value.ref 200 },         { hash := PyData.keyHash P (Str.ofString "total"), key := Value.str (Str.ofString "total") 463,           val := Value.ref 207 },         { hash := PyData.keyHash P (Str.ofString "written"), key := Value.str (Str.ofString "written") 471,           val := Value.ref 214 },         { hash := PyData.keyHash P (Str.ofString "touch"), key := Value.str (Str.ofString "touch") 479,           val := Value.ref 221 },         { hash := PyData.keyHash P (Str.ofString "exists"), key := Value.str (Str.ofString "exists") 487,           val := Value.ref 228 },         { hash := PyData.keyHash P (Str.ofString "is_empty"), key := Value.str (Str.ofString "is_empty") 495,           val := Value.ref 235 },         { hash := PyData.keyHash P (Str.ofString "balance"), key := Value.str (Str.ofString "balance") 503,           val := Value.ref 242 },         { hash := PyData.keyHash P (Str.ofString "set_balance"), key := Value.str (Str.ofString "set_balance") 512,           val := Value.ref 249 },         { hash := PyData.keyHash P (Str.ofString "moved"), key := Value.str (Str.ofString "moved") 522,           val := Value.ref 256 },         { hash := PyData.keyHash P (Str.ofString "nonce"), key := Value.str (Str.ofString "nonce") 530,           val := Value.ref 263 },         { hash := PyData.keyHash P (Str.ofString "set_nonce"), key := Value.str (Str.ofString "set_nonce") 540,           val := Value.ref 270 },         { hash := PyData.keyHash P (Str.ofString "code"), key := Value.str (Str.ofString "code") 548,           val := Value.ref 277 },         { hash := PyData.keyHash P (Str.ofString "set_code"), key := Value.str (Str.ofString "set_code") 557,           val := Value.ref 284 },         { hash := PyData.keyHash P (Str.ofString "code_hash"), key := Value.str (Str.ofString "code_hash") 565,           val := Value.ref 291 },         { hash := PyData.keyHash P (Str.ofString "slot"), key := Value.str (Str.ofString "slot") 574,           val := Value.ref 298 },         { hash := PyData.keyHash P (Str.ofString "set_slot"), key := Value.str (Str.ofString "set_slot") 586,           val := Value.ref 305 },         { hash := PyData.keyHash P (Str.ofString "original_slot"), key := Value.str (Str.ofString "original_slot") 595,           val := Value.ref 312 },         { hash := PyData.keyHash P (Str.ofString "is_warm"), key := Value.str (Str.ofString "is_warm") 603,           val := Value.ref 319 },         { hash := PyData.keyHash P (Str.ofString "warm"), key := Value.str (Str.ofString "warm") 611,           val := Value.ref 326 },         { hash := PyData.keyHash P (Str.ofString "is_warm_slot"), key := Value.str (Str.ofString "is_warm_slot") 620,           val := Value.ref 333 },         { hash := PyData.keyHash P (Str.ofString "warm_slot"), key := Value.str (Str.ofString "warm_slot") 629,           val := Value.ref 340 },         { hash := PyData.keyHash P (Str.ofString "add_refund"), key := Value.str (Str.ofString "add_refund") 637,           val := Value.ref 347 },         { hash := PyData.keyHash P (Str.ofString "add_log"), key := Value.str (Str.ofString "add_log") 645,           val := Value.ref 354 },         { hash := PyData.keyHash P (Str.ofString "destroy"), key := Value.str (Str.ofString "destroy") 653,           val := Value.ref 361 },         { hash := PyData.keyHash P (Str.ofString "is_destroyed"), key := Value.str (Str.ofString "is_destroyed") 661,           val := Value.ref 368 },         { hash := PyData.keyHash P (Str.ofString "mark"), key := Value.str (Str.ofString "mark") 668,           val := Value.ref 375 },         { hash := PyData.keyHash P (Str.ofString "back"), key := Value.str (Str.ofString "back") 676,           val := Value.ref 382 },         { hash := PyData.keyHash P (Str.ofString "begin"), key := Value.str (Str.ofString "begin") 683,           val := Value.ref 389 },         { hash := PyData.keyHash P (Str.ofString "end"), key := Value.str (Str.ofString "end") 691,           val := Value.ref 396 },         { hash := PyData.keyHash P (Str.ofString "__static_attributes__"),           key := Value.str (Str.ofString "__static_attributes__") 702, val := Value.ref 397 },         { hash := PyData.keyHash P (Str.ofString "__dict__"), key := Value.str (Str.ofString "__dict__") 704,           val := Value.ref 400 },         { hash := PyData.keyHash P (Str.ofString "__weakref__"), key := Value.str (Str.ofString "__weakref__") 706,           val := Value.ref 401 },         { hash := PyData.keyHash P (Str.ofString "__doc__"), key := Value.str (Str.ofString "__doc__") 707,           val := Value.none }]       4 }) ::
  (nat_lit 399, { cls := Value.type "type",   data :=     Data.cls       { name := Str.ofString "State", bases := [Value.type "object"], mro := [Value.ref 399, Value.type "object"],         ns := 398, qualname := Str.ofString "State" },   slots :=     #[none, none, some (Value.str (Str.ofString "State") 422), some (Value.str (Str.ofString "State") 430),       some (Value.builtin "object.__new__"), some (Value.bool true)] }) ::
  (nat_lit 400, { cls := Value.type "getset_descriptor",   data :=     Data.fields       #[Value.str (Str.ofString "__dict__") 703, Value.ref 399, Value.builtin "function.__dict__",         Value.builtin "function.__dict__#set"] }) ::
  (nat_lit 401, { cls := Value.type "getset_descriptor",   data :=     Data.fields       #[Value.str (Str.ofString "__weakref__") 705, Value.ref 399, Value.builtin "ExceptionGroup.__weakref__",         Value.none] }) ::
  (nat_lit 409, { cls := Value.type "code",   data :=     Data.fields       #[Value.str (Str.ofString "_law_table") 712, Value.str (Str.ofString "_law_table") 713,         Value.str (Str.ofString "/claim/cut.py") 714, Value.int 230 0, Value.int 0 0, Value.int 0 0, Value.int 0 0,         Value.int 3 0, Value.ref 404, Value.bool true, Value.int 181 0, Value.ref 405, Value.none, Value.ref 406,         Value.ref 407, Value.ref 408, Value.int 715 0, Value.int 230 0, Value.str (Str.ofString "/claim/cut.py") 716] }) ::
  (nat_lit 410, fnO hd.st30 (Str.ofString "_law_table") (Value.str (Str.ofString "law_pq0405_01") 710) 409) ::
  (nat_lit 416, { cls := Value.type "code",   data :=     Data.fields       #[Value.str (Str.ofString "_law_dip") 718, Value.str (Str.ofString "_law_dip") 719,         Value.str (Str.ofString "/claim/cut.py") 720, Value.int 232 0, Value.int 2 0, Value.int 0 0, Value.int 0 0,         Value.int 3 0, Value.ref 411, Value.bool true, Value.int 181 0, Value.ref 412, Value.none, Value.ref 413,         Value.ref 414, Value.ref 415, Value.int 724 0, Value.int 232 0, Value.str (Str.ofString "/claim/cut.py") 725] }) ::
  (nat_lit 417, fnO hd.st31 (Str.ofString "_law_dip") (Value.str (Str.ofString "law_pq0405_01") 710) 416) ::
  (nat_lit 423, { cls := Value.type "code",   data :=     Data.fields       #[Value.str (Str.ofString "_law_due") 727, Value.str (Str.ofString "_law_due") 728,         Value.str (Str.ofString "/claim/cut.py") 729, Value.int 238 0, Value.int 4 0, Value.int 0 0, Value.int 0 0,         Value.int 3 0, Value.ref 418, Value.bool true, Value.int 181 0, Value.ref 419, Value.none, Value.ref 420,         Value.ref 421, Value.ref 422, Value.int 739 0, Value.int 238 0, Value.str (Str.ofString "/claim/cut.py") 740] }) ::
  (nat_lit 424, fnO hd.st32 (Str.ofString "_law_due") (Value.str (Str.ofString "law_pq0405_01") 710) 423) ::
  (nat_lit 430, { cls := Value.type "code",   data :=     Data.fields       #[Value.str (Str.ofString "_law_walked") 742, Value.str (Str.ofString "_law_walked") 743,         Value.str (Str.ofString "/claim/cut.py") 744, Value.int 246 0, Value.int 2 0, Value.int 0 0, Value.int 0 0,         Value.int 3 0, Value.ref 425, Value.bool true, Value.int 181 0, Value.ref 426, Value.none, Value.ref 427,         Value.ref 428, Value.ref 429, Value.int 753 0, Value.int 246 0, Value.str (Str.ofString "/claim/cut.py") 754] }) ::
  (nat_lit 431, fnO hd.st33 (Str.ofString "_law_walked") (Value.str (Str.ofString "law_pq0405_01") 710) 430) ::
  (nat_lit 437, { cls := Value.type "code",   data :=     Data.fields       #[Value.str (Str.ofString "_law_lead") 756, Value.str (Str.ofString "_law_lead") 757,         Value.str (Str.ofString "/claim/cut.py") 758, Value.int 257 0, Value.int 2 0, Value.int 0 0, Value.int 0 0,         Value.int 3 0, Value.ref 432, Value.bool true, Value.int 181 0, Value.ref 433, Value.none, Value.ref 434,         Value.ref 435, Value.ref 436, Value.int 761 0, Value.int 257 0, Value.str (Str.ofString "/claim/cut.py") 762] }) ::
  (nat_lit 438, fnO hd.st34 (Str.ofString "_law_lead") (Value.str (Str.ofString "law_pq0405_01") 710) 437) ::
  (nat_lit 442, { cls := Value.type "code",   data :=     Data.fields       #[Value.str (Str.ofString "_law_net") 764, Value.str (Str.ofString "_law_net") 765,         Value.str (Str.ofString "/claim/cut.py") 766, Value.int 263 0, Value.int 2 0, Value.int 0 0, Value.int 0 0,         Value.int 3 0, Value.ref 439, Value.bool true, Value.int 181 0, Value.ref 440, Value.none, Value.none,         Value.none, Value.ref 441, Value.int 767 0, Value.int 263 0, Value.str (Str.ofString "/claim/cut.py") 768] }) ::
  (nat_lit 443, fnO hd.st35 (Str.ofString "_law_net") (Value.str (Str.ofString "law_pq0405_01") 710) 442) ::
  (nat_lit 447, { cls := Value.type "code",   data :=     Data.fields       #[Value.str (Str.ofString "_law_is_alike") 770, Value.str (Str.ofString "_law_is_alike") 771,         Value.str (Str.ofString "/claim/cut.py") 772, Value.int 273 0, Value.int 4 0, Value.int 0 0, Value.int 0 0,         Value.int 3 0, Value.ref 444, Value.bool true, Value.int 181 0, Value.ref 445, Value.none, Value.none,         Value.none, Value.ref 446, Value.int 773 0, Value.int 273 0, Value.str (Str.ofString "/claim/cut.py") 774] }) ::
  (nat_lit 448, fnO hd.st36 (Str.ofString "_law_is_alike") (Value.str (Str.ofString "law_pq0405_01") 710) 447) ::
  (nat_lit 452, { cls := Value.type "code",   data :=     Data.fields       #[Value.str (Str.ofString "_law_stage") 776, Value.str (Str.ofString "_law_stage") 777,         Value.str (Str.ofString "/claim/cut.py") 778, Value.int 283 0, Value.int 5 0, Value.int 0 0, Value.int 0 0,         Value.int 3 0, Value.ref 449, Value.bool true, Value.int 181 0, Value.ref 450, Value.none, Value.none,         Value.none, Value.ref 451, Value.int 779 0, Value.int 283 0, Value.str (Str.ofString "/claim/cut.py") 780] }) ::
  (nat_lit 453, fnO hd.st37 (Str.ofString "_law_stage") (Value.str (Str.ofString "law_pq0405_01") 710) 452) ::
  (nat_lit 459, { cls := Value.type "code",   data :=     Data.fields       #[Value.str (Str.ofString "_law_halts") 782, Value.str (Str.ofString "_law_halts") 783,         Value.str (Str.ofString "/claim/cut.py") 784, Value.int 316 0, Value.int 1 0, Value.int 0 0, Value.int 0 0,         Value.int 3 0, Value.ref 454, Value.bool true, Value.int 181 0, Value.ref 455, Value.none, Value.ref 456,         Value.ref 457, Value.ref 458, Value.int 787 0, Value.int 316 0, Value.str (Str.ofString "/claim/cut.py") 788] }) ::
  (nat_lit 460, fnO hd.st38 (Str.ofString "_law_halts") (Value.str (Str.ofString "law_pq0405_01") 710) 459) ::
  (nat_lit 464, { cls := Value.type "code",   data :=     Data.fields       #[Value.str (Str.ofString "law") 790, Value.str (Str.ofString "law") 791,         Value.str (Str.ofString "/claim/cut.py") 792, Value.int 322 0, Value.int 1 0, Value.int 0 0, Value.int 0 0,         Value.int 3 0, Value.ref 461, Value.bool true, Value.int 181 0, Value.ref 462, Value.none, Value.none,         Value.none, Value.ref 463, Value.int 793 0, Value.int 322 0, Value.str (Str.ofString "/claim/cut.py") 794] }) ::
  (nat_lit 465, fnO hd.st39 (Str.ofString "law") (Value.str (Str.ofString "law_pq0405_01") 710) 464) :: []
noncomputable def kAddrs : List Addr := [2, 3, 20, 21, 34, 35, 37, 38, 39, 50, 51, 59, 60, 66, 67, 73, 74, 80, 81, 87, 88, 94, 95, 108, 109, 111, 112, 113, 114, 122, 123, 129, 130, 136, 137, 150, 151, 153, 154, 155, 156, 164, 165, 171, 172, 185, 186, 192, 193, 199, 200, 206, 207, 213, 214, 220, 221, 227, 228, 234, 235, 241, 242, 248, 249, 255, 256, 262, 263, 269, 270, 276, 277, 283, 284, 290, 291, 297, 298, 304, 305, 311, 312, 318, 319, 325, 326, 332, 333, 339, 340, 346, 347, 353, 354, 360, 361, 367, 368, 374, 375, 381, 382, 388, 389, 395, 396, 398, 399, 400, 401, 409, 410, 416, 417, 423, 424, 430, 431, 437, 438, 442, 443, 447, 448, 452, 453, 459, 460, 464, 465]
end Mine
end
section
open PySem PySem.W PyProof.Rows
namespace Mine
/-- the top, run by one machine of trees: its last state is not written out -/
theorem left_of_run {p q : Program} {loose : List Str} {Xt : Shared → Bool} {α : Type} {Yf : Shared → α} {Ya : World → α} {N : Nat} {g0 : Bool} {H₀ : Params → Heap} {gs₀ : Array GenState} {d₀ : Drawn} {k₀ m₀ M : Nat} {ann : Option Value}
    (open_ : ∀ w : World, (fencedOpening treeTable p w N).map (fun s => (s.heap, s.gens, s.drawn, s.toks)) = some (H₀ w.params, gs₀, d₀, k₀))
    (size : ∀ w : World, ((H₀ w.params).isNs mainGlobals && gs₀.size == 0, (H₀ w.params).objs.size, (H₀ w.params).nsMap mainGlobals "__annotations__") = (true, m₀, ann))
    (run : ∀ (w : World) (os : OsState), ∃ s₁, topRun treeTable p w m₀ ann M ⟨H₀ w.params, gs₀, d₀, k₀, os⟩ (topStub p) = some s₁ ∧
      (staticsOk (importedModules p.main.body) (H₀ w.params) s₁.heap && namesBound p s₁.heap && gensDone s₁ && laidKept (H₀ w.params) s₁.heap) = true ∧ openSeen q loose (importedModules p.main.body) Xt g0 s₁ = openGood q loose ∧ Yf s₁ = Ya w)
    (le : Nat.ble M N = true) : LeftO p q loose Xt Yf Ya N g0 := fun w => by
  obtain ⟨⟨h, gs, d, k, os⟩, e, e'⟩ := Option.map_eq_some_iff.mp (open_ w)
  obtain ⟨rfl, rfl, rfl, rfl⟩ : h = H₀ w.params ∧ gs = gs₀ ∧ d = d₀ ∧ k = k₀ := by simpa using e'
  obtain ⟨z1, z2, z3⟩ : _ ∧ _ ∧ _ := by simpa only [Prod.mk.injEq] using size w
  obtain ⟨s₁, r, l1, l2, l3⟩ := run w os
  have r := topRun_mono (N - M) _ _ _ _ r
  rw [show M + (N - M) = N by have := Nat.le_of_ble_eq_true le; omega] at r
  have t : topFrom treeTable p w N ⟨H₀ w.params, gs, d, k, os⟩ = some s₁ := by
    unfold topFrom
    dsimp only
    rw [z1, z2, z3, r]
    show (match staticsOk (importedModules p.main.body) (H₀ w.params) s₁.heap && namesBound p s₁.heap && gensDone s₁ && laidKept (H₀ w.params) s₁.heap with | true => _ | false => _) = _
    rw [l1]
  unfold openEnds
  rw [e]
  show (topFrom treeTable p w N _).map _ = _
  rw [t]
  exact congrArg some (Prod.ext l2 l3)

noncomputable def t11 (_ : Params) : Obj := { cls := .type "tuple", data := .seq #[] }
noncomputable def t12 (_ : Params) : Obj := { cls := .none, data := .fields #[] }
noncomputable def t13 (_ : Params) : Obj := { cls := .type "code", data := .fields #[.str (Str.ofString "<module>") 182, .str (Str.ofString "<module>") 183, .str (Str.ofString "/claim/cut.py") 184, .int 1 0, .int 0 0, .int 0 0, .int 0 0, .int 0 0, .ref 11, .bool false, .int 181 0, .ref 12, .none, .none, .none, .none, .int 185 0, .int 1 0, .str (Str.ofString "/claim/cut.py") 186] }
noncomputable def t14 (_ : Params) : Obj := { cls := .type "frame", slots := #[some (.ref 13), some (.ref 3), some (.ref 3), none, some (.str (Str.ofString "__main__") 164), none, some (.ref 0)] }
noncomputable def heap0 (P : Params) : Heap := ⟨⟨[boot_o_0 P, boot_o_1 P, boot_o_2 P, boot_o_3 P, boot_o_4 P, boot_o_5 P, boot_o_6 P, boot_o_7 P, boot_o_8 P, boot_o_9 P, boot_o_10 P, t11 P, t12 P, t13 P, t14 P]⟩, {}⟩
noncomputable def tree0 (P : Params) : BT :=
  .node (boot_o_0 P)
    (.node (boot_o_1 P) (.node (boot_o_3 P) (.node (boot_o_7 P) .nil .nil) (.node (t11 P) .nil .nil)) (.node (boot_o_5 P) (.node (boot_o_9 P) .nil .nil) (.node (t13 P) .nil .nil)))
    (.node (boot_o_2 P) (.node (boot_o_4 P) (.node (boot_o_8 P) .nil .nil) (.node (t12 P) .nil .nil)) (.node (boot_o_6 P) (.node (boot_o_10 P) .nil .nil) (.node (t14 P) .nil .nil)))
noncomputable abbrev pos0 : Pos := ⟨0, 0, 0, 0⟩
noncomputable def envOfTop (p : Program) : Env := { scope := p.main.scope, locals := mainNs, globals := mainNs, cells := [], code := .ref 13, frame := some 14 }
noncomputable abbrev st0 (w : World) (os : OsState) : SharedT := ⟨tree0 w.params, 15, {}, #[], {}, 187, os⟩

/-- the run behind the block, the text's last steps, and what is looked at -/
noncomputable def endOf {β : Type} (r : Option (Flow × SharedT × Code × Pos)) (fin : Shared → Pos → Option Shared) (look : Shared → β) : Option (Code × β) := match r with
  | some (.next, s, c, x) => (fin s.abs x).map fun s => (c, look s)
  | _ => none
theorem run_of {p q : Program} {loose : List Str} {Xt : Shared → Bool} {α : Type} {Yf : Shared → α} {y : α} {g0 : Bool} {w : World} {os : OsState} {n : Nat}
    (pre : topGo treeTable p w 11 (some (.ref 6)) 12 ⟨boot_heap w.params, #[], boot_drawn, boot_toks, os⟩ (topStub p) = some (⟨heap0 w.params, #[], {}, 187, os⟩, ⟨denote treeTable (.body (behindTheImports p) (envOfTop p)), .body (behindTheImports p) (envOfTop p), pos0, [topFrame pos0]⟩))
    (blk : segRun treeTable p w 11 (some (.ref 6)) 1 1 ⟨heap0 w.params, #[], {}, 187, os⟩ (blockOf (behindTheImports p) (envOfTop p) (.body (behindTheImports p) (envOfTop p)) pos0 [topFrame pos0]) = some (.next, (st0 w os).abs, .body (behindTheImports p) (envOfTop p), pos0))
    (all : endOf (segRunT treeTable p w 11 (some (.ref 6)) 1 n (st0 w os) (piecesOf (behindTheImports p) (envOfTop p) (.body (behindTheImports p) (envOfTop p)) pos0 [topFrame pos0]))
      (fun s x => topRun treeTable p w 11 (some (.ref 6)) 2 s ⟨doneF .next, .body (behindTheImports p) (envOfTop p), x, [topFrame pos0]⟩)
      (fun s => (staticsOk (importedModules p.main.body) (boot_heap w.params) s.heap && namesBound p s.heap && gensDone s && laidKept (boot_heap w.params) s.heap, openSeen q loose (importedModules p.main.body) Xt g0 s, Yf s)) = some (.body (behindTheImports p) (envOfTop p), true, openGood q loose, y)) :
    ∃ s₁, topRun treeTable p w 11 (some (.ref 6)) (12 + (1 + (n + 2))) ⟨boot_heap w.params, #[], boot_drawn, boot_toks, os⟩ (topStub p) = some s₁ ∧
      (staticsOk (importedModules p.main.body) (boot_heap w.params) s₁.heap && namesBound p s₁.heap && gensDone s₁ && laidKept (boot_heap w.params) s₁.heap) = true ∧ openSeen q loose (importedModules p.main.body) Xt g0 s₁ = openGood q loose ∧ Yf s₁ = y := by
  unfold endOf at all
  split at all
  · rename_i s c x hs
    obtain ⟨s₁, h1, h2⟩ := Option.map_eq_some_iff.mp all
    obtain ⟨rfl, h2, h3, h4⟩ : _ ∧ _ ∧ _ ∧ _ := by simpa only [Prod.mk.injEq] using h2
    refine ⟨s₁, go_top pre (piece_block blk ?_), h2, h3, h4⟩
    have := piece_app (rest := []) (segRun_of hs) (piece_nil h1)
    rwa [List.append_nil] at this
  · cases all
end Mine
end
section
open PySem PySem.W PyProof.Rows
namespace Mine
/-- the law is well said: the kernel's look, without a twin of the program -/
theorem said_ok : PySem.Challenge.rw_pq0405_01.wellSaid = true := by kernel_rfl
theorem c_pre : ∀ (w : World) (os : OsState), topGo treeTable PySem.Challenge.rw_pq0405_01.row.prog w 11 (some (.ref 6)) 12 ⟨boot_heap w.params, #[], boot_drawn, boot_toks, os⟩ (topStub PySem.Challenge.rw_pq0405_01.row.prog) =
    some (⟨heap0 w.params, #[], {}, 187, os⟩, ⟨denote treeTable (.body (behindTheImports PySem.Challenge.rw_pq0405_01.row.prog) (envOfTop PySem.Challenge.rw_pq0405_01.row.prog)), (.body (behindTheImports PySem.Challenge.rw_pq0405_01.row.prog) (envOfTop PySem.Challenge.rw_pq0405_01.row.prog)), pos0, [topFrame pos0]⟩) := by
  intro w os
  rw [Fast.te15667345088766844465, Fast.te14364793385576792824, Fast.te2368527892694137696, Fast.te11892475500146522536]
  kernel_rfl
theorem c_blk : ∀ (w : World) (os : OsState), segRun treeTable PySem.Challenge.rw_pq0405_01.row.prog w 11 (some (.ref 6)) 1 1 ⟨heap0 w.params, #[], {}, 187, os⟩ (blockOf (behindTheImports PySem.Challenge.rw_pq0405_01.row.prog) (envOfTop PySem.Challenge.rw_pq0405_01.row.prog) (.body (behindTheImports PySem.Challenge.rw_pq0405_01.row.prog) (envOfTop PySem.Challenge.rw_pq0405_01.row.prog)) pos0 [topFrame pos0]) =
    some (.next, (st0 w os).abs, (.body (behindTheImports PySem.Challenge.rw_pq0405_01.row.prog) (envOfTop PySem.Challenge.rw_pq0405_01.row.prog)), pos0) := by
  intro w os
  rw [Fast.te14374325043358763698, Fast.te14364793385576792824, Fast.te2368527892694137696]
  kernel_rfl
theorem c_all : ∀ (w : World) (os : OsState), endOf (segRunT treeTable PySem.Challenge.rw_pq0405_01.row.prog w 11 (some (.ref 6)) 1 2885 (st0 w os) (piecesOf (behindTheImports PySem.Challenge.rw_pq0405_01.row.prog) (envOfTop PySem.Challenge.rw_pq0405_01.row.prog) (.body (behindTheImports PySem.Challenge.rw_pq0405_01.row.prog) (envOfTop PySem.Challenge.rw_pq0405_01.row.prog)) pos0 [topFrame pos0]))
      (fun s x => topRun treeTable PySem.Challenge.rw_pq0405_01.row.prog w 11 (some (.ref 6)) 2 s ⟨doneF .next, (.body (behindTheImports PySem.Challenge.rw_pq0405_01.row.prog) (envOfTop PySem.Challenge.rw_pq0405_01.row.prog)), x, [topFrame pos0]⟩)
      (fun s => (staticsOk (importedModules PySem.Challenge.rw_pq0405_01.row.prog.main.body) (boot_heap w.params) s.heap && namesBound PySem.Challenge.rw_pq0405_01.row.prog s.heap && gensDone s && laidKept (boot_heap w.params) s.heap, openSeen hd.view_39 [] (importedModules PySem.Challenge.rw_pq0405_01.row.prog.main.body) (fun s => xlAt hd.view_39 [] s && recOk (RowW.records PySem.Challenge.rw_pq0405_01.row.toRowW) s) true s, kAddrs.map s.heap.get?)) = some ((.body (behindTheImports PySem.Challenge.rw_pq0405_01.row.prog) (envOfTop PySem.Challenge.rw_pq0405_01.row.prog)), true, openGood hd.view_39 [], (hd.heap_39 w.params).map fun p => some p.2) := by
  intro w os
  rw [Fast.te10110043849684766642, Fast.te14364793385576792824, Fast.te2368527892694137696, Fast.te5923862056798008813, Fast.te4187177175401517315, Fast.te14082659384304107361]
  kernel_rfl
end Mine
end
section
open PySem PySem.W PyProof.Rows
namespace Mine
noncomputable abbrev hookK : Hook := kHook hd.heap_39 kAddrs (fun _ => by kernel_rfl)
theorem left_all : LeftO PySem.Challenge.rw_pq0405_01.row.prog hd.view_39 [] (fun s => xlAt hd.view_39 [] s && recOk (RowW.records PySem.Challenge.rw_pq0405_01.row.toRowW) s) (Hook.obs hookK) (Hook.val hookK) 3000 := by
  refine left_of_run (H₀ := boot_heap) (gs₀ := #[]) (d₀ := boot_drawn) (k₀ := boot_toks) (m₀ := 11) (ann := some (.ref 6)) (M := 2900) (boot_open (by kernel_rfl) (by decide) (fun s => by kernel_rfl)) (fun w => by kernel_rfl) (fun w os => ?_) (by decide)
  exact run_of (n := 2885) (c_pre w os) (c_blk w os) (c_all w os)
end Mine
end
section
open PySem PySem.W PyProof.Rows
namespace Mine
end Mine
end
section
open PySem PySem.W PyProof.Rows PySem.Calls
namespace Mine

/-- all but the listed addresses stay -/
noncomputable abbrev Keeps (M : List Addr) (h h' : Heap) : Prop := ∀ b o, b ∉ M → h.get? b = some o → h'.get? b = some o

/-- what a def does, told once for all its callers: its footprint, what it asks of the heap, what it leaves -/
noncomputable def Con (w : World) (mean : ExcName → Option Value) (mg mb : Str → Option Value) (f : Addr) (vs : List Value) (d : Nat) (foot : List (Addr × Obj)) (Pre : Heap → Prop) (Post : Heap → Value → Heap → Prop) : Prop :=
  ∀ (dp un : Nat) (gd : Option (List Code)) (cn : Str) (cs : Scope) (a : Addr) (ccd : Value) (cl : List (Str × Addr)) (outer : List Env) (A₀ : Around) (base h₀ : Heap) (L : Addr) (m : Str → Option Value) (s : Shared) (Q E : Value → Shared → Prop),
    Below A₀ base outer h₀ → Fr h₀ L s.heap m → (hd.heap_39 w.params).In h₀ → News h₀ L s.heap foot → Top hd.view_39 (looseW hd.view_39 []) mean mg mb h₀ → cs.kind = .function →
    Pre s.heap → dp + d < recursionLimit → un + 8 * d < cLine →
    (∀ v h' tk', Fr h₀ L h' m → Keeps (foot.map (·.1)) s.heap h' → Post s.heap v h' → Q v { s with heap := h', toks := tk' }) →
    wpAny (model PySem.Challenge.rw_pq0405_01.row.prog w) (ktrTop dp un gd cn cs L a ccd cl outer) (call (.ref f) vs) Q E s

theorem enterH {prog : Program} {w : World} {A A₀ : Around} {s : Shared} {K : Frag} {L : Addr} {h₀ base : Heap} {m mg mb : Str → Option Value} {news : List (Addr × Obj)} {p : Program} {loose : List Str} {mean : ExcName → Option Value}
    {env : Env} {outer : List Env} {R : Result → Shared → Prop} {name qual : Str} {params : Arguments} {body : List Stmt} {scope : Scope} {dV kV doc pm cdv ct oc : Value} {an od : Option Addr} {osl : Array (Option Value)} {f : Addr} {args : Args} {binds : List (Str × Value)}
    (B : Below A₀ base outer h₀) (F : Fr h₀ L s.heap m) (X₀ : K.In h₀) (N : News h₀ L s.heap news) (T : Top p loose mean mg mb h₀) (hA : A.frames = some (env :: outer)) (hf : env.frame = some L) (hke : env.scope.kind = .function)
    (ho : K.lookup f = some ⟨oc, od, .func (fnOf name qual params body scope dV kV doc pm an cdv ct), osl⟩) (hcd : codeIn K cdv qual = true) (hroom : A.depth < recursionLimit)
    (hbind : BindsTo s (fnOf name qual params body scope dV kV doc pm an cdv ct) args binds) (hloc : ∀ y ∈ binds, scope.names.lookup y.1 = some .local)
    (h : ∀ g L' h₁, Fr h₀ L g m → Fr g L' h₁ (fun y => binds.reverse.lookup y) → News g L' h₁ news → Below A base (env :: outer) g → K.In g → Top p loose mean mg mb g →
      g = hideAll s.heap (news.map (·.1)) → L' = s.heap.objs.size →
      wpAny (model prog w) (A.deeper (envOf qual scope L' f cdv)) (execs body (envOf qual scope L' f cdv))
        (fun fl s' => LeaveK h₀ L m g R (match fl with | .ret v => v | _ => .none) s')
        (fun e s' => wpAny (model prog w) (A.deeper (envOf qual scope L' f cdv)) (leaving (envOf qual scope L' f cdv) e) (fun _ s'' => R (.error e) s'') (fun e' s'' => R (.error e') s'') s')
        { s with heap := h₁, toks := s.toks + binds.length })
    (hco : scope.isCoroutine = false) (hgen : scope.isGenerator = false) (hk : scope.kind = .function)
    (hcell : ∀ x ∈ scope.names, x.2 ≠ .cell) : codeAny (model prog w) A (.call (.ref f) args) R s := by
  obtain ⟨FG, BG, st, lv⟩ := groundX (R := R) B F N hA hf hke
  refine codeAny_call_def (fd := fnOf name qual params body scope dV kV doc pm an cdv ct) (body := body) (binds := binds) hroom ((X₀.keeps F.keep) _ _ ho) rfl (T.nolimit.keeps F.keep) (codeRec_of (X₀.keeps F.keep) hcd) rfl hbind hcell hloc (fun h₁ hns hk₁ => ?_) hco hgen hk
  refine wpAny_mono (h _ s.heap.objs.size h₁ FG ⟨hns, fun b o e => hk₁ b o (of_hideAll _ e), Nat.le_of_eq (hideAll_size _ _)⟩ ?_ BG (X₀.keeps st) (T.keeps st) rfl rfl) (fun fl s' hl => lv _ _ hl) fun _ _ y => y
  exact fun p hp => ⟨hk₁ _ _ (N p hp).1, Nat.ne_of_lt (Heap.lt_size (N p hp).1), hideAll_none _ (List.mem_map_of_mem hp)⟩

/-- at a way's end: what was not of the ledger is kept -/
theorem keeps_end {s : Shared} {g h' : Heap} {L' : Addr} {m' : Str → Option Value} {news : List (Addr × Obj)} (hg : g = hideAll s.heap (news.map (·.1))) (F' : Fr g L' h' m') : Keeps (news.map (·.1)) s.heap h' := by
  subst hg
  exact fun b o hb e => F'.keep b o (hideAll_get _ e hb)
theorem keeps_of {h g : Heap} {M : List Addr} (hg : g = hideAll h M) : Keeps M h g := by
  subst hg
  exact fun b o hb e => hideAll_get _ e hb
theorem of_hidden {h g : Heap} {M : List Addr} (hg : g = hideAll h M) {b : Addr} {o : Obj} (e : g.get? b = some o) : h.get? b = some o := by
  subst hg
  exact of_hideAll _ e
end Mine
namespace Mine
theorem Con.use {w : World} {mean : ExcName → Option Value} {mg mb : Str → Option Value} {f : Addr} {vs : List Value} {d : Nat} {foot : List (Addr × Obj)} {Pre : Heap → Prop} {Post : Heap → Value → Heap → Prop} (C : Con w mean mg mb f vs d foot Pre Post)
    {dp un : Nat} {gd : Option (List Code)} {cn : Str} {cs : Scope} {a : Addr} {ccd : Value} {cl : List (Str × Addr)} {outer : List Env} {A₀ : Around} {base h₀ : Heap} {L : Addr} {m : Str → Option Value} {s : Shared} {Q E : Value → Shared → Prop}
    (B : Below A₀ base outer h₀) (F : Fr h₀ L s.heap m) (X : (hd.heap_39 w.params).In h₀) (N : News h₀ L s.heap foot) (T : Top hd.view_39 (looseW hd.view_39 []) mean mg mb h₀) (hk : cs.kind = .function)
    (hp : Pre s.heap) (h1 : dp + d < recursionLimit) (h2 : un + 8 * d < cLine)
    (k : ∀ v h' tk', Fr h₀ L h' m → Keeps (foot.map (·.1)) s.heap h' → Post s.heap v h' → Q v { s with heap := h', toks := tk' }) :
    wpAny (model PySem.Challenge.rw_pq0405_01.row.prog w) (ktrTop dp un gd cn cs L a ccd cl outer) (call (.ref f) vs) Q E s := C _ _ _ _ _ _ _ _ _ _ _ _ _ _ _ _ _ B F X N T hk hp h1 h2 k
theorem news_pure {G : Prop} {h₀ h h' : Heap} {L : Addr} {news : List (Addr × Obj)} (N : News h₀ L h news) (K : Keeps (([] : List (Addr × Obj)).map (·.1)) h h') (k : News h₀ L h' news → G) : G :=
  k fun p hp => ⟨K _ _ (by simp) (N p hp).1, (N p hp).2⟩
theorem ex_int {x y : Int} {t : Tok} (e : x = y) : ∃ u, Value.int x t = .int y u := ⟨t, by rw [e]⟩
end Mine
end
section
open PySem PySem.W PyProof.Rows PySem.Calls
namespace Mine
section
variable {α : Type} {M : Model} {A : Around} {E : Value → Shared → Prop}
/-- the count of names, forgotten -/
theorem toksF {t : Sem α} {Q : α → Shared → Prop} {h : Heap} {g : Array GenState} {d : Drawn} {k : Nat} {os : OsState} (H : ∀ k, wpAny M A t Q E ⟨h, g, d, k, os⟩) : wpAny M A t Q E ⟨h, g, d, k, os⟩ := H k
/-- a row of statements: what follows the first is named -/
theorem execsF {st : Stmt} {rest : List Stmt} {env : Env} {Q : Flow → Shared → Prop} {s : Shared}
    (h : let q := fun (f : Flow) (s' : Shared) => (match f with | .next => wpAny M A (execs rest env) Q E s' | f => Q f s'); wpAny M A (exec st env) q E s) :
    wpAny M A (execs (st :: rest) env) Q E s := wpAny_execs_cons h
end
section
variable {M : Model} {A : Around} {E : Value → Shared → Prop} {s : Shared} {h₀ : Heap} {L a : Addr} {m : Str → Option Value} {cn : Str} {cs : Scope} {ccd cd : Value} {cl : List (Str × Addr)} {name : Str} {scope : Scope}
  {x : Str} {v : Value} {Q : Unit → Shared → Prop} {news : List (Addr × Obj)}
theorem stNF (F : Fr h₀ L s.heap m) (N : News h₀ L s.heap news)
    (h : let mm := (fun y => if y = x then some v else m y); ∀ h' (_F' : Fr h₀ L h' mm) (_N' : News h₀ L h' news), Q () { s with heap := h', toks := s.toks + 1 })
    (hk : scope.kind = .function) (hl : (envOf name scope L a cd).kindOf x = some .local) :
    wpAny M A (storeName (envOf name scope L a cd) x v) Q E s := stN F N h hk hl
theorem stXF (F : Fr h₀ L s.heap m) (N : News h₀ L s.heap news)
    (h : let mm := (fun y => if y = x then some v else m y); ∀ h' (_F' : Fr h₀ L h' mm) (_N' : News h₀ L h' news), Q () { s with heap := h', toks := s.toks + 1 })
    (hk : cs.kind = .function) (hx : (envX cn cs L a ccd cl).kindOf x = some .local) :
    wpAny M A (storeName (envX cn cs L a ccd cl) x v) Q E s := storeX_L F N h hk hx
end
section
variable {prog : Program} {w : World} {A A₀ : Around} {s : Shared} {K : Frag} {L : Addr} {h₀ base : Heap} {m mg mb : Str → Option Value} {news : List (Addr × Obj)} {p : Program} {loose : List Str} {mean : ExcName → Option Value}
    {env : Env} {outer : List Env} {R : Result → Shared → Prop} {name qual : Str} {params : Arguments} {body : List Stmt} {scope : Scope} {dV kV doc pm cdv ct oc : Value} {an od : Option Addr} {osl : Array (Option Value)} {f : Addr} {args : Args} {binds : List (Str × Value)}
/-- a def is entered: its frame, what is around it and its names are named -/
theorem code_defF
    (B : Below A₀ base outer h₀) (F : Fr h₀ L s.heap m) (X₀ : K.In h₀) (N : News h₀ L s.heap news) (T : Top p loose mean mg mb h₀) (hA : A.frames = some (env :: outer)) (hf : env.frame = some L) (hke : env.scope.kind = .function)
    (ho : K.lookup f = some ⟨oc, od, .func (fnOf name qual params body scope dV kV doc pm an cdv ct), osl⟩) (hcd : codeIn K cdv qual = true) (hroom : A.depth < recursionLimit)
    (hbind : BindsTo s (fnOf name qual params body scope dV kV doc pm an cdv ct) args binds) (hloc : ∀ y ∈ binds, scope.names.lookup y.1 = some .local)
    (h : ∀ g L' h₁, let ev := envOf qual scope L' f cdv; let AX := A.deeper ev; let mm := (fun y => binds.reverse.lookup y); Fr h₀ L g m → Fr g L' h₁ mm → News g L' h₁ news → Below A base (env :: outer) g → K.In g → Top p loose mean mg mb g →
      wpAny (model prog w) AX (execs body ev)
        (fun fl s' => LeaveK h₀ L m g R (match fl with | .ret v => v | _ => .none) s')
        (fun e s' => wpAny (model prog w) AX (leaving ev e) (fun _ s'' => R (.error e) s'') (fun e' s'' => R (.error e') s'') s')
        { s with heap := h₁, toks := s.toks + binds.length })
    (hco : scope.isCoroutine = false) (hgen : scope.isGenerator = false) (hk : scope.kind = .function)
    (hcell : ∀ x ∈ scope.names, x.2 ≠ .cell) : codeAny (model prog w) A (.call (.ref f) args) R s :=
  code_def B F X₀ N T hA hf hke ho hcd hroom hbind hloc h hco hgen hk hcell
theorem enterHF
    (B : Below A₀ base outer h₀) (F : Fr h₀ L s.heap m) (X₀ : K.In h₀) (N : News h₀ L s.heap news) (T : Top p loose mean mg mb h₀) (hA : A.frames = some (env :: outer)) (hf : env.frame = some L) (hke : env.scope.kind = .function)
    (ho : K.lookup f = some ⟨oc, od, .func (fnOf name qual params body scope dV kV doc pm an cdv ct), osl⟩) (hcd : codeIn K cdv qual = true) (hroom : A.depth < recursionLimit)
    (hbind : BindsTo s (fnOf name qual params body scope dV kV doc pm an cdv ct) args binds) (hloc : ∀ y ∈ binds, scope.names.lookup y.1 = some .local)
    (h : ∀ g L' h₁, let ev := envOf qual scope L' f cdv; let AX := A.deeper ev; let mm := (fun y => binds.reverse.lookup y); let gS := s.gens; let dS := s.drawn; let oS := s.os; Fr h₀ L g m → Fr g L' h₁ mm → News g L' h₁ news → Below A base (env :: outer) g → K.In g → Top p loose mean mg mb g →
      g = hideAll s.heap (news.map (·.1)) → L' = s.heap.objs.size →
      wpAny (model prog w) AX (execs body ev)
        (fun fl s' => LeaveK h₀ L m g R (match fl with | .ret v => v | _ => .none) s')
        (fun e s' => wpAny (model prog w) AX (leaving ev e) (fun _ s'' => R (.error e) s'') (fun e' s'' => R (.error e') s'') s')
        ⟨h₁, gS, dS, s.toks + binds.length, oS⟩)
    (hco : scope.isCoroutine = false) (hgen : scope.isGenerator = false) (hk : scope.kind = .function)
    (hcell : ∀ x ∈ scope.names, x.2 ≠ .cell) : codeAny (model prog w) A (.call (.ref f) args) R s :=
  enterH B F X₀ N T hA hf hke ho hcd hroom hbind hloc h hco hgen hk hcell
end
/-- the map of names, named -/
theorem fr_let {G : Prop} {g h : Heap} {L : Addr} {m : Str → Option Value} (F : Fr g L h m) (k : let mm := m; Fr g L h mm → G) : G := k F
/-- room for the frames and the units, by their counts -/
theorem roomF {a dp D : Nat} (k : Nat) (hd : dp + D < recursionLimit) (e : a = dp + k) (l : Nat.ble k D = true) : a < recursionLimit := by
  subst e; exact Nat.lt_of_le_of_lt (Nat.add_le_add_left (Nat.le_of_ble_eq_true l) dp) hd
theorem unitF {a un D : Nat} (k : Nat) (hu : un + 8 * D < cLine) (e : a = un + k) (l : Nat.ble k (8 * D) = true) : a < cLine := by
  subst e; exact Nat.lt_of_le_of_lt (Nat.add_le_add_left (Nat.le_of_ble_eq_true l) un) hu
theorem unitG {a un D c : Nat} (k : Nat) (hu : un + 8 * D < cLine) (e : a = un + k) (l : Nat.ble (k + c) (8 * D) = true) : a + c < cLine := by
  subst e; rw [Nat.add_assoc]; exact Nat.lt_of_le_of_lt (Nat.add_le_add_left (Nat.le_of_ble_eq_true l) un) hu
/-- what the state keeps, named -/
theorem foldG {α : Type} {M : Model} {A : Around} {t : Sem α} {Q : α → Shared → Prop} {E : Value → Shared → Prop} {s : Shared} {h : Heap} {k : Nat} (H : let g := s.gens; let d := s.drawn; let o := s.os; wpAny M A t Q E ⟨h, g, d, k, o⟩) : wpAny M A t Q E ⟨h, s.gens, s.drawn, k, s.os⟩ := H
/-- what is around, and the frame, named -/
theorem foldAE {M : Model} {A0 : Around} {ev : Env} {b : List Stmt} {Q : Flow → Shared → Prop} {E : Value → Shared → Prop} {s : Shared} (h : let e := ev; let A := A0.deeper e; wpAny M A (execs b e) Q E s) : wpAny M (A0.deeper ev) (execs b ev) Q E s := h
end Mine
end
open PySem PySem.W PyProof.Rows
local macro_rules | `(tactic| walk_at $s:str) => `(tactic| k_extra $s)
local macro_rules | `(tactic| ktr_room) => `(tactic| k_extra "g_ktr_room")
local macro_rules | `(tactic| ktr_units) => `(tactic| k_extra "g_ktr_units")
local macro_rules | `(tactic| k_lt $h:ident) => `(tactic| (replace $h := allLt_of $h; dsimp only [AllLt] at $h:ident))
local macro_rules | `(tactic| k_room) => `(tactic| ktr_room)
local macro_rules | `(tactic| k_units) => `(tactic| ktr_units)
local macro_rules | `(tactic| size_fits) => `(tactic| k_extra "g_size_fits")
namespace Mine
theorem lines_glob : True := by
  (k_with "g_ktr_room" => (first | exact Nat.le_of_ble_eq_true rfl | exact roomF 0 (by assumption) rfl rfl | exact roomF 1 (by assumption) rfl rfl | exact roomF 2 (by assumption) rfl rfl | exact roomF 3 (by assumption) rfl rfl | exact roomF 4 (by assumption) rfl rfl))
  (k_with "g_ktr_units" => (first | exact Nat.le_of_ble_eq_true rfl | exact unitF 3 (by assumption) rfl rfl | exact unitG 3 (by assumption) rfl rfl | exact unitG 6 (by assumption) rfl rfl | exact unitF 6 (by assumption) rfl rfl | exact unitF 7 (by assumption) rfl rfl | exact unitF 4 (by assumption) rfl rfl | exact unitF 5 (by assumption) rfl rfl | exact unitF 8 (by assumption) rfl rfl | exact unitF 9 (by assumption) rfl rfl | exact unitF 10 (by assumption) rfl rfl | exact unitF 11 (by assumption) rfl rfl | exact unitF 12 (by assumption) rfl rfl | exact unitF 13 (by assumption) rfl rfl | exact unitF 14 (by assumption) rfl rfl | exact unitF 15 (by assumption) rfl rfl | exact unitF 0 (by assumption) rfl rfl | exact unitF 1 (by assumption) rfl rfl | exact unitF 2 (by assumption) rfl rfl))
  (k_with "g_k_ne" => ((refine neN ?_; (try dsimp only); first | exact Ne'.o (by with_reducible assumption) | exact Ne'.s (by with_reducible assumption) | k_extra "ne")))
  (k_with "g_k_all" => (first | exact OwnOff.ne (by with_reducible assumption) (by k_mem) | exact allLt_ne (by assumption)))
  (k_with "g_size_fits" => ((simp only [List.size_toArray, List.length_map, List.length_append, List.length_cons, List.length_nil, Array.size_push]; (first | done | (rw [sizeLine_eq]; omega)))))
  trivial
end Mine
section
open PySem PySem.W PyProof.Rows PySem.Calls PySem.Spec
namespace Mine
section
variable {prog : Program} {w : World} {K : Type} [DecidableEq K] {knd : KeyKind prog w K} {A : Around} {E : Value → Shared → Prop} {s : Shared} {h₀ : Heap} {L d : Addr} {m : Str → Option Value}
  {news : List (Addr × Obj)} {kvs : List (K × Value)} {o : Obj} {k : K} {key v : Value}

theorem d_at (N : News h₀ L s.heap news) (hm : (d, o) ∈ news) (hD : o.IsDictOf knd kvs) : s.heap.DictOf knd d kvs := Heap.dictOf_iff.mpr ⟨o, (N _ hm).1, hD⟩

theorem d_in {Q : Value → Shared → Prop} (N : News h₀ L s.heap news) (hm : (d, o) ∈ news) (hD : o.IsDictOf knd kvs) (hkey : knd.is k key = true) (lo : (d == sysModules) = false)
    (h : Q (.bool (valueAt kvs k).isSome) { s with toks := s.toks + 1 }) : wpAny (model prog w) A (compareOp .In key (.ref d)) Q E s :=
  wpAny_in_of hkey lo (d_at N hm hD).mapOf h

theorem d_item {Q : Value → Shared → Prop} {value slice : Expr} (N : News h₀ L s.heap news) (hm : (d, o) ∈ news) (hD : o.IsDictOf knd kvs) (hkey : knd.is k key = true) (hv : valueAt kvs k = some v)
    (h : Q v { s with toks := s.toks + 1 }) (hs : subscripted slice false (.ref d) key = operate [.ref d, key] (getItem (.ref d) key)) :
    wpAny (model prog w) A (subscriptTail value slice (.ref d) key) Q E s :=
  tail_any (d_at N hm hD).typeIs slot_dict_getitem.lookup (wpAny_getItem_of hkey (d_at N hm hD).mapOf hv h) hs

theorem d_get2 {dflt : Value} {Q : Value → Shared → Prop} (N : News h₀ L s.heap news) (hm : (d, o) ∈ news) (hD : o.IsDictOf knd kvs) (hkey : knd.is k key = true) (lo : (d == sysModules) = false)
    (h : Q ((valueAt kvs k).getD dflt) { s with toks := s.toks + 1 }) : wpAny (model prog w) A (call (.builtin "dict.get") [.ref d, key, dflt]) Q E s :=
  call_meetsIn PySem.F.slot_dict_get (d_at N hm hD).typeIs PySem.F.entry_dict_get (PySem.F.args_dict_get_3 _ _ _) (meets_dict_get_default knd d hkey lo dflt) ⟨_, (d_at N hm hD).mapOf, h⟩

theorem d_set {Q : Unit → Shared → Prop} {g : Obj → List (Addr × Obj)} (F : Fr h₀ L s.heap m) (N : News h₀ L s.heap news) (U : UpdF d o news g) (hD : o.IsDictOf knd kvs) (hkey : knd.is k key = true) (hz : kvs.length ≤ 1000)
    (h : ∀ h' o', Fr h₀ L h' m → News h₀ L h' (g o') → o'.IsDictOf knd (stored kvs k v) → Q () { s with heap := h', toks := s.toks + 1 }) : wpAny (model prog w) A (setItem (.ref d) key v) Q E s := by
  obtain ⟨own, rest, rfl, hg, h1, h2⟩ := U.split
  have hmem := N (d, o) (List.mem_append_right _ (.head _))
  refine wpAny_setItem_pairs (hsz := by rw [sizeLine_eq]; omega) hkey (Heap.dictOf_iff.mpr ⟨o, hmem.1, hD⟩) fun h' hd' hs => ?_
  obtain ⟨o', ho', hD'⟩ := Heap.dictOf_iff.mp hd'
  exact h h' o' (F.change hs hmem.2.1 hmem.2.2) (hg o' ▸ N.setAt h1 h2 hs ho') hD'

theorem d_del {Q : Unit → Shared → Prop} {g : Obj → List (Addr × Obj)} (F : Fr h₀ L s.heap m) (N : News h₀ L s.heap news) (U : UpdF d o news g) (hD : o.IsDictOf knd kvs) (hkey : knd.is k key = true) (hl : (valueAt kvs k).isSome = true) (hz : kvs.length ≤ 1000)
    (h : ∀ h' o', Fr h₀ L h' m → News h₀ L h' (g o') → o'.IsDictOf knd (without kvs k) → Q () { s with heap := h', toks := s.toks + 1 }) : wpAny (model prog w) A (delItem (.ref d) key) Q E s := by
  obtain ⟨own, rest, rfl, hg, h1, h2⟩ := U.split
  have hmem := N (d, o) (List.mem_append_right _ (.head _))
  have hDD : s.heap.DictOf knd d kvs := Heap.dictOf_iff.mpr ⟨o, hmem.1, hD⟩
  unfold delItem
  try with_reducible refine wpAny_holding ?_
  refine wpAny_bind (wpAny_sequenceKey hDD.typeIs (by decide) ?_)
  refine wpAny_bind (wpAny_callSpecial?_slot (name := Str.ofString "__delitem__") hDD.typeIs PySem.F.slot_dict_delitem
    (call_meetsIn PySem.F.slot_dict_delitem hDD.typeIs PySem.F.entry_dict_delitem (PySem.F.args_dict_delitem_2 _ _) (meets_dict_delitem_pairs knd d hkey) ⟨kvs, hDD, (by rw [sizeLine_eq]; omega), hl, fun h' hd' hs => ?_⟩))
  obtain ⟨o', ho', hD'⟩ := Heap.dictOf_iff.mp hd'
  exact wpAny_pure (h h' o' (F.change hs hmem.2.1 hmem.2.2) (hg o' ▸ N.setAt h1 h2 hs ho') hD')
end
theorem int_key {prog : Program} {w : World} (k : Int) (t : Tok) : (intKind prog w).is k (.int k t) = true := by simp [intKind, Value.isInt]
theorem str_key {prog : Program} {w : World} (k : Str) (t : Tok) : (strKind prog w).is k (.str k t) = true := strKind_is prog w k t
end Mine
end
section
open PySem PySem.W PyProof.Rows PySem.Calls PySem.Spec
namespace Mine
/-- an object that is a dict whose keys are tuples of ints -/
noncomputable def IsT (prog : Program) (w : World) (o : Obj) (xs : List (List Int × Addr × Value)) : Prop :=
  ∃ es ep, o.ExactDict ∧ o.data = .dict es ep ∧ es.toList = xs.map (entryOfKey (tupleKind (intKind prog w))) ∧ (xs.map (·.1)).Nodup
/-- an object that is a tuple of these ints -/
noncomputable def IsTupO (prog : Program) (w : World) (ks : List Int) (o : Obj) : Prop := ∃ items n, o.cls = .type "tuple" ∧ o.data = .seq items n ∧ ItemsAre (intKind prog w) ks items.toList
/-- the keys of such a dict lie in this ledger -/
noncomputable def KeysIn (prog : Program) (w : World) (led : List (Addr × Obj)) (xs : List (List Int × Addr × Value)) : Prop := ∀ x ∈ xs, ∃ o, (x.2.1, o) ∈ led ∧ IsTupO prog w x.1 o
theorem KeysIn.mono {prog : Program} {w : World} {led led' : List (Addr × Obj)} {xs : List (List Int × Addr × Value)} (K : KeysIn prog w led xs) (h : ∀ p ∈ led, p ∈ led') : KeysIn prog w led' xs :=
  fun x hx => let ⟨o, ho, t⟩ := K x hx; ⟨o, h _ ho, t⟩
theorem tupO2 {prog : Program} {w : World} {a b : Int} {t u : Tok} {n : Nat} {dd : Option Addr} {sl : Array (Option Value)} : IsTupO prog w [a, b] { cls := .type "tuple", dict := dd, data := .seq #[.int a t, .int b u] n, slots := sl } :=
  ⟨_, _, rfl, rfl, .cons (int_key _ _) (.cons (int_key _ _) .nil)⟩
/-- such a dict less one key -/
noncomputable def withoutH (xs : List (List Int × Addr × Value)) (k : List Int) : List (List Int × Addr × Value) := xs.filter fun x => decide (x.1 ≠ k)
theorem eraseIdx_filter {k : List Int} {p : Addr × Value} : ∀ {xs : List (List Int × Addr × Value)} {i : Nat}, (xs.map (·.1)).Nodup → xs[i]? = some (k, p) → xs.eraseIdx i = withoutH xs k
  | [], i, _, h => by simp at h
  | x :: xs, 0, hn, h => by
    simp only [List.getElem?_cons_zero, Option.some.injEq] at h
    subst h
    rw [List.map_cons, List.nodup_cons] at hn
    unfold withoutH
    rw [List.eraseIdx_zero, List.tail_cons, List.filter_cons_of_neg (by simp)]
    refine (List.filter_eq_self.mpr fun y hy => ?_).symm
    exact decide_eq_true fun e => hn.1 (List.mem_map.mpr ⟨y, hy, e⟩)
  | x :: xs, i + 1, hn, h => by
    rw [List.map_cons, List.nodup_cons] at hn
    simp only [List.getElem?_cons_succ] at h
    have ih := eraseIdx_filter hn.2 h
    have hne : x.1 ≠ k := fun e => hn.1 (e ▸ List.mem_map.mpr ⟨(k, p), List.mem_of_getElem? h, rfl⟩)
    unfold withoutH at ih ⊢
    rw [List.eraseIdx_cons_succ, ih, List.filter_cons_of_pos (by simpa using hne)]
theorem map_erase {α β : Type} (f : α → β) : ∀ (l : List α) (j : Nat), (l.map f).eraseIdx j = (l.eraseIdx j).map f
  | [], _ => rfl
  | _ :: _, 0 => rfl
  | x :: l, j + 1 => by rw [List.map_cons, List.eraseIdx_cons_succ, List.eraseIdx_cons_succ, List.map_cons, map_erase f l j]
section
variable {prog : Program} {w : World} {A : Around} {E : Value → Shared → Prop} {s : Shared} {h₀ : Heap} {L d q : Addr} {m : Str → Option Value}
  {news : List (Addr × Obj)} {xs : List (List Int × Addr × Value)} {o oq : Obj} {k : List Int} {v : Value}

theorem tupKey_of (ho : s.heap.get? q = some oq) (t : IsTupO prog w k oq) : IsTupleKey (intKind prog w) s.heap k q := by
  obtain ⟨items, n, a, b, c⟩ := t
  exact ⟨oq, items, n, ho, a, b, c⟩
theorem t_at (N : News h₀ L s.heap news) (hm : (d, o) ∈ news) (hD : IsT prog w o xs) (hK : KeysIn prog w news xs) : s.heap.DictOfH (tupleKind (intKind prog w)) d xs := by
  obtain ⟨es, ep, a, b, c, e⟩ := hD
  refine ⟨o, es, ep, (N _ hm).1, a, b, c, fun x hx => ?_, e⟩
  obtain ⟨_, hx1, hx2⟩ := hK x hx
  exact tupKey_of (N _ hx1).1 hx2

theorem t_in {Q : Value → Shared → Prop} (N : News h₀ L s.heap news) (hm : (d, o) ∈ news) (hD : IsT prog w o xs) (hK : KeysIn prog w news xs) (hq : (q, oq) ∈ news) (ht : IsTupO prog w k oq) (hu : A.units + 1 < cLine) (lo : (d == sysModules) = false) {b : Bool} (hb : (atKey xs k).isSome = b)
    (h : Q (.bool b) { s with toks := s.toks + (k.length + 1) }) : wpAny (model prog w) A (compareOp .In (.ref q) (.ref d)) Q E s :=
  wpAny_in_heap (knd := tupleKind (intKind prog w)) (tupleKind_room_in1 hu) (tupKey_of (N _ hq).1 ht) lo (t_at N hm hD hK) (by rw [hb]; exact h)

theorem t_contains {Q : Bool → Shared → Prop} (N : News h₀ L s.heap news) (hm : (d, o) ∈ news) (hD : IsT prog w o xs) (hK : KeysIn prog w news xs) (hq : (q, oq) ∈ news) (ht : IsTupO prog w k oq) (hu : A.units + 1 < cLine) (lo : (d == sysModules) = false) {b : Bool} (hb : (atKey xs k).isSome = b)
    (h : Q b { s with toks := s.toks + (k.length + 1) }) : wpAny (model prog w) A (contains (.ref d) (.ref q)) Q E s := by
  have hM := t_at N hm hD hK
  unfold contains
  try with_reducible refine wpAny_holding ?_
  refine wpAny_bind (wpAny_specialOf hM.typeIs slot_dict_contains.lookup ?_)
  show wpAny _ _ (if (some (Value.builtin "dict.__contains__") == some Value.none) = true then _ else _) _ E s
  rw [if_neg (by rw [beq_builtin_none]; exact Bool.false_ne_true)]
  refine wpAny_bind (wpAny_callSpecialUnlessNone?_slot (name := Str.ofString "__contains__") hM.typeIs slot_dict_contains
    (wpAny_call_entry slot_dict_contains hM.typeIs entry_dict_contains ?_ (args_dict_contains _ _)))
  show wpAny _ _ (dictGet d (.ref q) >>= _) _ _ s
  refine wpAny_bind (wpAny_dictGet_heap (knd := tupleKind (intKind prog w)) (tupleKind_room_in1 hu) (tupKey_of (N _ hq).1 ht) hM ?_)
  cases hf : atKey xs k with
  | some p =>
    rw [hf] at hb
    subst hb
    show wpAny _ _ (ret (.bool true)) _ _ _
    exact wpAny_pure ⟨_, rfl, wpAny_truthy_bool h⟩
  | none =>
    rw [hf] at hb
    subst hb
    show wpAny _ _ (Builtin.Dict.pendingKey? d (.ref q) >>= _) _ _ _
    exact wpAny_bind (wpAny_pendingKey_other lo (wpAny_pure ⟨_, rfl, wpAny_truthy_bool h⟩))

theorem t_notIn {Q : Value → Shared → Prop} (N : News h₀ L s.heap news) (hm : (d, o) ∈ news) (hD : IsT prog w o xs) (hK : KeysIn prog w news xs) (hq : (q, oq) ∈ news) (ht : IsTupO prog w k oq) (hu : A.units + 1 < cLine) (lo : (d == sysModules) = false) {b : Bool} (hb : (atKey xs k).isSome = b)
    (h : Q (.bool (!b)) { s with toks := s.toks + (k.length + 1) }) : wpAny (model prog w) A (compareOp .NotIn (.ref q) (.ref d)) Q E s := by
  show wpAny _ _ (do return .bool (!(← contains (.ref d) (.ref q)))) Q E s
  exact wpAny_bind (t_contains N hm hD hK hq ht hu lo hb (wpAny_pure h))

theorem t_getMethod {pl : Sem Bool} {Q : Value × List Value → Shared → Prop} (N : News h₀ L s.heap news) (hm : (d, o) ∈ news) (hD : IsT prog w o xs) (h : Q (.builtin "dict.get", [.ref d]) s) :
    wpAny (model prog w) A (getMethod (.ref d) "get" pl) Q E s := by
  obtain ⟨es, ep, a, b, c, e⟩ := hD
  have hT : s.TypeIs (.ref d) "dict" := ⟨o, (N _ hm).1, a.1⟩
  exact getMethod_builtin hT PySem.F.plainAttrs_dict PySem.F.slot_dict_get PySem.F.type_dict_get (fun x hx => by cases hx; exact ⟨o, (N _ hm).1, a.2.1⟩) h

theorem t_get2 {dflt : Value} {Q : Value → Shared → Prop} (N : News h₀ L s.heap news) (hm : (d, o) ∈ news) (hD : IsT prog w o xs) (hK : KeysIn prog w news xs) (hq : (q, oq) ∈ news) (ht : IsTupO prog w k oq) (hu : A.units + 1 < cLine) (lo : (d == sysModules) = false) {v : Value} (hv : ((atKey xs k).map (·.2)).getD dflt = v)
    (h : Q v { s with toks := s.toks + (k.length + 1) }) : wpAny (model prog w) A (call (.builtin "dict.get") [.ref d, .ref q, dflt]) Q E s :=
  have hM := t_at N hm hD hK
  call_meetsIn PySem.F.slot_dict_get hM.typeIs PySem.F.entry_dict_get (PySem.F.args_dict_get_3 _ _ _) (meetsH_dict_get_default (tupleKind (intKind prog w)) d q lo dflt)
    ⟨tupleKind_room_in1 hu, k, xs, tupKey_of (N _ hq).1 ht, hM, by rw [hv]; exact h⟩

theorem isT_of {h' : Heap} {ys : List (List Int × Addr × Value)} (hM : h'.DictOfH (tupleKind (intKind prog w)) d ys) : ∃ o', h'.get? d = some o' ∧ IsT prog w o' ys := by
  obtain ⟨o', es, ep, a, b, c, e, _, f⟩ := hM
  exact ⟨o', a, es, ep, b, c, e, f⟩

theorem t_set {Q : Unit → Shared → Prop} {g : Obj → List (Addr × Obj)} (F : Fr h₀ L s.heap m) (N : News h₀ L s.heap news) (U : UpdF d o news g) (hD : IsT prog w o xs) (hK : KeysIn prog w news xs) (hq : (q, oq) ∈ news) (ht : IsTupO prog w k oq) (hu : A.units + 1 < cLine) (hz : xs.length ≤ 1000)
    (h : ∀ h' o', Fr h₀ L h' m → News h₀ L h' (g o') → IsT prog w o' (storedH xs k q v) → Q () { s with heap := h', toks := s.toks + (k.length + 1) }) : wpAny (model prog w) A (setItem (.ref d) (.ref q) v) Q E s := by
  obtain ⟨own, rest, rfl, hg, h1, h2⟩ := U.split
  have hm : (d, o) ∈ own ++ (d, o) :: rest := List.mem_append_right _ (.head _)
  have hmem := N _ hm
  refine wpAny_setItem_heap (hsz := by rw [sizeLine_eq]; omega) (knd := tupleKind (intKind prog w)) (tupleKind_room_in1 hu) (tupKey_of (N _ hq).1 ht) (t_at N hm hD hK) fun h' hd' hs => ?_
  obtain ⟨o', ho', hD'⟩ := isT_of hd'
  exact h h' o' (F.change hs hmem.2.1 hmem.2.2) (hg o' ▸ N.setAt h1 h2 hs ho') hD'

theorem takeOut_heap {Q : Option DictEntry → Shared → Prop} (hu : A.units < cLine) (hkey : IsTupleKey (intKind prog w) s.heap k q) (hM : s.heap.DictOfH (tupleKind (intKind prog w)) d xs) (hl : (atKey xs k).isSome = true) (hz : xs.length ≤ 1000)
    (hsome : ∀ e h', h'.DictOfH (tupleKind (intKind prog w)) d (withoutH xs k) → Heap.SameBut d s.heap h' → Q (some e) { s with heap := h', toks := s.toks + (k.length + 1) }) :
    wpAny (model prog w) A (Builtin.Dict.takeOut d (.ref q)) Q E s := by
  obtain ⟨o, es, ep, ho, hc, hd, he, his, hn⟩ := hM
  have hes : es.size ≤ sizeLine := by
    have := size_of_entries he
    rw [sizeLine_eq]; omega
  unfold Builtin.Dict.takeOut
  try with_reducible refine wpAny_holding ?_
  refine wpAny_bind ((tupleKind (intKind prog w)).pyHash hu hkey ?_)
  refine wpAny_bind (wpAny_dictFind_heap (knd := tupleKind (intKind prog w)) (s := { s with toks := s.toks + (k.length + 1) }) hu hkey ho hd he his hn ?_ ?_)
  · intro hno
    rw [atKey_none_of_get hno] at hl
    cases hl
  · intro j p hj
    refine wpAny_bind (wpAny_dictEntries (s := { s with toks := s.toks + (k.length + 1) }) ho hd ?_)
    rw [entry_at he j, hj]
    refine wpAny_bind (wpAny_updateDictKeys (hz := hes) (s := { s with toks := s.toks + (k.length + 1) }) ho hd (wpAny_pure (hsome _ _ ⟨_, _, ep + 1, Heap.get?_update_self _ ho (Obj.isFreed_of_dict (Obj.data_mapDictKeys hd _)),
      hc.mapDictKeys _, Obj.data_mapDictKeys hd _, ?_, ?_, ?_⟩ (Heap.SameBut.update ..))))
    · rw [← eraseIdx_filter hn hj]
      obtain ⟨l⟩ := es
      simp only at he
      subst he
      simp only [Array.eraseIdxIfInBounds, List.size_toArray]
      split
      · rw [Array.toList_eraseIdx]; exact map_erase _ xs j
      · rename_i hlt
        exact absurd (by simpa using (List.getElem?_eq_some_iff.mp hj).1) hlt
    · intro x hx
      exact (tupleKind (intKind prog w)).keeps (his x ((List.mem_filter.mp hx).1)) ho hd (Heap.SameBut.update ..)
    · exact (List.filter_sublist.map _).nodup hn

theorem t_del {Q : Unit → Shared → Prop} {g : Obj → List (Addr × Obj)} (F : Fr h₀ L s.heap m) (N : News h₀ L s.heap news) (U : UpdF d o news g) (hD : IsT prog w o xs) (hK : KeysIn prog w news xs) (hq : (q, oq) ∈ news) (ht : IsTupO prog w k oq) (hu : A.units + 1 < cLine) (hl : (atKey xs k).isSome = true) (hz : xs.length ≤ 1000)
    (h : ∀ h' o', Fr h₀ L h' m → News h₀ L h' (g o') → IsT prog w o' (withoutH xs k) → Q () { s with heap := h', toks := s.toks + (k.length + 1) }) : wpAny (model prog w) A (delItem (.ref d) (.ref q)) Q E s := by
  obtain ⟨own, rest, rfl, hg, h1, h2⟩ := U.split
  have hm : (d, o) ∈ own ++ (d, o) :: rest := List.mem_append_right _ (.head _)
  have hmem := N _ hm
  have hM := t_at N hm hD hK
  unfold delItem
  try with_reducible refine wpAny_holding ?_
  refine wpAny_bind (wpAny_sequenceKey hM.typeIs (by decide) ?_)
  refine wpAny_bind (wpAny_callSpecial?_slot (name := Str.ofString "__delitem__") hM.typeIs PySem.F.slot_dict_delitem
    (wpAny_call_entry PySem.F.slot_dict_delitem hM.typeIs PySem.F.entry_dict_delitem ?_ (PySem.F.args_dict_delitem_2 _ _)))
  unfold Builtin.«dict.__delitem__»
  refine wpAny_bind ?_
  unfold Builtin.Dict.dictSlotArgs
  refine wpAny_bind (wpAny_notOrdered_dict hM.typeIs ?_)
  show wpAny _ _ (pure (Value.ref d, Value.ref q)) _ _ s
  refine wpAny_pure ?_
  show wpAny _ _ (Builtin.Dict.takeOut d (.ref q) >>= _) _ _ s
  refine wpAny_bind (takeOut_heap (tupleKind_room_in1 (knd := intKind prog w) hu) (tupKey_of (N _ hq).1 ht) hM hl hz fun e h' hM' hs => ?_)
  obtain ⟨o', ho', hD'⟩ := isT_of hM'
  exact wpAny_bind (wpAny_letGo (wpAny_pure ⟨.none, rfl, wpAny_pure (h h' o' (F.change hs hmem.2.1 hmem.2.2) (hg o' ▸ N.setAt h1 h2 hs ho') hD')⟩))

theorem l_len {its : Array Value} {n : Nat} {Q : Value → Shared → Prop} (N : News h₀ L s.heap news) (hm : (d, listOf its n) ∈ news) (hz : its.size ≤ 1000000) (h : ∀ t t', Q (.int (its.size : Nat) t) { s with toks := t' }) :
    wpAny (model prog w) A (call (.builtin "len") [.ref d]) Q E s :=
  len_list (News.isList N hm) (by omega) (h _ _)
end
section
variable {prog : Program} {w : World} {K : Type} [DecidableEq K] {knd : KeyKind prog w K} {A : Around} {E : Value → Shared → Prop} {s : Shared} {h₀ : Heap} {L d : Addr} {m : Str → Option Value}
  {news : List (Addr × Obj)} {kvs : List (K × Value)} {o : Obj} {k : K} {key v : Value}
theorem d_inB {Q : Value → Shared → Prop} (N : News h₀ L s.heap news) (hm : (d, o) ∈ news) (hD : o.IsDictOf knd kvs) (hkey : knd.is k key = true) (lo : (d == sysModules) = false) {b : Bool} (hb : (valueAt kvs k).isSome = b)
    (h : Q (.bool b) { s with toks := s.toks + 1 }) : wpAny (model prog w) A (compareOp .In key (.ref d)) Q E s :=
  d_in N hm hD hkey lo (by rw [hb]; exact h)
theorem d_notIn {Q : Value → Shared → Prop} (N : News h₀ L s.heap news) (hm : (d, o) ∈ news) (hD : o.IsDictOf knd kvs) (hkey : knd.is k key = true) (lo : (d == sysModules) = false) {b : Bool} (hb : (valueAt kvs k).isSome = b)
    (h : Q (.bool (!b)) { s with toks := s.toks + 1 }) : wpAny (model prog w) A (compareOp .NotIn key (.ref d)) Q E s :=
  wpAny_notIn_of hkey lo (d_at N hm hD).mapOf (by rw [hb]; exact h)
theorem d_get2B {dflt : Value} {Q : Value → Shared → Prop} (N : News h₀ L s.heap news) (hm : (d, o) ∈ news) (hD : o.IsDictOf knd kvs) (hkey : knd.is k key = true) (lo : (d == sysModules) = false) {v : Value} (hv : (valueAt kvs k).getD dflt = v)
    (h : Q v { s with toks := s.toks + 1 }) : wpAny (model prog w) A (call (.builtin "dict.get") [.ref d, key, dflt]) Q E s :=
  d_get2 N hm hD hkey lo (by rw [hv]; exact h)
end
end Mine
end
section
open PySem PySem.W PyProof.Rows PySem.Calls
namespace Mine
noncomputable abbrev PP : Program := PySem.Challenge.rw_pq0405_01.row.prog
noncomputable abbrev ent (w : World) (x : String) (t : Tok) (v : Value) : DictEntry := ⟨PyData.keyHash w.params (Str.ofString x), .str (Str.ofString x) t, v⟩
noncomputable def Ne' (a b : Addr) : Prop := a ≠ b
theorem Ne'.o {a b : Addr} (h : Ne' a b) : a ≠ b := h
theorem Ne'.s {a b : Addr} (h : Ne' a b) : b ≠ a := fun e => h e.symm
noncomputable def AllNe (a : Addr) : List Addr → Prop
  | [] => True
  | b :: r => Ne' a b ∧ AllNe a r
noncomputable def Apart : List Addr → Prop
  | [] => True
  | a :: r => AllNe a r ∧ Apart r
theorem allNe_iff {a : Addr} : ∀ {l : List Addr}, AllNe a l ↔ ∀ b ∈ l, a ≠ b
  | [] => by simp [AllNe]
  | b :: r => by simp only [AllNe, allNe_iff (l := r), List.forall_mem_cons]; exact Iff.rfl
theorem allLt_ne {d : Addr} : ∀ {l : List (Addr × Obj)}, AllLt d l → ∀ p ∈ l, p.1 ≠ d
  | [], _, _, hp => nomatch hp
  | q :: r, h, p, hp => by
    rcases List.mem_cons.mp hp with rfl | hp
    · exact Nat.ne_of_lt h.1
    · exact allLt_ne h.2 p hp
/-- a line of the journal -/
inductive JR where
  | touched
  | slot (s o : Int)
  | refund (o : Int)
  | warm (s : Int)
noncomputable def JR.kind : JR → String
  | .touched => "touched" | .slot .. => "slot" | .refund .. => "refund" | .warm .. => "warm_slot"
noncomputable def JR.addr (home : Int) : JR → Int
  | .refund .. => 0 | _ => home
noncomputable def JR.key : JR → Int
  | .slot s _ => s | .warm s => s | _ => 0
noncomputable def JR.old : JR → Int
  | .slot _ o => o | .refund o => o | _ => 0
set_option genInjectivity false in
set_option genSizeOfSpec false in
set_option genSizeOf false in
/-- what the state holds, told purely -/
structure SS where
  sto : Int → Int
  tch : Bool
  wrm : Int → Bool
  rfd : Int
set_option genInjectivity false in
set_option genSizeOfSpec false in
set_option genSizeOf false in
/-- the state's objects: what stays -/
structure StA where
  st : Addr
  dst : Addr
  acc : Addr
  ac : Addr
  dac : Addr
  sto : Addr
  jl : Addr
  tch : Addr
  des : Addr
  ws : Addr
  org : Addr
  wo : Addr
  lg : Addr
  oacc : Obj
  odes : Obj
  kS : Nat → Tok
  kA : Nat → Tok
  tn : Tok
  tb : Tok
  tc : Tok
set_option genInjectivity false in
set_option genSizeOfSpec false in
set_option genSizeOf false in
/-- the state's objects: what turns -/
structure StC where
  osto : Obj
  otch : Obj
  ows : Obj
  oorg : Obj
  tr : Tok
  n : Nat
  jv : Array Value
  kvs : List (Int × Value)
  xs : List (List Int × Addr × Value)
  ys : List (List Int × Addr × Value)
  rows : List (Addr × Addr × JR)
  rest : List (Addr × Obj)
noncomputable abbrev sObj (w : World) (k : Nat → Tok) (acc jl tch des wo ws org lg : Addr) (r : Int) (tr : Tok) : Obj :=
  dictOf [ent w "setting" (k 0) .none, ent w "accounts" (k 1) (.ref acc), ent w "journal" (k 2) (.ref jl), ent w "touched" (k 3) (.ref tch), ent w "destroyed" (k 4) (.ref des), ent w "warm_ones" (k 5) (.ref wo), ent w "warm_slots" (k 6) (.ref ws), ent w "originals" (k 7) (.ref org), ent w "refund" (k 8) (.int r tr), ent w "logs" (k 9) (.ref lg)] 10
noncomputable abbrev aObj (w : World) (k : Nat → Tok) (sto : Addr) (tn tb tc : Tok) : Obj :=
  dictOf [ent w "nonce" (k 0) (.int 1 tn), ent w "balance" (k 1) (.int 0 tb), ent w "code" (k 2) (.bytes #[] tc), ent w "storage" (k 3) (.ref sto)] 4
noncomputable abbrev rObj (w : World) (home : Int) (k : Nat → Tok) (t : Nat → Tok) (r : JR) : Obj :=
  dictOf [ent w "kind" (k 0) (.str (Str.ofString r.kind) (t 0)), ent w "address" (k 1) (.int (r.addr home) (t 1)), ent w "key" (k 2) (.int r.key (t 2)), ent w "old" (k 3) (.int r.old (t 3))] 4
noncomputable def StA.addrs (P : StA) : List Addr := [P.st, P.dst, P.acc, P.ac, P.dac, P.sto, P.jl, P.tch, P.des, P.ws, P.org]
noncomputable def StA.lits (w : World) (P : StA) (C : StC) (r : Int) : List (Addr × Obj) :=
  [(P.st, instObj 399 P.dst), (P.dst, sObj w P.kS P.acc P.jl P.tch P.des P.wo P.ws P.org P.lg r C.tr), (P.acc, P.oacc), (P.ac, instObj 112 P.dac), (P.dac, aObj w P.kA P.sto P.tn P.tb P.tc), (P.sto, C.osto),
   (P.jl, listOf C.jv C.n), (P.tch, C.otch), (P.des, P.odes), (P.ws, C.ows), (P.org, C.oorg)]
noncomputable def StA.led (w : World) (P : StA) (C : StC) (r : Int) : List (Addr × Obj) := P.lits w C r ++ C.rest
noncomputable def StoRep (kvs : List (Int × Value)) (σ : Int → Int) : Prop := ∀ s, (σ s = 0 → valueAt kvs s = none) ∧ (σ s ≠ 0 → ∃ t, valueAt kvs s = some (.int (σ s) t))
structure StAOK (w : World) (home : Int) (P : StA) : Prop where
  nd : Apart P.addrs
  lo1 : (P.acc == sysModules) = false
  lo2 : (P.sto == sysModules) = false
  lo3 : (P.tch == sysModules) = false
  lo4 : (P.des == sysModules) = false
  lo5 : (P.ws == sysModules) = false
  lo6 : (P.org == sysModules) = false
  hacc : P.oacc.IsDictOf (intKind PP w) [(home, .ref P.ac)]
  hdes : P.odes.IsDictOf (intKind PP w) []
structure StCOK (w : World) (home s1 s2 : Int) (fst : Int → Int) (P : StA) (C : StC) (S : SS) (J : List JR) (W : Int → Bool) : Prop where
  off : OwnOff C.rest P.addrs
  hsto : C.osto.IsDictOf (intKind PP w) C.kvs
  hkv : StoRep C.kvs S.sto
  hkn : ∀ p ∈ C.kvs, p.1 = s1 ∨ p.1 = s2
  htch : C.otch.IsDictOf (intKind PP w) (if S.tch then [(home, .bool true)] else [])
  hws : IsT PP w C.ows C.xs
  hxk : KeysIn PP w C.rest C.xs
  hxs : ∀ s, (atKey C.xs [home, s]).isSome = S.wrm s
  hxn : ∀ x ∈ C.xs, x.1 = [home, s1] ∨ x.1 = [home, s2]
  horg : IsT PP w C.oorg C.ys
  hyk : KeysIn PP w C.rest C.ys
  hys : ∀ s p, atKey C.ys [home, s] = some p → ∃ t, p.2 = .int (fst s) t
  hyn : ∀ x ∈ C.ys, x.1 = [home, s1] ∨ x.1 = [home, s2]
  hW : ∀ s, (atKey C.ys [home, s]).isSome = W s
  hjv : C.jv = (C.rows.map fun q => Value.ref q.1).toArray
  hJ : C.rows.map (·.2.2) = J
  hrow : ∀ q ∈ C.rows, (q.1, instObj 154 q.2.1) ∈ C.rest ∧ ∃ k t, (q.2.1, rObj w home k t q.2.2) ∈ C.rest
/-- these lie in the heap -/
noncomputable def Sat (h : Heap) (led : List (Addr × Obj)) : Prop := ∀ p ∈ led, h.get? p.1 = some p.2
theorem sat_sub {g h : Heap} {L : Addr} {news led : List (Addr × Obj)} (N : News g L h news) (hs : ∀ p ∈ led, p ∈ news) : Sat h led := fun p hp => (N p (hs p hp)).1
/-- the addresses of a ledger are of an elder one or new -/
noncomputable def Grows (h : Heap) (led led' : List (Addr × Obj)) : Prop := ∀ p ∈ led', p.1 ∈ led.map (·.1) ∨ h.get? p.1 = none
/-- what a method that turns the state leaves -/
noncomputable def StPost (w : World) (home s1 s2 : Int) (fst : Int → Int) (P : StA) (C : StC) (S S' : SS) (J' : List JR) (W' : Int → Bool) (h h' : Heap) : Prop :=
  ∃ C' : StC, StCOK w home s1 s2 fst P C' S' J' W' ∧ Sat h' (P.led w C' S'.rfd) ∧ Grows h (P.led w C S.rfd) (P.led w C' S'.rfd)
theorem len_two {α : Type} [DecidableEq α] {a b : α} : ∀ {l : List α}, l.Nodup → (∀ x ∈ l, x = a ∨ x = b) → l.length ≤ 2 := by
  intro l hn h
  rcases l with _ | ⟨x, _ | ⟨y, _ | ⟨z, r⟩⟩⟩
  · simp
  · simp
  · simp
  · exfalso
    simp only [List.nodup_cons, List.mem_cons, not_or] at hn
    have h1 := h x (by simp)
    have h2 := h y (by simp)
    have h3 := h z (by simp)
    rcases h1 with rfl | rfl <;> rcases h2 with rfl | rfl <;> rcases h3 with rfl | rfl <;> simp_all
theorem isT_len {prog : Program} {w : World} {o : Obj} {xs : List (List Int × Addr × Value)} {a b : List Int} (h : IsT prog w o xs) (hx : ∀ x ∈ xs, x.1 = a ∨ x.1 = b) : xs.length ≤ 1000 := by
  obtain ⟨es, ep, _, _, _, hn⟩ := h
  have := len_two (a := a) (b := b) hn (fun x hxx => by obtain ⟨p, hp, rfl⟩ := List.mem_map.mp hxx; exact hx p hp)
  rw [List.length_map] at this; omega
theorem grows_of {h g h' : Heap} {L : Addr} {led news led' : List (Addr × Obj)} (hg : g = hideAll h (led.map (·.1))) (N : News g L h' news) (hs : ∀ p ∈ led', p ∈ news) : Grows h led led' := by
  intro p hp
  have hn := (N p (hs p hp)).2.2
  by_cases hm : p.1 ∈ led.map (·.1)
  · exact .inl hm
  · right
    cases hq : h.get? p.1 with
    | none => rfl
    | some o => rw [hg, hideAll_get _ hq hm] at hn; cases hn
theorem news_back {h₀ h h' : Heap} {L : Addr} {m : Str → Option Value} {led led' : List (Addr × Obj)} (F : Fr h₀ L h m) (N : News h₀ L h led) (S : Sat h' led') (G : Grows h led led') : News h₀ L h' led' := by
  intro p hp
  refine ⟨S p hp, ?_⟩
  rcases G p hp with q | q
  · obtain ⟨x, hx, e⟩ := List.mem_map.mp q
    exact e ▸ (N x hx).2
  · refine ⟨fun e => ?_, F.noneBack q⟩
    obtain ⟨oL, _, _, hL, _⟩ := F.ns
    rw [e, hL] at q; cases q
theorem rIn {w : World} {home : Int} {dx : Addr} {k0 k1 k2 k3 t0 t1 t2 : Tok} {kind : Str} {ad ky : Int} {vol : Value} {rest : List (Addr × Obj)} (r : JR) (h0 : kind = Str.ofString r.kind) (h1 : ad = r.addr home) (h2 : ky = r.key) (h3 : ∃ t, vol = .int r.old t)
    (h : (dx, dictOf [ent w "kind" k0 (.str kind t0), ent w "address" k1 (.int ad t1), ent w "key" k2 (.int ky t2), ent w "old" k3 vol] 4) ∈ rest) : ∃ k t, (dx, rObj w home k t r) ∈ rest := by
  obtain ⟨t3, rfl⟩ := h3
  subst h0 h1 h2
  exact ⟨fun i => [k0, k1, k2, k3].getD i 0, fun i => [t0, t1, t2, t3].getD i 0, h⟩
section
variable {w : World} {home s1 s2 : Int} {fst : Int → Int} {P : StA} {C : StC} {S : SS} {J : List JR} {W : Int → Bool}
theorem StCOK.kvs_le (h : StCOK w home s1 s2 fst P C S J W) : C.kvs.length ≤ 1000 := by
  obtain ⟨es, ep, _, _, _, _, hn⟩ := h.hsto
  have := len_two (a := s1) (b := s2) hn (fun x hx => by obtain ⟨p, hp, rfl⟩ := List.mem_map.mp hx; exact h.hkn p hp)
  rw [List.length_map] at this; omega
theorem StCOK.xs_le (h : StCOK w home s1 s2 fst P C S J W) : C.xs.length ≤ 1000 := isT_len h.hws h.hxn
theorem StCOK.ys_le (h : StCOK w home s1 s2 fst P C S J W) : C.ys.length ≤ 1000 := isT_len h.horg h.hyn
theorem StCOK.jlen (h : StCOK w home s1 s2 fst P C S J W) : C.jv.size = J.length := by rw [h.hjv, ← h.hJ]; simp
theorem StPost.mk {C' : StC} {S' : SS} {J' : List JR} {W' : Int → Bool} {h h' g : Heap} {L : Addr} {news : List (Addr × Obj)}
    (ok : StCOK w home s1 s2 fst P C' S' J' W') (hg : g = hideAll h ((P.led w C S.rfd).map (·.1))) (N : News g L h' news) (hs : ∀ p ∈ P.led w C' S'.rfd, p ∈ news) : StPost w home s1 s2 fst P C S S' J' W' h h' :=
  ⟨C', ok, sat_sub N hs, grows_of hg N hs⟩
/-- more objects of the ledger -/
theorem StCOK.more (hS : StCOK w home s1 s2 fst P C S J W) (more : List (Addr × Obj)) (off : OwnOff more P.addrs) : StCOK w home s1 s2 fst P { C with rest := more ++ C.rest } S J W :=
  { hS with
    off := fun p hp => (List.mem_append.mp hp).elim (off p) (hS.off p)
    hxk := hS.hxk.mono fun _ hp => List.mem_append_right _ hp
    hyk := hS.hyk.mono fun _ hp => List.mem_append_right _ hp
    hrow := fun q hq => let ⟨a, k, t, b⟩ := hS.hrow q hq; ⟨List.mem_append_right _ a, k, t, List.mem_append_right _ b⟩ }
/-- a row more -/
theorem StCOK.row (hS : StCOK w home s1 s2 fst P C S J W) (x dx : Addr) (r : JR) (n : Nat) (h1 : (x, instObj 154 dx) ∈ C.rest) (h2 : ∃ k t, (dx, rObj w home k t r) ∈ C.rest) :
    StCOK w home s1 s2 fst P { C with rows := C.rows ++ [(x, dx, r)], jv := C.jv.push (.ref x), n := n } S (J ++ [r]) W :=
  { hS with
    hjv := by show C.jv.push _ = _; rw [hS.hjv]; simp
    hJ := by rw [List.map_append, hS.hJ]; rfl
    hrow := fun q hq => (List.mem_append.mp hq).elim (hS.hrow q) fun h => by
      rw [List.mem_singleton.mp h]; exact ⟨h1, h2⟩ }
theorem StCOK.rfd (hS : StCOK w home s1 s2 fst P C S J W) (r : Int) (tr : Tok) : StCOK w home s1 s2 fst P { C with tr := tr } { S with rfd := r } J W := { hS with }
/-- a row and its two objects -/
theorem StCOK.newRow (hS : StCOK w home s1 s2 fst P C S J W) {x dx : Addr} {k0 k1 k2 k3 t0 t1 t2 : Tok} {kind : Str} {ad ky : Int} {vol : Value} (r : JR) (n : Nat) (off : OwnOff [(x, instObj 154 dx), (dx, dictOf [ent w "kind" k0 (.str kind t0), ent w "address" k1 (.int ad t1), ent w "key" k2 (.int ky t2), ent w "old" k3 vol] 4)] P.addrs)
    (h0 : kind = Str.ofString r.kind) (h1 : ad = r.addr home) (h2 : ky = r.key) (h3 : ∃ t, vol = .int r.old t) :
    StCOK w home s1 s2 fst P { C with rest := (x, instObj 154 dx) :: (dx, dictOf [ent w "kind" k0 (.str kind t0), ent w "address" k1 (.int ad t1), ent w "key" k2 (.int ky t2), ent w "old" k3 vol] 4) :: C.rest, rows := C.rows ++ [(x, dx, r)], jv := C.jv.push (.ref x), n := n } S (J ++ [r]) W :=
  (hS.more _ off).row x dx r n (.head _) (rIn r h0 h1 h2 h3 (.tail _ (.head _)))
theorem off_nil {l : List Addr} : OwnOff [] l := fun _ h => nomatch h
theorem off_cons {a : Addr} {o : Obj} {r : List (Addr × Obj)} {l : List Addr} (h : ∀ b ∈ l, a ≠ b) (hr : OwnOff r l) : OwnOff ((a, o) :: r) l := fun p hp => by
  rcases List.mem_cons.mp hp with rfl | hp
  · exact h
  · exact hr p hp
end
end Mine
end
local macro_rules | `(tactic| k_ne) => `(tactic| k_extra "g_k_ne")
local macro_rules | `(tactic| k_all) => `(tactic| k_extra "g_k_all")
section
open PySem PySem.W PyProof.Rows PySem.Calls
namespace Mine
/-- what lies apart, one by one -/
theorem apart6 {G : Prop} {a1 a2 a3 a4 a5 a6 : Addr} (h : Apart [a1, a2, a3, a4, a5, a6]) (k : Ne' a1 a2 → Ne' a1 a3 → Ne' a1 a4 → Ne' a1 a5 → Ne' a1 a6 → Ne' a2 a3 → Ne' a2 a4 → Ne' a2 a5 → Ne' a2 a6 → Ne' a3 a4 → Ne' a3 a5 → Ne' a3 a6 → Ne' a4 a5 → Ne' a4 a6 → Ne' a5 a6 → G) : G := by
  obtain ⟨⟨n0_1, n0_2, n0_3, n0_4, n0_5, _⟩, ⟨n1_2, n1_3, n1_4, n1_5, _⟩, ⟨n2_3, n2_4, n2_5, _⟩, ⟨n3_4, n3_5, _⟩, ⟨n4_5, _⟩, _, _⟩ := h
  exact k n0_1 n0_2 n0_3 n0_4 n0_5 n1_2 n1_3 n1_4 n1_5 n2_3 n2_4 n2_5 n3_4 n3_5 n4_5
theorem apart7 {G : Prop} {a1 a2 a3 a4 a5 a6 a7 : Addr} (h : Apart [a1, a2, a3, a4, a5, a6, a7]) (k : Ne' a1 a2 → Ne' a1 a3 → Ne' a1 a4 → Ne' a1 a5 → Ne' a1 a6 → Ne' a1 a7 → Ne' a2 a3 → Ne' a2 a4 → Ne' a2 a5 → Ne' a2 a6 → Ne' a2 a7 → Ne' a3 a4 → Ne' a3 a5 → Ne' a3 a6 → Ne' a3 a7 → Ne' a4 a5 → Ne' a4 a6 → Ne' a4 a7 → Ne' a5 a6 → Ne' a5 a7 → Ne' a6 a7 → G) : G := by
  obtain ⟨⟨n0_1, n0_2, n0_3, n0_4, n0_5, n0_6, _⟩, ⟨n1_2, n1_3, n1_4, n1_5, n1_6, _⟩, ⟨n2_3, n2_4, n2_5, n2_6, _⟩, ⟨n3_4, n3_5, n3_6, _⟩, ⟨n4_5, n4_6, _⟩, ⟨n5_6, _⟩, _, _⟩ := h
  exact k n0_1 n0_2 n0_3 n0_4 n0_5 n0_6 n1_2 n1_3 n1_4 n1_5 n1_6 n2_3 n2_4 n2_5 n2_6 n3_4 n3_5 n3_6 n4_5 n4_6 n5_6
theorem apart8 {G : Prop} {a1 a2 a3 a4 a5 a6 a7 a8 : Addr} (h : Apart [a1, a2, a3, a4, a5, a6, a7, a8]) (k : Ne' a1 a2 → Ne' a1 a3 → Ne' a1 a4 → Ne' a1 a5 → Ne' a1 a6 → Ne' a1 a7 → Ne' a1 a8 → Ne' a2 a3 → Ne' a2 a4 → Ne' a2 a5 → Ne' a2 a6 → Ne' a2 a7 → Ne' a2 a8 → Ne' a3 a4 → Ne' a3 a5 → Ne' a3 a6 → Ne' a3 a7 → Ne' a3 a8 → Ne' a4 a5 → Ne' a4 a6 → Ne' a4 a7 → Ne' a4 a8 → Ne' a5 a6 → Ne' a5 a7 → Ne' a5 a8 → Ne' a6 a7 → Ne' a6 a8 → Ne' a7 a8 → G) : G := by
  obtain ⟨⟨n0_1, n0_2, n0_3, n0_4, n0_5, n0_6, n0_7, _⟩, ⟨n1_2, n1_3, n1_4, n1_5, n1_6, n1_7, _⟩, ⟨n2_3, n2_4, n2_5, n2_6, n2_7, _⟩, ⟨n3_4, n3_5, n3_6, n3_7, _⟩, ⟨n4_5, n4_6, n4_7, _⟩, ⟨n5_6, n5_7, _⟩, ⟨n6_7, _⟩, _, _⟩ := h
  exact k n0_1 n0_2 n0_3 n0_4 n0_5 n0_6 n0_7 n1_2 n1_3 n1_4 n1_5 n1_6 n1_7 n2_3 n2_4 n2_5 n2_6 n2_7 n3_4 n3_5 n3_6 n3_7 n4_5 n4_6 n4_7 n5_6 n5_7 n6_7
theorem apart11 {G : Prop} {a1 a2 a3 a4 a5 a6 a7 a8 a9 a10 a11 : Addr} (h : Apart [a1, a2, a3, a4, a5, a6, a7, a8, a9, a10, a11]) (k : Ne' a1 a2 → Ne' a1 a3 → Ne' a1 a4 → Ne' a1 a5 → Ne' a1 a6 → Ne' a1 a7 → Ne' a1 a8 → Ne' a1 a9 → Ne' a1 a10 → Ne' a1 a11 → Ne' a2 a3 → Ne' a2 a4 → Ne' a2 a5 → Ne' a2 a6 → Ne' a2 a7 → Ne' a2 a8 → Ne' a2 a9 → Ne' a2 a10 → Ne' a2 a11 → Ne' a3 a4 → Ne' a3 a5 → Ne' a3 a6 → Ne' a3 a7 → Ne' a3 a8 → Ne' a3 a9 → Ne' a3 a10 → Ne' a3 a11 → Ne' a4 a5 → Ne' a4 a6 → Ne' a4 a7 → Ne' a4 a8 → Ne' a4 a9 → Ne' a4 a10 → Ne' a4 a11 → Ne' a5 a6 → Ne' a5 a7 → Ne' a5 a8 → Ne' a5 a9 → Ne' a5 a10 → Ne' a5 a11 → Ne' a6 a7 → Ne' a6 a8 → Ne' a6 a9 → Ne' a6 a10 → Ne' a6 a11 → Ne' a7 a8 → Ne' a7 a9 → Ne' a7 a10 → Ne' a7 a11 → Ne' a8 a9 → Ne' a8 a10 → Ne' a8 a11 → Ne' a9 a10 → Ne' a9 a11 → Ne' a10 a11 → G) : G := by
  obtain ⟨⟨n0_1, n0_2, n0_3, n0_4, n0_5, n0_6, n0_7, n0_8, n0_9, n0_10, _⟩, ⟨n1_2, n1_3, n1_4, n1_5, n1_6, n1_7, n1_8, n1_9, n1_10, _⟩, ⟨n2_3, n2_4, n2_5, n2_6, n2_7, n2_8, n2_9, n2_10, _⟩, ⟨n3_4, n3_5, n3_6, n3_7, n3_8, n3_9, n3_10, _⟩, ⟨n4_5, n4_6, n4_7, n4_8, n4_9, n4_10, _⟩, ⟨n5_6, n5_7, n5_8, n5_9, n5_10, _⟩, ⟨n6_7, n6_8, n6_9, n6_10, _⟩, ⟨n7_8, n7_9, n7_10, _⟩, ⟨n8_9, n8_10, _⟩, ⟨n9_10, _⟩, _, _⟩ := h
  exact k n0_1 n0_2 n0_3 n0_4 n0_5 n0_6 n0_7 n0_8 n0_9 n0_10 n1_2 n1_3 n1_4 n1_5 n1_6 n1_7 n1_8 n1_9 n1_10 n2_3 n2_4 n2_5 n2_6 n2_7 n2_8 n2_9 n2_10 n3_4 n3_5 n3_6 n3_7 n3_8 n3_9 n3_10 n4_5 n4_6 n4_7 n4_8 n4_9 n4_10 n5_6 n5_7 n5_8 n5_9 n5_10 n6_7 n6_8 n6_9 n6_10 n7_8 n7_9 n7_10 n8_9 n8_10 n9_10
theorem allNe11 {G : Prop} {x a1 a2 a3 a4 a5 a6 a7 a8 a9 a10 a11 : Addr} (h : AllNe x [a1, a2, a3, a4, a5, a6, a7, a8, a9, a10, a11]) (k : Ne' x a1 → Ne' x a2 → Ne' x a3 → Ne' x a4 → Ne' x a5 → Ne' x a6 → Ne' x a7 → Ne' x a8 → Ne' x a9 → Ne' x a10 → Ne' x a11 → G) : G := by
  obtain ⟨n0, n1, n2, n3, n4, n5, n6, n7, n8, n9, n10, _⟩ := h
  exact k n0 n1 n2 n3 n4 n5 n6 n7 n8 n9 n10
end Mine
end
section
open PySem PySem.W PyProof.Rows PySem.Calls
namespace Mine
theorem fresh_F2 : True := by
  w_top off
  trivial
/-- a row of the journal is made -/
theorem lines_F2_0 : True := by
  k_with_none
  (k_with "g_ktr_room" => (first | exact Nat.le_of_ble_eq_true rfl | exact roomF 0 (by assumption) rfl rfl | exact roomF 1 (by assumption) rfl rfl | exact roomF 2 (by assumption) rfl rfl | exact roomF 3 (by assumption) rfl rfl | exact roomF 4 (by assumption) rfl rfl))
  (k_with "g_ktr_units" => (first | exact Nat.le_of_ble_eq_true rfl | exact unitF 3 (by assumption) rfl rfl | exact unitG 3 (by assumption) rfl rfl | exact unitG 6 (by assumption) rfl rfl | exact unitF 6 (by assumption) rfl rfl | exact unitF 7 (by assumption) rfl rfl | exact unitF 4 (by assumption) rfl rfl | exact unitF 5 (by assumption) rfl rfl | exact unitF 8 (by assumption) rfl rfl | exact unitF 9 (by assumption) rfl rfl | exact unitF 10 (by assumption) rfl rfl | exact unitF 11 (by assumption) rfl rfl | exact unitF 12 (by assumption) rfl rfl | exact unitF 13 (by assumption) rfl rfl | exact unitF 14 (by assumption) rfl rfl | exact unitF 15 (by assumption) rfl rfl | exact unitF 0 (by assumption) rfl rfl | exact unitF 1 (by assumption) rfl rfl | exact unitF 2 (by assumption) rfl rfl))
  (k_with "g_k_ne" => ((refine neN ?_; (try dsimp only); first | exact Ne'.o (by with_reducible assumption) | exact Ne'.s (by with_reducible assumption) | k_extra "ne")))
  (k_with "g_k_all" => (first | exact OwnOff.ne (by with_reducible assumption) (by k_mem) | exact allLt_ne (by assumption)))
  (k_with "g_size_fits" => ((simp only [List.size_toArray, List.length_map, List.length_append, List.length_cons, List.length_nil, Array.size_push]; (first | done | (rw [sizeLine_eq]; omega)))))
  (k_with "g_ent" => (apply code_defF; (case hA => exact rfl); (case hf => exact rfl); (case hke => exact rfl); (case B => k_asm); (case F => k_asm); (case X₀ => k_asm); (case N => k_asm); (case T => k_asm); (case ho => k_is); (case hcd => k_is); (case hroom => k_room); (case hbind => first | exact BindsTo.of_eq rfl | exact binds_K (by k_in) rfl (by k_is) rfl rfl rfl | fail "no rule for these arguments"); (case hcell => decide); (case hloc => exact locs rfl); (case hco => exact rfl); (case hgen => exact rfl); (case hk => exact rfl); k_whole; intro _ _ _ evX AX mmX _ _ _ _ _ _; (try dsimp only); (try k_fold)))
  (k_with "call ref" => (k_here; k_dflt (first
    | (apply call_cls0; (case F => k_asm); (case X₀ => k_asm); (case N => k_asm); (case hm => k_is); (case hi => k_is); k_whole; intro x' d' h' F' N' l1 l2; (try k_lt l1); (try k_lt2 l2); (try k_sweep); (revert x' d' h' F' N' l1 l2; intros))
    | (apply call_cls; (case F => k_asm); (case X₀ => k_asm); (case N => k_asm); (case hm => k_is); (case hi => k_is); (case hf => k_is); k_whole; intro x' d' h' F' N' l1 l2; (try k_lt l1); (try k_lt2 l2); (try k_sweep); (revert x' d' h' F' N' l1 l2; intros); k_extra "g_ent")
    | (apply call_meth; (case N => k_asm); (case hq => k_mem); k_whole; k_extra "g_ent")
    | (refine wpAny_call ?_; k_extra "g_ent"))))
  (k_with "call ref" => (k_here; (with_reducible show wpAny _ _ (call (Value.ref 154) [_, _, _, _] _) _ _ _); k_dflt (apply row_call; (case B => k_asm); (case F => k_asm); (case X => k_asm); (case N => k_asm); (case T => k_asm); (case hk => exact rfl); (case hd => ktr_room); k_whole); intro x' d' h' tk' k0' k1' k2' k3' F' N' l1 l2; (try k_lt l1); (try k_lt2 l2); (try k_sweep); (revert x' d' h' tk' k0' k1' k2' k3' F' N' l1 l2; intros)))
  (k_with "storeName" => (k_here; k_dflt (apply stXF; (case F => k_asm); (case N => k_asm); (case hk => rfl); (case hx => rfl); k_whole); intro mmX; intro _ _ _; (try k_sweep)))
  (k_with "execs cons" => (k_here; (try dsimp only); (refine execsF ?_); intro qkX))
  (k_with "execs cons" => (k_here; (try dsimp only); (with_reducible show wpAny _ _ _ _ _ (Shared.mk _ _ _ (_ + _) _)); (refine toksF ?_); intro tkX; (refine execsF ?_); intro qkX))
  (k_with "lt" => (first | with_reducible assumption | (apply And.left; first | with_reducible assumption | (apply And.right; first | with_reducible assumption | (apply And.right; first | with_reducible assumption | (apply And.right; first | with_reducible assumption | (apply And.right; first | with_reducible assumption | (apply And.right; first | with_reducible assumption | (apply And.right; first | with_reducible assumption | (apply And.right; first | with_reducible assumption | (apply And.right; first | with_reducible assumption | (apply And.right; first | with_reducible assumption | (apply And.right; first | with_reducible assumption | (apply And.right; first | with_reducible assumption | (apply And.right; first | with_reducible assumption | (apply And.right; first | with_reducible assumption | (apply And.right; first | with_reducible assumption | (apply And.right; with_reducible assumption))))))))))))))))))
  (k_with "ne" => (first | (refine Nat.ne_of_gt ?_; k_extra "lt") | (refine Nat.ne_of_lt ?_; k_extra "lt") | (refine Nat.ne_of_gt ?_; apply Nat.lt_trans; rotate_left; (with_reducible assumption); k_extra "lt") | (refine Nat.ne_of_lt ?_; apply Nat.lt_trans; rotate_left; (with_reducible assumption); k_extra "lt")))
  trivial
theorem row_call {w : World} {mean : ExcName → Option Value} {mg mb : Str → Option Value} {dp un : Nat} {gd : Option (List Code)} {cn : Str} {cs : Scope} {a : Addr} {ccd : Value} {cl : List (Str × Addr)} {outer : List Env} {A₀ : Around} {base h₀ : Heap} {L : Addr} {m : Str → Option Value} {news : List (Addr × Obj)} {s : Shared} {Q E : Value → Shared → Prop} {v1 v2 v3 v4 : Value}
    (B : Below A₀ base outer h₀) (F : Fr h₀ L s.heap m) (X : (hd.heap_39 w.params).In h₀) (N : News h₀ L s.heap news) (T : Top hd.view_39 (looseW hd.view_39 []) mean mg mb h₀) (hk : cs.kind = .function) (hd : dp + 1 < recursionLimit)
    (h : ∀ x d h' tk' k0 k1 k2 k3, Fr h₀ L h' m → News h₀ L h' ((x, instObj 154 d) :: (d, dictOf [ent w "kind" k0 v1, ent w "address" k1 v2, ent w "key" k2 v3, ent w "old" k3 v4] 4) :: news) → (∀ p ∈ news, p.1 < d) → d < x → Q (.ref x) { s with heap := h', toks := tk' }) :
    wpAny (model PySem.Challenge.rw_pq0405_01.row.prog w) (ktrTop dp un gd cn cs L a ccd cl outer) (call (.ref 154) [v1, v2, v3, v4] []) Q E s := by
  revert X
  k_fill
  intro X
  have l0 : ∀ p ∈ news, p.1 < s.heap.objs.size := fun p hp => Heap.lt_size (N p hp).1
  k_dflt (apply call_cls; (case F => k_asm); (case X₀ => k_asm); (case N => k_asm); (case hm => k_is); (case hi => k_is); (case hf => k_is); k_whole)
  intro x d h' F' N' l1 l2
  clear N F
  replace l2 := ltN l2
  have l3 := allLt_of l1
  k_dflt (apply code_defF; (case hA => exact rfl); (case hf => exact rfl); (case hke => assumption); (case B => k_asm); (case F => k_asm); (case X₀ => k_asm); (case N => k_asm); (case T => k_asm); (case ho => k_is); (case hcd => k_is); (case hroom => k_room); (case hbind => first | exact BindsTo.of_eq rfl | exact binds_K (by k_in) rfl (by k_is) rfl rfl rfl | fail "no rule for these arguments"); (case hcell => decide); (case hloc => exact locs rfl); (case hco => exact rfl); (case hgen => exact rfl); (case hk => exact rfl); k_whole; intro _ _ _ evX AX mmX _ _ _ _ _ _; (try dsimp only); (try k_fold))
  k_steps
  rename Fr h₀ L _ m => kF9
  rename News h₀ L _ _ => kN9
  exact h _ _ _ _ _ _ _ _ kF9 kN9 l1 l2
end Mine
end
section
open PySem PySem.W PyProof.Rows PySem.Calls
namespace Mine

noncomputable def upd (σ : Int → Int) (s v : Int) : Int → Int := fun x => if x = s then v else σ x
noncomputable def setB (σ : Int → Bool) (s : Int) (b : Bool) : Int → Bool := fun x => if x = s then b else σ x
theorem atKey_append {xs : List (List Int × Addr × Value)} {k k' : List Int} {p : Addr × Value} : atKey (xs ++ [(k, p)]) k' = (match atKey xs k' with | some y => some y | none => if k = k' then some p else none) := by
  unfold atKey
  rw [List.find?_append]
  cases h : xs.find? fun x => decide (x.1 = k') with
  | some y => simp
  | none =>
    by_cases e : k = k'
    · simp [e]
    · simp [e]
theorem atKey_without {k k' : List Int} : ∀ {xs : List (List Int × Addr × Value)}, atKey (withoutH xs k) k' = if k' = k then none else atKey xs k'
  | [] => by simp [atKey, withoutH]
  | x :: xs => by
    have ih := atKey_without (k := k) (k' := k') (xs := xs)
    unfold atKey withoutH at ih ⊢
    by_cases e : x.1 = k
    · rw [List.filter_cons_of_neg (by simp [e]), ih]
      by_cases e' : k' = k
      · simp [e']
      · rw [if_neg e', if_neg e', List.find?_cons_of_neg (by simpa [e] using fun h => e' h.symm)]
    · rw [List.filter_cons_of_pos (by simpa using e)]
      by_cases e2 : x.1 = k'
      · have : k' ≠ k := fun h => e (e2.trans h)
        simp [e2, this]
      · rw [List.find?_cons_of_neg (by simpa using e2), List.find?_cons_of_neg (by simpa using e2)]
        exact ih
section
variable {w : World} {home s1 s2 : Int} {fst : Int → Int} {P : StA} {C : StC} {S : SS} {J : List JR} {W : Int → Bool}
theorem StCOK.warm (hS : StCOK w home s1 s2 fst P C S J W) {sl : Int} (hw : S.wrm sl = false) (hsl : sl = s1 ∨ sl = s2) {q : Addr} {oq o' : Obj} {v : Value} (hq : (q, oq) ∈ C.rest) (ht : IsTupO PP w [home, sl] oq) (hD : IsT PP w o' (storedH C.xs [home, sl] q v)) :
    StCOK w home s1 s2 fst P { C with ows := o', xs := storedH C.xs [home, sl] q v } { S with wrm := setB S.wrm sl true } J W := by
  have hn : atKey C.xs [home, sl] = none := by
    have := hS.hxs sl
    rw [hw] at this
    exact Option.isNone_iff_eq_none.mp (by simpa using this)
  have e := storedH_new hn q v
  refine { hS with hws := hD, hxk := ?_, hxs := ?_, hxn := ?_ } <;> rw [e]
  · intro x hx
    rcases List.mem_append.mp hx with hx | hx
    · exact hS.hxk x hx
    · rw [List.mem_singleton.mp hx]; exact ⟨oq, hq, ht⟩
  · intro s
    rw [atKey_append]
    have h1 := hS.hxs s
    show _ = setB S.wrm sl true s
    unfold setB
    cases h : atKey C.xs [home, s] with
    | some y =>
      rw [h] at h1
      by_cases e : s = sl
      · simp [e]
      · simpa [e] using h1
    | none =>
      rw [h] at h1
      by_cases e : s = sl
      · simp [e]
      · have : ¬ (sl = s) := fun h => e h.symm
        simpa [e, this] using h1
  · intro x hx
    rcases List.mem_append.mp hx with hx | hx
    · exact hS.hxn x hx
    · rw [List.mem_singleton.mp hx]
      rcases hsl with rfl | rfl
      · exact .inl rfl
      · exact .inr rfl
theorem StCOK.unwarm (hS : StCOK w home s1 s2 fst P C S J W) {sl : Int} {o' : Obj} (hD : IsT PP w o' (withoutH C.xs [home, sl])) :
    StCOK w home s1 s2 fst P { C with ows := o', xs := withoutH C.xs [home, sl] } { S with wrm := setB S.wrm sl false } J W := by
  refine { hS with hws := hD, hxk := fun x hx => hS.hxk x (List.mem_filter.mp hx).1, hxs := fun s => ?_, hxn := fun x hx => hS.hxn x (List.mem_filter.mp hx).1 }
  show (atKey (withoutH C.xs [home, sl]) [home, s]).isSome = setB S.wrm sl false s
  rw [atKey_without]
  unfold setB
  by_cases e : s = sl
  · simp [e]
  · simpa [e] using hS.hxs s
theorem StCOK.orig (hS : StCOK w home s1 s2 fst P C S J W) {sl : Int} (hw : W sl = false) (hsl : sl = s1 ∨ sl = s2) {q : Addr} {oq o' : Obj} {v : Value} (hv : ∃ t, v = .int (fst sl) t) (hq : (q, oq) ∈ C.rest) (ht : IsTupO PP w [home, sl] oq) (hD : IsT PP w o' (storedH C.ys [home, sl] q v)) :
    StCOK w home s1 s2 fst P { C with oorg := o', ys := storedH C.ys [home, sl] q v } S J (setB W sl true) := by
  obtain ⟨t, rfl⟩ := hv
  have hn : atKey C.ys [home, sl] = none := by
    have := hS.hW sl
    rw [hw] at this
    exact Option.isNone_iff_eq_none.mp (by simpa using this)
  have e := storedH_new hn q (.int (fst sl) t)
  refine { hS with horg := hD, hyk := ?_, hys := ?_, hyn := ?_, hW := ?_ } <;> rw [e]
  · intro x hx
    rcases List.mem_append.mp hx with hx | hx
    · exact hS.hyk x hx
    · rw [List.mem_singleton.mp hx]; exact ⟨oq, hq, ht⟩
  · intro s p hp
    rw [atKey_append] at hp
    cases h : atKey C.ys [home, s] with
    | some y =>
      rw [h] at hp
      cases hp
      exact hS.hys s _ h
    | none =>
      rw [h] at hp
      by_cases e : sl = s
      · subst e
        simp at hp
        subst hp
        exact ⟨t, rfl⟩
      · simp [e] at hp
  · intro x hx
    rcases List.mem_append.mp hx with hx | hx
    · exact hS.hyn x hx
    · rw [List.mem_singleton.mp hx]
      rcases hsl with rfl | rfl
      · exact .inl rfl
      · exact .inr rfl
  · intro s
    rw [atKey_append]
    have h1 := hS.hW s
    unfold setB
    cases h : atKey C.ys [home, s] with
    | some y =>
      rw [h] at h1
      by_cases e : s = sl
      · simp [e]
      · simpa [e] using h1
    | none =>
      rw [h] at h1
      by_cases e : s = sl
      · simp [e]
      · have : ¬ (sl = s) := fun h => e h.symm
        simpa [e, this] using h1
theorem StCOK.touch (hS : StCOK w home s1 s2 fst P C S J W) {o' : Obj} {b : Bool} (hD : o'.IsDictOf (intKind PP w) (if b then [(home, .bool true)] else [])) :
    StCOK w home s1 s2 fst P { C with otch := o' } { S with tch := b } J W := { hS with htch := hD }
end
theorem va_cons {x : Int × Value} {r : List (Int × Value)} {k : Int} : valueAt (x :: r) k = if x.1 = k then some x.2 else valueAt r k := by
  unfold valueAt
  by_cases h : x.1 = k
  · rw [List.find?_cons_of_pos (by simpa using h), if_pos h]; rfl
  · rw [List.find?_cons_of_neg (by simpa using h), if_neg h]
theorem va_map {k k' : Int} {v : Value} : ∀ {kvs : List (Int × Value)}, valueAt (kvs.map fun kv => if kv.1 = k then (kv.1, v) else kv) k' = if k' = k then (valueAt kvs k').map fun _ => v else valueAt kvs k'
  | [] => by simp [valueAt]
  | x :: r => by
    rw [List.map_cons, va_cons, va_cons, va_map]
    by_cases h : x.1 = k
    · by_cases h' : k' = k
      · simp [h, h']
      · have : ¬ (k = k') := fun e => h' e.symm
        simp [h, h', this]
    · by_cases h' : k' = k
      · simp [h, h']
      · simp [h, h']
theorem va_append {k k' : Int} {v : Value} : ∀ {kvs : List (Int × Value)}, valueAt (kvs ++ [(k, v)]) k' = (match valueAt kvs k' with | some y => some y | none => if k = k' then some v else none)
  | [] => by rw [List.nil_append, va_cons]; rfl
  | x :: r => by
    rw [List.cons_append, va_cons, va_cons, va_append]
    by_cases h : x.1 = k' <;> simp [h]
theorem va_isSome {k : Int} : ∀ {kvs : List (Int × Value)}, (valueAt kvs k).isSome = kvs.any fun kv => decide (kv.1 = k)
  | [] => rfl
  | x :: r => by
    rw [va_cons, List.any_cons, ← va_isSome]
    by_cases h : x.1 = k <;> simp [h]
theorem valueAt_stored {kvs : List (Int × Value)} {k k' : Int} {v : Value} : valueAt (stored kvs k v) k' = if k' = k then some v else valueAt kvs k' := by
  unfold stored
  split
  · rename_i hany
    rw [va_map]
    by_cases h : k' = k
    · subst h
      rw [← va_isSome] at hany
      obtain ⟨y, hy⟩ := Option.isSome_iff_exists.mp hany
      simp [hy]
    · simp [h]
  · rename_i hany
    rw [va_append]
    by_cases h : k' = k
    · subst h
      have : valueAt kvs k' = none := by
        rw [← va_isSome] at hany
        simpa using hany
      simp [this]
    · have h' : ¬ (k = k') := fun e => h e.symm
      rw [if_neg h, if_neg h']
      cases valueAt kvs k' <;> rfl
theorem valueAt_without {k k' : Int} : ∀ {kvs : List (Int × Value)}, valueAt (without kvs k) k' = if k' = k then none else valueAt kvs k'
  | [] => by simp [valueAt, without]
  | x :: r => by
    have ih := valueAt_without (k := k) (k' := k') (kvs := r)
    unfold without at ih ⊢
    by_cases h : x.1 = k
    · rw [List.filter_cons_of_neg (by simpa using h), ih, va_cons]
      by_cases h' : k' = k
      · simp [h']
      · have : ¬ (k = k') := fun e => h' e.symm
        simp [h, h', this]
    · rw [List.filter_cons_of_pos (by simpa using h), va_cons, va_cons, ih]
      by_cases h' : k' = k
      · simp [h, h']
      · simp [h']
theorem mem_stored {kvs : List (Int × Value)} {k : Int} {v : Value} {p : Int × Value} (h : p ∈ stored kvs k v) : p.1 = k ∨ ∃ q ∈ kvs, q.1 = p.1 := by
  unfold stored at h
  split at h
  · obtain ⟨q, hq, rfl⟩ := List.mem_map.mp h
    refine .inr ⟨q, hq, ?_⟩
    split <;> rfl
  · rcases List.mem_append.mp h with h | h
    · exact .inr ⟨p, h, rfl⟩
    · rw [List.mem_singleton.mp h]; exact .inl rfl
section
variable {w : World} {home s1 s2 : Int} {fst : Int → Int} {P : StA} {C : StC} {S : SS} {J : List JR} {W : Int → Bool}
theorem StCOK.put (hS : StCOK w home s1 s2 fst P C S J W) {sl wd : Int} {t : Tok} {o' : Obj} (hsl : sl = s1 ∨ sl = s2) (hw : wd ≠ 0) (hD : o'.IsDictOf (intKind PP w) (stored C.kvs sl (.int wd t))) :
    StCOK w home s1 s2 fst P { C with osto := o', kvs := stored C.kvs sl (.int wd t) } { S with sto := upd S.sto sl wd } J W := by
  refine { hS with hsto := hD, hkv := fun s => ?_, hkn := fun p hp => ?_ }
  · show (upd S.sto sl wd s = 0 → valueAt (stored C.kvs sl (.int wd t)) s = none) ∧ (upd S.sto sl wd s ≠ 0 → ∃ t', valueAt (stored C.kvs sl (.int wd t)) s = some (.int (upd S.sto sl wd s) t'))
    rw [valueAt_stored]
    unfold upd
    by_cases h : s = sl
    · simp [h, hw]
    · simpa [h] using hS.hkv s
  · rcases mem_stored hp with h | ⟨q, hq, h⟩
    · rw [h]; exact hsl
    · rw [← h]; exact hS.hkn q hq
theorem StCOK.unput (hS : StCOK w home s1 s2 fst P C S J W) {sl : Int} {o' : Obj} (hD : o'.IsDictOf (intKind PP w) (without C.kvs sl)) :
    StCOK w home s1 s2 fst P { C with osto := o', kvs := without C.kvs sl } { S with sto := upd S.sto sl 0 } J W := by
  refine { hS with hsto := hD, hkv := fun s => ?_, hkn := fun p hp => hS.hkn p (List.mem_filter.mp hp).1 }
  show (upd S.sto sl 0 s = 0 → valueAt (without C.kvs sl) s = none) ∧ (upd S.sto sl 0 s ≠ 0 → ∃ t', valueAt (without C.kvs sl) s = some (.int (upd S.sto sl 0 s) t'))
  rw [valueAt_without]
  unfold upd
  by_cases h : s = sl
  · simp [h]
  · simpa [h] using hS.hkv s
theorem StCOK.nput (hS : StCOK w home s1 s2 fst P C S J W) {sl : Int} (h : valueAt C.kvs sl = none) : StCOK w home s1 s2 fst P C { S with sto := upd S.sto sl 0 } J W := by
  have h0 : S.sto sl = 0 := Decidable.byContradiction fun q => by
    obtain ⟨t, e⟩ := (hS.hkv sl).2 q
    rw [h] at e; cases e
  have : upd S.sto sl 0 = S.sto := by
    funext x; unfold upd; split
    · rename_i e; rw [e, h0]
    · rfl
  rw [this]; exact hS
end
end Mine
end
section
open PySem PySem.W PyProof.Rows PySem.Calls
namespace Mine
theorem fresh_M8 : True := by
  w_top off
  trivial
theorem lines_M8_0 : True := by
  k_with_none
  (k_with "g_ktr_room" => (first | exact Nat.le_of_ble_eq_true rfl | exact roomF 0 (by assumption) rfl rfl | exact roomF 1 (by assumption) rfl rfl | exact roomF 2 (by assumption) rfl rfl | exact roomF 3 (by assumption) rfl rfl | exact roomF 4 (by assumption) rfl rfl))
  (k_with "g_ktr_units" => (first | exact Nat.le_of_ble_eq_true rfl | exact unitF 3 (by assumption) rfl rfl | exact unitG 3 (by assumption) rfl rfl | exact unitG 6 (by assumption) rfl rfl | exact unitF 6 (by assumption) rfl rfl | exact unitF 7 (by assumption) rfl rfl | exact unitF 4 (by assumption) rfl rfl | exact unitF 5 (by assumption) rfl rfl | exact unitF 8 (by assumption) rfl rfl | exact unitF 9 (by assumption) rfl rfl | exact unitF 10 (by assumption) rfl rfl | exact unitF 11 (by assumption) rfl rfl | exact unitF 12 (by assumption) rfl rfl | exact unitF 13 (by assumption) rfl rfl | exact unitF 14 (by assumption) rfl rfl | exact unitF 15 (by assumption) rfl rfl | exact unitF 0 (by assumption) rfl rfl | exact unitF 1 (by assumption) rfl rfl | exact unitF 2 (by assumption) rfl rfl))
  (k_with "g_k_ne" => ((refine neN ?_; (try dsimp only); first | exact Ne'.o (by with_reducible assumption) | exact Ne'.s (by with_reducible assumption) | k_extra "ne")))
  (k_with "g_k_all" => (first | exact OwnOff.ne (by with_reducible assumption) (by k_mem) | exact allLt_ne (by assumption)))
  (k_with "g_size_fits" => ((simp only [List.size_toArray, List.length_map, List.length_append, List.length_cons, List.length_nil, Array.size_push]; (first | done | (rw [sizeLine_eq]; omega)))))
  (k_with "g_ent" => (apply code_defF; (case hA => exact rfl); (case hf => exact rfl); (case hke => exact rfl); (case B => k_asm); (case F => k_asm); (case X₀ => k_asm); (case N => k_asm); (case T => k_asm); (case ho => k_is); (case hcd => k_is); (case hroom => k_room); (case hbind => first | exact BindsTo.of_eq rfl | exact binds_K (by k_in) rfl (by k_is) rfl rfl rfl | fail "no rule for these arguments"); (case hcell => decide); (case hloc => exact locs rfl); (case hco => exact rfl); (case hgen => exact rfl); (case hk => exact rfl); k_whole; intro _ _ _ evX AX mmX _ _ _ _ _ _; (try dsimp only); (try k_fold)))
  (k_with "call ref" => (k_here; k_dflt (first
    | (apply call_cls0; (case F => k_asm); (case X₀ => k_asm); (case N => k_asm); (case hm => k_is); (case hi => k_is); k_whole; intro x' d' h' F' N' l1 l2; (try k_lt l1); (try k_lt2 l2); (try k_sweep); (revert x' d' h' F' N' l1 l2; intros))
    | (apply call_cls; (case F => k_asm); (case X₀ => k_asm); (case N => k_asm); (case hm => k_is); (case hi => k_is); (case hf => k_is); k_whole; intro x' d' h' F' N' l1 l2; (try k_lt l1); (try k_lt2 l2); (try k_sweep); (revert x' d' h' F' N' l1 l2; intros); k_extra "g_ent")
    | (apply call_meth; (case N => k_asm); (case hq => k_mem); k_whole; k_extra "g_ent")
    | (refine wpAny_call ?_; k_extra "g_ent"))))
  (k_with "call ref" => (k_here; (with_reducible show wpAny _ _ (call (Value.ref 154) [_, _, _, _] _) _ _ _); k_dflt (apply row_call; (case B => k_asm); (case F => k_asm); (case X => k_asm); (case N => k_asm); (case T => k_asm); (case hk => exact rfl); (case hd => ktr_room); k_whole); intro x' d' h' tk' k0' k1' k2' k3' F' N' l1 l2; (try k_lt l1); (try k_lt2 l2); (try k_sweep); (revert x' d' h' tk' k0' k1' k2' k3' F' N' l1 l2; intros)))
  (k_with "storeName" => (k_here; k_dflt (apply stXF; (case F => k_asm); (case N => k_asm); (case hk => rfl); (case hx => rfl); k_whole); intro mmX; intro _ _ _; (try k_sweep)))
  (k_with "execs cons" => (k_here; (try dsimp only); (refine execsF ?_); intro qkX))
  (k_with "execs cons" => (k_here; (try dsimp only); (with_reducible show wpAny _ _ _ _ _ (Shared.mk _ _ _ (_ + _) _)); (refine toksF ?_); intro tkX; (refine execsF ?_); intro qkX))
  (k_with "lt" => (first | with_reducible assumption | (apply And.left; first | with_reducible assumption | (apply And.right; first | with_reducible assumption | (apply And.right; first | with_reducible assumption | (apply And.right; first | with_reducible assumption | (apply And.right; first | with_reducible assumption | (apply And.right; first | with_reducible assumption | (apply And.right; first | with_reducible assumption | (apply And.right; first | with_reducible assumption | (apply And.right; first | with_reducible assumption | (apply And.right; first | with_reducible assumption | (apply And.right; first | with_reducible assumption | (apply And.right; first | with_reducible assumption | (apply And.right; first | with_reducible assumption | (apply And.right; first | with_reducible assumption | (apply And.right; first | with_reducible assumption | (apply And.right; with_reducible assumption))))))))))))))))))
  (k_with "ne" => (first | (refine Nat.ne_of_gt ?_; k_extra "lt") | (refine Nat.ne_of_lt ?_; k_extra "lt") | (refine Nat.ne_of_gt ?_; apply Nat.lt_trans; rotate_left; (with_reducible assumption); k_extra "lt") | (refine Nat.ne_of_lt ?_; apply Nat.lt_trans; rotate_left; (with_reducible assumption); k_extra "lt")))
  (k_with "subscriptTail" => (k_here; (with_reducible show wpAny _ _ (subscriptTail _ _ (Value.ref _) (Value.str _ _)) _ _ _); k_dflt (apply d_item (knd := strKind _ _) (hkey := (str_key _ _)); (case N => k_asm); (case hm => k_mem); (case hD => assumption); (case hv => first | assumption | exact rfl); (case hs => with_unfolding_all rfl); k_whole)))
  (k_with "subscriptTail" => (k_here; (with_reducible show wpAny _ _ (subscriptTail _ _ (Value.ref _) (Value.int _ _)) _ _ _); k_dflt (apply d_item (knd := intKind _ _) (hkey := (int_key _ _)); (case N => k_asm); (case hm => k_mem); (case hD => assumption); (case hv => first | assumption | exact rfl); (case hs => with_unfolding_all rfl); k_whole)))
  (k_with "compareOp In" => (k_here; (with_reducible show wpAny _ _ (compareOp CmpOp.In (Value.int _ _) (Value.ref _)) _ _ _); k_dflt (apply d_inB (knd := intKind _ _) (hkey := (int_key _ _)); (case N => k_asm); (case hm => k_mem); (case hD => assumption); (case lo => assumption); (case hb => first | assumption | exact rfl); k_whole)))
  (k_with "compareOp NotIn" => (k_here; (with_reducible show wpAny _ _ (compareOp CmpOp.NotIn (Value.int _ _) (Value.ref _)) _ _ _); k_dflt (apply d_notIn (knd := intKind _ _) (hkey := (int_key _ _)); (case N => k_asm); (case hm => k_mem); (case hD => assumption); (case lo => assumption); (case hb => first | assumption | exact rfl); k_whole)))
  (k_with "call builtin:dict.get" => (k_here; (with_reducible show wpAny _ _ (call (Value.builtin _) [Value.ref _, Value.int _ _, _]) _ _ _); k_dflt (apply d_get2B (knd := intKind _ _) (hkey := (int_key _ _)); (case N => k_asm); (case hm => k_mem); (case hD => assumption); (case lo => assumption); (case hv => first | assumption | exact rfl); k_whole)))
  (k_with "setItem" => (k_here; (with_reducible show wpAny _ _ (setItem (Value.ref _) (Value.str _ _) _) _ _ _); k_dflt (apply d_set (knd := strKind _ _) (hkey := (str_key _ _)); (case F => k_asm); (case N => k_asm); (case U => k_updF); (case hD => assumption); (case hz => first | assumption | decide | (simp; done)); k_whole); intro h' o' F' N' D'; (try dsimp only at N'); (try simp (decide := true) [stored] at D'); (try k_sweep); (revert h' o' F' N' D'; intros)))
  (k_with "setItem" => (k_here; (with_reducible show wpAny _ _ (setItem (Value.ref _) (Value.int _ _) _) _ _ _); k_dflt (apply d_set (knd := intKind _ _) (hkey := (int_key _ _)); (case F => k_asm); (case N => k_asm); (case U => k_updF); (case hD => assumption); (case hz => first | assumption | decide | (simp; done)); k_whole); intro h' o' F' N' D'; (try dsimp only at N'); (try k_sweep); (revert h' o' F' N' D'; intros)))
  (k_with "delItem" => (k_here; (with_reducible show wpAny _ _ (delItem (Value.ref _) (Value.int _ _)) _ _ _); k_dflt (apply d_del (knd := intKind _ _) (hkey := (int_key _ _)); (case F => k_asm); (case N => k_asm); (case U => k_updF); (case hD => assumption); (case hl => assumption); (case hz => first | assumption | decide | (simp; done)); k_whole); intro h' o' F' N' D'; (try dsimp only at N'); (try k_sweep); (revert h' o' F' N' D'; intros)))
  (k_with "getMethod ref" => (k_here; (with_reducible show wpAny _ _ (getMethod (Value.ref _) (PySem.Str.ofString "get") _) _ _ _); k_dflt (apply t_getMethod; (case N => k_asm); (case hm => k_mem); (case hD => assumption); k_whole)))
  (k_with "call builtin:len" => (k_here; (with_reducible show wpAny _ _ (call (Value.builtin "len") [Value.ref _]) _ _ _); k_dflt (apply l_len; (case N => k_asm); (case hm => k_mem); (case hz => (simp only [List.size_toArray, List.length_map]; omega)); k_whole)))
  (k_with "compareOp In" => (k_here; (with_reducible show wpAny _ _ (compareOp CmpOp.In (Value.ref _) (Value.ref _)) _ _ _); k_dflt (apply t_in; (case N => k_asm); (case hm => k_mem); (case hD => assumption); (case hK => exact KeysIn.mono (by assumption) (by intro p hp; repeat (first | exact hp | refine List.Mem.tail _ ?_))); (case hq => k_mem); (case ht => exact tupO2); (case hu => ktr_units); (case lo => assumption); (case hb => assumption); k_whole)))
  (k_with "compareOp NotIn" => (k_here; (with_reducible show wpAny _ _ (compareOp CmpOp.NotIn (Value.ref _) (Value.ref _)) _ _ _); k_dflt (apply t_notIn; (case N => k_asm); (case hm => k_mem); (case hD => assumption); (case hK => exact KeysIn.mono (by assumption) (by intro p hp; repeat (first | exact hp | refine List.Mem.tail _ ?_))); (case hq => k_mem); (case ht => exact tupO2); (case hu => ktr_units); (case lo => assumption); (case hb => assumption); k_whole)))
  (k_with "call builtin:dict.get" => (k_here; (with_reducible show wpAny _ _ (call (Value.builtin _) [Value.ref _, Value.ref _, _]) _ _ _); k_dflt (apply t_get2; (case N => k_asm); (case hm => k_mem); (case hD => assumption); (case hK => exact KeysIn.mono (by assumption) (by intro p hp; repeat (first | exact hp | refine List.Mem.tail _ ?_))); (case hq => k_mem); (case ht => exact tupO2); (case hu => ktr_units); (case lo => assumption); (case hv => first | assumption | exact rfl); k_whole)))
  (k_with "setItem" => (k_here; (with_reducible show wpAny _ _ (setItem (Value.ref _) (Value.ref _) _) _ _ _); k_dflt (apply t_set; (case F => k_asm); (case N => k_asm); (case U => k_updF); (case hD => assumption); (case hK => exact KeysIn.mono (by assumption) (by intro p hp; repeat (first | exact hp | refine List.Mem.tail _ ?_))); (case hq => k_mem); (case ht => exact tupO2); (case hu => ktr_units); (case hz => assumption); k_whole); intro h' o' F' N' D'; (try dsimp only at N'); (try k_sweep); (revert h' o' F' N' D'; intros)))
  (k_with "delItem" => (k_here; (with_reducible show wpAny _ _ (delItem (Value.ref _) (Value.ref _)) _ _ _); k_dflt (apply t_del; (case F => k_asm); (case N => k_asm); (case U => k_updF); (case hD => assumption); (case hK => exact KeysIn.mono (by assumption) (by intro p hp; repeat (first | exact hp | refine List.Mem.tail _ ?_))); (case hq => k_mem); (case ht => exact tupO2); (case hu => ktr_units); (case hl => assumption); (case hz => assumption); k_whole); intro h' o' F' N' D'; (try dsimp only at N'); (try k_sweep); (revert h' o' F' N' D'; intros)))
  trivial
theorem c_warm0 {w : World} {mean : ExcName → Option Value} {mg mb : Str → Option Value} {home s1 s2 : Int} {fst : Int → Int} {P : StA} (hP : StAOK w home P) {C : StC} {S : SS} {J : List JR} {W : Int → Bool} (hS : StCOK w home s1 s2 fst P C S J W) (sl : Int) (t1 t2 : Tok) (hw : S.wrm sl = true) :
    Con w mean mg mb 340 [.ref P.st, .int home t1, .int sl t2] 1 (P.led w C S.rfd) (fun _ => True) (fun _ v h' => v = .none ∧ Sat h' (P.led w C S.rfd)) := by
  obtain ⟨st, dst, acc, ac, dac, sto, jl, tch, des, ws, org, wo, lg, oacc, odes, kS, kA, tn, tb, tc⟩ := P
  obtain ⟨osto, otch, ows, oorg, tr, n, jv, kvs, xs, ys, rows, rest⟩ := C
  have hS0 := hS
  have hP0 := hP
  have kvz := hS.kvs_le
  have xsz := hS.xs_le
  have ysz := hS.ys_le
  have jln := hS.jlen
  obtain ⟨nd, lo1, lo2, lo3, lo4, lo5, lo6, hacc, hdes⟩ := hP
  obtain ⟨off, hsto, hkv, hkn, htch, hws, hxk, hxs, hxn, horg, hyk, hys, hyn, hW, hjv, hJ, hrow⟩ := hS
  dsimp only [StA.addrs] at *
  unfold Con StA.led StA.lits
  dsimp only [List.cons_append, List.nil_append]
  k_fill
  intro dp un gd cn cs a ccd cells outer A₀ base h₀ L m s Q E B F X N T hk hpre hd hu hret
  refine wpAny_call ?_
  k_dflt (refine' enterHF ?k1_q ?k2_q ?k3_q ?k4_q ?k5_q ?kA_q ?kF_q ?kK_q ?k6_q ?k7_q ?k8_q ?k9_q ?kB_q ?_ ?c2_q ?c3_q ?c4_q ?c5_q; (case kA_q => exact rfl); (case kF_q => exact rfl); (case kK_q => assumption); (case k1_q => k_asm); (case k2_q => k_asm); (case k3_q => k_asm); (case k4_q => k_asm); (case k5_q => k_asm); (case k6_q => k_is); (case k7_q => k_is); (case k8_q => ktr_room); (case k9_q => exact BindsTo.of_eq rfl); (case c5_q => decide); (case kB_q => exact locs rfl); (case c2_q => exact rfl); (case c3_q => exact rfl); (case c4_q => exact rfl); k_whole; intro g' L' h' evX AX mmX gSX dSX oSX FG' F' N' B' X' T' hg' hL'; (try dsimp only); (try k_fold))
  have e1 := hxs sl
  rw [hw] at e1
  k_steps
  all_goals (refine hret _ _ _ (by assumption) (keeps_end hg' (by assumption)) ⟨rfl, sat_sub (by assumption) (by intro p hp; repeat (first | exact hp | refine List.Mem.tail _ ?_))⟩)

theorem c_warm1 {w : World} {mean : ExcName → Option Value} {mg mb : Str → Option Value} {home s1 s2 : Int} {fst : Int → Int} {P : StA} (hP : StAOK w home P) {C : StC} {S : SS} {J : List JR} {W : Int → Bool} (hS : StCOK w home s1 s2 fst P C S J W) (sl : Int) (t1 t2 : Tok) (hw : S.wrm sl = false) (hsl : sl = s1 ∨ sl = s2) (hJn : J.length ≤ 900) :
    Con w mean mg mb 340 [.ref P.st, .int home t1, .int sl t2] 2 (P.led w C S.rfd) (fun _ => True) (fun h v h' => v = .none ∧ StPost w home s1 s2 fst P C S { S with wrm := setB S.wrm sl true } (J ++ [JR.warm sl]) W h h') := by
  let PX : StA := P
  let CX : StC := C
  have hS0 : StCOK w home s1 s2 fst PX CX S J W := hS
  show Con w mean mg mb 340 [.ref P.st, .int home t1, .int sl t2] 2 (P.led w C S.rfd) (fun _ => True) (fun h v h' => v = .none ∧ StPost w home s1 s2 fst PX CX S { S with wrm := setB S.wrm sl true } (J ++ [JR.warm sl]) W h h')
  obtain ⟨st, dst, acc, ac, dac, sto, jl, tch, des, ws, org, wo, lg, oacc, odes, kS, kA, tn, tb, tc⟩ := P
  obtain ⟨osto, otch, ows, oorg, tr, n, jv, kvs, xs, ys, rows, rest⟩ := C
  have hP0 := hP
  have kvz := hS.kvs_le
  have xsz := hS.xs_le
  have ysz := hS.ys_le
  have jln := hS.jlen
  obtain ⟨nd, lo1, lo2, lo3, lo4, lo5, lo6, hacc, hdes⟩ := hP
  obtain ⟨off, hsto, hkv, hkn, htch, hws, hxk, hxs, hxn, horg, hyk, hys, hyn, hW, hjv, hJ, hrow⟩ := hS
  dsimp only [StA.addrs] at *
  unfold Con StA.led StA.lits
  dsimp only [List.cons_append, List.nil_append]
  k_fill
  intro dp un gd cn cs a ccd cells outer A₀ base h₀ L m s Q E B F X N T hk hpre hd hu hret
  refine wpAny_call ?_
  k_dflt (refine' enterHF ?k1_q ?k2_q ?k3_q ?k4_q ?k5_q ?kA_q ?kF_q ?kK_q ?k6_q ?k7_q ?k8_q ?k9_q ?kB_q ?_ ?c2_q ?c3_q ?c4_q ?c5_q; (case kA_q => exact rfl); (case kF_q => exact rfl); (case kK_q => assumption); (case k1_q => k_asm); (case k2_q => k_asm); (case k3_q => k_asm); (case k4_q => k_asm); (case k5_q => k_asm); (case k6_q => k_is); (case k7_q => k_is); (case k8_q => ktr_room); (case k9_q => exact BindsTo.of_eq rfl); (case c5_q => decide); (case kB_q => exact locs rfl); (case c2_q => exact rfl); (case c3_q => exact rfl); (case c4_q => exact rfl); k_whole; intro g' L' h' evX AX mmX gSX dSX oSX FG' F' N' B' X' T' hg' hL'; (try dsimp only); (try k_fold))
  refine apart11 nd fun n_st_dst n_st_acc n_st_ac n_st_dac n_st_sto n_st_jl n_st_tch n_st_des n_st_ws n_st_org n_dst_acc n_dst_ac n_dst_dac n_dst_sto n_dst_jl n_dst_tch n_dst_des n_dst_ws n_dst_org n_acc_ac n_acc_dac n_acc_sto n_acc_jl n_acc_tch n_acc_des n_acc_ws n_acc_org n_ac_dac n_ac_sto n_ac_jl n_ac_tch n_ac_des n_ac_ws n_ac_org n_dac_sto n_dac_jl n_dac_tch n_dac_des n_dac_ws n_dac_org n_sto_jl n_sto_tch n_sto_des n_sto_ws n_sto_org n_jl_tch n_jl_des n_jl_ws n_jl_org n_tch_des n_tch_ws n_tch_org n_des_ws n_des_org n_ws_org => ?_
  have e1 := hxs sl
  rw [hw] at e1
  k_steps
  all_goals (refine' hret _ _ _ ?hF_q (keeps_end hg' ?hF2_q) ⟨rfl, StPost.mk (((hS0.more [(?q_q, ?oq_q)] ?off2_q).warm hw hsl (.head _) tupO2 ?hD_q).newRow (JR.warm sl) ?n_q ?off_q rfl rfl rfl ⟨_, rfl⟩) hg' ?NN_q ?sub_q⟩; (case hF_q => assumption); (case hF2_q => assumption); (case NN_q => assumption); (case hD_q => assumption); (case sub_q => ((try unfold StA.led StA.lits); (try dsimp only [List.cons_append, List.nil_append]); repeat (first | (refine List.forall_mem_cons.mpr ⟨?_, ?_⟩; focus (show _ ∈ _; k_dflt k_mem)) | (intro p hp; repeat (first | exact hp | refine List.Mem.tail _ ?_))))); (case off_q => (repeat (first | exact off_nil | (refine off_cons ?_ ?_; focus (dsimp only [StA.addrs, PX]; repeat (first | exact List.forall_mem_nil _ | (refine List.forall_mem_cons.mpr ⟨?_, ?_⟩; focus k_ne))))))); (case off2_q => (repeat (first | exact off_nil | (refine off_cons ?_ ?_; focus (dsimp only [StA.addrs, PX]; repeat (first | exact List.forall_mem_nil _ | (refine List.forall_mem_cons.mpr ⟨?_, ?_⟩; focus k_ne))))))))

theorem c_written0 {w : World} {mean : ExcName → Option Value} {mg mb : Str → Option Value} {home s1 s2 : Int} {fst : Int → Int} {P : StA} (hP : StAOK w home P) {C : StC} {S : SS} {J : List JR} {W : Int → Bool} (hS : StCOK w home s1 s2 fst P C S J W) (t1 : Tok) (hw : S.tch = true) :
    Con w mean mg mb 214 [.ref P.st, .int home t1] 1 (P.led w C S.rfd) (fun _ => True) (fun _ v h' => v = .ref P.ac ∧ Sat h' (P.led w C S.rfd)) := by
  obtain ⟨st, dst, acc, ac, dac, sto, jl, tch, des, ws, org, wo, lg, oacc, odes, kS, kA, tn, tb, tc⟩ := P
  obtain ⟨osto, otch, ows, oorg, tr, n, jv, kvs, xs, ys, rows, rest⟩ := C
  have hS0 := hS
  have hP0 := hP
  have kvz := hS.kvs_le
  have xsz := hS.xs_le
  have ysz := hS.ys_le
  have jln := hS.jlen
  obtain ⟨nd, lo1, lo2, lo3, lo4, lo5, lo6, hacc, hdes⟩ := hP
  obtain ⟨off, hsto, hkv, hkn, htch, hws, hxk, hxs, hxn, horg, hyk, hys, hyn, hW, hjv, hJ, hrow⟩ := hS
  dsimp only [StA.addrs] at *
  unfold Con StA.led StA.lits
  dsimp only [List.cons_append, List.nil_append]
  k_fill
  intro dp un gd cn cs a ccd cells outer A₀ base h₀ L m s Q E B F X N T hk hpre hd hu hret
  refine wpAny_call ?_
  k_dflt (refine' enterHF ?k1_q ?k2_q ?k3_q ?k4_q ?k5_q ?kA_q ?kF_q ?kK_q ?k6_q ?k7_q ?k8_q ?k9_q ?kB_q ?_ ?c2_q ?c3_q ?c4_q ?c5_q; (case kA_q => exact rfl); (case kF_q => exact rfl); (case kK_q => assumption); (case k1_q => k_asm); (case k2_q => k_asm); (case k3_q => k_asm); (case k4_q => k_asm); (case k5_q => k_asm); (case k6_q => k_is); (case k7_q => k_is); (case k8_q => ktr_room); (case k9_q => exact BindsTo.of_eq rfl); (case c5_q => decide); (case kB_q => exact locs rfl); (case c2_q => exact rfl); (case c3_q => exact rfl); (case c4_q => exact rfl); k_whole; intro g' L' h' evX AX mmX gSX dSX oSX FG' F' N' B' X' T' hg' hL'; (try dsimp only); (try k_fold))
  have e1 : (valueAt [(home, Value.ref ac)] home).isSome = true := by simp [valueAt]
  have e2 : valueAt [(home, Value.ref ac)] home = some (Value.ref ac) := by simp [valueAt]
  rw [hw] at htch
  have e3 : (valueAt [(home, Value.bool true)] home).isSome = true := by simp [valueAt]
  k_steps
  all_goals (refine hret _ _ _ (by assumption) (keeps_end hg' (by assumption)) ⟨rfl, sat_sub (by assumption) (by intro p hp; repeat (first | exact hp | refine List.Mem.tail _ ?_))⟩)

theorem c_written1 {w : World} {mean : ExcName → Option Value} {mg mb : Str → Option Value} {home s1 s2 : Int} {fst : Int → Int} {P : StA} (hP : StAOK w home P) {C : StC} {S : SS} {J : List JR} {W : Int → Bool} (hS : StCOK w home s1 s2 fst P C S J W) (t1 : Tok) (hw : S.tch = false) (hJn : J.length ≤ 900) :
    Con w mean mg mb 214 [.ref P.st, .int home t1] 2 (P.led w C S.rfd) (fun _ => True) (fun h v h' => v = .ref P.ac ∧ StPost w home s1 s2 fst P C S { S with tch := true } (J ++ [JR.touched]) W h h') := by
  let PX : StA := P
  let CX : StC := C
  have hS0 : StCOK w home s1 s2 fst PX CX S J W := hS
  show Con w mean mg mb 214 [.ref P.st, .int home t1] 2 (P.led w C S.rfd) (fun _ => True) (fun h v h' => v = .ref P.ac ∧ StPost w home s1 s2 fst PX CX S { S with tch := true } (J ++ [JR.touched]) W h h')
  obtain ⟨st, dst, acc, ac, dac, sto, jl, tch, des, ws, org, wo, lg, oacc, odes, kS, kA, tn, tb, tc⟩ := P
  obtain ⟨osto, otch, ows, oorg, tr, n, jv, kvs, xs, ys, rows, rest⟩ := C
  have hP0 := hP
  have kvz := hS.kvs_le
  have xsz := hS.xs_le
  have ysz := hS.ys_le
  have jln := hS.jlen
  obtain ⟨nd, lo1, lo2, lo3, lo4, lo5, lo6, hacc, hdes⟩ := hP
  obtain ⟨off, hsto, hkv, hkn, htch, hws, hxk, hxs, hxn, horg, hyk, hys, hyn, hW, hjv, hJ, hrow⟩ := hS
  dsimp only [StA.addrs] at *
  unfold Con StA.led StA.lits
  dsimp only [List.cons_append, List.nil_append]
  k_fill
  intro dp un gd cn cs a ccd cells outer A₀ base h₀ L m s Q E B F X N T hk hpre hd hu hret
  refine wpAny_call ?_
  k_dflt (refine' enterHF ?k1_q ?k2_q ?k3_q ?k4_q ?k5_q ?kA_q ?kF_q ?kK_q ?k6_q ?k7_q ?k8_q ?k9_q ?kB_q ?_ ?c2_q ?c3_q ?c4_q ?c5_q; (case kA_q => exact rfl); (case kF_q => exact rfl); (case kK_q => assumption); (case k1_q => k_asm); (case k2_q => k_asm); (case k3_q => k_asm); (case k4_q => k_asm); (case k5_q => k_asm); (case k6_q => k_is); (case k7_q => k_is); (case k8_q => ktr_room); (case k9_q => exact BindsTo.of_eq rfl); (case c5_q => decide); (case kB_q => exact locs rfl); (case c2_q => exact rfl); (case c3_q => exact rfl); (case c4_q => exact rfl); k_whole; intro g' L' h' evX AX mmX gSX dSX oSX FG' F' N' B' X' T' hg' hL'; (try dsimp only); (try k_fold))
  refine apart11 nd fun n_st_dst n_st_acc n_st_ac n_st_dac n_st_sto n_st_jl n_st_tch n_st_des n_st_ws n_st_org n_dst_acc n_dst_ac n_dst_dac n_dst_sto n_dst_jl n_dst_tch n_dst_des n_dst_ws n_dst_org n_acc_ac n_acc_dac n_acc_sto n_acc_jl n_acc_tch n_acc_des n_acc_ws n_acc_org n_ac_dac n_ac_sto n_ac_jl n_ac_tch n_ac_des n_ac_ws n_ac_org n_dac_sto n_dac_jl n_dac_tch n_dac_des n_dac_ws n_dac_org n_sto_jl n_sto_tch n_sto_des n_sto_ws n_sto_org n_jl_tch n_jl_des n_jl_ws n_jl_org n_tch_des n_tch_ws n_tch_org n_des_ws n_des_org n_ws_org => ?_
  have e1 : (valueAt [(home, Value.ref ac)] home).isSome = true := by simp [valueAt]
  have e2 : valueAt [(home, Value.ref ac)] home = some (Value.ref ac) := by simp [valueAt]
  rw [hw] at htch
  have e3 : (valueAt ([] : List (Int × Value)) home).isSome = false := by simp [valueAt]
  k_steps
  all_goals (refine' hret _ _ _ ?hF_q (keeps_end hg' ?hF2_q) ⟨rfl, StPost.mk ((hS0.touch (b := true) ?hD_q).newRow JR.touched ?n_q ?off_q rfl rfl rfl ⟨_, rfl⟩) hg' ?NN_q ?sub_q⟩; (case hF_q => assumption); (case hF2_q => assumption); (case NN_q => assumption); (case hD_q => assumption); (case sub_q => ((try unfold StA.led StA.lits); (try dsimp only [List.cons_append, List.nil_append]); repeat (first | (refine List.forall_mem_cons.mpr ⟨?_, ?_⟩; focus (show _ ∈ _; k_dflt k_mem)) | (intro p hp; repeat (first | exact hp | refine List.Mem.tail _ ?_))))); (case off_q => (repeat (first | exact off_nil | (refine off_cons ?_ ?_; focus (dsimp only [StA.addrs, PX]; repeat (first | exact List.forall_mem_nil _ | (refine List.forall_mem_cons.mpr ⟨?_, ?_⟩; focus k_ne))))))))

theorem c_put {w : World} {mean : ExcName → Option Value} {mg mb : Str → Option Value} {home s1 s2 : Int} {fst : Int → Int} {P : StA} (hP : StAOK w home P) {C : StC} {S : SS} {J : List JR} {W : Int → Bool} (hS : StCOK w home s1 s2 fst P C S J W) (sl wd : Int) (t1 t2 : Tok) (hsl : sl = s1 ∨ sl = s2) :
    Con w mean mg mb 137 [.ref P.ac, .int sl t1, .int wd t2] 1 (P.led w C S.rfd) (fun _ => True) (fun h v h' => v = .none ∧ StPost w home s1 s2 fst P C S { S with sto := upd S.sto sl wd } J W h h') := by
  let PX : StA := P
  let CX : StC := C
  have hS0 : StCOK w home s1 s2 fst PX CX S J W := hS
  show Con w mean mg mb 137 [.ref P.ac, .int sl t1, .int wd t2] 1 (P.led w C S.rfd) (fun _ => True) (fun h v h' => v = .none ∧ StPost w home s1 s2 fst PX CX S { S with sto := upd S.sto sl wd } J W h h')
  obtain ⟨st, dst, acc, ac, dac, sto, jl, tch, des, ws, org, wo, lg, oacc, odes, kS, kA, tn, tb, tc⟩ := P
  obtain ⟨osto, otch, ows, oorg, tr, n, jv, kvs, xs, ys, rows, rest⟩ := C
  have hP0 := hP
  have kvz := hS.kvs_le
  have xsz := hS.xs_le
  have ysz := hS.ys_le
  have jln := hS.jlen
  obtain ⟨nd, lo1, lo2, lo3, lo4, lo5, lo6, hacc, hdes⟩ := hP
  obtain ⟨off, hsto, hkv, hkn, htch, hws, hxk, hxs, hxn, horg, hyk, hys, hyn, hW, hjv, hJ, hrow⟩ := hS
  dsimp only [StA.addrs] at *
  unfold Con StA.led StA.lits
  dsimp only [List.cons_append, List.nil_append]
  k_fill
  intro dp un gd cn cs a ccd cells outer A₀ base h₀ L m s Q E B F X N T hk hpre hd hu hret
  refine wpAny_call ?_
  k_dflt (refine' enterHF ?k1_q ?k2_q ?k3_q ?k4_q ?k5_q ?kA_q ?kF_q ?kK_q ?k6_q ?k7_q ?k8_q ?k9_q ?kB_q ?_ ?c2_q ?c3_q ?c4_q ?c5_q; (case kA_q => exact rfl); (case kF_q => exact rfl); (case kK_q => assumption); (case k1_q => k_asm); (case k2_q => k_asm); (case k3_q => k_asm); (case k4_q => k_asm); (case k5_q => k_asm); (case k6_q => k_is); (case k7_q => k_is); (case k8_q => ktr_room); (case k9_q => exact BindsTo.of_eq rfl); (case c5_q => decide); (case kB_q => exact locs rfl); (case c2_q => exact rfl); (case c3_q => exact rfl); (case c4_q => exact rfl); k_whole; intro g' L' h' evX AX mmX gSX dSX oSX FG' F' N' B' X' T' hg' hL'; (try dsimp only); (try k_fold))
  refine apart11 nd fun n_st_dst n_st_acc n_st_ac n_st_dac n_st_sto n_st_jl n_st_tch n_st_des n_st_ws n_st_org n_dst_acc n_dst_ac n_dst_dac n_dst_sto n_dst_jl n_dst_tch n_dst_des n_dst_ws n_dst_org n_acc_ac n_acc_dac n_acc_sto n_acc_jl n_acc_tch n_acc_des n_acc_ws n_acc_org n_ac_dac n_ac_sto n_ac_jl n_ac_tch n_ac_des n_ac_ws n_ac_org n_dac_sto n_dac_jl n_dac_tch n_dac_des n_dac_ws n_dac_org n_sto_jl n_sto_tch n_sto_des n_sto_ws n_sto_org n_jl_tch n_jl_des n_jl_ws n_jl_org n_tch_des n_tch_ws n_tch_org n_des_ws n_des_org n_ws_org => ?_
  by_cases hw : wd = 0
  · subst hw
    cases e1 : valueAt kvs sl with
    | none =>
      have e2 : (valueAt kvs sl).isSome = false := by rw [e1]; rfl
      k_steps
      all_goals (refine' hret _ _ _ ?hF_q (keeps_end hg' ?hF2_q) ⟨rfl, StPost.mk (hS0.nput e1) hg' ?NN_q ?sub_q⟩; (case hF_q => assumption); (case hF2_q => assumption); (case NN_q => assumption); (case sub_q => ((try unfold StA.led StA.lits); (try dsimp only [List.cons_append, List.nil_append]); repeat (first | (refine List.forall_mem_cons.mpr ⟨?_, ?_⟩; focus (show _ ∈ _; k_dflt k_mem)) | (intro p hp; repeat (first | exact hp | refine List.Mem.tail _ ?_))))))
    | some y =>
      have e2 : (valueAt kvs sl).isSome = true := by rw [e1]; rfl
      k_steps
      all_goals (refine' hret _ _ _ ?hF_q (keeps_end hg' ?hF2_q) ⟨rfl, StPost.mk (hS0.unput ?hD_q) hg' ?NN_q ?sub_q⟩; (case hF_q => assumption); (case hF2_q => assumption); (case NN_q => assumption); (case hD_q => assumption); (case sub_q => ((try unfold StA.led StA.lits); (try dsimp only [List.cons_append, List.nil_append]); repeat (first | (refine List.forall_mem_cons.mpr ⟨?_, ?_⟩; focus (show _ ∈ _; k_dflt k_mem)) | (intro p hp; repeat (first | exact hp | refine List.Mem.tail _ ?_))))))
  · k_steps
    any_goals (exfalso; omega)
    all_goals (refine' hret _ _ _ ?hF_q (keeps_end hg' ?hF2_q) ⟨rfl, StPost.mk (hS0.put hsl hw ?hD_q) hg' ?NN_q ?sub_q⟩; (case hF_q => assumption); (case hF2_q => assumption); (case NN_q => assumption); (case hD_q => assumption); (case sub_q => ((try unfold StA.led StA.lits); (try dsimp only [List.cons_append, List.nil_append]); repeat (first | (refine List.forall_mem_cons.mpr ⟨?_, ?_⟩; focus (show _ ∈ _; k_dflt k_mem)) | (intro p hp; repeat (first | exact hp | refine List.Mem.tail _ ?_))))))

end Mine
end
section
open PySem PySem.W PyProof.Rows PySem.Calls PySem.Spec
namespace Mine
/-- here the walk stops -/
noncomputable def stopTree {α : Type} (t : Sem α) : Sem α := t
theorem stop_mk {α : Type} {M : Model} {A : Around} {t : Sem α} {Q : α → Shared → Prop} {E : Value → Shared → Prop} {s : Shared} (h : wpAny M A (stopTree t) Q E s) : wpAny M A t Q E s := h
theorem stop_out {α : Type} {M : Model} {A : Around} {t : Sem α} {Q : α → Shared → Prop} {E : Value → Shared → Prop} {s : Shared} (h : wpAny M A t Q E s) : wpAny M A (stopTree t) Q E s := h
/-- two ledgers lie apart -/
noncomputable def OffL (oth led : List (Addr × Obj)) : Prop := ∀ p ∈ oth, ∀ q ∈ led, q.1 ≠ p.1
theorem OffL.nil {led : List (Addr × Obj)} : OffL [] led := fun _ h => nomatch h
theorem OffL.cons {a : Addr} {o : Obj} {r led : List (Addr × Obj)} (h : ∀ q ∈ led, q.1 ≠ a) (hr : OffL r led) : OffL ((a, o) :: r) led := fun p hp => by
  rcases List.mem_cons.mp hp with rfl | hp
  · exact h
  · exact hr p hp
theorem OffL.grow {h : Heap} {g : Heap} {L : Addr} {oth led led' : List (Addr × Obj)} (O : OffL oth led) (N : News g L h oth) (G : Grows h led led') : OffL oth led' := by
  intro p hp q hq e
  rcases G q hq with x | x
  · obtain ⟨y, hy, ey⟩ := List.mem_map.mp x
    exact O p hp y hy (ey.trans e)
  · rw [e, (N p hp).1] at x; cases x
theorem news_keptOff {h₀ h h' : Heap} {L : Addr} {oth led : List (Addr × Obj)} (N : News h₀ L h oth) (O : OffL oth led) (K : Keeps (led.map (·.1)) h h') : News h₀ L h' oth := fun p hp =>
  ⟨K _ _ (fun hm => by obtain ⟨q, hq, e⟩ := List.mem_map.mp hm; exact O p hp q hq e) (N p hp).1, (N p hp).2⟩
theorem Con.mono {w : World} {mean : ExcName → Option Value} {mg mb : Str → Option Value} {f : Addr} {vs : List Value} {d : Nat} {foot : List (Addr × Obj)} {Pre Pre' : Heap → Prop} {Post Post' : Heap → Value → Heap → Prop} (C : Con w mean mg mb f vs d foot Pre Post)
    (hp : ∀ h, Pre' h → Pre h) (hq : ∀ h v h', Post h v h' → Post' h v h') : Con w mean mg mb f vs d foot Pre' Post' := fun dp un gd cn cs a ccd cl outer A₀ base h₀ L m s Q E B F X N T hk hpre hd hu k =>
  C dp un gd cn cs a ccd cl outer A₀ base h₀ L m s Q E B F X N T hk (hp _ hpre) hd hu fun v h' tk' F' K' P' => k v h' tk' F' K' (hq _ _ _ P')
theorem Con.deep {w : World} {mean : ExcName → Option Value} {mg mb : Str → Option Value} {f : Addr} {vs : List Value} {d d' : Nat} {foot : List (Addr × Obj)} {Pre : Heap → Prop} {Post : Heap → Value → Heap → Prop} (C : Con w mean mg mb f vs d foot Pre Post)
    (h : d ≤ d') : Con w mean mg mb f vs d' foot Pre Post := fun dp un gd cn cs a ccd cl outer A₀ base h₀ L m s Q E B F X N T hk hpre hd hu k =>
  C dp un gd cn cs a ccd cl outer A₀ base h₀ L m s Q E B F X N T hk hpre (by omega) (by omega) k
section
variable {w : World} {mean : ExcName → Option Value} {mg mb : Str → Option Value} {f : Addr} {vs : List Value} {d : Nat} {Pre : Heap → Prop}
  {dp un : Nat} {gd : Option (List Code)} {cn : Str} {cs : Scope} {a : Addr} {ccd : Value} {cl : List (Str × Addr)} {outer : List Env} {A₀ : Around} {base h₀ : Heap} {L : Addr} {m : Str → Option Value} {s : Shared} {Q E : Value → Shared → Prop}
theorem Con.useG {foot : List (Addr × Obj)} {Post : Heap → Value → Heap → Prop} (C : Con w mean mg mb f vs d foot Pre Post) (oth : List (Addr × Obj))
    (B : Below A₀ base outer h₀) (F : Fr h₀ L s.heap m) (X : (hd.heap_39 w.params).In h₀) (N : News h₀ L s.heap (oth ++ foot)) (O : OffL oth foot) (T : Top hd.view_39 (looseW hd.view_39 []) mean mg mb h₀) (hk : cs.kind = .function)
    (hp : Pre s.heap) (h1 : dp + d < recursionLimit) (h2 : un + 8 * d < cLine)
    (k : ∀ v h' tk', Post s.heap v h' → Fr h₀ L h' m → News h₀ L h' oth → (∀ led, Sat h' led → Grows s.heap foot led → News h₀ L h' led ∧ OffL oth led) → Q v { s with heap := h', toks := tk' }) :
    wpAny (model PySem.Challenge.rw_pq0405_01.row.prog w) (ktrTop dp un gd cn cs L a ccd cl outer) (call (.ref f) vs) Q E s := by
  have No : News h₀ L s.heap oth := N.perm fun p hp => List.mem_append_left _ hp
  have Nf : News h₀ L s.heap foot := N.perm fun p hp => List.mem_append_right _ hp
  refine C.use B F X Nf T hk hp h1 h2 fun v h' tk' F' K' P' => ?_
  exact k v h' tk' P' F' (news_keptOff No O K') fun led S G => ⟨news_back F Nf S G, O.grow No G⟩
theorem Con.useSt {home s1 s2 : Int} {fst : Int → Int} {P : StA} {C : StC} {S S' : SS} {J' : List JR} {W' : Int → Bool} {R : Value → Prop}
    (C0 : Con w mean mg mb f vs d (P.led w C S.rfd) Pre (fun h v h' => R v ∧ StPost w home s1 s2 fst P C S S' J' W' h h')) (oth : List (Addr × Obj))
    (B : Below A₀ base outer h₀) (F : Fr h₀ L s.heap m) (X : (hd.heap_39 w.params).In h₀) (N : News h₀ L s.heap (oth ++ P.led w C S.rfd)) (O : OffL oth (P.led w C S.rfd)) (T : Top hd.view_39 (looseW hd.view_39 []) mean mg mb h₀) (hk : cs.kind = .function)
    (hp : Pre s.heap) (h1 : dp + d < recursionLimit) (h2 : un + 8 * d < cLine)
    (k : ∀ v h' tk' C', R v → StCOK w home s1 s2 fst P C' S' J' W' → Fr h₀ L h' m → News h₀ L h' (oth ++ P.led w C' S'.rfd) → OffL oth (P.led w C' S'.rfd) → Q v { s with heap := h', toks := tk' }) :
    wpAny (model PySem.Challenge.rw_pq0405_01.row.prog w) (ktrTop dp un gd cn cs L a ccd cl outer) (call (.ref f) vs) Q E s := by
  refine C0.useG oth B F X N O T hk hp h1 h2 fun v h' tk' P' F' N' k' => ?_
  obtain ⟨r, C', ok, sat, gr⟩ := P'
  obtain ⟨n1, n2⟩ := k' _ sat gr
  exact k v h' tk' C' r ok F' (N'.append n1) n2
theorem Con.useRd {P : StA} {C : StC} {S : SS} {R : Value → Prop}
    (C0 : Con w mean mg mb f vs d (P.led w C S.rfd) Pre (fun _ v h' => R v ∧ Sat h' (P.led w C S.rfd))) (oth : List (Addr × Obj))
    (B : Below A₀ base outer h₀) (F : Fr h₀ L s.heap m) (X : (hd.heap_39 w.params).In h₀) (N : News h₀ L s.heap (oth ++ P.led w C S.rfd)) (O : OffL oth (P.led w C S.rfd)) (T : Top hd.view_39 (looseW hd.view_39 []) mean mg mb h₀) (hk : cs.kind = .function)
    (hp : Pre s.heap) (h1 : dp + d < recursionLimit) (h2 : un + 8 * d < cLine)
    (k : ∀ v h' tk', R v → Fr h₀ L h' m → News h₀ L h' (oth ++ P.led w C S.rfd) → Q v { s with heap := h', toks := tk' }) :
    wpAny (model PySem.Challenge.rw_pq0405_01.row.prog w) (ktrTop dp un gd cn cs L a ccd cl outer) (call (.ref f) vs) Q E s := by
  refine C0.useG oth B F X N O T hk hp h1 h2 fun v h' tk' P' F' N' k' => ?_
  obtain ⟨r, sat⟩ := P'
  obtain ⟨n1, _⟩ := k' _ sat fun p hp => .inl (List.mem_map_of_mem hp)
  exact k v h' tk' r F' (N'.append n1)
end
theorem StPost.same {w : World} {home s1 s2 : Int} {fst : Int → Int} {P : StA} {C : StC} {S S' : SS} {J J' : List JR} {W W' : Int → Bool} {h h' : Heap} (ok : StCOK w home s1 s2 fst P C S J W) (sat : Sat h' (P.led w C S.rfd)) (e1 : S = S') (e2 : J = J') (e3 : W = W') :
    StPost w home s1 s2 fst P C S S' J' W' h h' := by
  subst e1 e2 e3
  exact ⟨C, ok, sat, fun p hp => .inl (List.mem_map_of_mem hp)⟩
section
variable {w : World} {mean : ExcName → Option Value} {mg mb : Str → Option Value} {home s1 s2 : Int} {fst : Int → Int} {P : StA} (hP : StAOK w home P) {C : StC} {S : SS} {J : List JR} {W : Int → Bool} (hS : StCOK w home s1 s2 fst P C S J W)
include hP hS
theorem c_written (t1 : Tok) (hJn : J.length ≤ 900) : Con w mean mg mb 214 [.ref P.st, .int home t1] 2 (P.led w C S.rfd) (fun _ => True)
    (fun h v h' => v = .ref P.ac ∧ StPost w home s1 s2 fst P C S { S with tch := true } (J ++ if S.tch then [] else [JR.touched]) W h h') := by
  cases ht : S.tch with
  | true =>
    refine ((c_written0 hP hS t1 ht).deep (by decide)).mono (fun _ h => h) fun h v h' ⟨a, b⟩ => ⟨a, .same hS b ?_ (by simp) rfl⟩
    obtain ⟨_, _, _, _⟩ := S
    cases ht; rfl
  | false => exact (c_written1 hP hS t1 ht hJn)
theorem c_warm (sl : Int) (t1 t2 : Tok) (hsl : sl = s1 ∨ sl = s2) (hJn : J.length ≤ 900) : Con w mean mg mb 340 [.ref P.st, .int home t1, .int sl t2] 2 (P.led w C S.rfd) (fun _ => True)
    (fun h v h' => v = .none ∧ StPost w home s1 s2 fst P C S { S with wrm := setB S.wrm sl true } (J ++ if S.wrm sl then [] else [JR.warm sl]) W h h') := by
  cases ht : S.wrm sl with
  | true =>
    refine ((c_warm0 hP hS sl t1 t2 ht).deep (by decide)).mono (fun _ h => h) fun h v h' ⟨a, b⟩ => ⟨a, .same hS b ?_ (by simp) rfl⟩
    have : setB S.wrm sl true = S.wrm := by
      funext x; unfold setB; split
      · rename_i e; rw [e, ht]
      · rfl
    rw [this]
  | false => exact c_warm1 hP hS sl t1 t2 ht hsl hJn
end
end Mine
end
section
open PySem PySem.W PyProof.Rows PySem.Calls
namespace Mine
theorem fresh_M11 : True := by
  w_top off
  trivial
theorem lines_M11_0 : True := by
  k_with_none
  (k_with "g_ktr_room" => (first | exact Nat.le_of_ble_eq_true rfl | exact roomF 0 (by assumption) rfl rfl | exact roomF 1 (by assumption) rfl rfl | exact roomF 2 (by assumption) rfl rfl | exact roomF 3 (by assumption) rfl rfl | exact roomF 4 (by assumption) rfl rfl))
  (k_with "g_ktr_units" => (first | exact Nat.le_of_ble_eq_true rfl | exact unitF 3 (by assumption) rfl rfl | exact unitG 3 (by assumption) rfl rfl | exact unitG 6 (by assumption) rfl rfl | exact unitF 6 (by assumption) rfl rfl | exact unitF 7 (by assumption) rfl rfl | exact unitF 4 (by assumption) rfl rfl | exact unitF 5 (by assumption) rfl rfl | exact unitF 8 (by assumption) rfl rfl | exact unitF 9 (by assumption) rfl rfl | exact unitF 10 (by assumption) rfl rfl | exact unitF 11 (by assumption) rfl rfl | exact unitF 12 (by assumption) rfl rfl | exact unitF 13 (by assumption) rfl rfl | exact unitF 14 (by assumption) rfl rfl | exact unitF 15 (by assumption) rfl rfl | exact unitF 0 (by assumption) rfl rfl | exact unitF 1 (by assumption) rfl rfl | exact unitF 2 (by assumption) rfl rfl))
  (k_with "g_k_ne" => ((refine neN ?_; (try dsimp only); first | exact Ne'.o (by with_reducible assumption) | exact Ne'.s (by with_reducible assumption) | k_extra "ne")))
  (k_with "g_k_all" => (first | exact OwnOff.ne (by with_reducible assumption) (by k_mem) | exact allLt_ne (by assumption)))
  (k_with "g_size_fits" => ((simp only [List.size_toArray, List.length_map, List.length_append, List.length_cons, List.length_nil, Array.size_push]; (first | done | (rw [sizeLine_eq]; omega)))))
  (k_with "g_ent" => (apply code_defF; (case hA => exact rfl); (case hf => exact rfl); (case hke => exact rfl); (case B => k_asm); (case F => k_asm); (case X₀ => k_asm); (case N => k_asm); (case T => k_asm); (case ho => k_is); (case hcd => k_is); (case hroom => k_room); (case hbind => first | exact BindsTo.of_eq rfl | exact binds_K (by k_in) rfl (by k_is) rfl rfl rfl | fail "no rule for these arguments"); (case hcell => decide); (case hloc => exact locs rfl); (case hco => exact rfl); (case hgen => exact rfl); (case hk => exact rfl); k_whole; intro _ _ _ evX AX mmX _ _ _ _ _ _; (try dsimp only); (try k_fold)))
  (k_with "call ref" => (k_here; k_dflt (first
    | (apply call_cls0; (case F => k_asm); (case X₀ => k_asm); (case N => k_asm); (case hm => k_is); (case hi => k_is); k_whole; intro x' d' h' F' N' l1 l2; (try k_lt l1); (try k_lt2 l2); (try k_sweep); (revert x' d' h' F' N' l1 l2; intros))
    | (apply call_cls; (case F => k_asm); (case X₀ => k_asm); (case N => k_asm); (case hm => k_is); (case hi => k_is); (case hf => k_is); k_whole; intro x' d' h' F' N' l1 l2; (try k_lt l1); (try k_lt2 l2); (try k_sweep); (revert x' d' h' F' N' l1 l2; intros); k_extra "g_ent")
    | (apply call_meth; (case N => k_asm); (case hq => k_mem); k_whole; k_extra "g_ent")
    | (refine wpAny_call ?_; k_extra "g_ent"))))
  (k_with "call ref" => (k_here; (with_reducible show wpAny _ _ (call (Value.ref 154) [_, _, _, _] _) _ _ _); k_dflt (apply row_call; (case B => k_asm); (case F => k_asm); (case X => k_asm); (case N => k_asm); (case T => k_asm); (case hk => exact rfl); (case hd => ktr_room); k_whole); intro x' d' h' tk' k0' k1' k2' k3' F' N' l1 l2; (try k_lt l1); (try k_lt2 l2); (try k_sweep); (revert x' d' h' tk' k0' k1' k2' k3' F' N' l1 l2; intros)))
  (k_with "storeName" => (k_here; k_dflt (apply stXF; (case F => k_asm); (case N => k_asm); (case hk => rfl); (case hx => rfl); k_whole); intro mmX; intro _ _ _; (try k_sweep)))
  (k_with "execs cons" => (k_here; (try dsimp only); (refine execsF ?_); intro qkX))
  (k_with "execs cons" => (k_here; (try dsimp only); (with_reducible show wpAny _ _ _ _ _ (Shared.mk _ _ _ (_ + _) _)); (refine toksF ?_); intro tkX; (refine execsF ?_); intro qkX))
  (k_with "lt" => (first | with_reducible assumption | (apply And.left; first | with_reducible assumption | (apply And.right; first | with_reducible assumption | (apply And.right; first | with_reducible assumption | (apply And.right; first | with_reducible assumption | (apply And.right; first | with_reducible assumption | (apply And.right; first | with_reducible assumption | (apply And.right; first | with_reducible assumption | (apply And.right; first | with_reducible assumption | (apply And.right; first | with_reducible assumption | (apply And.right; first | with_reducible assumption | (apply And.right; first | with_reducible assumption | (apply And.right; first | with_reducible assumption | (apply And.right; first | with_reducible assumption | (apply And.right; first | with_reducible assumption | (apply And.right; first | with_reducible assumption | (apply And.right; with_reducible assumption))))))))))))))))))
  (k_with "ne" => (first | (refine Nat.ne_of_gt ?_; k_extra "lt") | (refine Nat.ne_of_lt ?_; k_extra "lt") | (refine Nat.ne_of_gt ?_; apply Nat.lt_trans; rotate_left; (with_reducible assumption); k_extra "lt") | (refine Nat.ne_of_lt ?_; apply Nat.lt_trans; rotate_left; (with_reducible assumption); k_extra "lt")))
  (k_with "subscriptTail" => (k_here; (with_reducible show wpAny _ _ (subscriptTail _ _ (Value.ref _) (Value.str _ _)) _ _ _); k_dflt (apply d_item (knd := strKind _ _) (hkey := (str_key _ _)); (case N => k_asm); (case hm => k_mem); (case hD => assumption); (case hv => first | assumption | exact rfl); (case hs => with_unfolding_all rfl); k_whole)))
  (k_with "subscriptTail" => (k_here; (with_reducible show wpAny _ _ (subscriptTail _ _ (Value.ref _) (Value.int _ _)) _ _ _); k_dflt (apply d_item (knd := intKind _ _) (hkey := (int_key _ _)); (case N => k_asm); (case hm => k_mem); (case hD => assumption); (case hv => first | assumption | exact rfl); (case hs => with_unfolding_all rfl); k_whole)))
  (k_with "compareOp In" => (k_here; (with_reducible show wpAny _ _ (compareOp CmpOp.In (Value.int _ _) (Value.ref _)) _ _ _); k_dflt (apply d_inB (knd := intKind _ _) (hkey := (int_key _ _)); (case N => k_asm); (case hm => k_mem); (case hD => assumption); (case lo => assumption); (case hb => first | assumption | exact rfl); k_whole)))
  (k_with "compareOp NotIn" => (k_here; (with_reducible show wpAny _ _ (compareOp CmpOp.NotIn (Value.int _ _) (Value.ref _)) _ _ _); k_dflt (apply d_notIn (knd := intKind _ _) (hkey := (int_key _ _)); (case N => k_asm); (case hm => k_mem); (case hD => assumption); (case lo => assumption); (case hb => first | assumption | exact rfl); k_whole)))
  (k_with "call builtin:dict.get" => (k_here; (with_reducible show wpAny _ _ (call (Value.builtin _) [Value.ref _, Value.int _ _, _]) _ _ _); k_dflt (apply d_get2B (knd := intKind _ _) (hkey := (int_key _ _)); (case N => k_asm); (case hm => k_mem); (case hD => assumption); (case lo => assumption); (case hv => first | assumption | exact rfl); k_whole)))
  (k_with "setItem" => (k_here; (with_reducible show wpAny _ _ (setItem (Value.ref _) (Value.str _ _) _) _ _ _); k_dflt (apply d_set (knd := strKind _ _) (hkey := (str_key _ _)); (case F => k_asm); (case N => k_asm); (case U => k_updF); (case hD => assumption); (case hz => first | assumption | decide | (simp; done)); k_whole); intro h' o' F' N' D'; (try dsimp only at N'); (try simp (decide := true) [stored] at D'); (try k_sweep); (revert h' o' F' N' D'; intros)))
  (k_with "setItem" => (k_here; (with_reducible show wpAny _ _ (setItem (Value.ref _) (Value.int _ _) _) _ _ _); k_dflt (apply d_set (knd := intKind _ _) (hkey := (int_key _ _)); (case F => k_asm); (case N => k_asm); (case U => k_updF); (case hD => assumption); (case hz => first | assumption | decide | (simp; done)); k_whole); intro h' o' F' N' D'; (try dsimp only at N'); (try k_sweep); (revert h' o' F' N' D'; intros)))
  (k_with "delItem" => (k_here; (with_reducible show wpAny _ _ (delItem (Value.ref _) (Value.int _ _)) _ _ _); k_dflt (apply d_del (knd := intKind _ _) (hkey := (int_key _ _)); (case F => k_asm); (case N => k_asm); (case U => k_updF); (case hD => assumption); (case hl => assumption); (case hz => first | assumption | decide | (simp; done)); k_whole); intro h' o' F' N' D'; (try dsimp only at N'); (try k_sweep); (revert h' o' F' N' D'; intros)))
  (k_with "getMethod ref" => (k_here; (with_reducible show wpAny _ _ (getMethod (Value.ref _) (PySem.Str.ofString "get") _) _ _ _); k_dflt (apply t_getMethod; (case N => k_asm); (case hm => k_mem); (case hD => assumption); k_whole)))
  (k_with "call builtin:len" => (k_here; (with_reducible show wpAny _ _ (call (Value.builtin "len") [Value.ref _]) _ _ _); k_dflt (apply l_len; (case N => k_asm); (case hm => k_mem); (case hz => (simp only [List.size_toArray, List.length_map]; omega)); k_whole)))
  (k_with "compareOp In" => (k_here; (with_reducible show wpAny _ _ (compareOp CmpOp.In (Value.ref _) (Value.ref _)) _ _ _); k_dflt (apply t_in; (case N => k_asm); (case hm => k_mem); (case hD => assumption); (case hK => exact KeysIn.mono (by assumption) (by intro p hp; repeat (first | exact hp | refine List.Mem.tail _ ?_))); (case hq => k_mem); (case ht => exact tupO2); (case hu => ktr_units); (case lo => assumption); (case hb => assumption); k_whole)))
  (k_with "compareOp NotIn" => (k_here; (with_reducible show wpAny _ _ (compareOp CmpOp.NotIn (Value.ref _) (Value.ref _)) _ _ _); k_dflt (apply t_notIn; (case N => k_asm); (case hm => k_mem); (case hD => assumption); (case hK => exact KeysIn.mono (by assumption) (by intro p hp; repeat (first | exact hp | refine List.Mem.tail _ ?_))); (case hq => k_mem); (case ht => exact tupO2); (case hu => ktr_units); (case lo => assumption); (case hb => assumption); k_whole)))
  (k_with "call builtin:dict.get" => (k_here; (with_reducible show wpAny _ _ (call (Value.builtin _) [Value.ref _, Value.ref _, _]) _ _ _); k_dflt (apply t_get2; (case N => k_asm); (case hm => k_mem); (case hD => assumption); (case hK => exact KeysIn.mono (by assumption) (by intro p hp; repeat (first | exact hp | refine List.Mem.tail _ ?_))); (case hq => k_mem); (case ht => exact tupO2); (case hu => ktr_units); (case lo => assumption); (case hv => first | assumption | exact rfl); k_whole)))
  (k_with "setItem" => (k_here; (with_reducible show wpAny _ _ (setItem (Value.ref _) (Value.ref _) _) _ _ _); k_dflt (apply t_set; (case F => k_asm); (case N => k_asm); (case U => k_updF); (case hD => assumption); (case hK => exact KeysIn.mono (by assumption) (by intro p hp; repeat (first | exact hp | refine List.Mem.tail _ ?_))); (case hq => k_mem); (case ht => exact tupO2); (case hu => ktr_units); (case hz => assumption); k_whole); intro h' o' F' N' D'; (try dsimp only at N'); (try k_sweep); (revert h' o' F' N' D'; intros)))
  (k_with "delItem" => (k_here; (with_reducible show wpAny _ _ (delItem (Value.ref _) (Value.ref _)) _ _ _); k_dflt (apply t_del; (case F => k_asm); (case N => k_asm); (case U => k_updF); (case hD => assumption); (case hK => exact KeysIn.mono (by assumption) (by intro p hp; repeat (first | exact hp | refine List.Mem.tail _ ?_))); (case hq => k_mem); (case ht => exact tupO2); (case hu => ktr_units); (case hl => assumption); (case hz => assumption); k_whole); intro h' o' F' N' D'; (try dsimp only at N'); (try k_sweep); (revert h' o' F' N' D'; intros)))
  (k_with "call ref" => (k_here; (with_reducible show wpAny _ _ (call (Value.ref 137) _ _) _ _ _); (with_reducible refine stop_mk ?_)))
  trivial
theorem touch_off {w : World} {o : Obj} {home : Int} (h : o.IsDictOf (intKind PP w) (without [(home, Value.bool true)] home)) : o.IsDictOf (intKind PP w) (if false = true then [(home, .bool true)] else []) := by simpa [without] using h
theorem news_two {g h : Heap} {L : Addr} {p q : Addr × Obj} {news rest : List (Addr × Obj)} (N : News g L h news) (h1 : p ∈ rest) (h2 : q ∈ rest) (hs : ∀ r ∈ rest, r ∈ news) : News g L h (p :: q :: news) := N.perm fun r hr => by
  rcases List.mem_cons.mp hr with rfl | hr
  · exact hs _ h1
  · rcases List.mem_cons.mp hr with rfl | hr
    · exact hs _ h2
    · exact hr
theorem c_un_touch {w : World} {mean : ExcName → Option Value} {mg mb : Str → Option Value} {home s1 s2 : Int} {fst : Int → Int} {P : StA} (hP : StAOK w home P) {C : StC} {S : SS} {J : List JR} {W : Int → Bool} (hS : StCOK w home s1 s2 fst P C S J W) (x dx : Addr) (ht : S.tch = true) (hx : (x, instObj 154 dx) ∈ C.rest) (hdx : ∃ k t, (dx, rObj w home k t (JR.touched)) ∈ C.rest) :
    Con w mean mg mb 172 [.ref P.st, .ref x] 3 (P.led w C S.rfd) (fun _ => True) (fun h v h' => v = .none ∧ StPost w home s1 s2 fst P C S { S with tch := false } J W h h') := by
  let PX : StA := P
  let CX : StC := C
  have hS0 : StCOK w home s1 s2 fst PX CX S J W := hS
  show Con w mean mg mb 172 [.ref P.st, .ref x] 3 (P.led w C S.rfd) (fun _ => True) (fun h v h' => v = .none ∧ StPost w home s1 s2 fst PX CX S { S with tch := false } J W h h')
  obtain ⟨st, dst, acc, ac, dac, sto, jl, tch, des, ws, org, wo, lg, oacc, odes, kS, kA, tn, tb, tc⟩ := P
  obtain ⟨osto, otch, ows, oorg, tr, n, jv, kvs, xs, ys, rows, rest⟩ := C
  have hP0 := hP
  have kvz := hS.kvs_le
  have xsz := hS.xs_le
  have ysz := hS.ys_le
  have jln := hS.jlen
  obtain ⟨nd, lo1, lo2, lo3, lo4, lo5, lo6, hacc, hdes⟩ := hP
  obtain ⟨off, hsto, hkv, hkn, htch, hws, hxk, hxs, hxn, horg, hyk, hys, hyn, hW, hjv, hJ, hrow⟩ := hS
  dsimp only [StA.addrs] at *
  unfold Con StA.led StA.lits
  dsimp only [List.cons_append, List.nil_append]
  k_fill
  intro dp un gd cn cs a ccd cells outer A₀ base h₀ L m s Q E B F X N T hk hpre hd hu hret
  refine wpAny_call ?_
  k_dflt (refine' enterHF ?k1_q ?k2_q ?k3_q ?k4_q ?k5_q ?kA_q ?kF_q ?kK_q ?k6_q ?k7_q ?k8_q ?k9_q ?kB_q ?_ ?c2_q ?c3_q ?c4_q ?c5_q; (case kA_q => exact rfl); (case kF_q => exact rfl); (case kK_q => assumption); (case k1_q => k_asm); (case k2_q => k_asm); (case k3_q => k_asm); (case k4_q => k_asm); (case k5_q => k_asm); (case k6_q => k_is); (case k7_q => k_is); (case k8_q => ktr_room); (case k9_q => exact BindsTo.of_eq rfl); (case c5_q => decide); (case kB_q => exact locs rfl); (case c2_q => exact rfl); (case c3_q => exact rfl); (case c4_q => exact rfl); k_whole; intro g' L' h' evX AX mmX gSX dSX oSX FG' F' N' B' X' T' hg' hL'; (try dsimp only); (try k_fold))
  refine apart11 nd fun n_st_dst n_st_acc n_st_ac n_st_dac n_st_sto n_st_jl n_st_tch n_st_des n_st_ws n_st_org n_dst_acc n_dst_ac n_dst_dac n_dst_sto n_dst_jl n_dst_tch n_dst_des n_dst_ws n_dst_org n_acc_ac n_acc_dac n_acc_sto n_acc_jl n_acc_tch n_acc_des n_acc_ws n_acc_org n_ac_dac n_ac_sto n_ac_jl n_ac_tch n_ac_des n_ac_ws n_ac_org n_dac_sto n_dac_jl n_dac_tch n_dac_des n_dac_ws n_dac_org n_sto_jl n_sto_tch n_sto_des n_sto_ws n_sto_org n_jl_tch n_jl_des n_jl_ws n_jl_org n_tch_des n_tch_ws n_tch_org n_des_ws n_des_org n_ws_org => ?_
  obtain ⟨rk, rt, hdx⟩ := hdx
  dsimp only [rObj, JR.kind, JR.addr, JR.key, JR.old] at hdx
  replace N' := news_two N' hx hdx (by intro p hp; repeat (first | exact hp | refine List.Mem.tail _ ?_))
  refine allNe11 (allNe_iff.mpr (off _ hx)) fun nx_st nx_dst nx_acc nx_ac nx_dac nx_sto nx_jl nx_tch nx_des nx_ws nx_org => ?_
  refine allNe11 (allNe_iff.mpr (off _ hdx)) fun ndx_st ndx_dst ndx_acc ndx_ac ndx_dac ndx_sto ndx_jl ndx_tch ndx_des ndx_ws ndx_org => ?_
  rw [ht] at htch
  have e1 : (valueAt [(home, Value.bool true)] home).isSome = true := by simp [valueAt]
  k_steps
  rename Obj.IsDictOf _ _ (without _ _) => hDw
  have hDw2 := touch_off hDw
  all_goals (refine' hret _ _ _ ?hF_q (keeps_end hg' ?hF2_q) ⟨rfl, StPost.mk (hS0.touch (b := false) hDw2) hg' ?NN_q ?sub_q⟩; (case hF_q => assumption); (case hF2_q => assumption); (case NN_q => assumption); (case sub_q => ((try unfold StA.led StA.lits); (try dsimp only [List.cons_append, List.nil_append]); repeat (first | (refine List.forall_mem_cons.mpr ⟨?_, ?_⟩; focus (show _ ∈ _; k_dflt k_mem)) | (intro p hp; repeat (first | exact hp | refine List.Mem.tail _ ?_))))))

theorem c_un_refund {w : World} {mean : ExcName → Option Value} {mg mb : Str → Option Value} {home s1 s2 : Int} {fst : Int → Int} {P : StA} (hP : StAOK w home P) {C : StC} {S : SS} {J : List JR} {W : Int → Bool} (hS : StCOK w home s1 s2 fst P C S J W) (x dx : Addr) (o : Int) (hx : (x, instObj 154 dx) ∈ C.rest) (hdx : ∃ k t, (dx, rObj w home k t (JR.refund o)) ∈ C.rest) :
    Con w mean mg mb 172 [.ref P.st, .ref x] 3 (P.led w C S.rfd) (fun _ => True) (fun h v h' => v = .none ∧ StPost w home s1 s2 fst P C S { S with rfd := o } J W h h') := by
  let PX : StA := P
  let CX : StC := C
  have hS0 : StCOK w home s1 s2 fst PX CX S J W := hS
  show Con w mean mg mb 172 [.ref P.st, .ref x] 3 (P.led w C S.rfd) (fun _ => True) (fun h v h' => v = .none ∧ StPost w home s1 s2 fst PX CX S { S with rfd := o } J W h h')
  obtain ⟨st, dst, acc, ac, dac, sto, jl, tch, des, ws, org, wo, lg, oacc, odes, kS, kA, tn, tb, tc⟩ := P
  obtain ⟨osto, otch, ows, oorg, tr, n, jv, kvs, xs, ys, rows, rest⟩ := C
  have hP0 := hP
  have kvz := hS.kvs_le
  have xsz := hS.xs_le
  have ysz := hS.ys_le
  have jln := hS.jlen
  obtain ⟨nd, lo1, lo2, lo3, lo4, lo5, lo6, hacc, hdes⟩ := hP
  obtain ⟨off, hsto, hkv, hkn, htch, hws, hxk, hxs, hxn, horg, hyk, hys, hyn, hW, hjv, hJ, hrow⟩ := hS
  dsimp only [StA.addrs] at *
  unfold Con StA.led StA.lits
  dsimp only [List.cons_append, List.nil_append]
  k_fill
  intro dp un gd cn cs a ccd cells outer A₀ base h₀ L m s Q E B F X N T hk hpre hd hu hret
  refine wpAny_call ?_
  k_dflt (refine' enterHF ?k1_q ?k2_q ?k3_q ?k4_q ?k5_q ?kA_q ?kF_q ?kK_q ?k6_q ?k7_q ?k8_q ?k9_q ?kB_q ?_ ?c2_q ?c3_q ?c4_q ?c5_q; (case kA_q => exact rfl); (case kF_q => exact rfl); (case kK_q => assumption); (case k1_q => k_asm); (case k2_q => k_asm); (case k3_q => k_asm); (case k4_q => k_asm); (case k5_q => k_asm); (case k6_q => k_is); (case k7_q => k_is); (case k8_q => ktr_room); (case k9_q => exact BindsTo.of_eq rfl); (case c5_q => decide); (case kB_q => exact locs rfl); (case c2_q => exact rfl); (case c3_q => exact rfl); (case c4_q => exact rfl); k_whole; intro g' L' h' evX AX mmX gSX dSX oSX FG' F' N' B' X' T' hg' hL'; (try dsimp only); (try k_fold))
  refine apart11 nd fun n_st_dst n_st_acc n_st_ac n_st_dac n_st_sto n_st_jl n_st_tch n_st_des n_st_ws n_st_org n_dst_acc n_dst_ac n_dst_dac n_dst_sto n_dst_jl n_dst_tch n_dst_des n_dst_ws n_dst_org n_acc_ac n_acc_dac n_acc_sto n_acc_jl n_acc_tch n_acc_des n_acc_ws n_acc_org n_ac_dac n_ac_sto n_ac_jl n_ac_tch n_ac_des n_ac_ws n_ac_org n_dac_sto n_dac_jl n_dac_tch n_dac_des n_dac_ws n_dac_org n_sto_jl n_sto_tch n_sto_des n_sto_ws n_sto_org n_jl_tch n_jl_des n_jl_ws n_jl_org n_tch_des n_tch_ws n_tch_org n_des_ws n_des_org n_ws_org => ?_
  obtain ⟨rk, rt, hdx⟩ := hdx
  dsimp only [rObj, JR.kind, JR.addr, JR.key, JR.old] at hdx
  replace N' := news_two N' hx hdx (by intro p hp; repeat (first | exact hp | refine List.Mem.tail _ ?_))
  refine allNe11 (allNe_iff.mpr (off _ hx)) fun nx_st nx_dst nx_acc nx_ac nx_dac nx_sto nx_jl nx_tch nx_des nx_ws nx_org => ?_
  refine allNe11 (allNe_iff.mpr (off _ hdx)) fun ndx_st ndx_dst ndx_acc ndx_ac ndx_dac ndx_sto ndx_jl ndx_tch ndx_des ndx_ws ndx_org => ?_
  k_steps
  all_goals (refine' hret _ _ _ ?hF_q (keeps_end hg' ?hF2_q) ⟨rfl, StPost.mk (hS0.rfd ?r_q ?tr_q) hg' ?NN_q ?sub_q⟩; (case hF_q => assumption); (case hF2_q => assumption); (case NN_q => assumption); (case sub_q => ((try unfold StA.led StA.lits); (try dsimp only [List.cons_append, List.nil_append]); repeat (first | (refine List.forall_mem_cons.mpr ⟨?_, ?_⟩; focus (show _ ∈ _; k_dflt k_mem)) | (intro p hp; repeat (first | exact hp | refine List.Mem.tail _ ?_))))))

theorem c_un_warm {w : World} {mean : ExcName → Option Value} {mg mb : Str → Option Value} {home s1 s2 : Int} {fst : Int → Int} {P : StA} (hP : StAOK w home P) {C : StC} {S : SS} {J : List JR} {W : Int → Bool} (hS : StCOK w home s1 s2 fst P C S J W) (x dx : Addr) (sl : Int) (hw : S.wrm sl = true) (hx : (x, instObj 154 dx) ∈ C.rest) (hdx : ∃ k t, (dx, rObj w home k t (JR.warm sl)) ∈ C.rest) :
    Con w mean mg mb 172 [.ref P.st, .ref x] 3 (P.led w C S.rfd) (fun _ => True) (fun h v h' => v = .none ∧ StPost w home s1 s2 fst P C S { S with wrm := setB S.wrm sl false } J W h h') := by
  let PX : StA := P
  let CX : StC := C
  have hS0 : StCOK w home s1 s2 fst PX CX S J W := hS
  show Con w mean mg mb 172 [.ref P.st, .ref x] 3 (P.led w C S.rfd) (fun _ => True) (fun h v h' => v = .none ∧ StPost w home s1 s2 fst PX CX S { S with wrm := setB S.wrm sl false } J W h h')
  obtain ⟨st, dst, acc, ac, dac, sto, jl, tch, des, ws, org, wo, lg, oacc, odes, kS, kA, tn, tb, tc⟩ := P
  obtain ⟨osto, otch, ows, oorg, tr, n, jv, kvs, xs, ys, rows, rest⟩ := C
  have hP0 := hP
  have kvz := hS.kvs_le
  have xsz := hS.xs_le
  have ysz := hS.ys_le
  have jln := hS.jlen
  obtain ⟨nd, lo1, lo2, lo3, lo4, lo5, lo6, hacc, hdes⟩ := hP
  obtain ⟨off, hsto, hkv, hkn, htch, hws, hxk, hxs, hxn, horg, hyk, hys, hyn, hW, hjv, hJ, hrow⟩ := hS
  dsimp only [StA.addrs] at *
  unfold Con StA.led StA.lits
  dsimp only [List.cons_append, List.nil_append]
  k_fill
  intro dp un gd cn cs a ccd cells outer A₀ base h₀ L m s Q E B F X N T hk hpre hd hu hret
  refine wpAny_call ?_
  k_dflt (refine' enterHF ?k1_q ?k2_q ?k3_q ?k4_q ?k5_q ?kA_q ?kF_q ?kK_q ?k6_q ?k7_q ?k8_q ?k9_q ?kB_q ?_ ?c2_q ?c3_q ?c4_q ?c5_q; (case kA_q => exact rfl); (case kF_q => exact rfl); (case kK_q => assumption); (case k1_q => k_asm); (case k2_q => k_asm); (case k3_q => k_asm); (case k4_q => k_asm); (case k5_q => k_asm); (case k6_q => k_is); (case k7_q => k_is); (case k8_q => ktr_room); (case k9_q => exact BindsTo.of_eq rfl); (case c5_q => decide); (case kB_q => exact locs rfl); (case c2_q => exact rfl); (case c3_q => exact rfl); (case c4_q => exact rfl); k_whole; intro g' L' h' evX AX mmX gSX dSX oSX FG' F' N' B' X' T' hg' hL'; (try dsimp only); (try k_fold))
  refine apart11 nd fun n_st_dst n_st_acc n_st_ac n_st_dac n_st_sto n_st_jl n_st_tch n_st_des n_st_ws n_st_org n_dst_acc n_dst_ac n_dst_dac n_dst_sto n_dst_jl n_dst_tch n_dst_des n_dst_ws n_dst_org n_acc_ac n_acc_dac n_acc_sto n_acc_jl n_acc_tch n_acc_des n_acc_ws n_acc_org n_ac_dac n_ac_sto n_ac_jl n_ac_tch n_ac_des n_ac_ws n_ac_org n_dac_sto n_dac_jl n_dac_tch n_dac_des n_dac_ws n_dac_org n_sto_jl n_sto_tch n_sto_des n_sto_ws n_sto_org n_jl_tch n_jl_des n_jl_ws n_jl_org n_tch_des n_tch_ws n_tch_org n_des_ws n_des_org n_ws_org => ?_
  obtain ⟨rk, rt, hdx⟩ := hdx
  dsimp only [rObj, JR.kind, JR.addr, JR.key, JR.old] at hdx
  replace N' := news_two N' hx hdx (by intro p hp; repeat (first | exact hp | refine List.Mem.tail _ ?_))
  refine allNe11 (allNe_iff.mpr (off _ hx)) fun nx_st nx_dst nx_acc nx_ac nx_dac nx_sto nx_jl nx_tch nx_des nx_ws nx_org => ?_
  refine allNe11 (allNe_iff.mpr (off _ hdx)) fun ndx_st ndx_dst ndx_acc ndx_ac ndx_dac ndx_sto ndx_jl ndx_tch ndx_des ndx_ws ndx_org => ?_
  have e1 := hxs sl
  rw [hw] at e1
  k_steps
  all_goals (refine' hret _ _ _ ?hF_q (keeps_end hg' ?hF2_q) ⟨rfl, StPost.mk (hS0.unwarm ?hD_q) hg' ?NN_q ?sub_q⟩; (case hF_q => assumption); (case hF2_q => assumption); (case NN_q => assumption); (case hD_q => assumption); (case sub_q => ((try unfold StA.led StA.lits); (try dsimp only [List.cons_append, List.nil_append]); repeat (first | (refine List.forall_mem_cons.mpr ⟨?_, ?_⟩; focus (show _ ∈ _; k_dflt k_mem)) | (intro p hp; repeat (first | exact hp | refine List.Mem.tail _ ?_))))))

theorem c_un_slot {w : World} {mean : ExcName → Option Value} {mg mb : Str → Option Value} {home s1 s2 : Int} {fst : Int → Int} {P : StA} (hP : StAOK w home P) {C : StC} {S : SS} {J : List JR} {W : Int → Bool} (hS : StCOK w home s1 s2 fst P C S J W) (x dx : Addr) (sl o : Int) (hsl : sl = s1 ∨ sl = s2) (hx : (x, instObj 154 dx) ∈ C.rest) (hdx : ∃ k t, (dx, rObj w home k t (JR.slot sl o)) ∈ C.rest) :
    Con w mean mg mb 172 [.ref P.st, .ref x] 3 (P.led w C S.rfd) (fun _ => True) (fun h v h' => v = .none ∧ StPost w home s1 s2 fst P C S { S with sto := upd S.sto sl o } J W h h') := by
  let PX : StA := P
  let CX : StC := C
  have hS0 : StCOK w home s1 s2 fst PX CX S J W := hS
  show Con w mean mg mb 172 [.ref P.st, .ref x] 3 (P.led w C S.rfd) (fun _ => True) (fun h v h' => v = .none ∧ StPost w home s1 s2 fst PX CX S { S with sto := upd S.sto sl o } J W h h')
  obtain ⟨st, dst, acc, ac, dac, sto, jl, tch, des, ws, org, wo, lg, oacc, odes, kS, kA, tn, tb, tc⟩ := P
  obtain ⟨osto, otch, ows, oorg, tr, n, jv, kvs, xs, ys, rows, rest⟩ := C
  have hP0 := hP
  have kvz := hS.kvs_le
  have xsz := hS.xs_le
  have ysz := hS.ys_le
  have jln := hS.jlen
  obtain ⟨nd, lo1, lo2, lo3, lo4, lo5, lo6, hacc, hdes⟩ := hP
  obtain ⟨off, hsto, hkv, hkn, htch, hws, hxk, hxs, hxn, horg, hyk, hys, hyn, hW, hjv, hJ, hrow⟩ := hS
  dsimp only [StA.addrs] at *
  unfold Con StA.led StA.lits
  dsimp only [List.cons_append, List.nil_append]
  k_fill
  intro dp un gd cn cs a ccd cells outer A₀ base h₀ L m s Q E B F X N T hk hpre hd hu hret
  refine wpAny_call ?_
  k_dflt (refine' enterHF ?k1_q ?k2_q ?k3_q ?k4_q ?k5_q ?kA_q ?kF_q ?kK_q ?k6_q ?k7_q ?k8_q ?k9_q ?kB_q ?_ ?c2_q ?c3_q ?c4_q ?c5_q; (case kA_q => exact rfl); (case kF_q => exact rfl); (case kK_q => assumption); (case k1_q => k_asm); (case k2_q => k_asm); (case k3_q => k_asm); (case k4_q => k_asm); (case k5_q => k_asm); (case k6_q => k_is); (case k7_q => k_is); (case k8_q => ktr_room); (case k9_q => exact BindsTo.of_eq rfl); (case c5_q => decide); (case kB_q => exact locs rfl); (case c2_q => exact rfl); (case c3_q => exact rfl); (case c4_q => exact rfl); k_whole; intro g' L' h' evX AX mmX gSX dSX oSX FG' F' N' B' X' T' hg' hL'; (try dsimp only); (try k_fold))
  refine apart11 nd fun n_st_dst n_st_acc n_st_ac n_st_dac n_st_sto n_st_jl n_st_tch n_st_des n_st_ws n_st_org n_dst_acc n_dst_ac n_dst_dac n_dst_sto n_dst_jl n_dst_tch n_dst_des n_dst_ws n_dst_org n_acc_ac n_acc_dac n_acc_sto n_acc_jl n_acc_tch n_acc_des n_acc_ws n_acc_org n_ac_dac n_ac_sto n_ac_jl n_ac_tch n_ac_des n_ac_ws n_ac_org n_dac_sto n_dac_jl n_dac_tch n_dac_des n_dac_ws n_dac_org n_sto_jl n_sto_tch n_sto_des n_sto_ws n_sto_org n_jl_tch n_jl_des n_jl_ws n_jl_org n_tch_des n_tch_ws n_tch_org n_des_ws n_des_org n_ws_org => ?_
  obtain ⟨rk, rt, hdx⟩ := hdx
  dsimp only [rObj, JR.kind, JR.addr, JR.key, JR.old] at hdx
  replace N' := news_two N' hx hdx (by intro p hp; repeat (first | exact hp | refine List.Mem.tail _ ?_))
  refine allNe11 (allNe_iff.mpr (off _ hx)) fun nx_st nx_dst nx_acc nx_ac nx_dac nx_sto nx_jl nx_tch nx_des nx_ws nx_org => ?_
  refine allNe11 (allNe_iff.mpr (off _ hdx)) fun ndx_st ndx_dst ndx_acc ndx_ac ndx_dac ndx_sto ndx_jl ndx_tch ndx_des ndx_ws ndx_org => ?_
  have e1 : valueAt [(home, Value.ref ac)] home = some (Value.ref ac) := by simp [valueAt]
  k_steps
  refine stop_out ?_
  refine' Con.useSt (c_put hP0 hS0 sl o _ _ hsl) [] ?kBu1_q ?kFu1_q ?kXu1_q (News.perm ?kNu1_q ?ksubu1_q) ?kOu1_q ?kTu1_q ?khu1_q trivial ?kdu1_q ?kuu1_q ?kku1_q
  case kBu1_q => k_asm
  case kFu1_q => k_asm
  case kXu1_q => k_asm
  case kTu1_q => k_asm
  case kNu1_q => k_asm
  case ksubu1_q => ((try unfold StA.led StA.lits); (try dsimp only [List.cons_append, List.nil_append]); repeat (first | (refine List.forall_mem_cons.mpr ⟨?_, ?_⟩; focus (show _ ∈ _; k_dflt k_mem)) | (intro p hp; repeat (first | exact hp | refine List.Mem.tail _ ?_))))
  case kOu1_q => exact OffL.nil
  case khu1_q => exact rfl
  case kdu1_q => ktr_room
  case kuu1_q => ktr_units
  case kku1_q =>
  intro v5 h5 tk5 C5 hv5 hS5 F5 N5 O5
  subst hv5
  k_steps
  exact hret _ _ _ (by assumption) (keeps_end hg' (by assumption)) ⟨rfl, StPost.mk hS5 hg' (by assumption) (fun _ hp => hp)⟩

end Mine
end
section
open PySem PySem.W PyProof.Rows PySem.Calls PySem.Spec
namespace Mine
noncomputable def undo1 : JR → SS → SS
  | .touched, S => { S with tch := false }
  | .slot s o, S => { S with sto := upd S.sto s o }
  | .refund o, S => { S with rfd := o }
  | .warm s, S => { S with wrm := setB S.wrm s false }
noncomputable def undoOK (s1 s2 : Int) : JR → SS → Prop
  | .touched, S => S.tch = true
  | .slot s _, _ => s = s1 ∨ s = s2
  | .refund _, _ => True
  | .warm s, S => S.wrm s = true
/-- the journal is taken back row by row -/
inductive Undone (s1 s2 : Int) (J' : List JR) (S' : SS) : List JR → SS → Prop
  | refl : Undone s1 s2 J' S' J' S'
  | step {J : List JR} {r : JR} {S : SS} : undoOK s1 s2 r S → Undone s1 s2 J' S' J (undo1 r S) → Undone s1 s2 J' S' (J ++ [r]) S
theorem Undone.le {s1 s2 : Int} {J' : List JR} {S' : SS} {J : List JR} {S : SS} (h : Undone s1 s2 J' S' J S) : J'.length ≤ J.length := by
  induction h with
  | refl => exact Nat.le_refl _
  | step _ _ ih => rw [List.length_append]; omega
theorem Undone.inv {s1 s2 : Int} {J' : List JR} {S' : SS} {J : List JR} {S : SS} (h : Undone s1 s2 J' S' J S) (hl : J'.length < J.length) : ∃ J₁ r, J = J₁ ++ [r] ∧ undoOK s1 s2 r S ∧ Undone s1 s2 J' S' J₁ (undo1 r S) := by
  cases h with
  | refl => exact absurd hl (Nat.lt_irrefl _)
  | step a b => exact ⟨_, _, rfl, a, b⟩
theorem Undone.eq {s1 s2 : Int} {J' : List JR} {S' : SS} {J : List JR} {S : SS} (h : Undone s1 s2 J' S' J S) (hl : ¬ J'.length < J.length) : J' = J ∧ S' = S := by
  cases h with
  | refl => exact ⟨rfl, rfl⟩
  | step a b =>
    have := b.le
    rw [List.length_append] at hl
    simp only [List.length_cons, List.length_nil] at hl
    omega
noncomputable def WSt (h₀ : Heap) (L : Addr) (s : Shared) (m : Str → Option Value) (J : Nat → List (Addr × Obj) → Prop) (n : Nat) (f : Flow) (s₃ : Shared) : Prop :=
  f = .next ∧ ∃ h' tk news₂ n', s₃ = { s with heap := h', toks := tk } ∧ Fr h₀ L h' m ∧ News h₀ L h' news₂ ∧ n' < n ∧ J n' news₂
section
variable {prog : Program} {w : World} {A : Around} {E : Value → Shared → Prop} {Q : Flow → Shared → Prop} {s : Shared} {env : Env} {h₀ : Heap} {L : Addr}
theorem while_same {test : Expr} {body : List Stmt} {pos : Pos} {m : Str → Option Value} {news : List (Addr × Obj)} (J : Nat → List (Addr × Obj) → Prop) {n₀ : Nat}
    (F : Fr h₀ L s.heap m) (N : News h₀ L s.heap news) (hJ : J n₀ news)
    (turn : ∀ n news₁ h₁ tk₁, Fr h₀ L h₁ m → News h₀ L h₁ news₁ → J n news₁ →
      wpAny (model prog w) A (isTrue test env (eval test env)) (fun b s₂ =>
        if b = true then wpAny (model prog w) A (execs body env) (WSt h₀ L s m J n) E s₂ else Q .next s₂) E { s with heap := h₁, toks := tk₁ })
    (hE : PassesOwn (model prog w) A env E) :
    wpAny (model prog w) A (exec (.While test body [] pos) env) Q E s := by
  refine While_inv2 (J := fun n m₁ news₁ => m₁ = m ∧ J n news₁) F N ⟨rfl, hJ⟩ (fun n m₁ news₁ h₁ tk₁ F₁ N₁ hJ₁ => ?_) hE
  obtain ⟨rfl, hJ₁⟩ := hJ₁
  refine wpAny_mono (turn n news₁ h₁ tk₁ F₁ N₁ hJ₁) (fun b s₂ h₂ => ?_) fun _ _ x => x
  cases b with
  | false => exact h₂
  | true =>
    simp only [if_true] at h₂ ⊢
    refine wpAny_mono h₂ (fun f s₃ h₃ => ?_) fun _ _ x => x
    obtain ⟨rfl, h', tk, news₂, n', e, F₂, N₂, hn, J₂⟩ := h₃
    exact ⟨h', tk, m₁, news₂, n', e, F₂, N₂, hn, rfl, J₂⟩
theorem l_pop {D : Addr} {vs : List Value} {y : Value} {n : Nat} {news news' : List (Addr × Obj)} {m : Str → Option Value} {Q : Value → Shared → Prop} (F : Fr h₀ L s.heap m) (N : News h₀ L s.heap news) (U : Upd D (listOf (vs ++ [y]).toArray n) (listOf vs.toArray (n + 1)) news news')
    (hz : vs.length ≤ 1000000) (h : ∀ h', Fr h₀ L h' m → News h₀ L h' news' → Q y { s with heap := h' }) : wpAny (model prog w) A (call (.builtin "list.pop") [.ref D]) Q E s := by
  obtain ⟨pre, post, rfl, rfl, a, b⟩ := U.split
  have z := N (D, listOf (vs ++ [y]).toArray n) (List.mem_append.mpr (.inr (.head _)))
  have hz' : (vs ++ [y]).toArray.size ≤ sizeLine := by rw [List.size_toArray, List.length_append, sizeLine_eq]; simp only [List.length_cons, List.length_nil]; omega
  have hk : (vs ++ [y]).toArray.size - 1 = vs.length := by rw [List.size_toArray, List.length_append]; rfl
  have hy : (vs ++ [y]).toArray[(vs ++ [y]).toArray.size - 1]? = some y := by rw [hk]; simp
  refine call_meets PySem.F.slot_list_pop ⟨_, z.1, rfl⟩ PySem.F.entry_list_pop (PySem.F.args_list_pop_1 _) (PySem.MeetsSeq.list_pop_last D _ n y hy hz') ⟨z.1, h _ (F.change (Heap.SameBut.update ..) z.2.1 z.2.2) (kl_turn _ N a b ?_ ?_)⟩
  · show (vs ++ [y]).toArray.eraseIdxIfInBounds ((vs ++ [y]).toArray.size - 1) = vs.toArray
    rw [hk, kl_erase, List.append_nil]
  · rw [List.size_toArray, List.size_toArray, List.length_append]
    simp
end
theorem list_snoc {α β : Type} {f : α → β} {l : List α} {r : β} {J : List β} (h : l.map f = J ++ [r]) : ∃ l' x, l = l' ++ [x] ∧ l'.map f = J ∧ f x = r := by
  obtain ⟨l1, l2, rfl, h1, h2⟩ := List.map_eq_append_iff.mp h
  rcases l2 with _ | ⟨x, _ | _⟩
  · cases h2
  · exact ⟨l1, x, rfl, h1, (List.cons.inj h2).1⟩
  · cases (List.cons.inj h2).2
theorem StCOK.unrow {w : World} {home s1 s2 : Int} {fst : Int → Int} {P : StA} {C : StC} {S : SS} {J : List JR} {r : JR} {W : Int → Bool} (hS : StCOK w home s1 s2 fst P C S (J ++ [r]) W) :
    ∃ x dx rows2, C.rows = rows2 ++ [(x, dx, r)] ∧ C.jv = ((rows2.map fun q => Value.ref q.1) ++ [.ref x]).toArray ∧ (x, instObj 154 dx) ∈ C.rest ∧ (∃ k t, (dx, rObj w home k t r) ∈ C.rest) ∧
      ∀ n, StCOK w home s1 s2 fst P { C with rows := rows2, jv := (rows2.map fun q => Value.ref q.1).toArray, n := n } S J W := by
  obtain ⟨rows2, ⟨x, dx, r'⟩, e1, e2, e3⟩ := list_snoc hS.hJ
  dsimp only at e3
  subst e3
  have hr := hS.hrow (x, dx, r') (by rw [e1]; simp)
  refine ⟨x, dx, rows2, e1, by rw [hS.hjv, e1]; simp, hr.1, hr.2, fun n => { hS with hjv := rfl, hJ := e2, hrow := fun q hq => hS.hrow q ?_ }⟩
  rw [e1]; exact List.mem_append_left _ hq
section
variable {w : World} {mean : ExcName → Option Value} {mg mb : Str → Option Value} {home s1 s2 : Int} {fst : Int → Int} {P : StA} (hP : StAOK w home P) {C : StC} {S : SS} {J : List JR} {W : Int → Bool} (hS : StCOK w home s1 s2 fst P C S J W)
include hP hS
theorem c_undone (x dx : Addr) (r : JR) (hr : undoOK s1 s2 r S) (hx : (x, instObj 154 dx) ∈ C.rest) (hdx : ∃ k t, (dx, rObj w home k t r) ∈ C.rest) : Con w mean mg mb 172 [.ref P.st, .ref x] 3 (P.led w C S.rfd) (fun _ => True)
    (fun h v h' => v = .none ∧ StPost w home s1 s2 fst P C S (undo1 r S) J W h h') := by
  cases r with
  | touched => exact c_un_touch hP hS x dx hr hx hdx
  | slot s o => exact c_un_slot hP hS x dx s o hr hx hdx
  | refund o => exact c_un_refund hP hS x dx o hx hdx
  | warm s => exact c_un_warm hP hS x dx s hr hx hdx
end
end Mine
end
section
open PySem PySem.W PyProof.Rows PySem.Calls
namespace Mine
theorem fresh_M13 : True := by
  w_top off
  trivial
theorem lines_M13_0 : True := by
  k_with_none
  (k_with "g_ktr_room" => (first | exact Nat.le_of_ble_eq_true rfl | exact roomF 0 (by assumption) rfl rfl | exact roomF 1 (by assumption) rfl rfl | exact roomF 2 (by assumption) rfl rfl | exact roomF 3 (by assumption) rfl rfl | exact roomF 4 (by assumption) rfl rfl))
  (k_with "g_ktr_units" => (first | exact Nat.le_of_ble_eq_true rfl | exact unitF 3 (by assumption) rfl rfl | exact unitG 3 (by assumption) rfl rfl | exact unitG 6 (by assumption) rfl rfl | exact unitF 6 (by assumption) rfl rfl | exact unitF 7 (by assumption) rfl rfl | exact unitF 4 (by assumption) rfl rfl | exact unitF 5 (by assumption) rfl rfl | exact unitF 8 (by assumption) rfl rfl | exact unitF 9 (by assumption) rfl rfl | exact unitF 10 (by assumption) rfl rfl | exact unitF 11 (by assumption) rfl rfl | exact unitF 12 (by assumption) rfl rfl | exact unitF 13 (by assumption) rfl rfl | exact unitF 14 (by assumption) rfl rfl | exact unitF 15 (by assumption) rfl rfl | exact unitF 0 (by assumption) rfl rfl | exact unitF 1 (by assumption) rfl rfl | exact unitF 2 (by assumption) rfl rfl))
  (k_with "g_k_ne" => ((refine neN ?_; (try dsimp only); first | exact Ne'.o (by with_reducible assumption) | exact Ne'.s (by with_reducible assumption) | k_extra "ne")))
  (k_with "g_k_all" => (first | exact OwnOff.ne (by with_reducible assumption) (by k_mem) | exact allLt_ne (by assumption)))
  (k_with "g_size_fits" => ((simp only [List.size_toArray, List.length_map, List.length_append, List.length_cons, List.length_nil, Array.size_push]; (first | done | (rw [sizeLine_eq]; omega)))))
  (k_with "g_ent" => (apply code_defF; (case hA => exact rfl); (case hf => exact rfl); (case hke => exact rfl); (case B => k_asm); (case F => k_asm); (case X₀ => k_asm); (case N => k_asm); (case T => k_asm); (case ho => k_is); (case hcd => k_is); (case hroom => k_room); (case hbind => first | exact BindsTo.of_eq rfl | exact binds_K (by k_in) rfl (by k_is) rfl rfl rfl | fail "no rule for these arguments"); (case hcell => decide); (case hloc => exact locs rfl); (case hco => exact rfl); (case hgen => exact rfl); (case hk => exact rfl); k_whole; intro _ _ _ evX AX mmX _ _ _ _ _ _; (try dsimp only); (try k_fold)))
  (k_with "call ref" => (k_here; k_dflt (first
    | (apply call_cls0; (case F => k_asm); (case X₀ => k_asm); (case N => k_asm); (case hm => k_is); (case hi => k_is); k_whole; intro x' d' h' F' N' l1 l2; (try k_lt l1); (try k_lt2 l2); (try k_sweep); (revert x' d' h' F' N' l1 l2; intros))
    | (apply call_cls; (case F => k_asm); (case X₀ => k_asm); (case N => k_asm); (case hm => k_is); (case hi => k_is); (case hf => k_is); k_whole; intro x' d' h' F' N' l1 l2; (try k_lt l1); (try k_lt2 l2); (try k_sweep); (revert x' d' h' F' N' l1 l2; intros); k_extra "g_ent")
    | (apply call_meth; (case N => k_asm); (case hq => k_mem); k_whole; k_extra "g_ent")
    | (refine wpAny_call ?_; k_extra "g_ent"))))
  (k_with "call ref" => (k_here; (with_reducible show wpAny _ _ (call (Value.ref 154) [_, _, _, _] _) _ _ _); k_dflt (apply row_call; (case B => k_asm); (case F => k_asm); (case X => k_asm); (case N => k_asm); (case T => k_asm); (case hk => exact rfl); (case hd => ktr_room); k_whole); intro x' d' h' tk' k0' k1' k2' k3' F' N' l1 l2; (try k_lt l1); (try k_lt2 l2); (try k_sweep); (revert x' d' h' tk' k0' k1' k2' k3' F' N' l1 l2; intros)))
  (k_with "storeName" => (k_here; k_dflt (apply stXF; (case F => k_asm); (case N => k_asm); (case hk => rfl); (case hx => rfl); k_whole); intro mmX; intro _ _ _; (try k_sweep)))
  (k_with "execs cons" => (k_here; (try dsimp only); (refine execsF ?_); intro qkX))
  (k_with "execs cons" => (k_here; (try dsimp only); (with_reducible show wpAny _ _ _ _ _ (Shared.mk _ _ _ (_ + _) _)); (refine toksF ?_); intro tkX; (refine execsF ?_); intro qkX))
  (k_with "lt" => (first | with_reducible assumption | (apply And.left; first | with_reducible assumption | (apply And.right; first | with_reducible assumption | (apply And.right; first | with_reducible assumption | (apply And.right; first | with_reducible assumption | (apply And.right; first | with_reducible assumption | (apply And.right; first | with_reducible assumption | (apply And.right; first | with_reducible assumption | (apply And.right; first | with_reducible assumption | (apply And.right; first | with_reducible assumption | (apply And.right; first | with_reducible assumption | (apply And.right; first | with_reducible assumption | (apply And.right; first | with_reducible assumption | (apply And.right; first | with_reducible assumption | (apply And.right; first | with_reducible assumption | (apply And.right; first | with_reducible assumption | (apply And.right; with_reducible assumption))))))))))))))))))
  (k_with "ne" => (first | (refine Nat.ne_of_gt ?_; k_extra "lt") | (refine Nat.ne_of_lt ?_; k_extra "lt") | (refine Nat.ne_of_gt ?_; apply Nat.lt_trans; rotate_left; (with_reducible assumption); k_extra "lt") | (refine Nat.ne_of_lt ?_; apply Nat.lt_trans; rotate_left; (with_reducible assumption); k_extra "lt")))
  (k_with "subscriptTail" => (k_here; (with_reducible show wpAny _ _ (subscriptTail _ _ (Value.ref _) (Value.str _ _)) _ _ _); k_dflt (apply d_item (knd := strKind _ _) (hkey := (str_key _ _)); (case N => k_asm); (case hm => k_mem); (case hD => assumption); (case hv => first | assumption | exact rfl); (case hs => with_unfolding_all rfl); k_whole)))
  (k_with "subscriptTail" => (k_here; (with_reducible show wpAny _ _ (subscriptTail _ _ (Value.ref _) (Value.int _ _)) _ _ _); k_dflt (apply d_item (knd := intKind _ _) (hkey := (int_key _ _)); (case N => k_asm); (case hm => k_mem); (case hD => assumption); (case hv => first | assumption | exact rfl); (case hs => with_unfolding_all rfl); k_whole)))
  (k_with "compareOp In" => (k_here; (with_reducible show wpAny _ _ (compareOp CmpOp.In (Value.int _ _) (Value.ref _)) _ _ _); k_dflt (apply d_inB (knd := intKind _ _) (hkey := (int_key _ _)); (case N => k_asm); (case hm => k_mem); (case hD => assumption); (case lo => assumption); (case hb => first | assumption | exact rfl); k_whole)))
  (k_with "compareOp NotIn" => (k_here; (with_reducible show wpAny _ _ (compareOp CmpOp.NotIn (Value.int _ _) (Value.ref _)) _ _ _); k_dflt (apply d_notIn (knd := intKind _ _) (hkey := (int_key _ _)); (case N => k_asm); (case hm => k_mem); (case hD => assumption); (case lo => assumption); (case hb => first | assumption | exact rfl); k_whole)))
  (k_with "call builtin:dict.get" => (k_here; (with_reducible show wpAny _ _ (call (Value.builtin _) [Value.ref _, Value.int _ _, _]) _ _ _); k_dflt (apply d_get2B (knd := intKind _ _) (hkey := (int_key _ _)); (case N => k_asm); (case hm => k_mem); (case hD => assumption); (case lo => assumption); (case hv => first | assumption | exact rfl); k_whole)))
  (k_with "setItem" => (k_here; (with_reducible show wpAny _ _ (setItem (Value.ref _) (Value.str _ _) _) _ _ _); k_dflt (apply d_set (knd := strKind _ _) (hkey := (str_key _ _)); (case F => k_asm); (case N => k_asm); (case U => k_updF); (case hD => assumption); (case hz => first | assumption | decide | (simp; done)); k_whole); intro h' o' F' N' D'; (try dsimp only at N'); (try simp (decide := true) [stored] at D'); (try k_sweep); (revert h' o' F' N' D'; intros)))
  (k_with "setItem" => (k_here; (with_reducible show wpAny _ _ (setItem (Value.ref _) (Value.int _ _) _) _ _ _); k_dflt (apply d_set (knd := intKind _ _) (hkey := (int_key _ _)); (case F => k_asm); (case N => k_asm); (case U => k_updF); (case hD => assumption); (case hz => first | assumption | decide | (simp; done)); k_whole); intro h' o' F' N' D'; (try dsimp only at N'); (try k_sweep); (revert h' o' F' N' D'; intros)))
  (k_with "delItem" => (k_here; (with_reducible show wpAny _ _ (delItem (Value.ref _) (Value.int _ _)) _ _ _); k_dflt (apply d_del (knd := intKind _ _) (hkey := (int_key _ _)); (case F => k_asm); (case N => k_asm); (case U => k_updF); (case hD => assumption); (case hl => assumption); (case hz => first | assumption | decide | (simp; done)); k_whole); intro h' o' F' N' D'; (try dsimp only at N'); (try k_sweep); (revert h' o' F' N' D'; intros)))
  (k_with "getMethod ref" => (k_here; (with_reducible show wpAny _ _ (getMethod (Value.ref _) (PySem.Str.ofString "get") _) _ _ _); k_dflt (apply t_getMethod; (case N => k_asm); (case hm => k_mem); (case hD => assumption); k_whole)))
  (k_with "call builtin:len" => (k_here; (with_reducible show wpAny _ _ (call (Value.builtin "len") [Value.ref _]) _ _ _); k_dflt (apply l_len; (case N => k_asm); (case hm => k_mem); (case hz => (simp only [List.size_toArray, List.length_map]; omega)); k_whole)))
  (k_with "compareOp In" => (k_here; (with_reducible show wpAny _ _ (compareOp CmpOp.In (Value.ref _) (Value.ref _)) _ _ _); k_dflt (apply t_in; (case N => k_asm); (case hm => k_mem); (case hD => assumption); (case hK => exact KeysIn.mono (by assumption) (by intro p hp; repeat (first | exact hp | refine List.Mem.tail _ ?_))); (case hq => k_mem); (case ht => exact tupO2); (case hu => ktr_units); (case lo => assumption); (case hb => assumption); k_whole)))
  (k_with "compareOp NotIn" => (k_here; (with_reducible show wpAny _ _ (compareOp CmpOp.NotIn (Value.ref _) (Value.ref _)) _ _ _); k_dflt (apply t_notIn; (case N => k_asm); (case hm => k_mem); (case hD => assumption); (case hK => exact KeysIn.mono (by assumption) (by intro p hp; repeat (first | exact hp | refine List.Mem.tail _ ?_))); (case hq => k_mem); (case ht => exact tupO2); (case hu => ktr_units); (case lo => assumption); (case hb => assumption); k_whole)))
  (k_with "call builtin:dict.get" => (k_here; (with_reducible show wpAny _ _ (call (Value.builtin _) [Value.ref _, Value.ref _, _]) _ _ _); k_dflt (apply t_get2; (case N => k_asm); (case hm => k_mem); (case hD => assumption); (case hK => exact KeysIn.mono (by assumption) (by intro p hp; repeat (first | exact hp | refine List.Mem.tail _ ?_))); (case hq => k_mem); (case ht => exact tupO2); (case hu => ktr_units); (case lo => assumption); (case hv => first | assumption | exact rfl); k_whole)))
  (k_with "setItem" => (k_here; (with_reducible show wpAny _ _ (setItem (Value.ref _) (Value.ref _) _) _ _ _); k_dflt (apply t_set; (case F => k_asm); (case N => k_asm); (case U => k_updF); (case hD => assumption); (case hK => exact KeysIn.mono (by assumption) (by intro p hp; repeat (first | exact hp | refine List.Mem.tail _ ?_))); (case hq => k_mem); (case ht => exact tupO2); (case hu => ktr_units); (case hz => assumption); k_whole); intro h' o' F' N' D'; (try dsimp only at N'); (try k_sweep); (revert h' o' F' N' D'; intros)))
  (k_with "delItem" => (k_here; (with_reducible show wpAny _ _ (delItem (Value.ref _) (Value.ref _)) _ _ _); k_dflt (apply t_del; (case F => k_asm); (case N => k_asm); (case U => k_updF); (case hD => assumption); (case hK => exact KeysIn.mono (by assumption) (by intro p hp; repeat (first | exact hp | refine List.Mem.tail _ ?_))); (case hq => k_mem); (case ht => exact tupO2); (case hu => ktr_units); (case hl => assumption); (case hz => assumption); k_whole); intro h' o' F' N' D'; (try dsimp only at N'); (try k_sweep); (revert h' o' F' N' D'; intros)))
  (k_with "call ref" => (k_here; (with_reducible show wpAny _ _ (call (Value.ref 172) _ _) _ _ _); (with_reducible refine stop_mk ?_)))
  (k_with "exec While Compare cons nil" => (k_here; (with_reducible refine stop_mk ?_)))
  (k_with "call builtin:list.pop" => (k_here; (with_reducible show wpAny _ _ (call (Value.builtin _) [Value.ref _]) _ _ _); k_dflt (apply l_pop; (case F => k_asm); (case N => k_asm); (case U => k_upd); (case hz => (rw [List.length_map]; omega)); k_whole); intro h' F' N'; (try dsimp only [List.nil_append, List.cons_append] at N'); (revert h' F' N'; intros)))
  trivial
theorem c_back {w : World} {mean : ExcName → Option Value} {mg mb : Str → Option Value} {home s1 s2 : Int} {fst : Int → Int} {P : StA} (hP : StAOK w home P) {C : StC} {S : SS} {J : List JR} {W : Int → Bool} (hS : StCOK w home s1 s2 fst P C S J W) {J' : List JR} {S' : SS} (hU : Undone s1 s2 J' S' J S) (hJn : J.length ≤ 900) (t1 : Tok) :
    Con w mean mg mb 382 [.ref P.st, .int J'.length t1] 4 (P.led w C S.rfd) (fun _ => True) (fun h v h' => v = .none ∧ StPost w home s1 s2 fst P C S S' J' W h h') := by
  let PX : StA := P
  let CX : StC := C
  have hS0 : StCOK w home s1 s2 fst PX CX S J W := hS
  show Con w mean mg mb 382 [.ref P.st, .int J'.length t1] 4 (P.led w C S.rfd) (fun _ => True) (fun h v h' => v = .none ∧ StPost w home s1 s2 fst PX CX S S' J' W h h')
  obtain ⟨st, dst, acc, ac, dac, sto, jl, tch, des, ws, org, wo, lg, oacc, odes, kS, kA, tn, tb, tc⟩ := P
  obtain ⟨osto, otch, ows, oorg, tr, n, jv, kvs, xs, ys, rows, rest⟩ := C
  have hP0 := hP
  have kvz := hS.kvs_le
  have xsz := hS.xs_le
  have ysz := hS.ys_le
  have jln := hS.jlen
  obtain ⟨nd, lo1, lo2, lo3, lo4, lo5, lo6, hacc, hdes⟩ := hP
  obtain ⟨off, hsto, hkv, hkn, htch, hws, hxk, hxs, hxn, horg, hyk, hys, hyn, hW, hjv, hJ, hrow⟩ := hS
  dsimp only [StA.addrs] at *
  unfold Con StA.led StA.lits
  dsimp only [List.cons_append, List.nil_append]
  k_fill
  intro dp un gd cn cs a ccd cells outer A₀ base h₀ L m s Q E B F X N T hk hpre hd hu hret
  refine wpAny_call ?_
  k_dflt (refine' enterHF ?k1_q ?k2_q ?k3_q ?k4_q ?k5_q ?kA_q ?kF_q ?kK_q ?k6_q ?k7_q ?k8_q ?k9_q ?kB_q ?_ ?c2_q ?c3_q ?c4_q ?c5_q; (case kA_q => exact rfl); (case kF_q => exact rfl); (case kK_q => assumption); (case k1_q => k_asm); (case k2_q => k_asm); (case k3_q => k_asm); (case k4_q => k_asm); (case k5_q => k_asm); (case k6_q => k_is); (case k7_q => k_is); (case k8_q => ktr_room); (case k9_q => exact BindsTo.of_eq rfl); (case c5_q => decide); (case kB_q => exact locs rfl); (case c2_q => exact rfl); (case c3_q => exact rfl); (case c4_q => exact rfl); k_whole; intro g' L' h' evX AX mmX gSX dSX oSX FG' F' N' B' X' T' hg' hL'; (try dsimp only); (try k_fold))
  refine apart11 nd fun n_st_dst n_st_acc n_st_ac n_st_dac n_st_sto n_st_jl n_st_tch n_st_des n_st_ws n_st_org n_dst_acc n_dst_ac n_dst_dac n_dst_sto n_dst_jl n_dst_tch n_dst_des n_dst_ws n_dst_org n_acc_ac n_acc_dac n_acc_sto n_acc_jl n_acc_tch n_acc_des n_acc_ws n_acc_org n_ac_dac n_ac_sto n_ac_jl n_ac_tch n_ac_des n_ac_ws n_ac_org n_dac_sto n_dac_jl n_dac_tch n_dac_des n_dac_ws n_dac_org n_sto_jl n_sto_tch n_sto_des n_sto_ws n_sto_org n_jl_tch n_jl_des n_jl_ws n_jl_org n_tch_des n_tch_ws n_tch_org n_des_ws n_des_org n_ws_org => ?_
  k_steps
  refine stop_out ?_
  refine' while_same (fun n news => ∃ C1 S1 J1, news = StA.led w ⟨st, dst, acc, ac, dac, sto, jl, tch, des, ws, org, wo, lg, oacc, odes, kS, kA, tn, tb, tc⟩ C1 S1.rfd ∧ StCOK w home s1 s2 fst ⟨st, dst, acc, ac, dac, sto, jl, tch, des, ws, org, wo, lg, oacc, odes, kS, kA, tn, tb, tc⟩ C1 S1 J1 W ∧ Undone s1 s2 J' S' J1 S1 ∧ n = J1.length ∧ J1.length ≤ 900) (n₀ := J.length) ?F_q ?N_q ?J_q ?turn_q ?hE_q
  case F_q => k_asm
  case N_q => k_asm
  case J_q => exact ⟨_, _, _, rfl, hS0, hU, rfl, hJn⟩
  case hE_q => passes_own
  case turn_q =>
    clear hS0 off hsto hkv hkn htch hws hxk hxs hxn horg hyk hys hyn hW hjv hJ hrow kvz xsz ysz jln
    rintro n1 news1 h1 tk1 F1 N1 ⟨C3, S3, J3, rfl, hS3, hU3, rfl, hz3⟩
    have hle3 := hU3.le
    unfold StA.led StA.lits at N1
    dsimp only [List.cons_append, List.nil_append] at N1
    obtain ⟨osto3, otch3, ows3, oorg3, tr3, n3, jv3, kvs3, xs3, ys3, rows3, rest3⟩ := C3
    have hS3c := hS3
    have kvz3 := hS3.kvs_le
    have xsz3 := hS3.xs_le
    have ysz3 := hS3.ys_le
    have jln3 := hS3.jlen
    obtain ⟨off3, hsto3, hkv3, hkn3, htch3, hws3, hxk3, hxs3, hxn3, horg3, hyk3, hys3, hyn3, hW3, hjv3, hJ3, hrow3⟩ := hS3
    dsimp only [StA.addrs] at off3 hsto3 hkv3 hkn3 htch3 hws3 hxk3 hxs3 hxn3 horg3 hyk3 hys3 hyn3 hW3 hjv3 hJ3 hrow3 kvz3 xsz3 ysz3 jln3
    k_sweep
    by_cases hlt : J'.length < J3.length
    · obtain ⟨J4, r, rfl, hok, hU4⟩ := hU3.inv hlt
      rw [List.length_append] at jln3 hz3 hlt
      simp only [List.length_cons, List.length_nil] at jln3 hz3 hlt
      show let GX : Prop := _; GX
      intro GX
      obtain ⟨x, dx, rows4, e1, e2, hx, hdx, hS4⟩ := hS3c.unrow
      k_unfold
      clear GX
      dsimp only at e1 e2 hx hdx hS4
      have hr4 : rows4.length ≤ 900 := by
        have := jln3
        rw [e2, List.size_toArray, List.length_append, List.length_map] at this
        simp only [List.length_cons, List.length_nil] at this
        omega
      subst e1 e2
      k_steps
      refine stop_out ?_
      refine' Con.useSt (c_undone hP0 (hS4 _) x dx r hok hx hdx) [] ?kBu1_q ?kFu1_q ?kXu1_q (News.perm ?kNu1_q ?ksubu1_q) ?kOu1_q ?kTu1_q ?khu1_q trivial ?kdu1_q ?kuu1_q ?kku1_q
      case kBu1_q => k_asm
      case kFu1_q => k_asm
      case kXu1_q => k_asm
      case kTu1_q => k_asm
      case kNu1_q => k_asm
      case ksubu1_q => ((try unfold StA.led StA.lits); (try dsimp only [List.cons_append, List.nil_append]); repeat (first | (refine List.forall_mem_cons.mpr ⟨?_, ?_⟩; focus (show _ ∈ _; k_dflt k_mem)) | (intro p hp; repeat (first | exact hp | refine List.Mem.tail _ ?_))))
      case kOu1_q => exact OffL.nil
      case khu1_q => exact rfl
      case kdu1_q => ktr_room
      case kuu1_q => ktr_units
      case kku1_q =>
      intro v5 h5 tk5 C5 hv5 hS5 F5 N5 O5
      subst hv5
      k_steps
      exact ⟨rfl, h5, tk5, _, J4.length, rfl, F5, N5, by simp, C5, undo1 r S3, J4, rfl, hS5, hU4, rfl, by omega⟩
    · obtain ⟨rfl, rfl⟩ := hU3.eq hlt
      k_steps
      exact hret _ _ _ (by assumption) (keeps_end hg' (by assumption)) ⟨rfl, StPost.mk hS3c hg' (by assumption) (by intro p hp; repeat (first | exact hp | refine List.Mem.tail _ ?_))⟩

end Mine
end
section
open PySem PySem.W PyProof.Rows PySem.Calls PySem.Spec
namespace Mine
/-- two maps of names agree but for these names -/
noncomputable def Agree (ws : List Str) (m m0 : Str → Option Value) : Prop := ∀ x, x ∉ ws → m x = m0 x
theorem Agree.refl {ws : List Str} {m : Str → Option Value} : Agree ws m m := fun _ _ => rfl
theorem Agree.set {ws : List Str} {m m0 : Str → Option Value} {x : Str} {v : Option Value} (hx : ws.contains x = true) (h : Agree ws m m0) : Agree ws (fun y => if y = x then v else m y) m0 := fun y hy => by
  have : y ≠ x := fun e => hy (by rw [e]; simpa using hx)
  show (if y = x then v else m y) = m0 y
  rw [if_neg this]; exact h y hy
theorem Agree.get {ws : List Str} {m m0 : Str → Option Value} {x : Str} {v : Option Value} (h : Agree ws m m0) (hx : ws.contains x = false) (e : m0 x = v) : m x = v := (h x (by simpa using hx)).trans e
theorem Con.useP {w : World} {mean : ExcName → Option Value} {mg mb : Str → Option Value} {f : Addr} {vs : List Value} {d : Nat} {Pre : Heap → Prop} {R : Value → Prop} (C : Con w mean mg mb f vs d [] Pre (fun _ v _ => R v))
    {dp un : Nat} {gd : Option (List Code)} {cn : Str} {cs : Scope} {a : Addr} {ccd : Value} {cl : List (Str × Addr)} {outer : List Env} {A₀ : Around} {base h₀ : Heap} {L : Addr} {m : Str → Option Value} {s : Shared} {Q E : Value → Shared → Prop} {news : List (Addr × Obj)}
    (B : Below A₀ base outer h₀) (F : Fr h₀ L s.heap m) (X : (hd.heap_39 w.params).In h₀) (N : News h₀ L s.heap news) (T : Top hd.view_39 (looseW hd.view_39 []) mean mg mb h₀) (hk : cs.kind = .function)
    (hp : Pre s.heap) (h1 : dp + d < recursionLimit) (h2 : un + 8 * d < cLine)
    (k : ∀ v h' tk', R v → Fr h₀ L h' m → News h₀ L h' news → Q v { s with heap := h', toks := tk' }) :
    wpAny (model PySem.Challenge.rw_pq0405_01.row.prog w) (ktrTop dp un gd cn cs L a ccd cl outer) (call (.ref f) vs) Q E s :=
  C.useG news B F X (by rw [List.append_nil]; exact N) (fun _ _ _ h => nomatch h) T hk hp h1 h2 fun v h' tk' r F' N' _ => k v h' tk' r F' N'
theorem Agree.eta1 {a : Str} {m m0 : Str → Option Value} (h : Agree [a] m m0) : ∃ u, u = m a ∧ m = fun y => if y = a then u else m0 y := ⟨_, rfl, by
  funext y
  by_cases h1 : y = a
  · simp [h1]
  · rw [if_neg h1]; exact h y (by simp [h1])⟩
theorem Agree.eta2 {a b : Str} {m m0 : Str → Option Value} (h : Agree [a, b] m m0) : ∃ u v, u = m a ∧ v = m b ∧ m = fun y => if y = a then u else if y = b then v else m0 y := ⟨_, _, rfl, rfl, by
  funext y
  by_cases h1 : y = a
  · simp [h1]
  · by_cases h2 : y = b
    · subst h2; rw [if_neg h1, if_pos rfl]
    · rw [if_neg h1, if_neg h2]; exact h y (by simp [h1, h2])⟩
theorem Agree.eta3 {a b c : Str} {m m0 : Str → Option Value} (h : Agree [a, b, c] m m0) : ∃ u v x, u = m a ∧ v = m b ∧ x = m c ∧ m = fun y => if y = a then u else if y = b then v else if y = c then x else m0 y := ⟨_, _, _, rfl, rfl, rfl, by
  funext y
  by_cases h1 : y = a
  · simp [h1]
  · by_cases h2 : y = b
    · subst h2; rw [if_neg h1, if_pos rfl]
    · by_cases h3 : y = c
      · subst h3; rw [if_neg h1, if_neg h2, if_pos rfl]
      · rw [if_neg h1, if_neg h2, if_neg h3]; exact h y (by simp [h1, h2, h3])⟩
/-- what a turn of a loop must leave -/
noncomputable def LPost (h₀ : Heap) (L : Addr) (s : Shared) (I : Addr) (io : Obj) (J : (Str → Option Value) → List (Addr × Obj) → Prop) (Q : Flow → Shared → Prop) (f : Flow) (s₂ : Shared) : Prop :=
  match f with
  | .ret v => Q (.ret v) s₂
  | .brk => Q .next s₂
  | _ => ∃ h' tk m' news', s₂ = { s with heap := h', toks := tk } ∧ Fr h₀ L h' m' ∧ News h₀ L h' ((I, io) :: news') ∧ (∀ p ∈ news', p.1 ≠ I) ∧ J m' news'
theorem LPost.mk {h₀ : Heap} {L : Addr} {s : Shared} {I : Addr} {io : Obj} {J : (Str → Option Value) → List (Addr × Obj) → Prop} {Q : Flow → Shared → Prop} {h' : Heap} {tk : Nat} {m' : Str → Option Value} {all : List (Addr × Obj)} (news' : List (Addr × Obj))
    (F : Fr h₀ L h' m') (N : News h₀ L h' all) (hI : (I, io) ∈ all) (sub : ∀ p ∈ news', p ∈ all) (off : ∀ p ∈ news', p.1 ≠ I) (j : J m' news') : LPost h₀ L s I io J Q .next { s with heap := h', toks := tk } :=
  ⟨h', tk, m', news', rfl, F, N.perm fun p hp => by
    rcases List.mem_cons.mp hp with rfl | hp
    · exact hI
    · exact sub p hp, off, j⟩
section
variable {prog : Program} {w : World} {A : Around} {E : Value → Shared → Prop} {s : Shared} {env : Env} {h₀ : Heap} {target : Expr} {body : List Stmt} {Q : Flow → Shared → Prop} {I ax : Addr} {lo : Obj} {m₀ : Str → Option Value} {news : List (Addr × Obj)}
theorem lp_core {n : Nat} {P Md : Nat → Value → Heap → Prop} {St : Nat → Heap → Prop} (W : KTurns prog w A target I [I, ax] [I] n P Md St) (hIL : I ≠ env.locals) (hIn : h₀.get? I = none) (hit : ∀ i h, St i h → ∃ io, h.get? I = some io) (hst : St 0 s.heap)
    (F : Fr h₀ env.locals s.heap m₀) (N : News h₀ env.locals s.heap news) (hnI : ∀ p ∈ news, p.1 ≠ I)
    (J : Nat → (Str → Option Value) → List (Addr × Obj) → Prop) (h0 : J 0 m₀ news) (keep : ∀ i m nw, J i m nw → (ax, lo) ∈ nw)
    (step : ∀ i v m₁ news₁ h₁ tk₁ io, i < n → P i v h₁ → J i m₁ news₁ → (∀ p ∈ news₁, p.1 ≠ I) → Fr h₀ env.locals h₁ m₁ → News h₀ env.locals h₁ ((I, io) :: news₁) →
      wpAny (model prog w) A (assign target env v) (fun _ s₃ => wpAny (model prog w) A (execs body env) (LPost h₀ env.locals { s with heap := h₁, toks := tk₁ } I io (J (i + 1)) Q) E s₃) E { s with heap := h₁, toks := tk₁ })
    (done : ∀ h' tk m' news', Fr h₀ env.locals h' m' → News h₀ env.locals h' news' → J n m' news' → Q .next { s with heap := h', toks := tk }) :
    TurnsAt prog w A h₀ env target body Q E (.ref I) s := by
  have haxL : ax ≠ env.locals := (N _ (keep _ _ _ h0)).2.1
  refine ⟨I, [I, ax], [I], n, P, Md, St, m₀, news, J, rfl, W, ?_, ?_, ?_, hst, F, N, h0, ?_, fun h' tk m' news' F' N' _ j => done h' tk m' news' F' N' j⟩
  · intro hm
    rcases List.mem_cons.mp hm with e | hm
    · exact hIL e.symm
    · exact haxL (List.mem_singleton.mp hm).symm
  · intro b hb
    rw [List.mem_singleton.mp hb]; exact hIn
  · intro p hp hI
    exact hnI p hp (List.mem_singleton.mp hI)
  · intro i v m₁ news₁ h₁ tk₁ own hi hP hJ hw hfp hget hall hst₁ F₁ N₁
    obtain ⟨io, hio⟩ := hit _ _ hst₁
    have hmI : (I, io) ∈ own := hall I (.head _) hIn io hio
    have hk := keep _ _ _ hJ
    have hnI₁ : ∀ p ∈ news₁, p.1 ≠ I := fun p hp e => hw p hp (List.mem_singleton.mpr e)
    have N₂ : News h₀ env.locals h₁ ((I, io) :: news₁) := N₁.perm fun p hp => by
      rcases List.mem_cons.mp hp with rfl | hp
      · exact List.mem_append_left _ hmI
      · exact List.mem_append_right _ hp
    have hown : ∀ p ∈ own, p = (I, io) ∨ p = (ax, lo) := fun p hp => by
      have hg := hget p hp
      rcases List.mem_cons.mp (hfp p hp) with e | e
      · left; rw [e, hio] at hg; exact Prod.ext e (Option.some.inj hg).symm
      · right
        have e := List.mem_singleton.mp e
        have := (N₁ _ (List.mem_append_right _ hk)).1
        rw [e, this] at hg; exact Prod.ext e (Option.some.inj hg).symm
    refine wpAny_mono (step i v m₁ news₁ h₁ tk₁ io hi hP hJ hnI₁ F₁ N₂) (fun _ s₃ h₃ => wpAny_mono h₃ (fun f s₄ h₄ => ?_) fun _ _ e => e) fun _ _ e => e
    have fin : (∃ h' tk m' news', s₄ = { s with heap := h', toks := tk } ∧ Fr h₀ env.locals h' m' ∧ News h₀ env.locals h' ((I, io) :: news') ∧ (∀ p ∈ news', p.1 ≠ I) ∧ J (i + 1) m' news') →
        LoopStepU h₀ env.locals [I] own (J (i + 1)) { s with heap := h₁, toks := tk₁ } .next s₄ := by
      rintro ⟨h', tk, m', news', e, F', N', off, j⟩
      refine ⟨rfl, h', tk, m', news', e, F', fun p hp => ?_, fun p hp hI => off p hp (List.mem_singleton.mp hI), j⟩
      rcases List.mem_append.mp hp with hp | hp
      · rcases hown p hp with rfl | rfl
        · exact N' _ (.head _)
        · exact N' _ (.tail _ (keep _ _ _ j))
      · exact N' _ (.tail _ hp)
    cases f with
    | ret v => exact h₄
    | brk => exact h₄
    | next => exact fin h₄
    | cont => exact fin h₄
/-- a loop over a list of the ledger -/
theorem lp_list {vs : List Value} {n : Nat} (hh : A.handled = none) (F : Fr h₀ env.locals s.heap m₀) (N : News h₀ env.locals s.heap news)
    (J : (Str → Option Value) → Nat → (Str → Option Value) → List (Addr × Obj) → Prop) (h0 : J m₀ 0 m₀ news) (keep : ∀ i m nw, J m₀ i m nw → (ax, listOf vs.toArray n) ∈ nw)
    (step : ∀ I i v m₁ news₁ h₁ tk₁ io, vs[i]? = some v → J m₀ i m₁ news₁ → (∀ p ∈ news₁, p.1 ≠ I) → Fr h₀ env.locals h₁ m₁ → News h₀ env.locals h₁ ((I, io) :: news₁) →
      wpAny (model prog w) A (assign target env v) (fun _ s₃ => wpAny (model prog w) A (execs body env) (LPost h₀ env.locals { s with heap := h₁, toks := tk₁ } I io (J m₀ (i + 1)) Q) E s₃) E { s with heap := h₁, toks := tk₁ })
    (done : ∀ h' tk m' news', Fr h₀ env.locals h' m' → News h₀ env.locals h' news' → J m₀ vs.length m' news' → Q .next { s with heap := h', toks := tk }) :
    wpAny (model prog w) A (pyIter (.ref ax)) (fun it s₂ => TurnsAt prog w A h₀ env target body Q E it s₂) E s := by
  have hax := N _ (keep _ _ _ h0)
  have hl : s.heap.IsList ax vs.toArray := ⟨_, hax.1, rfl, n, rfl⟩
  have hne : ax ≠ s.heap.objs.size := Nat.ne_of_lt (Heap.lt_size hax.1)
  refine wpAny_pyIter_list hl ?_
  refine lp_core (ax := ax) (KTurns.ofWalks (Walks.list hh s.heap.objs.size ax hne vs.toArray) fun i v s Q E st q => letGo_listiter st.1 q) (fun e => absurd F.ns.lt (e ▸ Nat.lt_irrefl _)) (next_is_new F) (fun i h st => let ⟨o, g, _⟩ := st.1; ⟨o, g⟩)
    ⟨⟨_, Heap.get?_push_size _ rfl, rfl, rfl⟩, hl.at fun o e => Heap.get?_push_of_some _ e⟩ (F.push _) (fun p hp => ⟨Heap.get?_push_of_some _ (N p hp).1, (N p hp).2⟩) (fun p hp e => absurd (Heap.lt_size (N p hp).1) (e ▸ Nat.lt_irrefl _)) (J m₀) h0 keep ?_ ?_
  · intro i v m₁ news₁ h₁ tk₁ io hi hP hJ hn F₁ N₁
    exact step _ i v m₁ news₁ h₁ tk₁ io (by simpa using hP) hJ hn F₁ N₁
  · intro h' tk m' news' F' N' j
    exact done h' tk m' news' F' N' (by simpa using j)
/-- a loop over a tuple of the ledger -/
theorem lp_tup {vs : List Value} {n : Nat} {dd : Option Addr} {sl : Array (Option Value)} (hh : A.handled = none) (F : Fr h₀ env.locals s.heap m₀) (N : News h₀ env.locals s.heap news)
    (J : (Str → Option Value) → Nat → (Str → Option Value) → List (Addr × Obj) → Prop) (h0 : J m₀ 0 m₀ news) (keep : ∀ i m nw, J m₀ i m nw → (ax, { cls := .type "tuple", dict := dd, data := .seq vs.toArray n, slots := sl }) ∈ nw)
    (step : ∀ I i v m₁ news₁ h₁ tk₁ io, vs[i]? = some v → J m₀ i m₁ news₁ → (∀ p ∈ news₁, p.1 ≠ I) → Fr h₀ env.locals h₁ m₁ → News h₀ env.locals h₁ ((I, io) :: news₁) →
      wpAny (model prog w) A (assign target env v) (fun _ s₃ => wpAny (model prog w) A (execs body env) (LPost h₀ env.locals { s with heap := h₁, toks := tk₁ } I io (J m₀ (i + 1)) Q) E s₃) E { s with heap := h₁, toks := tk₁ })
    (done : ∀ h' tk m' news', Fr h₀ env.locals h' m' → News h₀ env.locals h' news' → J m₀ vs.length m' news' → Q .next { s with heap := h', toks := tk }) :
    wpAny (model prog w) A (pyIter (.ref ax)) (fun it s₂ => TurnsAt prog w A h₀ env target body Q E it s₂) E s := by
  have hax := N _ (keep _ _ _ h0)
  have hl : s.heap.IsTuple ax vs.toArray := ⟨_, hax.1, rfl, n, rfl⟩
  have hne : ax ≠ s.heap.objs.size := Nat.ne_of_lt (Heap.lt_size hax.1)
  refine wpAny_pyIter_tuple hl ?_
  refine lp_core (ax := ax) (KTurns.ofWalks (Walks.tuple hh s.heap.objs.size ax hne vs.toArray) fun i v s Q E st q => letGo_tupleiter st.1 q) (fun e => absurd F.ns.lt (e ▸ Nat.lt_irrefl _)) (next_is_new F) (fun i h st => let ⟨o, g, _⟩ := st.1; ⟨o, g⟩)
    ⟨⟨_, Heap.get?_push_size _ rfl, rfl, rfl⟩, hl.at fun o e => Heap.get?_push_of_some _ e⟩ (F.push _) (fun p hp => ⟨Heap.get?_push_of_some _ (N p hp).1, (N p hp).2⟩) (fun p hp e => absurd (Heap.lt_size (N p hp).1) (e ▸ Nat.lt_irrefl _)) (J m₀) h0 keep ?_ ?_
  · intro i v m₁ news₁ h₁ tk₁ io hi hP hJ hn F₁ N₁
    exact step _ i v m₁ news₁ h₁ tk₁ io (by simpa using hP) hJ hn F₁ N₁
  · intro h' tk m' news' F' N' j
    exact done h' tk m' news' F' N' (by simpa using j)
/-- a loop over the keys of a dict of the ledger -/
theorem lp_keys {K : Type} [DecidableEq K] {knd : KeyKind prog w K} {kvs : List (K × Value)} (hh : A.handled = none) (low : (ax == sysModules) = false) (F : Fr h₀ env.locals s.heap m₀) (N : News h₀ env.locals s.heap news) (hD : lo.IsDictOf knd kvs)
    (J : (Str → Option Value) → Nat → (Str → Option Value) → List (Addr × Obj) → Prop) (h0 : J m₀ 0 m₀ news) (keep : ∀ i m nw, J m₀ i m nw → (ax, lo) ∈ nw)
    (step : ∀ I i k x v m₁ news₁ h₁ tk₁ io, kvs[i]? = some (k, x) → knd.is k v = true → J m₀ i m₁ news₁ → (∀ p ∈ news₁, p.1 ≠ I) → Fr h₀ env.locals h₁ m₁ → News h₀ env.locals h₁ ((I, io) :: news₁) →
      wpAny (model prog w) A (assign target env v) (fun _ s₃ => wpAny (model prog w) A (execs body env) (LPost h₀ env.locals { s with heap := h₁, toks := tk₁ } I io (J m₀ (i + 1)) Q) E s₃) E { s with heap := h₁, toks := tk₁ })
    (done : ∀ h' tk m' news', Fr h₀ env.locals h' m' → News h₀ env.locals h' news' → J m₀ kvs.length m' news' → Q .next { s with heap := h', toks := tk }) :
    wpAny (model prog w) A (pyIter (.ref ax)) (fun it s₂ => TurnsAt prog w A h₀ env target body Q E it s₂) E s := by
  have hax := N _ (keep _ _ _ h0)
  have hdo : s.heap.DictOf knd ax kvs := Heap.dictOf_iff.mpr ⟨lo, hax.1, hD⟩
  obtain ⟨ep, hat⟩ := hdo.dictAt
  have hne : ax ≠ s.heap.objs.size := Nat.ne_of_lt hat.lt_size
  refine wpAny_pyIter_dict low hat ?_
  refine lp_core (ax := ax) (KTurns.ofWalks (Walks.dictKeys (knd := knd) hh s.heap.objs.size ax hne kvs ep) fun i v s Q E st q => letGo_keyiter st.1 q) (fun e => absurd F.ns.lt (e ▸ Nat.lt_irrefl _)) (next_is_new F) (fun i h st => let ⟨o, g, _⟩ := st.1; ⟨o, g⟩)
    ⟨⟨_, Heap.get?_push_size _ rfl, rfl, rfl⟩, hat.at' fun o e => Heap.get?_push_of_some _ e⟩ (F.push _) (fun p hp => ⟨Heap.get?_push_of_some _ (N p hp).1, (N p hp).2⟩) (fun p hp e => absurd (Heap.lt_size (N p hp).1) (e ▸ Nat.lt_irrefl _)) (J m₀) h0 keep ?_ ?_
  · rintro i v m₁ news₁ h₁ tk₁ io hi ⟨k, x, hx, hk⟩ hJ hn F₁ N₁
    exact step _ i k x v m₁ news₁ h₁ tk₁ io hx hk hJ hn F₁ N₁
  · intro h' tk m' news' F' N' j
    exact done h' tk m' news' F' N' j
end
end Mine
end
section
open PySem PySem.W PyProof.Rows PySem.Calls
namespace Mine
theorem fresh_M1 : True := by
  w_top off
  trivial
noncomputable def changeCost (o c f : Int) : Int := if f = c ∨ o ≠ c then 100 else if o = 0 then 20000 else 2900
noncomputable def refundOf (o c f : Int) : Int := if f = c then 0 else (if o ≠ 0 ∧ c = 0 then -4800 else if o ≠ 0 ∧ f = 0 then 4800 else 0) + (if o ≠ c ∧ o = f then (if o = 0 then 20000 else 2900) - 100 else 0)
noncomputable def leadOf (o l : Int) : Int := if o = l then 0 else if o = 0 then 19900 else if l = 0 then -2000 else 2800
noncomputable def rfA (o c f : Int) : Int := if o ≠ 0 ∧ c = 0 then -4800 else if o ≠ 0 ∧ f = 0 then 4800 else 0
noncomputable def rfB (o c f : Int) : Int := if o ≠ c ∧ o = f then (if o = 0 then 20000 else 2900) - 100 else 0
theorem lines_M1_0 : True := by
  k_with_none
  (k_with "g_ktr_room" => (first | exact Nat.le_of_ble_eq_true rfl | exact roomF 0 (by assumption) rfl rfl | exact roomF 1 (by assumption) rfl rfl | exact roomF 2 (by assumption) rfl rfl | exact roomF 3 (by assumption) rfl rfl | exact roomF 4 (by assumption) rfl rfl))
  (k_with "g_ktr_units" => (first | exact Nat.le_of_ble_eq_true rfl | exact unitF 3 (by assumption) rfl rfl | exact unitG 3 (by assumption) rfl rfl | exact unitG 6 (by assumption) rfl rfl | exact unitF 6 (by assumption) rfl rfl | exact unitF 7 (by assumption) rfl rfl | exact unitF 4 (by assumption) rfl rfl | exact unitF 5 (by assumption) rfl rfl | exact unitF 8 (by assumption) rfl rfl | exact unitF 9 (by assumption) rfl rfl | exact unitF 10 (by assumption) rfl rfl | exact unitF 11 (by assumption) rfl rfl | exact unitF 12 (by assumption) rfl rfl | exact unitF 13 (by assumption) rfl rfl | exact unitF 14 (by assumption) rfl rfl | exact unitF 15 (by assumption) rfl rfl | exact unitF 0 (by assumption) rfl rfl | exact unitF 1 (by assumption) rfl rfl | exact unitF 2 (by assumption) rfl rfl))
  (k_with "g_k_ne" => ((refine neN ?_; (try dsimp only); first | exact Ne'.o (by with_reducible assumption) | exact Ne'.s (by with_reducible assumption) | k_extra "ne")))
  (k_with "g_k_all" => (first | exact OwnOff.ne (by with_reducible assumption) (by k_mem) | exact allLt_ne (by assumption)))
  (k_with "g_size_fits" => ((simp only [List.size_toArray, List.length_map, List.length_append, List.length_cons, List.length_nil, Array.size_push]; (first | done | (rw [sizeLine_eq]; omega)))))
  (k_with "g_ent" => (apply code_defF; (case hA => exact rfl); (case hf => exact rfl); (case hke => exact rfl); (case B => k_asm); (case F => k_asm); (case X₀ => k_asm); (case N => k_asm); (case T => k_asm); (case ho => k_is); (case hcd => k_is); (case hroom => k_room); (case hbind => first | exact BindsTo.of_eq rfl | exact binds_K (by k_in) rfl (by k_is) rfl rfl rfl | fail "no rule for these arguments"); (case hcell => decide); (case hloc => exact locs rfl); (case hco => exact rfl); (case hgen => exact rfl); (case hk => exact rfl); k_whole; intro _ _ _ evX AX mmX _ _ _ _ _ _; (try dsimp only); (try k_fold)))
  (k_with "call ref" => (k_here; k_dflt (first
    | (apply call_cls0; (case F => k_asm); (case X₀ => k_asm); (case N => k_asm); (case hm => k_is); (case hi => k_is); k_whole; intro x' d' h' F' N' l1 l2; (try k_lt l1); (try k_lt2 l2); (try k_sweep); (revert x' d' h' F' N' l1 l2; intros))
    | (apply call_cls; (case F => k_asm); (case X₀ => k_asm); (case N => k_asm); (case hm => k_is); (case hi => k_is); (case hf => k_is); k_whole; intro x' d' h' F' N' l1 l2; (try k_lt l1); (try k_lt2 l2); (try k_sweep); (revert x' d' h' F' N' l1 l2; intros); k_extra "g_ent")
    | (apply call_meth; (case N => k_asm); (case hq => k_mem); k_whole; k_extra "g_ent")
    | (refine wpAny_call ?_; k_extra "g_ent"))))
  (k_with "call ref" => (k_here; (with_reducible show wpAny _ _ (call (Value.ref 154) [_, _, _, _] _) _ _ _); k_dflt (apply row_call; (case B => k_asm); (case F => k_asm); (case X => k_asm); (case N => k_asm); (case T => k_asm); (case hk => exact rfl); (case hd => ktr_room); k_whole); intro x' d' h' tk' k0' k1' k2' k3' F' N' l1 l2; (try k_lt l1); (try k_lt2 l2); (try k_sweep); (revert x' d' h' tk' k0' k1' k2' k3' F' N' l1 l2; intros)))
  (k_with "storeName" => (k_here; k_dflt (apply stXF; (case F => k_asm); (case N => k_asm); (case hk => rfl); (case hx => rfl); k_whole); intro mmX; intro _ _ _; (try k_sweep)))
  (k_with "execs cons" => (k_here; (try dsimp only); (refine execsF ?_); intro qkX))
  (k_with "execs cons" => (k_here; (try dsimp only); (with_reducible show wpAny _ _ _ _ _ (Shared.mk _ _ _ (_ + _) _)); (refine toksF ?_); intro tkX; (refine execsF ?_); intro qkX))
  (k_with "lt" => (first | with_reducible assumption | (apply And.left; first | with_reducible assumption | (apply And.right; first | with_reducible assumption | (apply And.right; first | with_reducible assumption | (apply And.right; first | with_reducible assumption | (apply And.right; first | with_reducible assumption | (apply And.right; first | with_reducible assumption | (apply And.right; first | with_reducible assumption | (apply And.right; first | with_reducible assumption | (apply And.right; first | with_reducible assumption | (apply And.right; first | with_reducible assumption | (apply And.right; first | with_reducible assumption | (apply And.right; first | with_reducible assumption | (apply And.right; first | with_reducible assumption | (apply And.right; first | with_reducible assumption | (apply And.right; first | with_reducible assumption | (apply And.right; with_reducible assumption))))))))))))))))))
  (k_with "ne" => (first | (refine Nat.ne_of_gt ?_; k_extra "lt") | (refine Nat.ne_of_lt ?_; k_extra "lt") | (refine Nat.ne_of_gt ?_; apply Nat.lt_trans; rotate_left; (with_reducible assumption); k_extra "lt") | (refine Nat.ne_of_lt ?_; apply Nat.lt_trans; rotate_left; (with_reducible assumption); k_extra "lt")))
  trivial
theorem ch1 {o c f : Int} (h : f = c) : (100 : Int) = changeCost o c f := (if_pos (.inl h)).symm
theorem ch2 {o c f : Int} (h : o ≠ c) : (100 : Int) = changeCost o c f := (if_pos (.inr h)).symm
theorem ch3 {o c f : Int} (h1 : f ≠ c) (h2 : o = c) (h3 : o = 0) : (20000 : Int) = changeCost o c f := ((if_neg fun h => h.elim h1 fun g => g h2).trans (if_pos h3)).symm
theorem ch4 {o c f : Int} (h1 : f ≠ c) (h2 : o = c) (h3 : o ≠ 0) : (2900 : Int) = changeCost o c f := ((if_neg fun h => h.elim h1 fun g => g h2).trans (if_neg h3)).symm
theorem rf0 {o c f : Int} (h : f = c) : (0 : Int) = refundOf o c f := (if_pos h).symm
theorem rf1 {o c f a b : Int} (h : f ≠ c) (ha : rfA o c f = a) (hb : rfB o c f = b) : a + b = refundOf o c f := by
  subst ha; subst hb; exact (if_neg h).symm
theorem rf2 {o c f a : Int} (h : f ≠ c) (ha : rfA o c f = a) (hb : rfB o c f = 0) : a = refundOf o c f := by
  rw [← rf1 h ha hb, Int.add_zero]
theorem rA1 {o c f : Int} (h1 : o ≠ 0) (h2 : c = 0) : rfA o c f = 0 - 4800 := if_pos ⟨h1, h2⟩
theorem rA2 {o c f : Int} (h1 : o ≠ 0) (h2 : c ≠ 0) (h3 : f = 0) : rfA o c f = 4800 := (if_neg fun h => h2 h.2).trans (if_pos ⟨h1, h3⟩)
theorem rA3 {o c f : Int} (h1 : o = 0) : rfA o c f = 0 := (if_neg fun h => h.1 h1).trans (if_neg fun h => h.1 h1)
theorem rA4 {o c f : Int} (h1 : c ≠ 0) (h2 : f ≠ 0) : rfA o c f = 0 := (if_neg fun h => h1 h.2).trans (if_neg fun h => h2 h.2)
theorem rB1 {o c f : Int} (h1 : o ≠ c) (h2 : o = f) (h3 : o = 0) : rfB o c f = 20000 - 100 := (if_pos ⟨h1, h2⟩).trans (by rw [if_pos h3])
theorem rB2 {o c f : Int} (h1 : o ≠ c) (h2 : o = f) (h3 : o ≠ 0) : rfB o c f = 2900 - 100 := (if_pos ⟨h1, h2⟩).trans (by rw [if_neg h3])
theorem rB3 {o c f : Int} (h1 : o = c) : rfB o c f = 0 := if_neg fun h => h.1 h1
theorem rB4 {o c f : Int} (h1 : o ≠ f) : rfB o c f = 0 := if_neg fun h => h1 h.2
theorem ld1 {o l : Int} (h : o = l) : (0 : Int) = leadOf o l := (if_pos h).symm
theorem ld2 {o l : Int} (h1 : o ≠ l) (h2 : o = 0) : (19900 : Int) = leadOf o l := ((if_neg h1).trans (if_pos h2)).symm
theorem ld3 {o l : Int} (h1 : o ≠ l) (h2 : o ≠ 0) (h3 : l = 0) : (0 - 2000 : Int) = leadOf o l := ((if_neg h1).trans ((if_neg h2).trans (if_pos h3))).symm
theorem ld4 {o l : Int} (h1 : o ≠ l) (h2 : o ≠ 0) (h3 : l ≠ 0) : (2800 : Int) = leadOf o l := ((if_neg h1).trans ((if_neg h2).trans (if_neg h3))).symm
theorem c_read {w : World} {mean : ExcName → Option Value} {mg mb : Str → Option Value} (c : Bool) :
    Con w mean mg mb 60 [.bool c] 1 [] (fun _ => True) (fun _ v _ => ∃ t, v = .int (if c then 2100 else 100) t) := by
  unfold Con
  k_fill
  intro dp un gd cn cs a ccd cells outer A₀ base h₀ L m s Q E B F X N T hk hpre hd hu hret
  refine wpAny_call ?_
  k_dflt (refine' enterHF ?k1_q ?k2_q ?k3_q ?k4_q ?k5_q ?kA_q ?kF_q ?kK_q ?k6_q ?k7_q ?k8_q ?k9_q ?kB_q ?_ ?c2_q ?c3_q ?c4_q ?c5_q; (case kA_q => exact rfl); (case kF_q => exact rfl); (case kK_q => assumption); (case k1_q => k_asm); (case k2_q => k_asm); (case k3_q => k_asm); (case k4_q => k_asm); (case k5_q => k_asm); (case k6_q => k_is); (case k7_q => k_is); (case k8_q => ktr_room); (case k9_q => exact BindsTo.of_eq rfl); (case c5_q => decide); (case kB_q => exact locs rfl); (case c2_q => exact rfl); (case c3_q => exact rfl); (case c4_q => exact rfl); k_whole; intro g' L' h' evX AX mmX gSX dSX oSX FG' F' N' B' X' T' hg' hL'; (try dsimp only); (try k_fold))
  k_steps
  all_goals (refine hret _ _ _ (by assumption) (keeps_end hg' (by assumption)) (ex_int ?_))
  all_goals (cases c <;> first | rfl | contradiction)

theorem c_change {w : World} {mean : ExcName → Option Value} {mg mb : Str → Option Value} (o c f : Int) (t1 t2 t3 : Tok) :
    Con w mean mg mb 74 [.int o t1, .int c t2, .int f t3] 1 [] (fun _ => True) (fun _ v _ => ∃ t, v = .int (changeCost o c f) t) := by
  unfold Con
  k_fill
  intro dp un gd cn cs a ccd cells outer A₀ base h₀ L m s Q E B F X N T hk hpre hd hu hret
  refine wpAny_call ?_
  k_dflt (refine' enterHF ?k1_q ?k2_q ?k3_q ?k4_q ?k5_q ?kA_q ?kF_q ?kK_q ?k6_q ?k7_q ?k8_q ?k9_q ?kB_q ?_ ?c2_q ?c3_q ?c4_q ?c5_q; (case kA_q => exact rfl); (case kF_q => exact rfl); (case kK_q => assumption); (case k1_q => k_asm); (case k2_q => k_asm); (case k3_q => k_asm); (case k4_q => k_asm); (case k5_q => k_asm); (case k6_q => k_is); (case k7_q => k_is); (case k8_q => ktr_room); (case k9_q => exact BindsTo.of_eq rfl); (case c5_q => decide); (case kB_q => exact locs rfl); (case c2_q => exact rfl); (case c3_q => exact rfl); (case c4_q => exact rfl); k_whole; intro g' L' h' evX AX mmX gSX dSX oSX FG' F' N' B' X' T' hg' hL'; (try dsimp only); (try k_fold))
  k_steps
  all_goals (refine hret _ _ _ (by assumption) (keeps_end hg' (by assumption)) (ex_int ?_))
  all_goals (first | exact ch1 (by with_reducible assumption) | exact ch2 (by with_reducible assumption) | exact ch3 (by with_reducible assumption) (by with_reducible assumption) (by with_reducible assumption) | exact ch4 (by with_reducible assumption) (by with_reducible assumption) (by with_reducible assumption))

theorem c_refund {w : World} {mean : ExcName → Option Value} {mg mb : Str → Option Value} (o c f : Int) (t1 t2 t3 : Tok) :
    Con w mean mg mb 81 [.int o t1, .int c t2, .int f t3] 1 [] (fun _ => True) (fun _ v _ => ∃ t, v = .int (refundOf o c f) t) := by
  unfold Con
  k_fill
  intro dp un gd cn cs a ccd cells outer A₀ base h₀ L m s Q E B F X N T hk hpre hd hu hret
  refine wpAny_call ?_
  k_dflt (refine' enterHF ?k1_q ?k2_q ?k3_q ?k4_q ?k5_q ?kA_q ?kF_q ?kK_q ?k6_q ?k7_q ?k8_q ?k9_q ?kB_q ?_ ?c2_q ?c3_q ?c4_q ?c5_q; (case kA_q => exact rfl); (case kF_q => exact rfl); (case kK_q => assumption); (case k1_q => k_asm); (case k2_q => k_asm); (case k3_q => k_asm); (case k4_q => k_asm); (case k5_q => k_asm); (case k6_q => k_is); (case k7_q => k_is); (case k8_q => ktr_room); (case k9_q => exact BindsTo.of_eq rfl); (case c5_q => decide); (case kB_q => exact locs rfl); (case c2_q => exact rfl); (case c3_q => exact rfl); (case c4_q => exact rfl); k_whole; intro g' L' h' evX AX mmX gSX dSX oSX FG' F' N' B' X' T' hg' hL'; (try dsimp only); (try k_fold))
  k_steps
  all_goals (refine hret _ _ _ (by assumption) (keeps_end hg' (by assumption)) (ex_int ?_))
  all_goals (first | exact rf0 (by with_reducible assumption) | (refine rf1 (by with_reducible assumption) ?_ ?_; (first | exact rA1 (by with_reducible assumption) (by with_reducible assumption) | exact rA2 (by with_reducible assumption) (by with_reducible assumption) (by with_reducible assumption) | exact rA3 (by with_reducible assumption) | exact rA4 (by with_reducible assumption) (by with_reducible assumption)); (first | exact rB1 (by with_reducible assumption) (by with_reducible assumption) (by with_reducible assumption) | exact rB2 (by with_reducible assumption) (by with_reducible assumption) (by with_reducible assumption) | exact rB3 (by with_reducible assumption) | exact rB4 (by with_reducible assumption))) | (refine rf2 (by with_reducible assumption) ?_ ?_; (first | exact rA1 (by with_reducible assumption) (by with_reducible assumption) | exact rA2 (by with_reducible assumption) (by with_reducible assumption) (by with_reducible assumption) | exact rA3 (by with_reducible assumption) | exact rA4 (by with_reducible assumption) (by with_reducible assumption)); (first | exact rB1 (by with_reducible assumption) (by with_reducible assumption) (by with_reducible assumption) | exact rB2 (by with_reducible assumption) (by with_reducible assumption) (by with_reducible assumption) | exact rB3 (by with_reducible assumption) | exact rB4 (by with_reducible assumption))) | (exfalso; omega))

theorem c_cap {w : World} {mean : ExcName → Option Value} {mg mb : Str → Option Value} (u : Int) (t1 : Tok) :
    Con w mean mg mb 95 [.int u t1] 1 [] (fun _ => True) (fun _ v _ => ∃ t, v = .int (u / 5) t) := by
  unfold Con
  k_fill
  intro dp un gd cn cs a ccd cells outer A₀ base h₀ L m s Q E B F X N T hk hpre hd hu hret
  refine wpAny_call ?_
  k_dflt (refine' enterHF ?k1_q ?k2_q ?k3_q ?k4_q ?k5_q ?kA_q ?kF_q ?kK_q ?k6_q ?k7_q ?k8_q ?k9_q ?kB_q ?_ ?c2_q ?c3_q ?c4_q ?c5_q; (case kA_q => exact rfl); (case kF_q => exact rfl); (case kK_q => assumption); (case k1_q => k_asm); (case k2_q => k_asm); (case k3_q => k_asm); (case k4_q => k_asm); (case k5_q => k_asm); (case k6_q => k_is); (case k7_q => k_is); (case k8_q => ktr_room); (case k9_q => exact BindsTo.of_eq rfl); (case c5_q => decide); (case kB_q => exact locs rfl); (case c2_q => exact rfl); (case c3_q => exact rfl); (case c4_q => exact rfl); k_whole; intro g' L' h' evX AX mmX gSX dSX oSX FG' F' N' B' X' T' hg' hL'; (try dsimp only); (try k_fold))
  k_steps
  all_goals (refine hret _ _ _ (by assumption) (keeps_end hg' (by assumption)) (ex_int ?_))
  exact Int.fdiv_eq_ediv_of_nonneg _ (by decide)

theorem c_lead {w : World} {mean : ExcName → Option Value} {mg mb : Str → Option Value} (o l : Int) (t1 t2 : Tok) :
    Con w mean mg mb 438 [.int o t1, .int l t2] 1 [] (fun _ => True) (fun _ v _ => ∃ t, v = .int (leadOf o l) t) := by
  unfold Con
  k_fill
  intro dp un gd cn cs a ccd cells outer A₀ base h₀ L m s Q E B F X N T hk hpre hd hu hret
  refine wpAny_call ?_
  k_dflt (refine' enterHF ?k1_q ?k2_q ?k3_q ?k4_q ?k5_q ?kA_q ?kF_q ?kK_q ?k6_q ?k7_q ?k8_q ?k9_q ?kB_q ?_ ?c2_q ?c3_q ?c4_q ?c5_q; (case kA_q => exact rfl); (case kF_q => exact rfl); (case kK_q => assumption); (case k1_q => k_asm); (case k2_q => k_asm); (case k3_q => k_asm); (case k4_q => k_asm); (case k5_q => k_asm); (case k6_q => k_is); (case k7_q => k_is); (case k8_q => ktr_room); (case k9_q => exact BindsTo.of_eq rfl); (case c5_q => decide); (case kB_q => exact locs rfl); (case c2_q => exact rfl); (case c3_q => exact rfl); (case c4_q => exact rfl); k_whole; intro g' L' h' evX AX mmX gSX dSX oSX FG' F' N' B' X' T' hg' hL'; (try dsimp only); (try k_fold))
  k_steps
  all_goals (refine hret _ _ _ (by assumption) (keeps_end hg' (by assumption)) (ex_int ?_))
  all_goals (first | exact ld1 (by with_reducible assumption) | exact ld2 (by with_reducible assumption) (by with_reducible assumption) | exact ld3 (by with_reducible assumption) (by with_reducible assumption) (by with_reducible assumption) | exact ld4 (by with_reducible assumption) (by with_reducible assumption) (by with_reducible assumption))

end Mine
end
section
open PySem PySem.W PyProof.Rows PySem.Calls
namespace Mine
theorem fresh_M15 : True := by
  w_top off
  trivial
theorem lines_M15_0 : True := by
  k_with_none
  (k_with "g_ktr_room" => (first | exact Nat.le_of_ble_eq_true rfl | exact roomF 0 (by assumption) rfl rfl | exact roomF 1 (by assumption) rfl rfl | exact roomF 2 (by assumption) rfl rfl | exact roomF 3 (by assumption) rfl rfl | exact roomF 4 (by assumption) rfl rfl))
  (k_with "g_ktr_units" => (first | exact Nat.le_of_ble_eq_true rfl | exact unitF 3 (by assumption) rfl rfl | exact unitG 3 (by assumption) rfl rfl | exact unitG 6 (by assumption) rfl rfl | exact unitF 6 (by assumption) rfl rfl | exact unitF 7 (by assumption) rfl rfl | exact unitF 4 (by assumption) rfl rfl | exact unitF 5 (by assumption) rfl rfl | exact unitF 8 (by assumption) rfl rfl | exact unitF 9 (by assumption) rfl rfl | exact unitF 10 (by assumption) rfl rfl | exact unitF 11 (by assumption) rfl rfl | exact unitF 12 (by assumption) rfl rfl | exact unitF 13 (by assumption) rfl rfl | exact unitF 14 (by assumption) rfl rfl | exact unitF 15 (by assumption) rfl rfl | exact unitF 0 (by assumption) rfl rfl | exact unitF 1 (by assumption) rfl rfl | exact unitF 2 (by assumption) rfl rfl))
  (k_with "g_k_ne" => ((refine neN ?_; (try dsimp only); first | exact Ne'.o (by with_reducible assumption) | exact Ne'.s (by with_reducible assumption) | k_extra "ne")))
  (k_with "g_k_all" => (first | exact OwnOff.ne (by with_reducible assumption) (by k_mem) | exact allLt_ne (by assumption)))
  (k_with "g_size_fits" => ((simp only [List.size_toArray, List.length_map, List.length_append, List.length_cons, List.length_nil, Array.size_push]; (first | done | (rw [sizeLine_eq]; omega)))))
  (k_with "g_ent" => (apply code_defF; (case hA => exact rfl); (case hf => exact rfl); (case hke => exact rfl); (case B => k_asm); (case F => k_asm); (case X₀ => k_asm); (case N => k_asm); (case T => k_asm); (case ho => k_is); (case hcd => k_is); (case hroom => k_room); (case hbind => first | exact BindsTo.of_eq rfl | exact binds_K (by k_in) rfl (by k_is) rfl rfl rfl | fail "no rule for these arguments"); (case hcell => decide); (case hloc => exact locs rfl); (case hco => exact rfl); (case hgen => exact rfl); (case hk => exact rfl); k_whole; intro _ _ _ evX AX mmX _ _ _ _ _ _; (try dsimp only); (try k_fold)))
  (k_with "call ref" => (k_here; k_dflt (first
    | (apply call_cls0; (case F => k_asm); (case X₀ => k_asm); (case N => k_asm); (case hm => k_is); (case hi => k_is); k_whole; intro x' d' h' F' N' l1 l2; (try k_lt l1); (try k_lt2 l2); (try k_sweep); (revert x' d' h' F' N' l1 l2; intros))
    | (apply call_cls; (case F => k_asm); (case X₀ => k_asm); (case N => k_asm); (case hm => k_is); (case hi => k_is); (case hf => k_is); k_whole; intro x' d' h' F' N' l1 l2; (try k_lt l1); (try k_lt2 l2); (try k_sweep); (revert x' d' h' F' N' l1 l2; intros); k_extra "g_ent")
    | (apply call_meth; (case N => k_asm); (case hq => k_mem); k_whole; k_extra "g_ent")
    | (refine wpAny_call ?_; k_extra "g_ent"))))
  (k_with "call ref" => (k_here; (with_reducible show wpAny _ _ (call (Value.ref 154) [_, _, _, _] _) _ _ _); k_dflt (apply row_call; (case B => k_asm); (case F => k_asm); (case X => k_asm); (case N => k_asm); (case T => k_asm); (case hk => exact rfl); (case hd => ktr_room); k_whole); intro x' d' h' tk' k0' k1' k2' k3' F' N' l1 l2; (try k_lt l1); (try k_lt2 l2); (try k_sweep); (revert x' d' h' tk' k0' k1' k2' k3' F' N' l1 l2; intros)))
  (k_with "storeName" => (k_here; k_dflt (apply stXF; (case F => k_asm); (case N => k_asm); (case hk => rfl); (case hx => rfl); k_whole); intro mmX; intro _ _ _; (try k_sweep)))
  (k_with "execs cons" => (k_here; (try dsimp only); (refine execsF ?_); intro qkX))
  (k_with "execs cons" => (k_here; (try dsimp only); (with_reducible show wpAny _ _ _ _ _ (Shared.mk _ _ _ (_ + _) _)); (refine toksF ?_); intro tkX; (refine execsF ?_); intro qkX))
  (k_with "lt" => (first | with_reducible assumption | (apply And.left; first | with_reducible assumption | (apply And.right; first | with_reducible assumption | (apply And.right; first | with_reducible assumption | (apply And.right; first | with_reducible assumption | (apply And.right; first | with_reducible assumption | (apply And.right; first | with_reducible assumption | (apply And.right; first | with_reducible assumption | (apply And.right; first | with_reducible assumption | (apply And.right; first | with_reducible assumption | (apply And.right; first | with_reducible assumption | (apply And.right; first | with_reducible assumption | (apply And.right; first | with_reducible assumption | (apply And.right; first | with_reducible assumption | (apply And.right; first | with_reducible assumption | (apply And.right; first | with_reducible assumption | (apply And.right; with_reducible assumption))))))))))))))))))
  (k_with "ne" => (first | (refine Nat.ne_of_gt ?_; k_extra "lt") | (refine Nat.ne_of_lt ?_; k_extra "lt") | (refine Nat.ne_of_gt ?_; apply Nat.lt_trans; rotate_left; (with_reducible assumption); k_extra "lt") | (refine Nat.ne_of_lt ?_; apply Nat.lt_trans; rotate_left; (with_reducible assumption); k_extra "lt")))
  (k_with "subscriptTail" => (k_here; (with_reducible show wpAny _ _ (subscriptTail _ _ (Value.ref _) (Value.str _ _)) _ _ _); k_dflt (apply d_item (knd := strKind _ _) (hkey := (str_key _ _)); (case N => k_asm); (case hm => k_mem); (case hD => assumption); (case hv => first | assumption | exact rfl); (case hs => with_unfolding_all rfl); k_whole)))
  (k_with "subscriptTail" => (k_here; (with_reducible show wpAny _ _ (subscriptTail _ _ (Value.ref _) (Value.int _ _)) _ _ _); k_dflt (apply d_item (knd := intKind _ _) (hkey := (int_key _ _)); (case N => k_asm); (case hm => k_mem); (case hD => assumption); (case hv => first | assumption | exact rfl); (case hs => with_unfolding_all rfl); k_whole)))
  (k_with "compareOp In" => (k_here; (with_reducible show wpAny _ _ (compareOp CmpOp.In (Value.int _ _) (Value.ref _)) _ _ _); k_dflt (apply d_inB (knd := intKind _ _) (hkey := (int_key _ _)); (case N => k_asm); (case hm => k_mem); (case hD => assumption); (case lo => assumption); (case hb => first | assumption | exact rfl); k_whole)))
  (k_with "compareOp NotIn" => (k_here; (with_reducible show wpAny _ _ (compareOp CmpOp.NotIn (Value.int _ _) (Value.ref _)) _ _ _); k_dflt (apply d_notIn (knd := intKind _ _) (hkey := (int_key _ _)); (case N => k_asm); (case hm => k_mem); (case hD => assumption); (case lo => assumption); (case hb => first | assumption | exact rfl); k_whole)))
  (k_with "call builtin:dict.get" => (k_here; (with_reducible show wpAny _ _ (call (Value.builtin _) [Value.ref _, Value.int _ _, _]) _ _ _); k_dflt (apply d_get2B (knd := intKind _ _) (hkey := (int_key _ _)); (case N => k_asm); (case hm => k_mem); (case hD => assumption); (case lo => assumption); (case hv => first | assumption | exact rfl); k_whole)))
  (k_with "setItem" => (k_here; (with_reducible show wpAny _ _ (setItem (Value.ref _) (Value.str _ _) _) _ _ _); k_dflt (apply d_set (knd := strKind _ _) (hkey := (str_key _ _)); (case F => k_asm); (case N => k_asm); (case U => k_updF); (case hD => assumption); (case hz => first | assumption | decide | (simp; done)); k_whole); intro h' o' F' N' D'; (try dsimp only at N'); (try simp (decide := true) [stored] at D'); (try k_sweep); (revert h' o' F' N' D'; intros)))
  (k_with "setItem" => (k_here; (with_reducible show wpAny _ _ (setItem (Value.ref _) (Value.int _ _) _) _ _ _); k_dflt (apply d_set (knd := intKind _ _) (hkey := (int_key _ _)); (case F => k_asm); (case N => k_asm); (case U => k_updF); (case hD => assumption); (case hz => first | assumption | decide | (simp; done)); k_whole); intro h' o' F' N' D'; (try dsimp only at N'); (try k_sweep); (revert h' o' F' N' D'; intros)))
  (k_with "delItem" => (k_here; (with_reducible show wpAny _ _ (delItem (Value.ref _) (Value.int _ _)) _ _ _); k_dflt (apply d_del (knd := intKind _ _) (hkey := (int_key _ _)); (case F => k_asm); (case N => k_asm); (case U => k_updF); (case hD => assumption); (case hl => assumption); (case hz => first | assumption | decide | (simp; done)); k_whole); intro h' o' F' N' D'; (try dsimp only at N'); (try k_sweep); (revert h' o' F' N' D'; intros)))
  (k_with "getMethod ref" => (k_here; (with_reducible show wpAny _ _ (getMethod (Value.ref _) (PySem.Str.ofString "get") _) _ _ _); k_dflt (apply t_getMethod; (case N => k_asm); (case hm => k_mem); (case hD => assumption); k_whole)))
  (k_with "call builtin:len" => (k_here; (with_reducible show wpAny _ _ (call (Value.builtin "len") [Value.ref _]) _ _ _); k_dflt (apply l_len; (case N => k_asm); (case hm => k_mem); (case hz => (simp only [List.size_toArray, List.length_map]; omega)); k_whole)))
  (k_with "compareOp In" => (k_here; (with_reducible show wpAny _ _ (compareOp CmpOp.In (Value.ref _) (Value.ref _)) _ _ _); k_dflt (apply t_in; (case N => k_asm); (case hm => k_mem); (case hD => assumption); (case hK => exact KeysIn.mono (by assumption) (by intro p hp; repeat (first | exact hp | refine List.Mem.tail _ ?_))); (case hq => k_mem); (case ht => exact tupO2); (case hu => ktr_units); (case lo => assumption); (case hb => assumption); k_whole)))
  (k_with "compareOp NotIn" => (k_here; (with_reducible show wpAny _ _ (compareOp CmpOp.NotIn (Value.ref _) (Value.ref _)) _ _ _); k_dflt (apply t_notIn; (case N => k_asm); (case hm => k_mem); (case hD => assumption); (case hK => exact KeysIn.mono (by assumption) (by intro p hp; repeat (first | exact hp | refine List.Mem.tail _ ?_))); (case hq => k_mem); (case ht => exact tupO2); (case hu => ktr_units); (case lo => assumption); (case hb => assumption); k_whole)))
  (k_with "call builtin:dict.get" => (k_here; (with_reducible show wpAny _ _ (call (Value.builtin _) [Value.ref _, Value.ref _, _]) _ _ _); k_dflt (apply t_get2; (case N => k_asm); (case hm => k_mem); (case hD => assumption); (case hK => exact KeysIn.mono (by assumption) (by intro p hp; repeat (first | exact hp | refine List.Mem.tail _ ?_))); (case hq => k_mem); (case ht => exact tupO2); (case hu => ktr_units); (case lo => assumption); (case hv => first | assumption | exact rfl); k_whole)))
  (k_with "setItem" => (k_here; (with_reducible show wpAny _ _ (setItem (Value.ref _) (Value.ref _) _) _ _ _); k_dflt (apply t_set; (case F => k_asm); (case N => k_asm); (case U => k_updF); (case hD => assumption); (case hK => exact KeysIn.mono (by assumption) (by intro p hp; repeat (first | exact hp | refine List.Mem.tail _ ?_))); (case hq => k_mem); (case ht => exact tupO2); (case hu => ktr_units); (case hz => assumption); k_whole); intro h' o' F' N' D'; (try dsimp only at N'); (try k_sweep); (revert h' o' F' N' D'; intros)))
  (k_with "delItem" => (k_here; (with_reducible show wpAny _ _ (delItem (Value.ref _) (Value.ref _)) _ _ _); k_dflt (apply t_del; (case F => k_asm); (case N => k_asm); (case U => k_updF); (case hD => assumption); (case hK => exact KeysIn.mono (by assumption) (by intro p hp; repeat (first | exact hp | refine List.Mem.tail _ ?_))); (case hq => k_mem); (case ht => exact tupO2); (case hu => ktr_units); (case hl => assumption); (case hz => assumption); k_whole); intro h' o' F' N' D'; (try dsimp only at N'); (try k_sweep); (revert h' o' F' N' D'; intros)))
  trivial
theorem fresh_of {h g h' : Heap} {L a : Addr} {o : Obj} {news : List (Addr × Obj)} (hg : g = hideAll h (([] : List (Addr × Obj)).map (·.1))) (N : News g L h' news) (hm : (a, o) ∈ news) : h.get? a = none := by
  have := (N _ hm).2.2
  rw [hg] at this
  exact this
noncomputable abbrev tupII (c : Int) (t : Tok) (r : Int) (u : Tok) : Obj := { cls := .type "tuple", data := .seq #[.int c t, .int r u] }
theorem lines_M15_1 : True := by
  (k_with "call ref" => (k_here; (with_reducible show wpAny _ _ (call (Value.ref 74) _ _) _ _ _); (with_reducible refine stop_mk ?_)))
  (k_with "call ref" => (k_here; (with_reducible show wpAny _ _ (call (Value.ref 81) _ _) _ _ _); (with_reducible refine stop_mk ?_)))
  (k_with "eval Call" => (k_here; (with_reducible show wpAny _ _ (eval (Expr.Call (Expr.Name _ _) _ [] _) _) _ _ _); k_dflt (refine Call_ ?_)))
  trivial
theorem c_cost_true {w : World} {mean : ExcName → Option Value} {mg mb : Str → Option Value} (o c f : Int) (t1 t2 t3 : Tok) :
    Con w mean mg mb 88 [.int o t1, .int c t2, .int f t3, .bool true] 2 [] (fun _ => True) (fun h v h' => ∃ q t u, v = .ref q ∧ h.get? q = none ∧ h'.get? q = some (tupII (changeCost o c f + 2100) t (refundOf o c f) u)) := by
  unfold Con
  k_fill
  intro dp un gd cn cs a ccd cells outer A₀ base h₀ L m s Q E B F X N T hk hpre hd hu hret
  refine wpAny_call ?_
  k_dflt (refine' enterHF ?k1_q ?k2_q ?k3_q ?k4_q ?k5_q ?kA_q ?kF_q ?kK_q ?k6_q ?k7_q ?k8_q ?k9_q ?kB_q ?_ ?c2_q ?c3_q ?c4_q ?c5_q; (case kA_q => exact rfl); (case kF_q => exact rfl); (case kK_q => assumption); (case k1_q => k_asm); (case k2_q => k_asm); (case k3_q => k_asm); (case k4_q => k_asm); (case k5_q => k_asm); (case k6_q => k_is); (case k7_q => k_is); (case k8_q => ktr_room); (case k9_q => exact BindsTo.of_eq rfl); (case c5_q => decide); (case kB_q => exact locs rfl); (case c2_q => exact rfl); (case c3_q => exact rfl); (case c4_q => exact rfl); k_whole; intro g' L' h' evX AX mmX gSX dSX oSX FG' F' N' B' X' T' hg' hL'; (try dsimp only); (try k_fold))
  k_steps
  refine stop_out ?_
  refine' Con.useP (c_change o c f t1 t2 t3) ?kBu1_q ?kFu1_q ?kXu1_q ?kNu1_q ?kTu1_q ?khu1_q trivial ?kdu1_q ?kuu1_q ?kku1_q
  case kBu1_q => k_asm
  case kFu1_q => k_asm
  case kXu1_q => k_asm
  case kTu1_q => k_asm
  case kNu1_q => k_asm
  case khu1_q => exact rfl
  case kdu1_q => ktr_room
  case kuu1_q => ktr_units
  case kku1_q =>
  rintro v3 h3 tk3 ⟨t4, rfl⟩ F3 N3
  k_sweep
  k_steps
  refine stop_out ?_
  refine' Con.useP (c_refund o c f t1 t2 t3) ?kBu2_q ?kFu2_q ?kXu2_q ?kNu2_q ?kTu2_q ?khu2_q trivial ?kdu2_q ?kuu2_q ?kku2_q
  case kBu2_q => k_asm
  case kFu2_q => k_asm
  case kXu2_q => k_asm
  case kTu2_q => k_asm
  case kNu2_q => k_asm
  case khu2_q => exact rfl
  case kdu2_q => ktr_room
  case kuu2_q => ktr_units
  case kku2_q =>
  rintro v4 h4 tk4 ⟨t5, rfl⟩ F4 N4
  k_sweep
  k_steps
  refine hret _ _ _ (by assumption) (keeps_end hg' (by assumption)) ⟨_, _, _, rfl, fresh_of hg' (by assumption) (.head _), News.get (by assumption) (.head _)⟩

theorem c_cost_false {w : World} {mean : ExcName → Option Value} {mg mb : Str → Option Value} (o c f : Int) (t1 t2 t3 : Tok) :
    Con w mean mg mb 88 [.int o t1, .int c t2, .int f t3, .bool false] 2 [] (fun _ => True) (fun h v h' => ∃ q t u, v = .ref q ∧ h.get? q = none ∧ h'.get? q = some (tupII (changeCost o c f + 0) t (refundOf o c f) u)) := by
  unfold Con
  k_fill
  intro dp un gd cn cs a ccd cells outer A₀ base h₀ L m s Q E B F X N T hk hpre hd hu hret
  refine wpAny_call ?_
  k_dflt (refine' enterHF ?k1_q ?k2_q ?k3_q ?k4_q ?k5_q ?kA_q ?kF_q ?kK_q ?k6_q ?k7_q ?k8_q ?k9_q ?kB_q ?_ ?c2_q ?c3_q ?c4_q ?c5_q; (case kA_q => exact rfl); (case kF_q => exact rfl); (case kK_q => assumption); (case k1_q => k_asm); (case k2_q => k_asm); (case k3_q => k_asm); (case k4_q => k_asm); (case k5_q => k_asm); (case k6_q => k_is); (case k7_q => k_is); (case k8_q => ktr_room); (case k9_q => exact BindsTo.of_eq rfl); (case c5_q => decide); (case kB_q => exact locs rfl); (case c2_q => exact rfl); (case c3_q => exact rfl); (case c4_q => exact rfl); k_whole; intro g' L' h' evX AX mmX gSX dSX oSX FG' F' N' B' X' T' hg' hL'; (try dsimp only); (try k_fold))
  k_steps
  refine stop_out ?_
  refine' Con.useP (c_change o c f t1 t2 t3) ?kBu3_q ?kFu3_q ?kXu3_q ?kNu3_q ?kTu3_q ?khu3_q trivial ?kdu3_q ?kuu3_q ?kku3_q
  case kBu3_q => k_asm
  case kFu3_q => k_asm
  case kXu3_q => k_asm
  case kTu3_q => k_asm
  case kNu3_q => k_asm
  case khu3_q => exact rfl
  case kdu3_q => ktr_room
  case kuu3_q => ktr_units
  case kku3_q =>
  rintro v3 h3 tk3 ⟨t4, rfl⟩ F3 N3
  k_sweep
  k_steps
  refine stop_out ?_
  refine' Con.useP (c_refund o c f t1 t2 t3) ?kBu4_q ?kFu4_q ?kXu4_q ?kNu4_q ?kTu4_q ?khu4_q trivial ?kdu4_q ?kuu4_q ?kku4_q
  case kBu4_q => k_asm
  case kFu4_q => k_asm
  case kXu4_q => k_asm
  case kTu4_q => k_asm
  case kNu4_q => k_asm
  case khu4_q => exact rfl
  case kdu4_q => ktr_room
  case kuu4_q => ktr_units
  case kku4_q =>
  rintro v4 h4 tk4 ⟨t5, rfl⟩ F4 N4
  k_sweep
  k_steps
  refine hret _ _ _ (by assumption) (keeps_end hg' (by assumption)) ⟨_, _, _, rfl, fresh_of hg' (by assumption) (.head _), News.get (by assumption) (.head _)⟩

theorem lines_M15_2 : True := by
  (k_with "eval Dict" => (k_here; k_dflt (refine' kdn_str ?q ?F ?N ?b ?a ?l ?e ?n ?_; (case q => rfl); (case F => k_asm); (case N => first | k_asm | exact News.nil); (case b => exact Top.nolimit (by k_asm)); (case a => rfl); (case l => rfl); (case e => exact List.cons_ne_nil _ _); (case n => exact Nat.le_of_ble_eq_true rfl)); intro d' h' o' F' N' l1 lo' hd'; (try k_lt l1); (revert d' h' o' F' N' l1 lo' hd'; intros)))
  trivial
/-- a number, with or without a minus -/
noncomputable def NumE (e : PySem.Expr) (r : Int) : Prop := (∃ k p, e = .Constant (.int r) k p) ∨ ∃ n k p p', r = -n ∧ e = .UnaryOp .USub (.Constant (.int n) k p) p'
theorem num_eval {prog : Program} {w : World} {A : Around} {E : Value → Shared → Prop} {s : Shared} {env : Env} {e : PySem.Expr} {r : Int} {Q : Value → Shared → Prop} (hE : NumE e r) (h : ∀ t k, Q (.int r t) { s with toks := k }) : wpAny (model prog w) A (eval e env) Q E s := by
  rcases hE with ⟨k, p, rfl⟩ | ⟨n, k, p, p', rfl, rfl⟩
  · exact wpAny_Constant_int (h _ _)
  · exact UnaryOp_ (wpAny_Constant_int (PyProof.Rows.neg_int (h _ _)))
/-- one row of the table's display -/
theorem tab_pair {prog : Program} {w : World} {A : Around} {E : Value → Shared → Prop} {s : Shared} {env : Env} {h₀ : Heap} {L : Addr} {m : Str → Option Value} {news : List (Addr × Obj)} {x : Str} {c r : Int} {kk k1 k3 : Nat} {kp p1 p3 pos : Pos} {e2 : PySem.Expr} {ks : List (Option PySem.Expr)} {vs : List PySem.Expr} {Q : List (Value × Value) → Shared → Prop}
    (F : Fr h₀ L s.heap m) (N : News h₀ L s.heap news) (h2 : NumE e2 r)
    (h : ∀ a h' kt t u k, Fr h₀ L h' m → News h₀ L h' ((a, tupII c t r u) :: news) → (∀ p ∈ news, p.1 < a) → wpAny (model prog w) A (evalPairs (pairTrees ks vs env pos)) (fun q s' => Q ((.str x kt, .ref a) :: q) s') E { s with heap := h', toks := k }) :
    wpAny (model prog w) A (evalPairs (pairTrees (some (.Constant (.str x) kk kp) :: ks) (.Tuple [.Constant (.int c) k1 p1, e2] k3 p3 :: vs) env pos)) Q E s := by
  have hs : starEach [e2] env = [(false, eval e2 env)] := by rcases h2 with ⟨k, p, rfl⟩ | ⟨n, k, p, p', _, rfl⟩ <;> rfl
  refine pairTrees_cons_walk (Calls.Constant_str (Tuple_ (spliced_more (wpAny_Constant_int (spliced_more (num_eval h2 fun t k => spliced_none ?_) hs)) rfl)))
  exact kup_newTuple F N (fun a h' F' N' l => h a h' _ _ _ _ F' N' l) (by rw [sizeLine_eq]; exact Nat.le_of_ble_eq_true rfl)
theorem lines_M15_3 : True := by
  (k_with "evalPairs" => (k_here; (with_reducible refine stop_mk ?_)))
  trivial
noncomputable def tableL : List (String × Int × Int) := [("000", 100, 0), ("00x", 20000, 0), ("0x0", 100, 19900), ("0xx", 100, 0), ("0xy", 100, 0), ("x00", 100, 0), ("x0x", 100, -2000), ("x0y", 100, -4800), ("xx0", 2900, 4800), ("xxx", 100, 0), ("xxy", 2900, 0), ("xy0", 100, 4800), ("xyx", 100, 2800), ("xyy", 100, 0), ("xyz", 100, 0)]
theorem vs_eq {k : Str} {v : Value} {r : List (Str × Value)} : valueAt ((k, v) :: r) k = some v := by simp [valueAt]
theorem vs_ne {k k' : Str} {v : Value} {r : List (Str × Value)} {x : Option Value} (h : decide (k' = k) = false) (e : valueAt r k = x) : valueAt ((k', v) :: r) k = x := by
  rw [← e]
  have h' : ¬ (k' = k) := of_decide_eq_false h
  simp [valueAt, h']
theorem tab_ent {kvs : List (Str × Value)} {k : Str} {led : List (Addr × Obj)} {a : Addr} {c r : Int} {t u : Tok} (h1 : valueAt kvs k = some (.ref a)) (h2 : (a, tupII c t r u) ∈ led) : ∃ a t u, valueAt kvs k = some (.ref a) ∧ (a, tupII c t r u) ∈ led := ⟨a, t, u, h1, h2⟩
theorem lt_mem {P : (String × Int × Int) → Prop} {a : String × Int × Int} {l : List (String × Int × Int)} (h1 : P a) (h2 : ∀ x ∈ l, P x) : ∀ x ∈ a :: l, P x := List.forall_mem_cons.mpr ⟨h1, h2⟩
theorem c_table {w : World} {mean : ExcName → Option Value} {mg mb : Str → Option Value}  :
    Con w mean mg mb 410 [] 1 [] (fun _ => True) (fun h v h' => ∃ d o kvs led, v = .ref d ∧ (d, o) ∈ led ∧ Sat h' led ∧ Grows h [] led ∧ o.IsDictOf (strKind PP w) kvs ∧ ∀ e ∈ tableL, ∃ a t u, valueAt kvs (Str.ofString e.1) = some (.ref a) ∧ (a, tupII e.2.1 t e.2.2 u) ∈ led) := by
  unfold Con
  k_fill
  intro dp un gd cn cs a ccd cells outer A₀ base h₀ L m s Q E B F X N T hk hpre hd hu hret
  refine wpAny_call ?_
  k_dflt (refine' enterHF ?k1_q ?k2_q ?k3_q ?k4_q ?k5_q ?kA_q ?kF_q ?kK_q ?k6_q ?k7_q ?k8_q ?k9_q ?kB_q ?_ ?c2_q ?c3_q ?c4_q ?c5_q; (case kA_q => exact rfl); (case kF_q => exact rfl); (case kK_q => assumption); (case k1_q => k_asm); (case k2_q => k_asm); (case k3_q => k_asm); (case k4_q => k_asm); (case k5_q => k_asm); (case k6_q => k_is); (case k7_q => k_is); (case k8_q => ktr_room); (case k9_q => exact BindsTo.of_eq rfl); (case c5_q => decide); (case kB_q => exact locs rfl); (case c2_q => exact rfl); (case c3_q => exact rfl); (case c4_q => exact rfl); k_whole; intro g' L' h' evX AX mmX gSX dSX oSX FG' F' N' B' X' T' hg' hL'; (try dsimp only); (try k_fold))
  k_steps
  refine stop_out ?_
  refine' tab_pair ?tF1_q ?tN1_q ?tq1_q ?_
  case tF1_q => k_asm
  case tN1_q => k_asm
  case tq1_q => first | exact .inl ⟨_, _, rfl⟩ | exact .inr ⟨_, _, _, _, rfl, rfl⟩
  k_whole
  intro d1 h1 kt1 t1 u1 tk1 F1 N1 l1
  k_lt l1
  k_sweep
  refine' tab_pair ?tF2_q ?tN2_q ?tq2_q ?_
  case tF2_q => k_asm
  case tN2_q => k_asm
  case tq2_q => first | exact .inl ⟨_, _, rfl⟩ | exact .inr ⟨_, _, _, _, rfl, rfl⟩
  k_whole
  intro d2 h2 kt2 t2 u2 tk2 F2 N2 l2
  k_lt l2
  k_sweep
  refine' tab_pair ?tF3_q ?tN3_q ?tq3_q ?_
  case tF3_q => k_asm
  case tN3_q => k_asm
  case tq3_q => first | exact .inl ⟨_, _, rfl⟩ | exact .inr ⟨_, _, _, _, rfl, rfl⟩
  k_whole
  intro d3 h3 kt3 t3 u3 tk3 F3 N3 l3
  k_lt l3
  k_sweep
  refine' tab_pair ?tF4_q ?tN4_q ?tq4_q ?_
  case tF4_q => k_asm
  case tN4_q => k_asm
  case tq4_q => first | exact .inl ⟨_, _, rfl⟩ | exact .inr ⟨_, _, _, _, rfl, rfl⟩
  k_whole
  intro d4 h4 kt4 t4 u4 tk4 F4 N4 l4
  k_lt l4
  k_sweep
  refine' tab_pair ?tF5_q ?tN5_q ?tq5_q ?_
  case tF5_q => k_asm
  case tN5_q => k_asm
  case tq5_q => first | exact .inl ⟨_, _, rfl⟩ | exact .inr ⟨_, _, _, _, rfl, rfl⟩
  k_whole
  intro d5 h5 kt5 t5 u5 tk5 F5 N5 l5
  k_lt l5
  k_sweep
  refine' tab_pair ?tF6_q ?tN6_q ?tq6_q ?_
  case tF6_q => k_asm
  case tN6_q => k_asm
  case tq6_q => first | exact .inl ⟨_, _, rfl⟩ | exact .inr ⟨_, _, _, _, rfl, rfl⟩
  k_whole
  intro d6 h6 kt6 t6 u6 tk6 F6 N6 l6
  k_lt l6
  k_sweep
  refine' tab_pair ?tF7_q ?tN7_q ?tq7_q ?_
  case tF7_q => k_asm
  case tN7_q => k_asm
  case tq7_q => first | exact .inl ⟨_, _, rfl⟩ | exact .inr ⟨_, _, _, _, rfl, rfl⟩
  k_whole
  intro d7 h7 kt7 t7 u7 tk7 F7 N7 l7
  k_lt l7
  k_sweep
  refine' tab_pair ?tF8_q ?tN8_q ?tq8_q ?_
  case tF8_q => k_asm
  case tN8_q => k_asm
  case tq8_q => first | exact .inl ⟨_, _, rfl⟩ | exact .inr ⟨_, _, _, _, rfl, rfl⟩
  k_whole
  intro d8 h8 kt8 t8 u8 tk8 F8 N8 l8
  k_lt l8
  k_sweep
  refine' tab_pair ?tF9_q ?tN9_q ?tq9_q ?_
  case tF9_q => k_asm
  case tN9_q => k_asm
  case tq9_q => first | exact .inl ⟨_, _, rfl⟩ | exact .inr ⟨_, _, _, _, rfl, rfl⟩
  k_whole
  intro d9 h9 kt9 t9 u9 tk9 F9 N9 l9
  k_lt l9
  k_sweep
  refine' tab_pair ?tF10_q ?tN10_q ?tq10_q ?_
  case tF10_q => k_asm
  case tN10_q => k_asm
  case tq10_q => first | exact .inl ⟨_, _, rfl⟩ | exact .inr ⟨_, _, _, _, rfl, rfl⟩
  k_whole
  intro d10 h10 kt10 t10 u10 tk10 F10 N10 l10
  k_lt l10
  k_sweep
  refine' tab_pair ?tF11_q ?tN11_q ?tq11_q ?_
  case tF11_q => k_asm
  case tN11_q => k_asm
  case tq11_q => first | exact .inl ⟨_, _, rfl⟩ | exact .inr ⟨_, _, _, _, rfl, rfl⟩
  k_whole
  intro d11 h11 kt11 t11 u11 tk11 F11 N11 l11
  k_lt l11
  k_sweep
  refine' tab_pair ?tF12_q ?tN12_q ?tq12_q ?_
  case tF12_q => k_asm
  case tN12_q => k_asm
  case tq12_q => first | exact .inl ⟨_, _, rfl⟩ | exact .inr ⟨_, _, _, _, rfl, rfl⟩
  k_whole
  intro d12 h12 kt12 t12 u12 tk12 F12 N12 l12
  k_lt l12
  k_sweep
  refine' tab_pair ?tF13_q ?tN13_q ?tq13_q ?_
  case tF13_q => k_asm
  case tN13_q => k_asm
  case tq13_q => first | exact .inl ⟨_, _, rfl⟩ | exact .inr ⟨_, _, _, _, rfl, rfl⟩
  k_whole
  intro d13 h13 kt13 t13 u13 tk13 F13 N13 l13
  k_lt l13
  k_sweep
  refine' tab_pair ?tF14_q ?tN14_q ?tq14_q ?_
  case tF14_q => k_asm
  case tN14_q => k_asm
  case tq14_q => first | exact .inl ⟨_, _, rfl⟩ | exact .inr ⟨_, _, _, _, rfl, rfl⟩
  k_whole
  intro d14 h14 kt14 t14 u14 tk14 F14 N14 l14
  k_lt l14
  k_sweep
  refine' tab_pair ?tF15_q ?tN15_q ?tq15_q ?_
  case tF15_q => k_asm
  case tN15_q => k_asm
  case tq15_q => first | exact .inl ⟨_, _, rfl⟩ | exact .inr ⟨_, _, _, _, rfl, rfl⟩
  k_whole
  intro d15 h15 kt15 t15 u15 tk15 F15 N15 l15
  k_lt l15
  k_sweep
  refine pairTrees_nil_walk ?_
  k_steps
  refine' hret _ _ _ (by assumption) (keeps_end hg' (by assumption)) ⟨_, _, _, _, rfl, ?m9_q, sat_sub (by assumption) (fun _ hp => hp), grows_of hg' (by assumption) (fun _ hp => hp), by assumption, ?_⟩
  case m9_q => k_dflt k_mem
  unfold tableL
  dsimp only [strPairs]
  repeat (first | exact List.forall_mem_nil _ | (refine lt_mem ?_ ?_; focus (dsimp only; apply tab_ent; (focus (repeat (first | refine vs_ne (by decide +kernel) ?_ | exact vs_eq))); (focus (k_dflt k_mem)))))

end Mine
end
section
open PySem PySem.W PyProof.Rows PySem.Calls PySem.Spec
set_option linter.unusedSimpArgs false
namespace Mine
/-- the letter of the word met as number n -/
noncomputable def ltr : Nat → Str
  | 0 => Str.ofString "0"
  | 1 => Str.ofString "x"
  | 2 => Str.ofString "y"
  | _ => Str.ofString "z"
noncomputable def dSeen (sw : List Int) (x : Int) : List Int := if x ∈ sw then sw else sw ++ [x]
noncomputable def dStep (p : List Int × Str) (x : Int) : List Int × Str := (dSeen p.1 x, p.2 ++ ltr ((dSeen p.1 x).idxOf x))
noncomputable def dRun (ws : List Int) : List Int × Str := ws.foldl dStep ([0], Str.ofString "")
/-- the dict of the words seen -/
noncomputable def SeenRep (kvs : List (Int × Value)) (sw : List Int) : Prop := kvs.length = sw.length ∧ ∀ k, (k ∈ sw → ∃ t, valueAt kvs k = some (.str (ltr (sw.idxOf k)) t)) ∧ (k ∉ sw → valueAt kvs k = none)
theorem SeenRep.has {kvs : List (Int × Value)} {sw : List Int} (h : SeenRep kvs sw) (x : Int) : (valueAt kvs x).isSome = decide (x ∈ sw) := by
  by_cases hx : x ∈ sw
  · obtain ⟨t, e⟩ := (h.2 x).1 hx
    simp [e, hx]
  · rw [(h.2 x).2 hx]; simp [hx]
theorem SeenRep.add {kvs : List (Int × Value)} {sw : List Int} {x : Int} {t : Tok} (h : SeenRep kvs sw) (hx : x ∉ sw) : SeenRep (stored kvs x (.str (ltr sw.length) t)) (sw ++ [x]) := by
  constructor
  · unfold stored
    have : ¬ ((kvs.any fun kv => decide (kv.1 = x)) = true) := by
      rw [← va_isSome, h.has x]; simp [hx]
    rw [if_neg this, List.length_append, List.length_append, h.1]
    rfl
  · intro k
    rw [valueAt_stored]
    by_cases e : k = x
    · subst e
      refine ⟨fun _ => ⟨t, ?_⟩, fun hn => absurd (List.mem_append_right _ (.head _)) hn⟩
      rw [if_pos rfl, List.idxOf_append, if_neg hx]
      simp
    · rw [if_neg e]
      refine ⟨fun hk => ?_, fun hk => (h.2 k).2 fun q => hk (List.mem_append_left _ q)⟩
      have hk' : k ∈ sw := by
        rcases List.mem_append.mp hk with q | q
        · exact q
        · exact absurd (List.mem_singleton.mp q) e
      obtain ⟨t', e'⟩ := (h.2 k).1 hk'
      exact ⟨t', by rw [e', List.idxOf_append, if_pos hk']⟩
theorem dIn0 {r : List Int} {s : Str} {x : Int} (h : x = 0) : dStep (0 :: r, s) x = (0 :: r, s ++ ltr 0) := by
  subst h; simp [dStep, dSeen]
theorem dIn1 {y : Int} {r : List Int} {s : Str} {x : Int} (h0 : x ≠ 0) (h : x = y) : dStep (0 :: y :: r, s) x = (0 :: y :: r, s ++ ltr 1) := by
  subst h; simp [dStep, dSeen, List.idxOf_cons, Bool.cond_eq_ite, h0.symm]
theorem dIn2 {y z : Int} {r : List Int} {s : Str} {x : Int} (h0 : x ≠ 0) (h1 : x ≠ y) (h : x = z) : dStep (0 :: y :: z :: r, s) x = (0 :: y :: z :: r, s ++ ltr 2) := by
  subst h; simp [dStep, dSeen, List.idxOf_cons, Bool.cond_eq_ite, h0.symm, h1.symm]
theorem dNew1 {s : Str} {x : Int} (h0 : x ≠ 0) : dStep ([0], s) x = ([0, x], s ++ ltr 1) := by
  simp [dStep, dSeen, List.idxOf_cons, Bool.cond_eq_ite, h0, h0.symm]
theorem dNew2 {y : Int} {s : Str} {x : Int} (h0 : x ≠ 0) (h1 : x ≠ y) : dStep ([0, y], s) x = ([0, y, x], s ++ ltr 2) := by
  simp [dStep, dSeen, List.idxOf_cons, Bool.cond_eq_ite, h0, h1, h0.symm, h1.symm]
theorem dNew3 {y z : Int} {s : Str} {x : Int} (h0 : x ≠ 0) (h1 : x ≠ y) (h2 : x ≠ z) : dStep ([0, y, z], s) x = ([0, y, z, x], s ++ ltr 3) := by
  simp [dStep, dSeen, List.idxOf_cons, Bool.cond_eq_ite, h0, h1, h2, h0.symm, h1.symm, h2.symm]
theorem dRun3 {o c f : Int} {s1 s2 s3 : List Int} {a b d : Nat} {e : String × Int × Int} (he : e ∈ tableL) (h1 : ∀ s, dStep ([0], s) o = (s1, s ++ ltr a)) (h2 : ∀ s, dStep (s1, s) c = (s2, s ++ ltr b)) (h3 : ∀ s, dStep (s2, s) f = (s3, s ++ ltr d))
    (hs : Str.ofString "" ++ ltr a ++ ltr b ++ ltr d = Str.ofString e.1) (hc : e.2.1 = changeCost o c f) (hr : e.2.2 = refundOf o c f) : ∃ e ∈ tableL, (dRun [o, c, f]).2 = Str.ofString e.1 ∧ e.2.1 = changeCost o c f ∧ e.2.2 = refundOf o c f := by
  refine ⟨e, he, ?_, hc, hr⟩
  show (dStep (dStep (dStep ([0], Str.ofString "") o) c) f).2 = _
  rw [h1, h2, h3]
  exact hs
theorem mem_at {α : Type} {l : List α} {e : α} {n : Nat} (h : l[n]? = some e) : e ∈ l := List.mem_of_getElem? h
theorem due_sign (o c f : Int) : ∃ e ∈ tableL, (dRun [o, c, f]).2 = Str.ofString e.1 ∧ e.2.1 = changeCost o c f ∧ e.2.2 = refundOf o c f := by
  by_cases ho : o = 0
  · by_cases hc : c = 0
    · have hoc : o = c := ho.trans hc.symm
      by_cases hf : f = 0
      · exact dRun3 (mem_at (n := 0) rfl) (fun _ => dIn0 ho) (fun _ => dIn0 hc) (fun _ => dIn0 hf) (by decide +kernel) (ch1 (hf.trans hc.symm)) (rf0 (hf.trans hc.symm))
      · exact dRun3 (mem_at (n := 1) rfl) (fun _ => dIn0 ho) (fun _ => dIn0 hc) (fun _ => dNew1 hf) (by decide +kernel) (ch3 (fun e => hf (e.trans hc)) hoc ho) (rf2 (fun e => hf (e.trans hc)) (rA3 ho) (rB3 hoc))
    · have hoc : o ≠ c := fun e => hc (e.symm.trans ho)
      by_cases hf : f = 0
      · have hfc : f ≠ c := fun e => hc (e.symm.trans hf)
        exact dRun3 (mem_at (n := 2) rfl) (fun _ => dIn0 ho) (fun _ => dNew1 hc) (fun _ => dIn0 hf) (by decide +kernel) (ch2 hoc) (rf1 hfc (rA3 ho) (rB1 hoc (ho.trans hf.symm) ho))
      · by_cases hfc : f = c
        · exact dRun3 (mem_at (n := 3) rfl) (fun _ => dIn0 ho) (fun _ => dNew1 hc) (fun _ => dIn1 hf hfc) (by decide +kernel) (ch1 hfc) (rf0 hfc)
        · exact dRun3 (mem_at (n := 4) rfl) (fun _ => dIn0 ho) (fun _ => dNew1 hc) (fun _ => dNew2 hf hfc) (by decide +kernel) (ch2 hoc) (rf2 hfc (rA3 ho) (rB4 fun e => hf (e.symm.trans ho)))
  · by_cases hc : c = 0
    · have hoc : o ≠ c := fun e => ho (e.trans hc)
      by_cases hf : f = 0
      · exact dRun3 (mem_at (n := 5) rfl) (fun _ => dNew1 ho) (fun _ => dIn0 hc) (fun _ => dIn0 hf) (by decide +kernel) (ch1 (hf.trans hc.symm)) (rf0 (hf.trans hc.symm))
      · have hfc : f ≠ c := fun e => hf (e.trans hc)
        by_cases hfo : f = o
        · exact dRun3 (mem_at (n := 6) rfl) (fun _ => dNew1 ho) (fun _ => dIn0 hc) (fun _ => dIn1 hf hfo) (by decide +kernel) (ch2 hoc) (rf1 hfc (rA1 ho hc) (rB2 hoc hfo.symm ho))
        · exact dRun3 (mem_at (n := 7) rfl) (fun _ => dNew1 ho) (fun _ => dIn0 hc) (fun _ => dNew2 hf hfo) (by decide +kernel) (ch2 hoc) (rf2 hfc (rA1 ho hc) (rB4 fun e => hfo e.symm))
    · by_cases hco : c = o
      · by_cases hf : f = 0
        · have hfc : f ≠ c := fun e => hc (e.symm.trans hf)
          exact dRun3 (mem_at (n := 8) rfl) (fun _ => dNew1 ho) (fun _ => dIn1 hc hco) (fun _ => dIn0 hf) (by decide +kernel) (ch4 hfc hco.symm ho) (rf2 hfc (rA2 ho hc hf) (rB3 hco.symm))
        · by_cases hfc : f = c
          · exact dRun3 (mem_at (n := 9) rfl) (fun _ => dNew1 ho) (fun _ => dIn1 hc hco) (fun _ => dIn1 hf (hfc.trans hco)) (by decide +kernel) (ch1 hfc) (rf0 hfc)
          · exact dRun3 (mem_at (n := 10) rfl) (fun _ => dNew1 ho) (fun _ => dIn1 hc hco) (fun _ => dNew2 hf (fun e => hfc (e.trans hco.symm))) (by decide +kernel) (ch4 hfc hco.symm ho) (rf2 hfc (rA4 hc hf) (rB3 hco.symm))
      · have hoc : o ≠ c := fun e => hco e.symm
        by_cases hf : f = 0
        · have hfc : f ≠ c := fun e => hc (e.symm.trans hf)
          exact dRun3 (mem_at (n := 11) rfl) (fun _ => dNew1 ho) (fun _ => dNew2 hc hco) (fun _ => dIn0 hf) (by decide +kernel) (ch2 hoc) (rf2 hfc (rA2 ho hc hf) (rB4 fun e => ho (e.trans hf)))
        · by_cases hfo : f = o
          · have hfc : f ≠ c := fun e => hco (e.symm.trans hfo)
            exact dRun3 (mem_at (n := 12) rfl) (fun _ => dNew1 ho) (fun _ => dNew2 hc hco) (fun _ => dIn1 hf hfo) (by decide +kernel) (ch2 hoc) (rf1 hfc (rA4 hc hf) (rB2 hoc hfo.symm ho))
          · by_cases hfc : f = c
            · exact dRun3 (mem_at (n := 13) rfl) (fun _ => dNew1 ho) (fun _ => dNew2 hc hco) (fun _ => dIn2 hf hfo hfc) (by decide +kernel) (ch1 hfc) (rf0 hfc)
            · exact dRun3 (mem_at (n := 14) rfl) (fun _ => dNew1 ho) (fun _ => dNew2 hc hco) (fun _ => dNew3 hf hfo hfc) (by decide +kernel) (ch2 hoc) (rf2 hfc (rA4 hc hf) (rB4 fun e => hfo e.symm))
end Mine
end
section
open PySem PySem.W PyProof.Rows PySem.Calls
namespace Mine
theorem fresh_M17 : True := by
  w_top off
  trivial

theorem lines_M17_0 : True := by
  k_with_none
  (k_with "g_ktr_room" => (first | exact Nat.le_of_ble_eq_true rfl | exact roomF 0 (by assumption) rfl rfl | exact roomF 1 (by assumption) rfl rfl | exact roomF 2 (by assumption) rfl rfl | exact roomF 3 (by assumption) rfl rfl | exact roomF 4 (by assumption) rfl rfl))
  (k_with "g_ktr_units" => (first | exact Nat.le_of_ble_eq_true rfl | exact unitF 3 (by assumption) rfl rfl | exact unitG 3 (by assumption) rfl rfl | exact unitG 6 (by assumption) rfl rfl | exact unitF 6 (by assumption) rfl rfl | exact unitF 7 (by assumption) rfl rfl | exact unitF 4 (by assumption) rfl rfl | exact unitF 5 (by assumption) rfl rfl | exact unitF 8 (by assumption) rfl rfl | exact unitF 9 (by assumption) rfl rfl | exact unitF 10 (by assumption) rfl rfl | exact unitF 11 (by assumption) rfl rfl | exact unitF 12 (by assumption) rfl rfl | exact unitF 13 (by assumption) rfl rfl | exact unitF 14 (by assumption) rfl rfl | exact unitF 15 (by assumption) rfl rfl | exact unitF 0 (by assumption) rfl rfl | exact unitF 1 (by assumption) rfl rfl | exact unitF 2 (by assumption) rfl rfl))
  (k_with "g_k_ne" => ((refine neN ?_; (try dsimp only); first | exact Ne'.o (by with_reducible assumption) | exact Ne'.s (by with_reducible assumption) | k_extra "ne")))
  (k_with "g_k_all" => (first | exact OwnOff.ne (by with_reducible assumption) (by k_mem) | exact allLt_ne (by assumption)))
  (k_with "g_size_fits" => ((simp only [List.size_toArray, List.length_map, List.length_append, List.length_cons, List.length_nil, Array.size_push]; (first | done | (rw [sizeLine_eq]; omega)))))
  (k_with "g_ent" => (apply code_defF; (case hA => exact rfl); (case hf => exact rfl); (case hke => exact rfl); (case B => k_asm); (case F => k_asm); (case X₀ => k_asm); (case N => k_asm); (case T => k_asm); (case ho => k_is); (case hcd => k_is); (case hroom => k_room); (case hbind => first | exact BindsTo.of_eq rfl | exact binds_K (by k_in) rfl (by k_is) rfl rfl rfl | fail "no rule for these arguments"); (case hcell => decide); (case hloc => exact locs rfl); (case hco => exact rfl); (case hgen => exact rfl); (case hk => exact rfl); k_whole; intro _ _ _ evX AX mmX _ _ _ _ _ _; (try dsimp only); (try k_fold)))
  (k_with "call ref" => (k_here; k_dflt (first
    | (apply call_cls0; (case F => k_asm); (case X₀ => k_asm); (case N => k_asm); (case hm => k_is); (case hi => k_is); k_whole; intro x' d' h' F' N' l1 l2; (try k_lt l1); (try k_lt2 l2); (try k_sweep); (revert x' d' h' F' N' l1 l2; intros))
    | (apply call_cls; (case F => k_asm); (case X₀ => k_asm); (case N => k_asm); (case hm => k_is); (case hi => k_is); (case hf => k_is); k_whole; intro x' d' h' F' N' l1 l2; (try k_lt l1); (try k_lt2 l2); (try k_sweep); (revert x' d' h' F' N' l1 l2; intros); k_extra "g_ent")
    | (apply call_meth; (case N => k_asm); (case hq => k_mem); k_whole; k_extra "g_ent")
    | (refine wpAny_call ?_; k_extra "g_ent"))))
  (k_with "call ref" => (k_here; (with_reducible show wpAny _ _ (call (Value.ref 154) [_, _, _, _] _) _ _ _); k_dflt (apply row_call; (case B => k_asm); (case F => k_asm); (case X => k_asm); (case N => k_asm); (case T => k_asm); (case hk => exact rfl); (case hd => ktr_room); k_whole); intro x' d' h' tk' k0' k1' k2' k3' F' N' l1 l2; (try k_lt l1); (try k_lt2 l2); (try k_sweep); (revert x' d' h' tk' k0' k1' k2' k3' F' N' l1 l2; intros)))
  (k_with "storeName" => (k_here; k_dflt (apply stXF; (case F => k_asm); (case N => k_asm); (case hk => rfl); (case hx => rfl); k_whole); intro mmX; intro _ _ _; (try k_sweep)))
  (k_with "execs cons" => (k_here; (try dsimp only); (refine execsF ?_); intro qkX))
  (k_with "execs cons" => (k_here; (try dsimp only); (with_reducible show wpAny _ _ _ _ _ (Shared.mk _ _ _ (_ + _) _)); (refine toksF ?_); intro tkX; (refine execsF ?_); intro qkX))
  (k_with "lt" => (first | with_reducible assumption | (apply And.left; first | with_reducible assumption | (apply And.right; first | with_reducible assumption | (apply And.right; first | with_reducible assumption | (apply And.right; first | with_reducible assumption | (apply And.right; first | with_reducible assumption | (apply And.right; first | with_reducible assumption | (apply And.right; first | with_reducible assumption | (apply And.right; first | with_reducible assumption | (apply And.right; first | with_reducible assumption | (apply And.right; first | with_reducible assumption | (apply And.right; first | with_reducible assumption | (apply And.right; first | with_reducible assumption | (apply And.right; first | with_reducible assumption | (apply And.right; first | with_reducible assumption | (apply And.right; first | with_reducible assumption | (apply And.right; with_reducible assumption))))))))))))))))))
  (k_with "ne" => (first | (refine Nat.ne_of_gt ?_; k_extra "lt") | (refine Nat.ne_of_lt ?_; k_extra "lt") | (refine Nat.ne_of_gt ?_; apply Nat.lt_trans; rotate_left; (with_reducible assumption); k_extra "lt") | (refine Nat.ne_of_lt ?_; apply Nat.lt_trans; rotate_left; (with_reducible assumption); k_extra "lt")))
  trivial
theorem SeenRep.init {t : Tok} : SeenRep [(0, .str (Str.ofString "0") t)] [0] := ⟨rfl, fun k => by
  rw [va_cons]
  by_cases h : k = 0
  · subst h; exact ⟨fun _ => ⟨t, rfl⟩, fun hn => absurd (.head _) hn⟩
  · refine ⟨fun hm => absurd (List.mem_singleton.mp hm) h, fun _ => ?_⟩
    rw [if_neg (fun e => h e.symm)]; rfl⟩
theorem dRun_succ {ws : List Int} {i : Nat} {x : Int} (h : ws[i]? = some x) : dRun (ws.take (i + 1)) = dStep (dRun (ws.take i)) x := by
  unfold dRun
  rw [List.take_add_one, h]
  simp
theorem ltr_len (n : Nat) : (ltr n).length = 1 := by
  match n with
  | 0 => decide +kernel
  | 1 => decide +kernel
  | 2 => decide +kernel
  | n + 3 => show (Str.ofString "z").length = 1; decide +kernel
theorem dRun_len' : ∀ (ws : List Int) (p : List Int × Str), 1 ≤ p.1.length → 1 ≤ (ws.foldl dStep p).1.length ∧ (ws.foldl dStep p).1.length ≤ p.1.length + ws.length ∧ (ws.foldl dStep p).2.length = p.2.length + ws.length
  | [], p, h => ⟨h, Nat.le_refl _, rfl⟩
  | x :: ws, p, h => by
    have h1 : 1 ≤ (dStep p x).1.length ∧ (dStep p x).1.length ≤ p.1.length + 1 := by
      unfold dStep dSeen
      dsimp only
      split <;> simp <;> omega
    have h2 : (dStep p x).2.length = p.2.length + 1 := by
      unfold dStep
      rw [Str.length_append, ltr_len]
    have ih := dRun_len' ws (dStep p x) h1.1
    rw [List.foldl_cons, List.length_cons]
    refine ⟨ih.1, ?_, ?_⟩
    · have := ih.2.1; omega
    · rw [ih.2.2, h2]; omega
theorem dRun_len (ws : List Int) : 1 ≤ (dRun ws).1.length ∧ (dRun ws).1.length ≤ 1 + ws.length ∧ (dRun ws).2.length = 0 + ws.length := dRun_len' ws _ (Nat.le_refl _)

theorem va_same {kvs : List (Int × Value)} {x : Int} {v : Value} : valueAt (stored kvs x v) x = some v := by rw [valueAt_stored, if_pos rfl]
theorem ltr_item {n : Nat} (h1 : 1 ≤ n) (h2 : n ≤ 3) : PySem.Txt.item (Str.ofString "xyz") ((n : Int) - 1) = ltr n := by
  rcases (by omega : n = 1 ∨ n = 2 ∨ n = 3) with rfl | rfl | rfl <;> decide +kernel
theorem s_add {prog : Program} {w : World} {A : Around} {E : Value → Shared → Prop} {s : Shared} {x y : Str} {t u : Tok} {Q : Value → Shared → Prop} (hz : x.length + y.length ≤ 1000) (h : ∀ t' k, Q (.str (x ++ y) t') { s with toks := k }) : wpAny (model prog w) A (binaryOp .Add (.str x t) (.str y u)) Q E s :=
  KXadd.add (Nat.le_refl _) (Nat.le_refl _) (by omega) fun t' k _ => h t' k
theorem d_len {prog : Program} {w : World} {K : Type} [DecidableEq K] {knd : KeyKind prog w K} {A : Around} {E : Value → Shared → Prop} {s : Shared} {h₀ : Heap} {L d : Addr} {news : List (Addr × Obj)} {kvs : List (K × Value)} {o : Obj} {Q : Value → Shared → Prop} (N : News h₀ L s.heap news) (hm : (d, o) ∈ news) (hD : o.IsDictOf knd kvs) (lo : (d == sysModules) = false) (hz : kvs.length ≤ 1000)
    (h : ∀ t t', Q (.int (kvs.length : Nat) t) { s with toks := t' }) : wpAny (model prog w) A (call (.builtin "len") [.ref d]) Q E s :=
  call_len_dict lo (d_at N hm hD) (by omega) (h _ _)
theorem lines_M17_1 : True := by
  (k_with "exec Assign" => (k_here; (with_reducible show wpAny _ _ (exec (Stmt.Assign [Expr.Tuple _ _ _] _ _) _) _ _ _); k_dflt (first | refine Assign_Tuple ?_ (hs := by kernel_rfl!) (hw := by kernel_rfl!) | refine Assign_Tuple_swapped (names := [Str.ofString "seen", Str.ofString "sign"]) ?_ (hs := by kernel_rfl!) (hw := by kernel_rfl!))))
  (k_with "subscriptTail" => (k_here; (with_reducible show wpAny _ _ (subscriptTail _ _ (Value.ref _) (Value.str _ _)) _ _ _); k_dflt (apply d_item (knd := strKind _ _) (hkey := (str_key _ _)); (case N => k_asm); (case hm => k_mem); (case hD => assumption); (case hv => first | assumption | exact rfl); (case hs => with_unfolding_all rfl); k_whole)))
  (k_with "subscriptTail" => (k_here; (with_reducible show wpAny _ _ (subscriptTail _ _ (Value.ref _) (Value.int _ _)) _ _ _); k_dflt (apply d_item (knd := intKind _ _) (hkey := (int_key _ _)); (case N => k_asm); (case hm => k_mem); (case hD => assumption); (case hv => first | assumption | exact rfl); (case hs => with_unfolding_all rfl); k_whole)))
  (k_with "compareOp In" => (k_here; (with_reducible show wpAny _ _ (compareOp CmpOp.In (Value.int _ _) (Value.ref _)) _ _ _); k_dflt (apply d_inB (knd := intKind _ _) (hkey := (int_key _ _)); (case N => k_asm); (case hm => k_mem); (case hD => assumption); (case lo => assumption); (case hb => first | assumption | exact rfl); k_whole)))
  (k_with "compareOp NotIn" => (k_here; (with_reducible show wpAny _ _ (compareOp CmpOp.NotIn (Value.int _ _) (Value.ref _)) _ _ _); k_dflt (apply d_notIn (knd := intKind _ _) (hkey := (int_key _ _)); (case N => k_asm); (case hm => k_mem); (case hD => assumption); (case lo => assumption); (case hb => first | assumption | exact rfl); k_whole)))
  (k_with "call builtin:dict.get" => (k_here; (with_reducible show wpAny _ _ (call (Value.builtin _) [Value.ref _, Value.int _ _, _]) _ _ _); k_dflt (apply d_get2B (knd := intKind _ _) (hkey := (int_key _ _)); (case N => k_asm); (case hm => k_mem); (case hD => assumption); (case lo => assumption); (case hv => first | assumption | exact rfl); k_whole)))
  (k_with "setItem" => (k_here; (with_reducible show wpAny _ _ (setItem (Value.ref _) (Value.str _ _) _) _ _ _); k_dflt (apply d_set (knd := strKind _ _) (hkey := (str_key _ _)); (case F => k_asm); (case N => k_asm); (case U => k_updF); (case hD => assumption); (case hz => first | assumption | decide | (simp; done)); k_whole); intro h' o' F' N' D'; (try dsimp only at N'); (try simp (decide := true) [stored] at D'); (try k_sweep); (revert h' o' F' N' D'; intros)))
  (k_with "setItem" => (k_here; (with_reducible show wpAny _ _ (setItem (Value.ref _) (Value.int _ _) _) _ _ _); k_dflt (apply d_set (knd := intKind _ _) (hkey := (int_key _ _)); (case F => k_asm); (case N => k_asm); (case U => k_updF); (case hD => assumption); (case hz => first | assumption | decide | (simp; done)); k_whole); intro h' o' F' N' D'; (try dsimp only at N'); (try k_sweep); (revert h' o' F' N' D'; intros)))
  (k_with "delItem" => (k_here; (with_reducible show wpAny _ _ (delItem (Value.ref _) (Value.int _ _)) _ _ _); k_dflt (apply d_del (knd := intKind _ _) (hkey := (int_key _ _)); (case F => k_asm); (case N => k_asm); (case U => k_updF); (case hD => assumption); (case hl => assumption); (case hz => first | assumption | decide | (simp; done)); k_whole); intro h' o' F' N' D'; (try dsimp only at N'); (try k_sweep); (revert h' o' F' N' D'; intros)))
  (k_with "getMethod ref" => (k_here; (with_reducible show wpAny _ _ (getMethod (Value.ref _) (PySem.Str.ofString "get") _) _ _ _); k_dflt (apply t_getMethod; (case N => k_asm); (case hm => k_mem); (case hD => assumption); k_whole)))
  (k_with "call builtin:len" => (k_here; (with_reducible show wpAny _ _ (call (Value.builtin "len") [Value.ref _]) _ _ _); k_dflt (apply l_len; (case N => k_asm); (case hm => k_mem); (case hz => (simp only [List.size_toArray, List.length_map]; omega)); k_whole)))
  (k_with "compareOp In" => (k_here; (with_reducible show wpAny _ _ (compareOp CmpOp.In (Value.ref _) (Value.ref _)) _ _ _); k_dflt (apply t_in; (case N => k_asm); (case hm => k_mem); (case hD => assumption); (case hK => exact KeysIn.mono (by assumption) (by intro p hp; repeat (first | exact hp | refine List.Mem.tail _ ?_))); (case hq => k_mem); (case ht => exact tupO2); (case hu => ktr_units); (case lo => assumption); (case hb => assumption); k_whole)))
  (k_with "compareOp NotIn" => (k_here; (with_reducible show wpAny _ _ (compareOp CmpOp.NotIn (Value.ref _) (Value.ref _)) _ _ _); k_dflt (apply t_notIn; (case N => k_asm); (case hm => k_mem); (case hD => assumption); (case hK => exact KeysIn.mono (by assumption) (by intro p hp; repeat (first | exact hp | refine List.Mem.tail _ ?_))); (case hq => k_mem); (case ht => exact tupO2); (case hu => ktr_units); (case lo => assumption); (case hb => assumption); k_whole)))
  (k_with "call builtin:dict.get" => (k_here; (with_reducible show wpAny _ _ (call (Value.builtin _) [Value.ref _, Value.ref _, _]) _ _ _); k_dflt (apply t_get2; (case N => k_asm); (case hm => k_mem); (case hD => assumption); (case hK => exact KeysIn.mono (by assumption) (by intro p hp; repeat (first | exact hp | refine List.Mem.tail _ ?_))); (case hq => k_mem); (case ht => exact tupO2); (case hu => ktr_units); (case lo => assumption); (case hv => first | assumption | exact rfl); k_whole)))
  (k_with "setItem" => (k_here; (with_reducible show wpAny _ _ (setItem (Value.ref _) (Value.ref _) _) _ _ _); k_dflt (apply t_set; (case F => k_asm); (case N => k_asm); (case U => k_updF); (case hD => assumption); (case hK => exact KeysIn.mono (by assumption) (by intro p hp; repeat (first | exact hp | refine List.Mem.tail _ ?_))); (case hq => k_mem); (case ht => exact tupO2); (case hu => ktr_units); (case hz => assumption); k_whole); intro h' o' F' N' D'; (try dsimp only at N'); (try k_sweep); (revert h' o' F' N' D'; intros)))
  (k_with "delItem" => (k_here; (with_reducible show wpAny _ _ (delItem (Value.ref _) (Value.ref _)) _ _ _); k_dflt (apply t_del; (case F => k_asm); (case N => k_asm); (case U => k_updF); (case hD => assumption); (case hK => exact KeysIn.mono (by assumption) (by intro p hp; repeat (first | exact hp | refine List.Mem.tail _ ?_))); (case hq => k_mem); (case ht => exact tupO2); (case hu => ktr_units); (case hl => assumption); (case hz => assumption); k_whole); intro h' o' F' N' D'; (try dsimp only at N'); (try k_sweep); (revert h' o' F' N' D'; intros)))
  (k_with "eval Dict" => (k_here; k_dflt (refine' kdn_str ?q ?F ?N ?b ?a ?l ?e ?n ?_; (case q => rfl); (case F => k_asm); (case N => first | k_asm | exact News.nil); (case b => exact Top.nolimit (by k_asm)); (case a => rfl); (case l => rfl); (case e => exact List.cons_ne_nil _ _); (case n => exact Nat.le_of_ble_eq_true rfl)); intro d' h' o' F' N' l1 lo' hd'; (try k_lt l1); (revert d' h' o' F' N' l1 lo' hd'; intros)))
  (k_with "eval Call" => (k_here; (with_reducible show wpAny _ _ (eval (Expr.Call (Expr.Name _ _) _ [] _) _) _ _ _); k_dflt (refine Call_ ?_)))
  (k_with "call ref" => (k_here; (with_reducible show wpAny _ _ (call (Value.ref 410) _ _) _ _ _); (with_reducible refine stop_mk ?_)))
  (k_with "binaryOp Add str str" => (k_here; (with_reducible show wpAny _ _ (binaryOp Operator.Add (Value.str _ _) (Value.str _ _)) _ _ _); k_dflt (apply s_add; (case hz => first | assumption | (rw [ltr_len]; omega)); k_whole); intro t9 k9))
  (k_with "call builtin:len" => (k_here; (with_reducible show wpAny _ _ (call (Value.builtin "len") [Value.ref _]) _ _ _); k_dflt (apply d_len (knd := intKind _ _); (case N => k_asm); (case hm => k_mem); (case hD => assumption); (case lo => assumption); (case hz => omega); k_whole); intro t9 k9))
  (k_with "subscriptTail" => (k_here; (with_reducible show wpAny _ _ (subscriptTail _ _ (Value.ref _) (Value.int _ _)) _ _ _); k_dflt (apply d_item (knd := intKind _ _) (hkey := (int_key _ _)); (case N => k_asm); (case hm => k_mem); (case hD => assumption); (case hv => first | assumption | exact va_same); (case hs => with_unfolding_all rfl); k_whole)))
  (k_with "exec For Name Tuple cons nil" => (k_here; (with_reducible refine stop_mk ?_)))
  (k_with "pyIter ref" => (k_here; (with_reducible refine stop_mk ?_)))
  trivial
theorem c_due_true {w : World} {mean : ExcName → Option Value} {mg mb : Str → Option Value} (o c f : Int) (t1 t2 t3 : Tok) :
    Con w mean mg mb 424 [.int o t1, .int c t2, .int f t3, .bool true] 3 [] (fun _ => True) (fun h v h' => ∃ q t u, v = .ref q ∧ h.get? q = none ∧ h'.get? q = some (tupII (changeCost o c f + 2100) t (refundOf o c f) u)) := by
  unfold Con
  k_fill
  intro dp un gd cn cs a ccd cells outer A₀ base h₀ L m s Q E B F X N T hk hpre hd hu hret
  refine wpAny_call ?_
  k_dflt (refine' enterHF ?k1_q ?k2_q ?k3_q ?k4_q ?k5_q ?kA_q ?kF_q ?kK_q ?k6_q ?k7_q ?k8_q ?k9_q ?kB_q ?_ ?c2_q ?c3_q ?c4_q ?c5_q; (case kA_q => exact rfl); (case kF_q => exact rfl); (case kK_q => assumption); (case k1_q => k_asm); (case k2_q => k_asm); (case k3_q => k_asm); (case k4_q => k_asm); (case k5_q => k_asm); (case k6_q => k_is); (case k7_q => k_is); (case k8_q => ktr_room); (case k9_q => exact BindsTo.of_eq rfl); (case c5_q => decide); (case kB_q => exact locs rfl); (case c2_q => exact rfl); (case c3_q => exact rfl); (case c4_q => exact rfl); k_whole; intro g' L' h' evX AX mmX gSX dSX oSX FG' F' N' B' X' T' hg' hL'; (try dsimp only); (try k_fold))
  k_steps
  refine stop_out ?_
  refine' For_turns ?F1_q ?G1_q ?S1_q ?E1_q
  case F1_q => k_asm
  case E1_q => passes_own
  case S1_q => intro _; rfl
  case G1_q =>
  k_steps
  refine stop_out ?_
  rename_i D _ _ _ l1
  rename Obj.IsDictOf _ _ _ => hd9
  rename (h'.objs.size == sysModules) = false => lo9
  refine' lp_tup (J := fun m0 i m nw => ∃ oS kvs tS, nw = [(D, { cls := .type "tuple", data := .seq [Value.int o t1, .int c t2, .int f t3].toArray 0 }), (h'.objs.size, oS)] ∧ oS.IsDictOf (intKind PP w) kvs ∧ SeenRep kvs (dRun ([o, c, f].take i)).1 ∧
    Agree [Str.ofString "sign", Str.ofString "word"] m m0 ∧ m (Str.ofString "sign") = some (.str (dRun ([o, c, f].take i)).2 tS)) (n := 0) (dd := none) (sl := #[]) (vs := [Value.int o t1, .int c t2, .int f t3]) ?hh1_q ?F1_q ?N1_q ?J1_q ?K1_q ?step1_q ?done1_q
  case hh1_q => rfl
  case F1_q => k_asm
  case J1_q => exact ⟨_, _, _, rfl, hd9, SeenRep.init, Agree.refl, rfl⟩
  case N1_q => exact News.perm (by assumption) (by ((try unfold StA.led StA.lits); (try dsimp only [List.cons_append, List.nil_append]); repeat (first | (refine List.forall_mem_cons.mpr ⟨?_, ?_⟩; focus (show _ ∈ _; k_dflt k_mem)) | (intro p hp; repeat (first | exact hp | refine List.Mem.tail _ ?_)))))
  case K1_q => rintro i m nw ⟨oS, kvs, tS, rfl, _⟩; exact .head _
  case step1_q =>
    rintro I i v m1 nw h1 tk1 io hv ⟨oS, kvs, tS, rfl, hD, hR, hA, hm⟩ hn F1 N1
    obtain ⟨x, tx, rfl, hx⟩ : ∃ x tx, v = .int x tx ∧ [o, c, f][i]? = some x := by
      rcases i with _ | _ | _ | i
      · exact ⟨o, t1, (Option.some.inj hv).symm, rfl⟩
      · exact ⟨c, t2, (Option.some.inj hv).symm, rfl⟩
      · exact ⟨f, t3, (Option.some.inj hv).symm, rfl⟩
      · simp at hv
    rw [dRun_succ hx]
    have hl := dRun_len ([o, c, f].take i)
    have hi3 : i < 3 := by
      have := (List.getElem?_eq_some_iff.mp hx).1
      simpa using this
    rw [List.length_take] at hl
    simp only [List.length_cons, List.length_nil] at hl
    generalize dRun ([o, c, f].take i) = P at *
    show let GX : Prop := _; GX
    intro GX
    obtain ⟨us, uw, e1, e2, e3⟩ := hA.eta2
    k_unfold
    clear GX
    rw [hm] at e1
    subst e1
    clear e2 hm hA
    subst e3
    have n1 : Ne' D I := hn _ (.head _)
    have n2 : Ne' h'.objs.size I := hn _ (.tail _ (.head _))
    have hb1 : 1 ≤ kvs.length := by rw [hR.1]; exact hl.1
    have hb3 : kvs.length ≤ 3 := by rw [hR.1]; omega
    by_cases hxs : x ∈ P.1
    · obtain ⟨t9, e9⟩ := (hR.2 x).1 hxs
      have e8 : (valueAt kvs x).isSome = true := by rw [e9]; rfl
      k_sweep
      k_steps
      have hs1 : dStep P x = (P.1, P.2 ++ ltr (P.1.idxOf x)) := by unfold dStep dSeen; rw [if_pos hxs]
      rw [hs1]
      exact LPost.mk [(D, _), (h'.objs.size, oS)] (by assumption) (by assumption) (by k_mem) (by intro p hp; repeat (first | exact hp | refine List.Mem.tail _ ?_)) (List.forall_mem_cons.mpr ⟨n1, List.forall_mem_cons.mpr ⟨n2, List.forall_mem_nil _⟩⟩)
        ⟨oS, kvs, _, rfl, hD, hR, by repeat (first | exact Agree.refl | refine Agree.set (by decide) ?_), rfl⟩
    · have e8 : (valueAt kvs x).isSome = false := by rw [(hR.2 x).2 hxs]; rfl
      have hit := ltr_item hb1 hb3
      have hz2 : P.2.length + (PySem.Txt.item (Str.ofString "xyz") ((kvs.length : Int) - 1)).length ≤ 1000 := by rw [hit, ltr_len]; omega
      have kvz : kvs.length ≤ 1000 := by omega
      k_sweep
      k_steps
      have hs1 : dStep P x = (P.1 ++ [x], P.2 ++ ltr P.1.length) := by
        unfold dStep dSeen
        rw [if_neg hxs, List.idxOf_append, if_neg hxs]
        simp
      rename Obj.IsDictOf _ _ (stored _ _ _) => hD2
      rw [hs1]
      rw [hit, hR.1] at hD2
      rename Fr _ _ _ _ => F2
      try dsimp only [mmX] at F2
      rw [hit, hR.1] at F2
      exact LPost.mk [(D, _), (h'.objs.size, _)] F2 (by assumption) (by k_mem) (by intro p hp; repeat (first | exact hp | refine List.Mem.tail _ ?_)) (List.forall_mem_cons.mpr ⟨n1, List.forall_mem_cons.mpr ⟨n2, List.forall_mem_nil _⟩⟩)
        ⟨_, _, _, rfl, hD2, hR.add hxs, by repeat (first | exact Agree.refl | refine Agree.set (by decide) ?_), rfl⟩
  case done1_q =>
    rintro h1 tk1 m1 nw F1 N1 ⟨oS, kvs, tS, rfl, hD, hR, hA, hm⟩
    have hl := dRun_len [o, c, f]
    show let GX : Prop := _; GX
    intro GX
    obtain ⟨e, he, hs1, hs2, hs3⟩ := due_sign o c f
    k_unfold
    clear GX
    replace hm : m1 (Str.ofString "sign") = some (.str (dRun [o, c, f]).2 tS) := hm
    rw [hs1] at hm
    show let GX : Prop := _; GX
    intro GX
    obtain ⟨us, uw, e1, e2, e3⟩ := hA.eta2
    k_unfold
    clear GX
    rw [hm] at e1
    subst e1
    clear e2 hm hA
    subst e3
    k_sweep
    k_steps
    refine stop_out ?_
    refine' Con.useG c_table [(D, _), (h'.objs.size, oS)] ?kB_q ?kF_q ?kX_q ?kN_q ?kO_q ?kT_q ?kh_q trivial ?kd_q ?ku_q ?kk_q
    case kB_q => k_asm
    case kF_q => k_asm
    case kX_q => k_asm
    case kT_q => k_asm
    case kN_q => k_asm
    case kO_q => exact fun _ _ _ h => nomatch h
    case kh_q => exact rfl
    case kd_q => ktr_room
    case ku_q => ktr_units
    case kk_q =>
      rintro v5 h5 tk5 ⟨d, od, kd, led, rfl, hmd, hsat, hgr, hdd, hent⟩ F5 N5 k5
      show let GX : Prop := _; GX
      intro GX
      obtain ⟨ae, te, ue, hve, hme⟩ := hent e he
      k_unfold
      clear GX
      obtain ⟨Nl, _⟩ := k5 led hsat hgr
      have N6 := Nl.perm (news' := [(d, od), (ae, tupII e.2.1 te e.2.2 ue)]) (List.forall_mem_cons.mpr ⟨hmd, List.forall_mem_cons.mpr ⟨hme, List.forall_mem_nil _⟩⟩)
      clear N5 k5 Nl
      rw [hs2, hs3] at N6
      k_sweep
      k_steps
      exact hret _ _ _ (by assumption) (keeps_end hg' (by assumption)) ⟨_, _, _, rfl, fresh_of hg' (by assumption) (.head _), News.get (by assumption) (.head _)⟩

theorem c_due_false {w : World} {mean : ExcName → Option Value} {mg mb : Str → Option Value} (o c f : Int) (t1 t2 t3 : Tok) :
    Con w mean mg mb 424 [.int o t1, .int c t2, .int f t3, .bool false] 3 [] (fun _ => True) (fun h v h' => ∃ q t u, v = .ref q ∧ h.get? q = none ∧ h'.get? q = some (tupII (changeCost o c f) t (refundOf o c f) u)) := by
  unfold Con
  k_fill
  intro dp un gd cn cs a ccd cells outer A₀ base h₀ L m s Q E B F X N T hk hpre hd hu hret
  refine wpAny_call ?_
  k_dflt (refine' enterHF ?k1_q ?k2_q ?k3_q ?k4_q ?k5_q ?kA_q ?kF_q ?kK_q ?k6_q ?k7_q ?k8_q ?k9_q ?kB_q ?_ ?c2_q ?c3_q ?c4_q ?c5_q; (case kA_q => exact rfl); (case kF_q => exact rfl); (case kK_q => assumption); (case k1_q => k_asm); (case k2_q => k_asm); (case k3_q => k_asm); (case k4_q => k_asm); (case k5_q => k_asm); (case k6_q => k_is); (case k7_q => k_is); (case k8_q => ktr_room); (case k9_q => exact BindsTo.of_eq rfl); (case c5_q => decide); (case kB_q => exact locs rfl); (case c2_q => exact rfl); (case c3_q => exact rfl); (case c4_q => exact rfl); k_whole; intro g' L' h' evX AX mmX gSX dSX oSX FG' F' N' B' X' T' hg' hL'; (try dsimp only); (try k_fold))
  k_steps
  refine stop_out ?_
  refine' For_turns ?F1_q ?G1_q ?S1_q ?E1_q
  case F1_q => k_asm
  case E1_q => passes_own
  case S1_q => intro _; rfl
  case G1_q =>
  k_steps
  refine stop_out ?_
  rename_i D _ _ _ l1
  rename Obj.IsDictOf _ _ _ => hd9
  rename (h'.objs.size == sysModules) = false => lo9
  refine' lp_tup (J := fun m0 i m nw => ∃ oS kvs tS, nw = [(D, { cls := .type "tuple", data := .seq [Value.int o t1, .int c t2, .int f t3].toArray 0 }), (h'.objs.size, oS)] ∧ oS.IsDictOf (intKind PP w) kvs ∧ SeenRep kvs (dRun ([o, c, f].take i)).1 ∧
    Agree [Str.ofString "sign", Str.ofString "word"] m m0 ∧ m (Str.ofString "sign") = some (.str (dRun ([o, c, f].take i)).2 tS)) (n := 0) (dd := none) (sl := #[]) (vs := [Value.int o t1, .int c t2, .int f t3]) ?hh1_q ?F1_q ?N1_q ?J1_q ?K1_q ?step1_q ?done1_q
  case hh1_q => rfl
  case F1_q => k_asm
  case J1_q => exact ⟨_, _, _, rfl, hd9, SeenRep.init, Agree.refl, rfl⟩
  case N1_q => exact News.perm (by assumption) (by ((try unfold StA.led StA.lits); (try dsimp only [List.cons_append, List.nil_append]); repeat (first | (refine List.forall_mem_cons.mpr ⟨?_, ?_⟩; focus (show _ ∈ _; k_dflt k_mem)) | (intro p hp; repeat (first | exact hp | refine List.Mem.tail _ ?_)))))
  case K1_q => rintro i m nw ⟨oS, kvs, tS, rfl, _⟩; exact .head _
  case step1_q =>
    rintro I i v m1 nw h1 tk1 io hv ⟨oS, kvs, tS, rfl, hD, hR, hA, hm⟩ hn F1 N1
    obtain ⟨x, tx, rfl, hx⟩ : ∃ x tx, v = .int x tx ∧ [o, c, f][i]? = some x := by
      rcases i with _ | _ | _ | i
      · exact ⟨o, t1, (Option.some.inj hv).symm, rfl⟩
      · exact ⟨c, t2, (Option.some.inj hv).symm, rfl⟩
      · exact ⟨f, t3, (Option.some.inj hv).symm, rfl⟩
      · simp at hv
    rw [dRun_succ hx]
    have hl := dRun_len ([o, c, f].take i)
    have hi3 : i < 3 := by
      have := (List.getElem?_eq_some_iff.mp hx).1
      simpa using this
    rw [List.length_take] at hl
    simp only [List.length_cons, List.length_nil] at hl
    generalize dRun ([o, c, f].take i) = P at *
    show let GX : Prop := _; GX
    intro GX
    obtain ⟨us, uw, e1, e2, e3⟩ := hA.eta2
    k_unfold
    clear GX
    rw [hm] at e1
    subst e1
    clear e2 hm hA
    subst e3
    have n1 : Ne' D I := hn _ (.head _)
    have n2 : Ne' h'.objs.size I := hn _ (.tail _ (.head _))
    have hb1 : 1 ≤ kvs.length := by rw [hR.1]; exact hl.1
    have hb3 : kvs.length ≤ 3 := by rw [hR.1]; omega
    by_cases hxs : x ∈ P.1
    · obtain ⟨t9, e9⟩ := (hR.2 x).1 hxs
      have e8 : (valueAt kvs x).isSome = true := by rw [e9]; rfl
      k_sweep
      k_steps
      have hs1 : dStep P x = (P.1, P.2 ++ ltr (P.1.idxOf x)) := by unfold dStep dSeen; rw [if_pos hxs]
      rw [hs1]
      exact LPost.mk [(D, _), (h'.objs.size, oS)] (by assumption) (by assumption) (by k_mem) (by intro p hp; repeat (first | exact hp | refine List.Mem.tail _ ?_)) (List.forall_mem_cons.mpr ⟨n1, List.forall_mem_cons.mpr ⟨n2, List.forall_mem_nil _⟩⟩)
        ⟨oS, kvs, _, rfl, hD, hR, by repeat (first | exact Agree.refl | refine Agree.set (by decide) ?_), rfl⟩
    · have e8 : (valueAt kvs x).isSome = false := by rw [(hR.2 x).2 hxs]; rfl
      have hit := ltr_item hb1 hb3
      have hz2 : P.2.length + (PySem.Txt.item (Str.ofString "xyz") ((kvs.length : Int) - 1)).length ≤ 1000 := by rw [hit, ltr_len]; omega
      have kvz : kvs.length ≤ 1000 := by omega
      k_sweep
      k_steps
      have hs1 : dStep P x = (P.1 ++ [x], P.2 ++ ltr P.1.length) := by
        unfold dStep dSeen
        rw [if_neg hxs, List.idxOf_append, if_neg hxs]
        simp
      rename Obj.IsDictOf _ _ (stored _ _ _) => hD2
      rw [hs1]
      rw [hit, hR.1] at hD2
      rename Fr _ _ _ _ => F2
      try dsimp only [mmX] at F2
      rw [hit, hR.1] at F2
      exact LPost.mk [(D, _), (h'.objs.size, _)] F2 (by assumption) (by k_mem) (by intro p hp; repeat (first | exact hp | refine List.Mem.tail _ ?_)) (List.forall_mem_cons.mpr ⟨n1, List.forall_mem_cons.mpr ⟨n2, List.forall_mem_nil _⟩⟩)
        ⟨_, _, _, rfl, hD2, hR.add hxs, by repeat (first | exact Agree.refl | refine Agree.set (by decide) ?_), rfl⟩
  case done1_q =>
    rintro h1 tk1 m1 nw F1 N1 ⟨oS, kvs, tS, rfl, hD, hR, hA, hm⟩
    have hl := dRun_len [o, c, f]
    show let GX : Prop := _; GX
    intro GX
    obtain ⟨e, he, hs1, hs2, hs3⟩ := due_sign o c f
    k_unfold
    clear GX
    replace hm : m1 (Str.ofString "sign") = some (.str (dRun [o, c, f]).2 tS) := hm
    rw [hs1] at hm
    show let GX : Prop := _; GX
    intro GX
    obtain ⟨us, uw, e1, e2, e3⟩ := hA.eta2
    k_unfold
    clear GX
    rw [hm] at e1
    subst e1
    clear e2 hm hA
    subst e3
    k_sweep
    k_steps
    refine stop_out ?_
    refine' Con.useG c_table [(D, _), (h'.objs.size, oS)] ?kB_q ?kF_q ?kX_q ?kN_q ?kO_q ?kT_q ?kh_q trivial ?kd_q ?ku_q ?kk_q
    case kB_q => k_asm
    case kF_q => k_asm
    case kX_q => k_asm
    case kT_q => k_asm
    case kN_q => k_asm
    case kO_q => exact fun _ _ _ h => nomatch h
    case kh_q => exact rfl
    case kd_q => ktr_room
    case ku_q => ktr_units
    case kk_q =>
      rintro v5 h5 tk5 ⟨d, od, kd, led, rfl, hmd, hsat, hgr, hdd, hent⟩ F5 N5 k5
      show let GX : Prop := _; GX
      intro GX
      obtain ⟨ae, te, ue, hve, hme⟩ := hent e he
      k_unfold
      clear GX
      obtain ⟨Nl, _⟩ := k5 led hsat hgr
      have N6 := Nl.perm (news' := [(d, od), (ae, tupII e.2.1 te e.2.2 ue)]) (List.forall_mem_cons.mpr ⟨hmd, List.forall_mem_cons.mpr ⟨hme, List.forall_mem_nil _⟩⟩)
      clear N5 k5 Nl
      rw [hs2, hs3] at N6
      k_sweep
      k_steps
      exact hret _ _ _ (by assumption) (keeps_end hg' (by assumption)) ⟨_, _, _, rfl, fresh_of hg' (by assumption) (.head _), News.get (by assumption) (.head _)⟩


noncomputable def dueCost (o c f : Int) (b : Bool) : Int := changeCost o c f + if b then 2100 else 0
theorem c_due {w : World} {mean : ExcName → Option Value} {mg mb : Str → Option Value} (o c f : Int) (t1 t2 t3 : Tok) (b : Bool) : Con w mean mg mb 424 [.int o t1, .int c t2, .int f t3, .bool b] 3 [] (fun _ => True)
    (fun h v h' => ∃ q t u, v = .ref q ∧ h.get? q = none ∧ h'.get? q = some (tupII (dueCost o c f b) t (refundOf o c f) u)) := by
  cases b with
  | true => exact c_due_true o c f t1 t2 t3
  | false =>
    refine (c_due_false o c f t1 t2 t3).mono (fun _ h => h) fun h v h' hh => ?_
    have : dueCost o c f false = changeCost o c f := by simp [dueCost]
    rw [this]; exact hh
theorem c_cost {w : World} {mean : ExcName → Option Value} {mg mb : Str → Option Value} (o c f : Int) (t1 t2 t3 : Tok) (b : Bool) : Con w mean mg mb 88 [.int o t1, .int c t2, .int f t3, .bool b] 2 [] (fun _ => True)
    (fun h v h' => ∃ q t u, v = .ref q ∧ h.get? q = none ∧ h'.get? q = some (tupII (dueCost o c f b) t (refundOf o c f) u)) := by
  cases b with
  | true => exact c_cost_true o c f t1 t2 t3
  | false => exact c_cost_false o c f t1 t2 t3
end Mine
end
section
open PySem PySem.W PyProof.Rows PySem.Calls PySem.Spec
namespace Mine
/-- a step that stands: a slot, the word put (none: read) -/
noncomputable abbrev Stp := Int × Option Int
noncomputable def optV : Option Int → Tok → Value
  | none, _ => .none
  | some x, t => .int x t
noncomputable def stepO (p : Stp) (t u : Tok) : Obj := { cls := .type "tuple", data := .seq #[.int p.1 t, optV p.2 u] }
/-- a dict of the two slots' words -/
noncomputable def HeldRep (s1 s2 : Int) (kvs : List (Int × Value)) (σ : Int → Int) : Prop := ∃ t1 t2, kvs = [(s1, .int (σ s1) t1), (s2, .int (σ s2) t2)]
theorem HeldRep.at {s1 s2 : Int} {kvs : List (Int × Value)} {σ : Int → Int} (h : HeldRep s1 s2 kvs σ) {x : Int} (hx : x = s1 ∨ x = s2) : ∃ t, valueAt kvs x = some (.int (σ x) t) := by
  obtain ⟨t1, t2, rfl⟩ := h
  by_cases e : s1 = x
  · subst e; exact ⟨t1, by rw [va_cons, if_pos rfl]⟩
  · rcases hx with rfl | rfl
    · exact absurd rfl e
    · exact ⟨t2, by rw [va_cons, if_neg e, va_cons, if_pos rfl]⟩
theorem HeldRep.put {s1 s2 : Int} {kvs : List (Int × Value)} {σ : Int → Int} (h : HeldRep s1 s2 kvs σ) (hne : s1 ≠ s2) {x f : Int} {t : Tok} (hx : x = s1 ∨ x = s2) : HeldRep s1 s2 (stored kvs x (.int f t)) (upd σ x f) := by
  obtain ⟨t1, t2, rfl⟩ := h
  have hne' : s2 ≠ s1 := fun e => hne e.symm
  rcases hx with rfl | rfl
  · exact ⟨t, t2, by simp [stored, upd, hne']⟩
  · exact ⟨t1, t, by simp [stored, upd, hne]⟩
theorem HeldRep.len {s1 s2 : Int} {kvs : List (Int × Value)} {σ : Int → Int} (h : HeldRep s1 s2 kvs σ) : kvs.length ≤ 1000 := by
  obtain ⟨t1, t2, rfl⟩ := h; simp
theorem flat_int {v : Value} {x : Int} (h0 : Heap) (h : PyProof.V.Flat v (.int x)) : ∃ t, v = .int x t := by
  have := h h0
  cases this
  exact ⟨_, rfl⟩
theorem HeldRep.flat (h0 : Heap) {s1 s2 : Int} {kvs : List (Int × Value)} {σ : Int → Int} (h : PyProof.V.FlatPairs PyData.int kvs [(.int s1, .int (σ s1)), (.int s2, .int (σ s2))]) : HeldRep s1 s2 kvs σ := by
  cases h with
  | cons h1 h2 => cases h2 with
    | cons h3 h4 =>
      cases h4
      obtain ⟨t1, rfl⟩ := flat_int h0 h1
      obtain ⟨t2, rfl⟩ := flat_int h0 h3
      exact ⟨_, _, rfl⟩
theorem HeldRep.toFlat {s1 s2 : Int} {kvs : List (Int × Value)} {σ : Int → Int} (h : HeldRep s1 s2 kvs σ) : PyProof.V.FlatPairs PyData.int kvs [(.int s1, .int (σ s1)), (.int s2, .int (σ s2))] := by
  obtain ⟨t1, t2, rfl⟩ := h
  exact .cons (.int _ _) (.cons (.int _ _) .nil)
/-- a list's items are objects of the ledger -/
noncomputable def ObjsIn {α : Type} (R : α → Obj → Prop) (led : List (Addr × Obj)) (vs : List Value) (xs : List α) : Prop := vs.length = xs.length ∧ ∀ (i : Nat) (x : α), xs[i]? = some x → ∃ (a : Addr) (o : Obj), vs[i]? = some (Value.ref a) ∧ (a, o) ∈ led ∧ R x o
theorem ObjsIn.nil {α : Type} {R : α → Obj → Prop} {led : List (Addr × Obj)} : ObjsIn R led [] [] := ⟨rfl, fun _ _ h => by simp at h⟩
theorem ObjsIn.mono {α : Type} {R : α → Obj → Prop} {led led' : List (Addr × Obj)} {vs : List Value} {xs : List α} (h : ObjsIn R led vs xs) (hs : ∀ p ∈ led, p ∈ led') : ObjsIn R led' vs xs :=
  ⟨h.1, fun i x hx => by obtain ⟨a, o, e, m, r⟩ := h.2 i x hx; exact ⟨a, o, e, hs _ m, r⟩⟩
theorem ObjsIn.snoc {α : Type} {R : α → Obj → Prop} {led : List (Addr × Obj)} {vs : List Value} {xs : List α} (h : ObjsIn R led vs xs) {x : α} {a : Addr} {o : Obj} (hm : (a, o) ∈ led) (r : R x o) : ObjsIn R led (vs ++ [.ref a]) (xs ++ [x]) := by
  refine ⟨by rw [List.length_append, List.length_append, h.1]; rfl, fun i y hy => ?_⟩
  by_cases hi : i < xs.length
  · rw [List.getElem?_append_left hi] at hy
    obtain ⟨b, ob, e, m, ry⟩ := h.2 i y hy
    exact ⟨b, ob, by rw [List.getElem?_append_left (by rw [h.1]; exact hi)]; exact e, m, ry⟩
  · have hi2 : i = xs.length := by
      have := (List.getElem?_eq_some_iff.mp hy).1
      rw [List.length_append] at this
      simp at this; omega
    subst hi2
    rw [List.getElem?_concat_length] at hy
    cases hy
    exact ⟨a, o, by rw [← h.1, List.getElem?_concat_length], hm, r⟩
theorem ObjsIn.at {α : Type} {R : α → Obj → Prop} {led : List (Addr × Obj)} {vs : List Value} {xs : List α} (h : ObjsIn R led vs xs) {i : Nat} {v : Value} (hv : vs[i]? = some v) : ∃ x a o, xs[i]? = some x ∧ v = .ref a ∧ (a, o) ∈ led ∧ R x o := by
  have hi : i < xs.length := by rw [← h.1]; exact (List.getElem?_eq_some_iff.mp hv).1
  obtain ⟨a, o, e, m, r⟩ := h.2 i xs[i] (by simp [hi])
  rw [hv] at e
  cases e
  exact ⟨xs[i], a, o, by simp [hi], rfl, m, r⟩
set_option genInjectivity false in
set_option genSizeOfSpec false in
set_option genSizeOf false in
/-- what _law_walked reckons -/
structure WK where
  held : Int → Int
  pairs : List (Int × Int)
  come : List Int
noncomputable def wstep (fst : Int → Int) (k : WK) : Stp → WK
  | (sl, none) => ⟨k.held, k.pairs ++ [((if sl ∈ k.come then 100 else 2100), 0)], k.come ++ [sl]⟩
  | (sl, some f) => ⟨upd k.held sl f, k.pairs ++ [(dueCost (fst sl) (k.held sl) f (!decide (sl ∈ k.come)), refundOf (fst sl) (k.held sl) f)], k.come ++ [sl]⟩
noncomputable def walked (fst : Int → Int) (st : List Stp) : WK := st.foldl (wstep fst) ⟨fst, [], []⟩
theorem walked_succ {fst : Int → Int} {st : List Stp} {i : Nat} {p : Stp} (h : st[i]? = some p) : walked fst (st.take (i + 1)) = wstep fst (walked fst (st.take i)) p := by
  unfold walked
  rw [List.take_add_one, h]
  simp
theorem walked_len' {fst : Int → Int} : ∀ (st : List Stp) (k : WK), (st.foldl (wstep fst) k).pairs.length = k.pairs.length + st.length ∧ (st.foldl (wstep fst) k).come.length = k.come.length + st.length
  | [], k => ⟨rfl, rfl⟩
  | p :: st, k => by
    have h : (wstep fst k p).pairs.length = k.pairs.length + 1 ∧ (wstep fst k p).come.length = k.come.length + 1 := by
      obtain ⟨sl, fr⟩ := p
      cases fr <;> simp [wstep]
    have ih := walked_len' (fst := fst) st (wstep fst k p)
    rw [List.foldl_cons, List.length_cons, ih.1, ih.2, h.1, h.2]
    omega
theorem walked_len (fst : Int → Int) (st : List Stp) : (walked fst st).pairs.length = st.length ∧ (walked fst st).come.length = st.length := by
  have := walked_len' (fst := fst) st ⟨fst, [], []⟩
  simpa [walked] using this
theorem news_one {g h : Heap} {L : Addr} {p : Addr × Obj} {news : List (Addr × Obj)} (N : News g L h news) (hm : p ∈ news) : News g L h (p :: news) := N.perm fun q hq => by
  rcases List.mem_cons.mp hq with rfl | hq
  · exact hm
  · exact hq
noncomputable def pairR (p : Int × Int) (o : Obj) : Prop := ∃ t u, o = tupII p.1 t p.2 u
noncomputable def stepR (p : Stp) (o : Obj) : Prop := ∃ t u, o = stepO p t u
/-- _law_walked's answer -/
noncomputable def WOut (w : World) (s1 s2 : Int) (k : WK) (v : Value) (led : List (Addr × Obj)) : Prop :=
  ∃ q hd oH kvH pl pv np cl cv nc, v = .ref q ∧ (q, ({ cls := .type "tuple", data := .seq #[.ref hd, .ref pl, .ref cl] } : Obj)) ∈ led ∧ (hd, oH) ∈ led ∧ (pl, listOf pv.toArray np) ∈ led ∧ (cl, listOf cv.toArray nc) ∈ led ∧
    oH.IsDictOf (intKind PP w) kvH ∧ (hd == sysModules) = false ∧ HeldRep s1 s2 kvH k.held ∧ ObjsIn pairR led pv k.pairs ∧ IntsAre cv k.come
section
variable {prog : Program} {w : World} {A : Around} {E : Value → Shared → Prop} {s : Shared} {h₀ : Heap} {L l : Addr} {m : Str → Option Value} {news : List (Addr × Obj)}
theorem Con.useT {mean : ExcName → Option Value} {mg mb : Str → Option Value} {f : Addr} {vs : List Value} {d : Nat} {Pre : Heap → Prop} {c r : Int} (C : Con w mean mg mb f vs d [] Pre (fun h v h' => ∃ q t u, v = .ref q ∧ h.get? q = none ∧ h'.get? q = some (tupII c t r u)))
    {dp un : Nat} {gd : Option (List Code)} {cn : Str} {cs : Scope} {a : Addr} {ccd : Value} {cl : List (Str × Addr)} {outer : List Env} {A₀ : Around} {base : Heap} {Q : Value → Shared → Prop}
    (B : Below A₀ base outer h₀) (F : Fr h₀ L s.heap m) (X : (hd.heap_39 w.params).In h₀) (N : News h₀ L s.heap news) (T : Top hd.view_39 (looseW hd.view_39 []) mean mg mb h₀) (hk : cs.kind = .function)
    (hp : Pre s.heap) (h1 : dp + d < recursionLimit) (h2 : un + 8 * d < cLine)
    (k : ∀ q t u h' tk', Fr h₀ L h' m → News h₀ L h' ((q, tupII c t r u) :: news) → (∀ p ∈ news, p.1 ≠ q) → Q (.ref q) { s with heap := h', toks := tk' }) :
    wpAny (model PySem.Challenge.rw_pq0405_01.row.prog w) (ktrTop dp un gd cn cs L a ccd cl outer) (call (.ref f) vs) Q E s :=
  C.useG news B F X (by rw [List.append_nil]; exact N) (fun _ _ _ h => nomatch h) T hk hp h1 h2 fun v h' tk' P' F' N' k' => by
    obtain ⟨q, t, u, rfl, hn, hq⟩ := P'
    obtain ⟨n1, _⟩ := k' [(q, tupII c t r u)] (fun p hp => by rw [List.mem_singleton.mp hp]; exact hq) (fun p hp => by rw [List.mem_singleton.mp hp]; exact .inr hn)
    exact k q t u h' tk' F' (n1.append N') fun p hp e => by have := (N p hp).1; rw [e, hn] at this; cases this
theorem li_any {k : Int} : ∀ {ns : List Int}, (ns.any (· == k)) = decide (k ∈ ns)
  | [] => by simp
  | n :: ns => by
    rw [List.any_cons, li_any]
    by_cases h : n = k
    · simp [h]
    · have : ¬ (k = n) := fun e => h e.symm
      simp [h, this]
theorem li_notIn {vs : List Value} {ns : List Int} {n : Nat} {k : Int} {t : Tok} {b : Bool} {Q : Value → Shared → Prop} (N : News h₀ L s.heap news) (hm : (l, listOf vs.toArray n) ∈ news) (hi : IntsAre vs ns) (hb : (!decide (k ∈ ns)) = b) (h : Q (.bool b) s) :
    wpAny (model prog w) A (compareOp .NotIn (.int k t) (.ref l)) Q E s := notin_list_ints (News.isList N hm) hi (by rw [li_any, hb]; exact h)
theorem li_in {vs : List Value} {ns : List Int} {n : Nat} {k : Int} {t : Tok} {b : Bool} {Q : Value → Shared → Prop} (N : News h₀ L s.heap news) (hm : (l, listOf vs.toArray n) ∈ news) (hi : IntsAre vs ns) (hb : decide (k ∈ ns) = b) (h : Q (.bool b) s) :
    wpAny (model prog w) A (compareOp .In (.int k t) (.ref l)) Q E s := in_list_ints (News.isList N hm) hi (by rw [li_any, hb]; exact h)
theorem l_append {vs : List Value} {n : Nat} {x : Value} {g : Obj → List (Addr × Obj)} {Q : Value → Shared → Prop} (F : Fr h₀ L s.heap m) (N : News h₀ L s.heap news) (U : UpdF l (listOf vs.toArray n) news g) (hz : vs.length ≤ 1000)
    (h : ∀ h', Fr h₀ L h' m → News h₀ L h' (g (listOf (vs ++ [x]).toArray (n + 1))) → Q .none { s with heap := h' }) : wpAny (model prog w) A (call (.builtin "list.append") [.ref l, x]) Q E s := by
  obtain ⟨pre, post, rfl, hg, a, b⟩ := U.split
  have z := N (l, listOf vs.toArray n) (List.mem_append.mpr (.inr (.head _)))
  refine append_at (hsz := by rw [List.size_toArray, sizeLine_eq]; omega) z.1 fun h' hs ho' => h h' (F.change hs z.2.1 z.2.2) ?_
  rw [hg]
  refine news_set N a b hs ?_
  simpa using ho'
theorem dict_copy2 {src : Addr} {s1 s2 : Int} {kvs : List (Int × Value)} {o : Obj} {σ : Int → Int} {Q : Value → Shared → Prop} (F : Fr h₀ L s.heap m) (N : News h₀ L s.heap news) (hbig : h₀.NoLimit) (hm : (src, o) ∈ news) (hD : o.IsDictOf (intKind prog w) kvs) (hR : HeldRep s1 s2 kvs σ) (lo : (src == sysModules) = false)
    (k : ∀ d h' o' kvs', Fr h₀ L h' m → News h₀ L h' ((d, o') :: news) → (∀ p ∈ news, p.1 < d) → (d == sysModules) = false → o'.IsDictOf (intKind prog w) kvs' → HeldRep s1 s2 kvs' σ → Q (.ref d) { s with heap := h' }) :
    wpAny (model prog w) A (call (.type "dict") [.ref src]) Q E s :=
  kt_dict_K (knd := intKind prog w) (enc := PyData.int) F N hbig ⟨lo, kvs, d_at N hm hD, hR.toFlat⟩ (by rw [sizeLine_eq]; simp) fun d h' o' kvs' F' N' lt lo' hD' hf => k d h' o' kvs' F' N' lt lo' hD' (.flat h' hf)
end
end Mine
end
section
open PySem PySem.W PyProof.Rows PySem.Calls PySem.Spec
namespace Mine
theorem ints_of : ∀ {vs : List Value} {ns : List Int}, vs.length = ns.length → (∀ (j : Nat) (v : Value), vs[j]? = some v → ∃ k, ns[j]? = some k ∧ ∃ t, v = .int k t) → IntsAre vs ns
  | [], [], _, _ => .nil
  | [], _ :: _, h, _ => by simp at h
  | _ :: _, [], h, _ => by simp at h
  | v :: vs, n :: ns, h, hv => by
    obtain ⟨k, hk, t, rfl⟩ := hv 0 v rfl
    simp only [List.getElem?_cons_zero, Option.some.injEq] at hk
    subst hk
    exact .cons n t (ints_of (by simpa using h) fun j u hu => by simpa using hv (j + 1) u (by simpa using hu))
theorem ints_nil {vs : List Value} (h : IntsAre vs []) : vs = [] := by cases h; rfl
theorem ints_one {vs : List Value} {a : Int} (h : IntsAre vs [a]) : ∃ t, vs = [.int a t] := by
  cases h with
  | cons _ t h => cases h; exact ⟨t, rfl⟩
theorem ints_two {vs : List Value} {a b : Int} (h : IntsAre vs [a, b]) : ∃ t u, vs = [.int a t, .int b u] := by
  cases h with
  | cons _ t h => cases h with
    | cons _ u h => cases h; exact ⟨t, u, rfl⟩
theorem isT_nil {prog : Program} {w : World} {o : Obj} (h : o.IsDictOf (intKind prog w) []) : IsT prog w o [] := by
  obtain ⟨es, ep, a, b, _, c, _⟩ := h
  refine ⟨es, ep, a, b, ?_, List.nodup_nil⟩
  cases e : es.toList with
  | nil => rfl
  | cons x r => rw [e] at c; cases c
section
variable {prog : Program} {w : World} {A : Around} {E : Value → Shared → Prop} {s : Shared} {h₀ : Heap} {L d : Addr} {m : Str → Option Value} {news : List (Addr × Obj)}
/-- the keys of a dict of ints, sorted, where they lie in order -/
theorem d_sorted {kvs : List (Int × Value)} {o : Obj} {Q : Value → Shared → Prop} (hh : A.handled = none) (F : Fr h₀ L s.heap m) (N : News h₀ L s.heap news) (hm : (d, o) ∈ news) (hD : o.IsDictOf (intKind prog w) kvs) (lo : (d == sysModules) = false) (hz : kvs.length < 64)
    (hs : (kvs.map (·.1)).Pairwise (· ≤ ·))
    (h : ∀ D h' tk vs n, Fr h₀ L h' m → News h₀ L h' ((D, listOf vs.toArray n) :: news) → (∀ p ∈ news, p.1 < D) → IntsAre vs (kvs.map (·.1)) → Q (.ref D) { s with heap := h', toks := tk }) :
    wpAny (model prog w) A (call (.builtin "sorted") [.ref d]) Q E s := by
  obtain ⟨ep, hat⟩ := (d_at N hm hD).dictAt
  refine kdu_sorted (kdl_dict (knd := intKind prog w) (kvs := kvs) (ep := ep) lo) hh F N hat (by rw [sizeLine_eq]; omega) fun D h' tk vs F' N' l1 hl hv => ?_
  have hI : IntsAre vs (kvs.map (·.1)) := ints_of (by rw [hl, List.length_map]) fun j v hj => by
    obtain ⟨k, x, hx, hk⟩ := hv j v hj
    obtain ⟨t, rfl⟩ := Value.isInt_shape hk
    exact ⟨k, by rw [List.getElem?_map, hx]; rfl, t, rfl⟩
  have z := N' _ (.head _)
  refine wpAny_call_entry PyProof.Rows.slot_list_sort ⟨_, z.1, rfl⟩ PyProof.Rows.entry_list_sort (list_sort_tree (n := 0) (vs := vs) z.1 hI (by omega) fun out ns' hI' hp hP => ⟨.none, rfl, ?_⟩) (PyProof.Rows.args_list_sort _)
  have e : ns' = kvs.map (·.1) := lks_uniq hp hP hs
  subst e
  obtain ⟨n, hn⟩ := sortedHeap_at (out := out) z.1
  have old : ∀ b ob, b ≠ D → h'.get? b = some ob → (sortedHeap h' D vs out).get? b = some ob := fun b ob hb e => (sortedHeap_old hb (Heap.lt_size e)).trans e
  have F2 : Fr h₀ L (sortedHeap h' D vs out) m := ⟨F'.ns.at' fun ob e => old L ob (Ne.symm z.2.1) e, fun b ob e => old b ob (fun q => by rw [q, z.2.2] at e; cases e) (F'.keep b ob e), F'.above⟩
  refine h D _ tk out.toList n F2 (fun p hp => ?_) l1 hI'
  rcases List.mem_cons.mp hp with rfl | hp
  · exact ⟨hn, z.2⟩
  · have zp := N' p (.tail _ hp)
    exact ⟨old _ _ (Nat.ne_of_lt (l1 p hp)) zp.1, zp.2⟩
end
end Mine
end
section
open PySem PySem.W PyProof.Rows PySem.Calls
namespace Mine
theorem fresh_M19 : True := by
  w_top off
  trivial
theorem lines_M19_0 : True := by
  k_with_none
  (k_with "g_ktr_room" => (first | exact Nat.le_of_ble_eq_true rfl | exact roomF 0 (by assumption) rfl rfl | exact roomF 1 (by assumption) rfl rfl | exact roomF 2 (by assumption) rfl rfl | exact roomF 3 (by assumption) rfl rfl | exact roomF 4 (by assumption) rfl rfl))
  (k_with "g_ktr_units" => (first | exact Nat.le_of_ble_eq_true rfl | exact unitF 3 (by assumption) rfl rfl | exact unitG 3 (by assumption) rfl rfl | exact unitG 6 (by assumption) rfl rfl | exact unitF 6 (by assumption) rfl rfl | exact unitF 7 (by assumption) rfl rfl | exact unitF 4 (by assumption) rfl rfl | exact unitF 5 (by assumption) rfl rfl | exact unitF 8 (by assumption) rfl rfl | exact unitF 9 (by assumption) rfl rfl | exact unitF 10 (by assumption) rfl rfl | exact unitF 11 (by assumption) rfl rfl | exact unitF 12 (by assumption) rfl rfl | exact unitF 13 (by assumption) rfl rfl | exact unitF 14 (by assumption) rfl rfl | exact unitF 15 (by assumption) rfl rfl | exact unitF 0 (by assumption) rfl rfl | exact unitF 1 (by assumption) rfl rfl | exact unitF 2 (by assumption) rfl rfl))
  (k_with "g_k_ne" => ((refine neN ?_; (try dsimp only); first | exact Ne'.o (by with_reducible assumption) | exact Ne'.s (by with_reducible assumption) | k_extra "ne")))
  (k_with "g_k_all" => (first | exact OwnOff.ne (by with_reducible assumption) (by k_mem) | exact allLt_ne (by assumption)))
  (k_with "g_size_fits" => ((simp only [List.size_toArray, List.length_map, List.length_append, List.length_cons, List.length_nil, Array.size_push]; (first | done | (rw [sizeLine_eq]; omega)))))
  (k_with "g_ent" => (apply code_defF; (case hA => exact rfl); (case hf => exact rfl); (case hke => exact rfl); (case B => k_asm); (case F => k_asm); (case X₀ => k_asm); (case N => k_asm); (case T => k_asm); (case ho => k_is); (case hcd => k_is); (case hroom => k_room); (case hbind => first | exact BindsTo.of_eq rfl | exact binds_K (by k_in) rfl (by k_is) rfl rfl rfl | fail "no rule for these arguments"); (case hcell => decide); (case hloc => exact locs rfl); (case hco => exact rfl); (case hgen => exact rfl); (case hk => exact rfl); k_whole; intro _ _ _ evX AX mmX _ _ _ _ _ _; (try dsimp only); (try k_fold)))
  (k_with "call ref" => (k_here; k_dflt (first
    | (apply call_cls0; (case F => k_asm); (case X₀ => k_asm); (case N => k_asm); (case hm => k_is); (case hi => k_is); k_whole; intro x' d' h' F' N' l1 l2; (try k_lt l1); (try k_lt2 l2); (try k_sweep); (revert x' d' h' F' N' l1 l2; intros))
    | (apply call_cls; (case F => k_asm); (case X₀ => k_asm); (case N => k_asm); (case hm => k_is); (case hi => k_is); (case hf => k_is); k_whole; intro x' d' h' F' N' l1 l2; (try k_lt l1); (try k_lt2 l2); (try k_sweep); (revert x' d' h' F' N' l1 l2; intros); k_extra "g_ent")
    | (apply call_meth; (case N => k_asm); (case hq => k_mem); k_whole; k_extra "g_ent")
    | (refine wpAny_call ?_; k_extra "g_ent"))))
  (k_with "call ref" => (k_here; (with_reducible show wpAny _ _ (call (Value.ref 154) [_, _, _, _] _) _ _ _); k_dflt (apply row_call; (case B => k_asm); (case F => k_asm); (case X => k_asm); (case N => k_asm); (case T => k_asm); (case hk => exact rfl); (case hd => ktr_room); k_whole); intro x' d' h' tk' k0' k1' k2' k3' F' N' l1 l2; (try k_lt l1); (try k_lt2 l2); (try k_sweep); (revert x' d' h' tk' k0' k1' k2' k3' F' N' l1 l2; intros)))
  (k_with "storeName" => (k_here; k_dflt (apply stXF; (case F => k_asm); (case N => k_asm); (case hk => rfl); (case hx => rfl); k_whole); intro mmX; intro _ _ _; (try k_sweep)))
  (k_with "execs cons" => (k_here; (try dsimp only); (refine execsF ?_); intro qkX))
  (k_with "execs cons" => (k_here; (try dsimp only); (with_reducible show wpAny _ _ _ _ _ (Shared.mk _ _ _ (_ + _) _)); (refine toksF ?_); intro tkX; (refine execsF ?_); intro qkX))
  (k_with "lt" => (first | with_reducible assumption | (apply And.left; first | with_reducible assumption | (apply And.right; first | with_reducible assumption | (apply And.right; first | with_reducible assumption | (apply And.right; first | with_reducible assumption | (apply And.right; first | with_reducible assumption | (apply And.right; first | with_reducible assumption | (apply And.right; first | with_reducible assumption | (apply And.right; first | with_reducible assumption | (apply And.right; first | with_reducible assumption | (apply And.right; first | with_reducible assumption | (apply And.right; first | with_reducible assumption | (apply And.right; first | with_reducible assumption | (apply And.right; first | with_reducible assumption | (apply And.right; first | with_reducible assumption | (apply And.right; first | with_reducible assumption | (apply And.right; with_reducible assumption))))))))))))))))))
  (k_with "ne" => (first | (refine Nat.ne_of_gt ?_; k_extra "lt") | (refine Nat.ne_of_lt ?_; k_extra "lt") | (refine Nat.ne_of_gt ?_; apply Nat.lt_trans; rotate_left; (with_reducible assumption); k_extra "lt") | (refine Nat.ne_of_lt ?_; apply Nat.lt_trans; rotate_left; (with_reducible assumption); k_extra "lt")))
  (k_with "subscriptTail" => (k_here; (with_reducible show wpAny _ _ (subscriptTail _ _ (Value.ref _) (Value.str _ _)) _ _ _); k_dflt (apply d_item (knd := strKind _ _) (hkey := (str_key _ _)); (case N => k_asm); (case hm => k_mem); (case hD => assumption); (case hv => first | assumption | exact rfl); (case hs => with_unfolding_all rfl); k_whole)))
  (k_with "subscriptTail" => (k_here; (with_reducible show wpAny _ _ (subscriptTail _ _ (Value.ref _) (Value.int _ _)) _ _ _); k_dflt (apply d_item (knd := intKind _ _) (hkey := (int_key _ _)); (case N => k_asm); (case hm => k_mem); (case hD => assumption); (case hv => first | assumption | exact rfl); (case hs => with_unfolding_all rfl); k_whole)))
  (k_with "compareOp In" => (k_here; (with_reducible show wpAny _ _ (compareOp CmpOp.In (Value.int _ _) (Value.ref _)) _ _ _); k_dflt (apply d_inB (knd := intKind _ _) (hkey := (int_key _ _)); (case N => k_asm); (case hm => k_mem); (case hD => assumption); (case lo => assumption); (case hb => first | assumption | exact rfl); k_whole)))
  (k_with "compareOp NotIn" => (k_here; (with_reducible show wpAny _ _ (compareOp CmpOp.NotIn (Value.int _ _) (Value.ref _)) _ _ _); k_dflt (apply d_notIn (knd := intKind _ _) (hkey := (int_key _ _)); (case N => k_asm); (case hm => k_mem); (case hD => assumption); (case lo => assumption); (case hb => first | assumption | exact rfl); k_whole)))
  (k_with "call builtin:dict.get" => (k_here; (with_reducible show wpAny _ _ (call (Value.builtin _) [Value.ref _, Value.int _ _, _]) _ _ _); k_dflt (apply d_get2B (knd := intKind _ _) (hkey := (int_key _ _)); (case N => k_asm); (case hm => k_mem); (case hD => assumption); (case lo => assumption); (case hv => first | assumption | exact rfl); k_whole)))
  (k_with "setItem" => (k_here; (with_reducible show wpAny _ _ (setItem (Value.ref _) (Value.str _ _) _) _ _ _); k_dflt (apply d_set (knd := strKind _ _) (hkey := (str_key _ _)); (case F => k_asm); (case N => k_asm); (case U => k_updF); (case hD => assumption); (case hz => first | assumption | decide | (simp; done)); k_whole); intro h' o' F' N' D'; (try dsimp only at N'); (try simp (decide := true) [stored] at D'); (try k_sweep); (revert h' o' F' N' D'; intros)))
  (k_with "setItem" => (k_here; (with_reducible show wpAny _ _ (setItem (Value.ref _) (Value.int _ _) _) _ _ _); k_dflt (apply d_set (knd := intKind _ _) (hkey := (int_key _ _)); (case F => k_asm); (case N => k_asm); (case U => k_updF); (case hD => assumption); (case hz => first | assumption | decide | (simp; done)); k_whole); intro h' o' F' N' D'; (try dsimp only at N'); (try k_sweep); (revert h' o' F' N' D'; intros)))
  (k_with "delItem" => (k_here; (with_reducible show wpAny _ _ (delItem (Value.ref _) (Value.int _ _)) _ _ _); k_dflt (apply d_del (knd := intKind _ _) (hkey := (int_key _ _)); (case F => k_asm); (case N => k_asm); (case U => k_updF); (case hD => assumption); (case hl => assumption); (case hz => first | assumption | decide | (simp; done)); k_whole); intro h' o' F' N' D'; (try dsimp only at N'); (try k_sweep); (revert h' o' F' N' D'; intros)))
  (k_with "getMethod ref" => (k_here; (with_reducible show wpAny _ _ (getMethod (Value.ref _) (PySem.Str.ofString "get") _) _ _ _); k_dflt (apply t_getMethod; (case N => k_asm); (case hm => k_mem); (case hD => assumption); k_whole)))
  (k_with "call builtin:len" => (k_here; (with_reducible show wpAny _ _ (call (Value.builtin "len") [Value.ref _]) _ _ _); k_dflt (apply l_len; (case N => k_asm); (case hm => k_mem); (case hz => (simp only [List.size_toArray, List.length_map]; omega)); k_whole)))
  (k_with "compareOp In" => (k_here; (with_reducible show wpAny _ _ (compareOp CmpOp.In (Value.ref _) (Value.ref _)) _ _ _); k_dflt (apply t_in; (case N => k_asm); (case hm => k_mem); (case hD => assumption); (case hK => exact KeysIn.mono (by assumption) (by intro p hp; repeat (first | exact hp | refine List.Mem.tail _ ?_))); (case hq => k_mem); (case ht => exact tupO2); (case hu => ktr_units); (case lo => assumption); (case hb => assumption); k_whole)))
  (k_with "compareOp NotIn" => (k_here; (with_reducible show wpAny _ _ (compareOp CmpOp.NotIn (Value.ref _) (Value.ref _)) _ _ _); k_dflt (apply t_notIn; (case N => k_asm); (case hm => k_mem); (case hD => assumption); (case hK => exact KeysIn.mono (by assumption) (by intro p hp; repeat (first | exact hp | refine List.Mem.tail _ ?_))); (case hq => k_mem); (case ht => exact tupO2); (case hu => ktr_units); (case lo => assumption); (case hb => assumption); k_whole)))
  (k_with "call builtin:dict.get" => (k_here; (with_reducible show wpAny _ _ (call (Value.builtin _) [Value.ref _, Value.ref _, _]) _ _ _); k_dflt (apply t_get2; (case N => k_asm); (case hm => k_mem); (case hD => assumption); (case hK => exact KeysIn.mono (by assumption) (by intro p hp; repeat (first | exact hp | refine List.Mem.tail _ ?_))); (case hq => k_mem); (case ht => exact tupO2); (case hu => ktr_units); (case lo => assumption); (case hv => first | assumption | exact rfl); k_whole)))
  (k_with "setItem" => (k_here; (with_reducible show wpAny _ _ (setItem (Value.ref _) (Value.ref _) _) _ _ _); k_dflt (apply t_set; (case F => k_asm); (case N => k_asm); (case U => k_updF); (case hD => assumption); (case hK => exact KeysIn.mono (by assumption) (by intro p hp; repeat (first | exact hp | refine List.Mem.tail _ ?_))); (case hq => k_mem); (case ht => exact tupO2); (case hu => ktr_units); (case hz => assumption); k_whole); intro h' o' F' N' D'; (try dsimp only at N'); (try k_sweep); (revert h' o' F' N' D'; intros)))
  (k_with "delItem" => (k_here; (with_reducible show wpAny _ _ (delItem (Value.ref _) (Value.ref _)) _ _ _); k_dflt (apply t_del; (case F => k_asm); (case N => k_asm); (case U => k_updF); (case hD => assumption); (case hK => exact KeysIn.mono (by assumption) (by intro p hp; repeat (first | exact hp | refine List.Mem.tail _ ?_))); (case hq => k_mem); (case ht => exact tupO2); (case hu => ktr_units); (case hl => assumption); (case hz => assumption); k_whole); intro h' o' F' N' D'; (try dsimp only at N'); (try k_sweep); (revert h' o' F' N' D'; intros)))
  (k_with "eval Dict" => (k_here; k_dflt (refine' kdn_str ?q ?F ?N ?b ?a ?l ?e ?n ?_; (case q => rfl); (case F => k_asm); (case N => first | k_asm | exact News.nil); (case b => exact Top.nolimit (by k_asm)); (case a => rfl); (case l => rfl); (case e => exact List.cons_ne_nil _ _); (case n => exact Nat.le_of_ble_eq_true rfl)); intro d' h' o' F' N' l1 lo' hd'; (try k_lt l1); (revert d' h' o' F' N' l1 lo' hd'; intros)))
  (k_with "compareOp NotIn" => (k_here; (with_reducible show wpAny _ _ (compareOp CmpOp.NotIn (Value.int _ _) (Value.ref _)) _ _ _); k_dflt (apply li_notIn; (case N => k_asm); (case hm => k_mem); (case hi => assumption); (case hb => first | assumption | exact rfl); k_whole)))
  (k_with "compareOp In" => (k_here; (with_reducible show wpAny _ _ (compareOp CmpOp.In (Value.int _ _) (Value.ref _)) _ _ _); k_dflt (apply li_in; (case N => k_asm); (case hm => k_mem); (case hi => assumption); (case hb => first | assumption | exact rfl); k_whole)))
  (k_with "call builtin:list.append" => (k_here; (with_reducible show wpAny _ _ (call (Value.builtin _) [Value.ref _, _]) _ _ _); k_dflt (apply l_append; (case F => k_asm); (case N => k_asm); (case U => k_updF); (case hz => first | assumption | omega); k_whole); intro h' F' N'; (try dsimp only at N'); (revert h' F' N'; intros)))
  (k_with "call type:dict" => (k_here; (with_reducible show wpAny _ _ (call (Value.type "dict") [Value.ref _]) _ _ _); k_dflt (apply dict_copy2; (case F => k_asm); (case N => k_asm); (case hbig => exact Top.nolimit (by k_asm)); (case hm => k_mem); (case hD => assumption); (case hR => assumption); (case lo => assumption); k_whole); intro d' h' o' kvs' F' N' l1 lo' hd' hr'; (try k_lt l1); (revert d' h' o' kvs' F' N' l1 lo' hd' hr'; intros)))
  (k_with "compareOp NotIn int ref" => (k_here; (with_reducible show wpAny _ _ (compareOp CmpOp.NotIn (Value.int _ _) (Value.ref _)) _ _ _); k_dflt (apply li_notIn; (case N => k_asm); (case hm => k_mem); (case hi => assumption); (case hb => first | assumption | exact rfl); k_whole)))
  (k_with "compareOp In int ref" => (k_here; (with_reducible show wpAny _ _ (compareOp CmpOp.In (Value.int _ _) (Value.ref _)) _ _ _); k_dflt (apply li_in; (case N => k_asm); (case hm => k_mem); (case hi => assumption); (case hb => first | assumption | exact rfl); k_whole)))
  (k_with "eval Call" => (k_here; (with_reducible show wpAny _ _ (eval (Expr.Call (Expr.Name _ _) _ [] _) _) _ _ _); k_dflt (refine Call_ ?_)))
  (k_with "call builtin:sorted" => (k_here; (with_reducible show wpAny _ _ (call (Value.builtin "sorted") [Value.ref _]) _ _ _); k_dflt (apply d_sorted; (case hh => exact rfl); (case F => k_asm); (case N => k_asm); (case hm => k_mem); (case hD => assumption); (case lo => assumption); (case hz => first | decide | (simp; done)); (case hs => first | assumption | (simp; done)); k_whole); intro D' h' tk' vs' n' F' N' l1 hI'; (first | (k_dflt (have e1' := ints_nil hI'); subst e1'; clear hI') | (k_dflt (obtain ⟨t1', e1'⟩ := ints_one hI'); subst e1'; clear hI') | (k_dflt (obtain ⟨t1', t2', e1'⟩ := ints_two hI'); subst e1'; clear hI')); (try k_lt l1); (try k_sweep); ((first | revert D' h' tk' n' F' N' l1 t1' t2' | revert D' h' tk' n' F' N' l1 t1' | revert D' h' tk' n' F' N' l1); intros)))
  (k_with "exec For Name BinOp cons nil" => (k_here; (with_reducible refine stop_mk ?_)))
  (k_with "pyIter ref" => (k_here; (with_reducible refine stop_mk ?_)))
  trivial
theorem StAOK.lg {w : World} {home : Int} {P : StA} (h : StAOK w home P) (l : Addr) : StAOK w home { P with lg := l } := { h with }
theorem StCOK.lg {w : World} {home s1 s2 : Int} {fst : Int → Int} {P : StA} {C : StC} {S : SS} {J : List JR} {W : Int → Bool} (h : StCOK w home s1 s2 fst P C S J W) (l : Addr) : StCOK w home s1 s2 fst { P with lg := l } C S J W := { h with }

/-- what end and begin leave: the same accounts, all else new and empty -/
noncomputable def Clean (w : World) (home s1 s2 : Int) (fst σ : Int → Int) (st : Addr) (r : Int) (foot : List (Addr × Obj)) (h h' : Heap) : Prop :=
  ∃ (P : StA) (C : StC), P.st = st ∧ StAOK w home P ∧ StCOK w home s1 s2 fst P C ⟨σ, false, fun _ => false, r⟩ [] (fun _ => false) ∧ Sat h' (P.led w C r) ∧ Grows h foot (P.led w C r)
theorem c_end1 {w : World} {mean : ExcName → Option Value} {mg mb : Str → Option Value} {st dst acc ac dac sto jl tch des ws org wo lg : Addr} {oacc odes otch osto : Obj} {kS kA : Nat → Tok} {tn tb tc tr : Tok} {r home s1 s2 : Int} {fst σ : Int → Int} {kvs : List (Int × Value)} (nd : Apart [st, dst, acc, ac, dac, sto, tch, des]) (lo1 : (acc == sysModules) = false) (lo2 : (sto == sysModules) = false) (lo3 : (tch == sysModules) = false) (lo4 : (des == sysModules) = false) (hacc : oacc.IsDictOf (intKind PP w) [(home, .ref ac)]) (hdes : odes.IsDictOf (intKind PP w) []) (hsto : osto.IsDictOf (intKind PP w) kvs) (hkv : StoRep kvs σ) (hkn : ∀ p ∈ kvs, p.1 = s1 ∨ p.1 = s2) (htch : otch.IsDictOf (intKind PP w) [(home, .bool true)]) :
    Con w mean mg mb 396 [.ref st] 4 [(st, instObj 399 dst), (dst, sObj w kS acc jl tch des wo ws org lg r tr), (acc, oacc), (ac, instObj 112 dac), (dac, aObj w kA sto tn tb tc), (sto, osto), (tch, otch), (des, odes)] (fun _ => True) (fun h v h' => v = .none ∧ Clean w home s1 s2 fst σ st r [(st, instObj 399 dst), (dst, sObj w kS acc jl tch des wo ws org lg r tr), (acc, oacc), (ac, instObj 112 dac), (dac, aObj w kA sto tn tb tc), (sto, osto), (tch, otch), (des, odes)] h h') := by
  unfold Con
  k_fill
  intro dp un gd cn cs a ccd cells outer A₀ base h₀ L m s Q E B F X N T hk hpre hd hu hret
  refine wpAny_call ?_
  k_dflt (refine' enterHF ?k1_q ?k2_q ?k3_q ?k4_q ?k5_q ?kA_q ?kF_q ?kK_q ?k6_q ?k7_q ?k8_q ?k9_q ?kB_q ?_ ?c2_q ?c3_q ?c4_q ?c5_q; (case kA_q => exact rfl); (case kF_q => exact rfl); (case kK_q => assumption); (case k1_q => k_asm); (case k2_q => k_asm); (case k3_q => k_asm); (case k4_q => k_asm); (case k5_q => k_asm); (case k6_q => k_is); (case k7_q => k_is); (case k8_q => ktr_room); (case k9_q => exact BindsTo.of_eq rfl); (case c5_q => decide); (case kB_q => exact locs rfl); (case c2_q => exact rfl); (case c3_q => exact rfl); (case c4_q => exact rfl); k_whole; intro g' L' h' evX AX mmX gSX dSX oSX FG' F' N' B' X' T' hg' hL'; (try dsimp only); (try k_fold))
  refine apart8 nd fun n_st_dst n_st_acc n_st_ac n_st_dac n_st_sto n_st_tch n_st_des n_dst_acc n_dst_ac n_dst_dac n_dst_sto n_dst_tch n_dst_des n_acc_ac n_acc_dac n_acc_sto n_acc_tch n_acc_des n_ac_dac n_ac_sto n_ac_tch n_ac_des n_dac_sto n_dac_tch n_dac_des n_sto_tch n_sto_des n_tch_des => ?_
  have e1 : (valueAt [(home, Value.ref ac)] home).isSome = true := by simp [valueAt]
  have e2 : valueAt [(home, Value.ref ac)] home = some (Value.ref ac) := by simp [valueAt]
  have e3 : (valueAt ([] : List (Int × Value)) home).isSome = false := rfl
  k_steps
  refine stop_out ?_
  refine' For_turns ?F1_q ?G1_q ?S1_q ?E1_q
  case F1_q => k_asm
  case E1_q => passes_own
  case S1_q => intro _; rfl
  case G1_q =>
  k_steps
  refine stop_out ?_
  rename_i tt _ D _ _ _ _
  refine' lp_list (J := fun m0 i m nw => nw = [(D, listOf [Value.int home tt].toArray 0), (st, instObj 399 dst), (dst, sObj w kS acc jl tch des wo ws org lg r tr), (acc, oacc), (ac, instObj 112 dac), (dac, aObj w kA sto tn tb tc), (sto, osto), (tch, otch), (des, odes)] ∧ Agree [Str.ofString "address"] m m0) (vs := [Value.int home tt]) (n := 0) ?hh2_q ?F2_q ?N2_q ?J2_q ?K2_q ?step2_q ?done2_q
  case hh2_q => rfl
  case F2_q => k_asm
  case J2_q => exact ⟨rfl, Agree.refl⟩
  case K2_q => rintro i m nw ⟨rfl, _⟩; exact .head _
  case N2_q => exact News.perm (by assumption) (by ((try unfold StA.led StA.lits); (try dsimp only [List.cons_append, List.nil_append]); repeat (first | (refine List.forall_mem_cons.mpr ⟨?_, ?_⟩; focus (show _ ∈ _; k_dflt k_mem)) | (intro p hp; repeat (first | exact hp | refine List.Mem.tail _ ?_)))))
  case step2_q =>
    rintro I i v m1 nw h1 tk1 io hv ⟨rfl, hA⟩ hn F1 N1
    obtain ⟨u1, _, e9⟩ := hA.eta1
    clear hA
    subst e9
    cases i with
    | zero =>
      simp only [List.getElem?_cons_zero, Option.some.injEq] at hv
      subst hv
      k_sweep
      k_steps
      exact LPost.mk _ (by assumption) (by assumption) (by k_mem) (fun p hp => .tail _ hp) hn ⟨rfl, by repeat (first | exact Agree.refl | refine Agree.set (by decide) ?_)⟩
    | succ i => simp at hv
  case done2_q =>
    rintro h1 tk1 m1 nw F1 N1 ⟨rfl, hA⟩
    obtain ⟨u1, _, e9⟩ := hA.eta1
    clear hA
    subst e9
    k_sweep
    k_steps
    rename_i jl9 _ _ _ _ _ tch9 _ ot9 lo9a _ _ hi9a _ _ _ _ _ des9 _ od9 lo9b _ _ hi9b _ _ _ _ _ wo9 _ _ _ _ _ _ _ _ _ _ _ ws9 _ ow9 lo9d _ _ hi9d _ _ _ org9 _ oo9 lo9e _ _ hi9e _ _ _ F9 N9 _ _ _ _
    have nd9 : Apart [st, dst, acc, ac, dac, sto, jl9, tch9, des9, ws9, org9] := by
      simp only [Apart, AllNe]
      refine ⟨⟨?_, ?_, ?_, ?_, ?_, ?_, ?_, ?_, ?_, ?_, trivial⟩, ⟨?_, ?_, ?_, ?_, ?_, ?_, ?_, ?_, ?_, trivial⟩, ⟨?_, ?_, ?_, ?_, ?_, ?_, ?_, ?_, trivial⟩, ⟨?_, ?_, ?_, ?_, ?_, ?_, ?_, trivial⟩, ⟨?_, ?_, ?_, ?_, ?_, ?_, trivial⟩, ⟨?_, ?_, ?_, ?_, ?_, trivial⟩, ⟨?_, ?_, ?_, ?_, trivial⟩, ⟨?_, ?_, ?_, trivial⟩, ⟨?_, ?_, trivial⟩, ⟨?_, trivial⟩, trivial, trivial⟩ <;>
        first | (with_reducible assumption) | (show @Ne Nat _ _; first | k_extra "ne" | omega)
    have hA9 : StAOK w home ⟨st, dst, acc, ac, dac, sto, jl9, tch9, des9, ws9, org9, wo9, lg, oacc, od9, kS, kA, tn, tb, tc⟩ := ⟨nd9, lo1, lo2, lo9a, lo9b, lo9d, lo9e, hacc, hi9b⟩
    have hC9 : ∀ tr9 n9 r9, StCOK w home s1 s2 fst ⟨st, dst, acc, ac, dac, sto, jl9, tch9, des9, ws9, org9, wo9, lg, oacc, od9, kS, kA, tn, tb, tc⟩ ⟨osto, ot9, ow9, oo9, tr9, n9, #[], kvs, [], [], [], []⟩ ⟨σ, false, fun _ => false, r9⟩ [] (fun _ => false) := fun tr9 n9 r9 =>
      ⟨off_nil, hsto, hkv, hkn, hi9a, isT_nil hi9d, (fun _ h => nomatch h), (fun _ => rfl), (fun _ h => nomatch h), isT_nil hi9e, (fun _ h => nomatch h), (fun _ _ h => nomatch h), (fun _ h => nomatch h), (fun _ => rfl), rfl, rfl, (fun _ h => nomatch h)⟩
    refine' hret _ _ _ ?F8_q (keeps_end hg' ?K8_q) ⟨rfl, _, _, rfl, hA9, hC9 _ _ _, sat_sub N9 ?S8_q, grows_of hg' N9 ?S9_q⟩
    case F8_q => k_asm
    case K8_q => k_asm
    case S8_q => ((try unfold StA.led StA.lits); (try dsimp only [List.cons_append, List.nil_append]); repeat (first | (refine List.forall_mem_cons.mpr ⟨?_, ?_⟩; focus (show _ ∈ _; k_dflt k_mem)) | (intro p hp; repeat (first | exact hp | refine List.Mem.tail _ ?_))))
    case S9_q => ((try unfold StA.led StA.lits); (try dsimp only [List.cons_append, List.nil_append]); repeat (first | (refine List.forall_mem_cons.mpr ⟨?_, ?_⟩; focus (show _ ∈ _; k_dflt k_mem)) | (intro p hp; repeat (first | exact hp | refine List.Mem.tail _ ?_))))

theorem c_end0 {w : World} {mean : ExcName → Option Value} {mg mb : Str → Option Value} {st dst acc ac dac sto jl tch des ws org wo lg : Addr} {oacc odes otch osto : Obj} {kS kA : Nat → Tok} {tn tb tc tr : Tok} {r home s1 s2 : Int} {fst σ : Int → Int} {kvs : List (Int × Value)} (nd : Apart [st, dst, acc, ac, dac, sto, tch, des]) (lo1 : (acc == sysModules) = false) (lo2 : (sto == sysModules) = false) (lo3 : (tch == sysModules) = false) (lo4 : (des == sysModules) = false) (hacc : oacc.IsDictOf (intKind PP w) [(home, .ref ac)]) (hdes : odes.IsDictOf (intKind PP w) []) (hsto : osto.IsDictOf (intKind PP w) kvs) (hkv : StoRep kvs σ) (hkn : ∀ p ∈ kvs, p.1 = s1 ∨ p.1 = s2) (htch : otch.IsDictOf (intKind PP w) []) :
    Con w mean mg mb 396 [.ref st] 4 [(st, instObj 399 dst), (dst, sObj w kS acc jl tch des wo ws org lg r tr), (acc, oacc), (ac, instObj 112 dac), (dac, aObj w kA sto tn tb tc), (sto, osto), (tch, otch), (des, odes)] (fun _ => True) (fun h v h' => v = .none ∧ Clean w home s1 s2 fst σ st r [(st, instObj 399 dst), (dst, sObj w kS acc jl tch des wo ws org lg r tr), (acc, oacc), (ac, instObj 112 dac), (dac, aObj w kA sto tn tb tc), (sto, osto), (tch, otch), (des, odes)] h h') := by
  unfold Con
  k_fill
  intro dp un gd cn cs a ccd cells outer A₀ base h₀ L m s Q E B F X N T hk hpre hd hu hret
  refine wpAny_call ?_
  k_dflt (refine' enterHF ?k1_q ?k2_q ?k3_q ?k4_q ?k5_q ?kA_q ?kF_q ?kK_q ?k6_q ?k7_q ?k8_q ?k9_q ?kB_q ?_ ?c2_q ?c3_q ?c4_q ?c5_q; (case kA_q => exact rfl); (case kF_q => exact rfl); (case kK_q => assumption); (case k1_q => k_asm); (case k2_q => k_asm); (case k3_q => k_asm); (case k4_q => k_asm); (case k5_q => k_asm); (case k6_q => k_is); (case k7_q => k_is); (case k8_q => ktr_room); (case k9_q => exact BindsTo.of_eq rfl); (case c5_q => decide); (case kB_q => exact locs rfl); (case c2_q => exact rfl); (case c3_q => exact rfl); (case c4_q => exact rfl); k_whole; intro g' L' h' evX AX mmX gSX dSX oSX FG' F' N' B' X' T' hg' hL'; (try dsimp only); (try k_fold))
  refine apart8 nd fun n_st_dst n_st_acc n_st_ac n_st_dac n_st_sto n_st_tch n_st_des n_dst_acc n_dst_ac n_dst_dac n_dst_sto n_dst_tch n_dst_des n_acc_ac n_acc_dac n_acc_sto n_acc_tch n_acc_des n_ac_dac n_ac_sto n_ac_tch n_ac_des n_dac_sto n_dac_tch n_dac_des n_sto_tch n_sto_des n_tch_des => ?_
  have e1 : (valueAt [(home, Value.ref ac)] home).isSome = true := by simp [valueAt]
  have e2 : valueAt [(home, Value.ref ac)] home = some (Value.ref ac) := by simp [valueAt]
  have e3 : (valueAt ([] : List (Int × Value)) home).isSome = false := rfl
  k_steps
  refine stop_out ?_
  refine' For_turns ?F1_q ?G1_q ?S1_q ?E1_q
  case F1_q => k_asm
  case E1_q => passes_own
  case S1_q => intro _; rfl
  case G1_q =>
  k_steps
  refine stop_out ?_
  rename_i D _ _ _ _
  refine' lp_list (J := fun m0 i m nw => nw = [(D, listOf ([] : List Value).toArray 0), (st, instObj 399 dst), (dst, sObj w kS acc jl tch des wo ws org lg r tr), (acc, oacc), (ac, instObj 112 dac), (dac, aObj w kA sto tn tb tc), (sto, osto), (tch, otch), (des, odes)] ∧ Agree [Str.ofString "address"] m m0) (vs := ([] : List Value)) (n := 0) ?hh2_q ?F2_q ?N2_q ?J2_q ?K2_q ?step2_q ?done2_q
  case hh2_q => rfl
  case F2_q => k_asm
  case J2_q => exact ⟨rfl, Agree.refl⟩
  case K2_q => rintro i m nw ⟨rfl, _⟩; exact .head _
  case N2_q => exact News.perm (by assumption) (by ((try unfold StA.led StA.lits); (try dsimp only [List.cons_append, List.nil_append]); repeat (first | (refine List.forall_mem_cons.mpr ⟨?_, ?_⟩; focus (show _ ∈ _; k_dflt k_mem)) | (intro p hp; repeat (first | exact hp | refine List.Mem.tail _ ?_)))))
  case step2_q =>
    rintro I i v m1 nw h1 tk1 io hv ⟨rfl, hA⟩ hn F1 N1
    obtain ⟨u1, _, e9⟩ := hA.eta1
    clear hA
    subst e9
    simp at hv
  case done2_q =>
    rintro h1 tk1 m1 nw F1 N1 ⟨rfl, hA⟩
    obtain ⟨u1, _, e9⟩ := hA.eta1
    clear hA
    subst e9
    k_sweep
    k_steps
    rename_i jl9 _ _ _ _ _ tch9 _ ot9 lo9a _ _ hi9a _ _ _ _ _ des9 _ od9 lo9b _ _ hi9b _ _ _ _ _ wo9 _ _ _ _ _ _ _ _ _ _ _ ws9 _ ow9 lo9d _ _ hi9d _ _ _ org9 _ oo9 lo9e _ _ hi9e _ _ _ F9 N9 _ _ _ _
    have nd9 : Apart [st, dst, acc, ac, dac, sto, jl9, tch9, des9, ws9, org9] := by
      simp only [Apart, AllNe]
      refine ⟨⟨?_, ?_, ?_, ?_, ?_, ?_, ?_, ?_, ?_, ?_, trivial⟩, ⟨?_, ?_, ?_, ?_, ?_, ?_, ?_, ?_, ?_, trivial⟩, ⟨?_, ?_, ?_, ?_, ?_, ?_, ?_, ?_, trivial⟩, ⟨?_, ?_, ?_, ?_, ?_, ?_, ?_, trivial⟩, ⟨?_, ?_, ?_, ?_, ?_, ?_, trivial⟩, ⟨?_, ?_, ?_, ?_, ?_, trivial⟩, ⟨?_, ?_, ?_, ?_, trivial⟩, ⟨?_, ?_, ?_, trivial⟩, ⟨?_, ?_, trivial⟩, ⟨?_, trivial⟩, trivial, trivial⟩ <;>
        first | (with_reducible assumption) | (show @Ne Nat _ _; first | k_extra "ne" | omega)
    have hA9 : StAOK w home ⟨st, dst, acc, ac, dac, sto, jl9, tch9, des9, ws9, org9, wo9, lg, oacc, od9, kS, kA, tn, tb, tc⟩ := ⟨nd9, lo1, lo2, lo9a, lo9b, lo9d, lo9e, hacc, hi9b⟩
    have hC9 : ∀ tr9 n9 r9, StCOK w home s1 s2 fst ⟨st, dst, acc, ac, dac, sto, jl9, tch9, des9, ws9, org9, wo9, lg, oacc, od9, kS, kA, tn, tb, tc⟩ ⟨osto, ot9, ow9, oo9, tr9, n9, #[], kvs, [], [], [], []⟩ ⟨σ, false, fun _ => false, r9⟩ [] (fun _ => false) := fun tr9 n9 r9 =>
      ⟨off_nil, hsto, hkv, hkn, hi9a, isT_nil hi9d, (fun _ h => nomatch h), (fun _ => rfl), (fun _ h => nomatch h), isT_nil hi9e, (fun _ h => nomatch h), (fun _ _ h => nomatch h), (fun _ h => nomatch h), (fun _ => rfl), rfl, rfl, (fun _ h => nomatch h)⟩
    refine' hret _ _ _ ?F8_q (keeps_end hg' ?K8_q) ⟨rfl, _, _, rfl, hA9, hC9 _ _ _, sat_sub N9 ?S8_q, grows_of hg' N9 ?S9_q⟩
    case F8_q => k_asm
    case K8_q => k_asm
    case S8_q => ((try unfold StA.led StA.lits); (try dsimp only [List.cons_append, List.nil_append]); repeat (first | (refine List.forall_mem_cons.mpr ⟨?_, ?_⟩; focus (show _ ∈ _; k_dflt k_mem)) | (intro p hp; repeat (first | exact hp | refine List.Mem.tail _ ?_))))
    case S9_q => ((try unfold StA.led StA.lits); (try dsimp only [List.cons_append, List.nil_append]); repeat (first | (refine List.forall_mem_cons.mpr ⟨?_, ?_⟩; focus (show _ ∈ _; k_dflt k_mem)) | (intro p hp; repeat (first | exact hp | refine List.Mem.tail _ ?_))))

theorem c_end {w : World} {mean : ExcName → Option Value} {mg mb : Str → Option Value} {st dst acc ac dac sto jl tch des ws org wo lg : Addr} {oacc odes otch osto : Obj} {kS kA : Nat → Tok} {tn tb tc tr : Tok} {r home s1 s2 : Int} {fst σ : Int → Int} {kvs : List (Int × Value)} (nd : Apart [st, dst, acc, ac, dac, sto, tch, des]) (lo1 : (acc == sysModules) = false) (lo2 : (sto == sysModules) = false) (lo3 : (tch == sysModules) = false) (lo4 : (des == sysModules) = false) (hacc : oacc.IsDictOf (intKind PP w) [(home, .ref ac)]) (hdes : odes.IsDictOf (intKind PP w) []) (hsto : osto.IsDictOf (intKind PP w) kvs) (hkv : StoRep kvs σ) (hkn : ∀ p ∈ kvs, p.1 = s1 ∨ p.1 = s2) (b : Bool) (htch : otch.IsDictOf (intKind PP w) (if b then [(home, .bool true)] else [])) : Con w mean mg mb 396 [.ref st] 4 [(st, instObj 399 dst), (dst, sObj w kS acc jl tch des wo ws org lg r tr), (acc, oacc), (ac, instObj 112 dac), (dac, aObj w kA sto tn tb tc), (sto, osto), (tch, otch), (des, odes)] (fun _ => True) (fun h v h' => v = .none ∧ Clean w home s1 s2 fst σ st r [(st, instObj 399 dst), (dst, sObj w kS acc jl tch des wo ws org lg r tr), (acc, oacc), (ac, instObj 112 dac), (dac, aObj w kA sto tn tb tc), (sto, osto), (tch, otch), (des, odes)] h h') := by
  cases b with
  | true => exact c_end1 nd lo1 lo2 lo3 lo4 hacc hdes hsto hkv hkn htch
  | false => exact c_end0 nd lo1 lo2 lo3 lo4 hacc hdes hsto hkv hkn htch
theorem lines_M19_1 : True := by
  (k_with "call ref" => (k_here; (with_reducible show wpAny _ _ (call (Value.ref 396) _ _) _ _ _); (with_reducible refine stop_mk ?_)))
  trivial
theorem c_begin {w : World} {mean : ExcName → Option Value} {mg mb : Str → Option Value} {st dst acc ac dac sto jl tch des ws org wo lg : Addr} {oacc odes otch osto : Obj} {kS kA : Nat → Tok} {tn tb tc tr : Tok} {r home s1 s2 : Int} {fst σ : Int → Int} {kvs : List (Int × Value)} (nd : Apart [st, dst, acc, ac, dac, sto, tch, des]) (lo1 : (acc == sysModules) = false) (lo2 : (sto == sysModules) = false) (lo3 : (tch == sysModules) = false) (lo4 : (des == sysModules) = false) (hacc : oacc.IsDictOf (intKind PP w) [(home, .ref ac)]) (hdes : odes.IsDictOf (intKind PP w) []) (hsto : osto.IsDictOf (intKind PP w) kvs) (hkv : StoRep kvs σ) (hkn : ∀ p ∈ kvs, p.1 = s1 ∨ p.1 = s2) (b : Bool) (htch : otch.IsDictOf (intKind PP w) (if b then [(home, .bool true)] else [])) :
    Con w mean mg mb 389 [.ref st] 5 [(st, instObj 399 dst), (dst, sObj w kS acc jl tch des wo ws org lg r tr), (acc, oacc), (ac, instObj 112 dac), (dac, aObj w kA sto tn tb tc), (sto, osto), (tch, otch), (des, odes)] (fun _ => True) (fun h v h' => v = .none ∧ Clean w home s1 s2 fst σ st 0 [(st, instObj 399 dst), (dst, sObj w kS acc jl tch des wo ws org lg r tr), (acc, oacc), (ac, instObj 112 dac), (dac, aObj w kA sto tn tb tc), (sto, osto), (tch, otch), (des, odes)] h h') := by
  unfold Con
  k_fill
  intro dp un gd cn cs a ccd cells outer A₀ base h₀ L m s Q E B F X N T hk hpre hd hu hret
  refine wpAny_call ?_
  k_dflt (refine' enterHF ?k1_q ?k2_q ?k3_q ?k4_q ?k5_q ?kA_q ?kF_q ?kK_q ?k6_q ?k7_q ?k8_q ?k9_q ?kB_q ?_ ?c2_q ?c3_q ?c4_q ?c5_q; (case kA_q => exact rfl); (case kF_q => exact rfl); (case kK_q => assumption); (case k1_q => k_asm); (case k2_q => k_asm); (case k3_q => k_asm); (case k4_q => k_asm); (case k5_q => k_asm); (case k6_q => k_is); (case k7_q => k_is); (case k8_q => ktr_room); (case k9_q => exact BindsTo.of_eq rfl); (case c5_q => decide); (case kB_q => exact locs rfl); (case c2_q => exact rfl); (case c3_q => exact rfl); (case c4_q => exact rfl); k_whole; intro g' L' h' evX AX mmX gSX dSX oSX FG' F' N' B' X' T' hg' hL'; (try dsimp only); (try k_fold))
  k_steps
  refine stop_out ?_
  refine' Con.useG (c_end (s1 := s1) (s2 := s2) (fst := fst) (σ := σ) (lo1 := lo1) (lo2 := lo2) (lo3 := lo3) (lo4 := lo4) (nd := nd) (hacc := hacc) (hdes := hdes) (hsto := hsto) (hkv := hkv) (hkn := hkn) (b := b) (htch := htch)) [] ?kB_q ?kF_q ?kX_q ?kN_q ?kO_q ?kT_q ?kh_q trivial ?kd_q ?ku_q ?kk_q
  case kB_q => k_asm
  case kF_q => k_asm
  case kX_q => k_asm
  case kT_q => k_asm
  case kN_q => k_asm
  case kO_q => exact OffL.nil
  case kh_q => exact rfl
  case kd_q => ktr_room
  case ku_q => ktr_units
  case kk_q =>
    rintro v5 h5 tk5 ⟨rfl, P5, C5, hst5, hP5, hC5, hsat5, hgr5⟩ F5 _ k5
    obtain ⟨N5, _⟩ := k5 _ hsat5 hgr5
    clear k5
    obtain ⟨st5, dst5, acc5, ac5, dac5, sto5, jl5, tch5, des5, ws5, org5, wo5, lg5, oacc5, odes5, kS5, kA5, tn5, tb5, tc5⟩ := P5
    obtain ⟨osto5, otch5, ows5, oorg5, tr5, n5, jv5, kvs5, xs5, ys5, rows5, rest5⟩ := C5
    dsimp only at hst5
    subst hst5
    unfold StA.led StA.lits at N5
    dsimp only [List.cons_append, List.nil_append] at N5
    have nd5 := hP5.nd
    have off5 := hC5.off
    dsimp only [StA.addrs] at nd5 off5
    refine apart11 nd5 fun n_st5_dst5 n_st5_acc5 n_st5_ac5 n_st5_dac5 n_st5_sto5 n_st5_jl5 n_st5_tch5 n_st5_des5 n_st5_ws5 n_st5_org5 n_dst5_acc5 n_dst5_ac5 n_dst5_dac5 n_dst5_sto5 n_dst5_jl5 n_dst5_tch5 n_dst5_des5 n_dst5_ws5 n_dst5_org5 n_acc5_ac5 n_acc5_dac5 n_acc5_sto5 n_acc5_jl5 n_acc5_tch5 n_acc5_des5 n_acc5_ws5 n_acc5_org5 n_ac5_dac5 n_ac5_sto5 n_ac5_jl5 n_ac5_tch5 n_ac5_des5 n_ac5_ws5 n_ac5_org5 n_dac5_sto5 n_dac5_jl5 n_dac5_tch5 n_dac5_des5 n_dac5_ws5 n_dac5_org5 n_sto5_jl5 n_sto5_tch5 n_sto5_des5 n_sto5_ws5 n_sto5_org5 n_jl5_tch5 n_jl5_des5 n_jl5_ws5 n_jl5_org5 n_tch5_des5 n_tch5_ws5 n_tch5_org5 n_des5_ws5 n_des5_org5 n_ws5_org5 => ?_
    k_sweep
    k_steps
    refine' hret _ _ _ ?F8_q (keeps_end hg' ?K8_q) ⟨rfl, _, _, ?e8_q, hP5.lg ?lg8_q, (hC5.lg ?lg8_q).rfd 0 ?tr8_q, sat_sub (by assumption) ?S8_q, grows_of hg' (by assumption) ?S9_q⟩
    case F8_q => k_asm
    case K8_q => k_asm
    case e8_q => rfl
    case S8_q => ((try unfold StA.led StA.lits); (try dsimp only [List.cons_append, List.nil_append]); repeat (first | (refine List.forall_mem_cons.mpr ⟨?_, ?_⟩; focus (show _ ∈ _; k_dflt k_mem)) | (intro p hp; repeat (first | exact hp | refine List.Mem.tail _ ?_))))
    case S9_q => ((try unfold StA.led StA.lits); (try dsimp only [List.cons_append, List.nil_append]); repeat (first | (refine List.forall_mem_cons.mpr ⟨?_, ?_⟩; focus (show _ ∈ _; k_dflt k_mem)) | (intro p hp; repeat (first | exact hp | refine List.Mem.tail _ ?_))))

end Mine
end
section
open PySem PySem.W PyProof.Rows PySem.Calls PySem.Spec
namespace Mine
open LCg
section
variable {prog : Program} {w : World} {A : Around} {E : Value → Shared → Prop} {s : Shared} {h₀ : Heap} {L : Addr} {m : Str → Option Value} {env : Env} {α : Type}
/-- one turn of a quiet block over pairs, with a test -/
noncomputable def QTurn (prog : Program) (w : World) (A : Around) (h₀ : Heap) (L : Addr) (m : Str → Option Value) (env : Env) (c elt : PySem.Expr) (x₁ x₂ : Str) (scope : Scope) (cl : List (Str × Addr)) (s : Shared) (news : List (Addr × Obj)) (v₁ v₂ : Value) (b : Bool) (R : Value → Prop) : Prop :=
  ∀ C h tk m₂ (E' : Value → Shared → Prop), h.Ns C m₂ → m₂ x₁ = some v₁ → m₂ x₂ = some v₂ → Fr h₀ L h m → News h₀ L h news →
    wpAny (model prog w) A (isTrue c (compEnvC scope cl C env) (eval c (compEnvC scope cl C env))) (fun ok s' => ok = b ∧ s' = { s with heap := h, toks := tk }) E' { s with heap := h, toks := tk } ∧
    wpAny (model prog w) A (eval elt (compEnvC scope cl C env)) (fun y s' => R y ∧ s' = { s with heap := h, toks := tk }) E' { s with heap := h, toks := tk }
/-- what holds ahead of a turn of a block -/
noncomputable def QI (s : Shared) (vs : List Value) (I l C D : Addr) (G : Nat → List Value → Prop) (k : Nat) (s' : Shared) : Prop := ∃ h' tk i ys m', s' = { s with heap := h', toks := tk } ∧ i ≤ vs.length ∧ k = vs.length + 1 - i ∧ ys.length ≤ i ∧ h'.IsListIter I l i ∧ h'.Ns C m' ∧ h'.get? D = some (lst ys) ∧ (∀ b o, s.heap.get? b = some o → h'.get? b = some o) ∧ G i ys
theorem qblock {elt iter c : PySem.Expr} {x₁ x₂ : Str} {px px₂ tp : Pos} {kk : Nat} {scope : Scope} {cl : List (Str × Addr)} {pos : Pos} {news : List (Addr × Obj)} {l : Addr} {vs : List Value} {nl : Nat} {xs : List α} {p : α → Bool} {R : α → Value → Prop} {G : List α → List Value → Prop}
    {RR : Value → Addr → Result → Shared → Prop} (hh : A.handled = none)
    (F : Fr h₀ L s.heap m) (N : News h₀ L s.heap news) (hm : (l, listOf vs.toArray nl) ∈ news) (hz : vs.length ≤ sizeLine) (hlen : vs.length = xs.length) (hG0 : G [] []) (hGs : ∀ zs ys x y, G zs ys → R x y → G (zs ++ [x]) (ys ++ [y]))
    (hcell : ∀ y ∈ scope.names, y.2 ≠ .cell) (hkind : scope.kind = .function) (hx : scope.names.lookup x₁ = some .local) (hx₂ : scope.names.lookup x₂ = some .local) (hxx : x₁ ≠ x₂)
    (turn : ∀ (i : Nat) (x : α), xs[i]? = some x → ∃ (t : Addr) (ot : Obj) (v₁ v₂ : Value) (nt : Nat), vs[i]? = some (Value.ref t) ∧ (t, ot) ∈ news ∧ ot.cls = .type "tuple" ∧ ot.data = .seq #[v₁, v₂] nt ∧ QTurn prog w A h₀ L m env c elt x₁ x₂ scope cl s news v₁ v₂ (p x) (R x))
    (hRR : ∀ D C h tk m' ys, Fr h₀ L h m → News h₀ L h ((D, lst ys) :: news) → (∀ q ∈ news, q.1 ≠ D) → h.Ns C m' → h₀.get? C = none → C ≠ L → C ≠ D → (∀ q ∈ news, q.1 ≠ C) → G (xs.filter p) ys → RR (.ref D) C (.ok .next) { s with heap := h, toks := tk }) :
    wpAny (model prog w) A (pyIter (.ref l)) (fun it s₂ => wpAny (model prog w) A (newList []) (fun acc s₃ => wpAny (model prog w) A (newFunctionEnv scope env.globals cl [] env.qual none .none (some env)) (fun cenv s₄ =>
      codeAny (model prog w) A (.compStart (.ListComp elt [⟨.Tuple [.Name x₁ px, .Name x₂ px₂] kk tp, iter, [c], 0⟩] scope pos) 0 it acc { cenv with scope := relabel scope env }) (RR acc cenv.locals) s₄) E s₃) E s₂) E s := by
  have hl : s.heap.IsList l vs.toArray := ⟨_, (N _ hm).1, rfl, _, rfl⟩
  have hlt : l < s.heap.objs.size := by obtain ⟨_, e, _⟩ := hl; exact Heap.lt_size e
  refine wpAny_pyIter_list hl ?_
  refine wpAny_newObj_type (wpAny_newFunctionEnv hcell (by intro y hy; simp at hy) (fun h₁ hns₁ hsb₁ => ?_) hkind)
  dsimp only at hns₁ hsb₁ ⊢
  generalize hH1 : s.heap.push { cls := .type "list_iterator", data := .fields #[.ref l, .int 0 0] } = H1 at hns₁ hsb₁ ⊢
  generalize hH2 : H1.push { cls := .type "list", dict := none, data := .seq ([] : List Value).toArray } = H2 at hns₁ hsb₁ ⊢
  have z1 : H1.objs.size = s.heap.objs.size + 1 := by rw [← hH1, Heap.size_push]
  have z2 : H2.objs.size = s.heap.objs.size + 2 := by rw [← hH2, Heap.size_push, z1]
  generalize hI : s.heap.objs.size = I at *
  generalize hD : H1.objs.size = D at *
  generalize hC : H2.objs.size = C at *
  have hID : I ≠ D := by rw [z1]; exact Nat.ne_of_lt (Nat.lt_succ_self _)
  have hIC : I ≠ C := by rw [z2]; exact Nat.ne_of_lt (Nat.lt_succ_of_lt (Nat.lt_succ_self _))
  have hDC : D ≠ C := by rw [z1, z2]; exact Nat.ne_of_lt (Nat.lt_succ_self _)
  have below : ∀ b, b < I → b ≠ I ∧ b ≠ C ∧ b ≠ D := fun b hb => ⟨Nat.ne_of_lt hb, by rw [z2]; exact Nat.ne_of_lt (Nat.lt_succ_of_lt (Nat.lt_succ_of_lt hb)), by rw [z1]; exact Nat.ne_of_lt (Nat.lt_succ_of_lt hb)⟩
  have lts : ∀ {b : Addr} {o : Obj}, s.heap.get? b = some o → b < I := fun e => hI ▸ Heap.lt_size e
  have old : ∀ b o, s.heap.get? b = some o → h₁.get? b = some o := fun b o e => hsb₁.extBut b o (below b (lts e)).2.1 (by refine Heap.get?_push_of_some _ ?_; rw [← hH2, ← hH1]; exact Heap.get?_push_of_some _ (Heap.get?_push_of_some _ e))
  have hacc : h₁.get? D = some (lst []) := hsb₁.extBut _ _ hDC (by refine Heap.get?_push_of_some _ ?_; rw [← hH2, ← hD]; exact Heap.get?_push_size _ rfl)
  have hit₁ : h₁.IsListIter I l 0 := by
    refine ⟨{ cls := .type "list_iterator", data := .fields #[.ref l, .int 0 0] }, hsb₁.extBut _ _ hIC ?_, rfl, rfl⟩
    refine Heap.get?_push_of_some _ ?_
    rw [← hH2, ← hH1, ← hI]
    exact Heap.get?_push_of_some _ (Heap.get?_push_size _ rfl)
  have fresh₀ : ∀ a, I ≤ a → h₀.get? a = none := fun a ha => by
    cases e : h₀.get? a with
    | none => rfl
    | some o' => exact absurd (lts (F.keep a o' e)) (Nat.not_lt.mpr ha)
  have hD₀ : h₀.get? D = none := fresh₀ _ (by rw [z1]; exact Nat.le_succ _)
  have hC₀ : h₀.get? C = none := fresh₀ _ (by rw [z2]; exact Nat.le_succ_of_le (Nat.le_succ _))
  have hLlt : L < I := hI ▸ F.ns.lt
  have W := Walks.list (prog := prog) (w := w) hh I l (below l hlt).1 vs.toArray
  have loop : ∀ s₃ : Shared, (∃ tk, s₃ = { s with heap := h₁, toks := tk }) →
      codeAny (model prog w) A (.compLoop (.ListComp elt [⟨.Tuple [.Name x₁ px, .Name x₂ px₂] kk tp, iter, [c], 0⟩] scope pos) 0 (.ref I) (.ref D) (compEnvC scope cl C env)) (RR (.ref D) C) s₃ := by
    rintro s₃ ⟨tk₀, rfl⟩
    refine kct_loop (fun k s' => QI s vs I l C D (fun i ys => G ((xs.take i).filter p) ys) k s') ?_ (vs.length + 1)
      ⟨h₁, _, 0, [], _, rfl, Nat.zero_le _, rfl, Nat.le_refl _, hit₁, hns₁, hacc, old, hG0⟩
    rintro k s' ⟨h', tk, i, ys, m', rfl, hi, rfl, hyl, hit, hn', hD', up', hG⟩
    have hl' : h'.IsList l vs.toArray := hl.at fun o e => up' _ o e
    by_cases hlt' : i < vs.length
    · have hix : i < xs.length := hlen ▸ hlt'
      obtain ⟨t, ot, v₁, v₂, nt, hv, hmt, hct, hdt, QT⟩ := turn i xs[i] (by simp [hix])
      refine W.item i _ _ _ (by simpa using hlt') ⟨hit, hl'⟩ fun v h₂ tk₂ hPv hst₂ hk₂ => ?_
      have hv2 : v = .ref t := by
        have e : vs[i]? = some v := by simpa using hPv
        rw [hv] at e; cases e; rfl
      subst hv2
      have up₂ : ∀ b o, s.heap.get? b = some o → h₂.get? b = some o := fun b o e => hk₂ b o (by simpa using (below b (lts e)).1) (up' b o e)
      have ht : IsTup h₂ t #[v₁, v₂] := ⟨ot, up₂ _ _ (N _ hmt).1, hct, nt, hdt⟩
      refine wpAny_letOwnedTupleGo_listiter hst₂.1 ?_
      refine assign_Tuple_tuple hh ht rfl rfl fun h₅ he => ?_
      have he' : ∀ b o, h₂.get? b = some o → h₅.get? b = some o := fun b o e => he b o (Nat.ne_of_lt (Heap.lt_size e)) e
      refine assignInOrder_cons (wpAny_assign_Name (wpAny_storeName_local (lookup_relabel_local hx) ((hn'.at' fun o e => hk₂ _ o (by simpa using Ne.symm hIC) e).at' fun o e => he' _ o e) (fun h₆ hn₆ hs₆ => ?_) (by simp [compEnvC, relabel, hkind])))
      refine assignInOrder_cons (wpAny_assign_Name (wpAny_storeName_local (lookup_relabel_local hx₂) hn₆ (fun h₃ hn₃ hs₃ => ?_) (by simp [compEnvC, relabel, hkind])))
      refine assignInOrder_nil ?_
      have old3 : ∀ b o, b ≠ C → h₂.get? b = some o → h₃.get? b = some o := fun b o hb e => hs₃.extBut b o hb (hs₆.extBut b o hb (he' b o e))
      have up₃ : ∀ b o, s.heap.get? b = some o → h₃.get? b = some o := fun b o e => old3 b o (below b (lts e)).2.1 (up₂ b o e)
      have hit₃ : h₃.IsListIter I l (i + 1) := hst₂.1.at fun o e => old3 _ o hIC e
      have hD₃ : h₃.get? D = some (lst ys) := old3 _ _ hDC (hk₂ _ _ (by simpa using hID.symm) hD')
      have F₃ : Fr h₀ L h₃ m := F.keeps up₃
      have N₃ : News h₀ L h₃ news := N.grown up₃
      have tks : (xs.take (i + 1)).filter p = (xs.take i).filter p ++ (if p xs[i] = true then [xs[i]] else []) := by
        rw [List.take_add_one, List.getElem?_eq_getElem hix, List.filter_append]
        cases hp : p xs[i] <;> simp [hp]
      have fin : ∀ (ys' : List Value) (h₅ : Heap) (tk₅ : Nat), ys'.length ≤ i + 1 → h₅.IsListIter I l (i + 1) → (∃ m', h₅.Ns C m') → h₅.get? D = some (lst ys') → (∀ b o, s.heap.get? b = some o → h₅.get? b = some o) → G ((xs.take (i + 1)).filter p) ys' →
          ∃ q', q' < vs.length + 1 - i ∧ QI s vs I l C D (fun i ys => G ((xs.take i).filter p) ys) q' { s with heap := h₅, toks := tk₅ } := by
        rintro ys' h₅ tk₅ a1 a2 ⟨m5, a3⟩ a4 a5 a6
        exact ⟨vs.length + 1 - (i + 1), by omega, h₅, tk₅, i + 1, ys', m5, rfl, hlt', rfl, a1, a2, a3, a4, a5, a6⟩
      refine wpAny_mono (QT C h₃ _ _ _ hn₃ (by simp [hxx]) (by simp) F₃ N₃).1 (fun ok s₅ h₅ => ?_) fun _ _ e => e
      obtain ⟨rfl, rfl⟩ := h₅
      by_cases hp : p xs[i] = true
      · rw [if_pos hp]
        rw [if_pos hp] at tks
        refine wpAny_mono (QT C h₃ _ _ _ hn₃ (by simp [hxx]) (by simp) F₃ N₃).2 (fun y s₆ h₆ => ?_) fun _ _ e => e
        obtain ⟨hR, rfl⟩ := h₆
        refine append_at (hsz := by show ys.toArray.size ≤ sizeLine; rw [List.size_toArray]; exact Nat.le_trans hyl (Nat.le_trans hi hz)) hD₃ fun h₇ hs₇ hD₇ => ?_
        refine fin (ys ++ [y]) h₇ _ (by rw [List.length_append, List.length_singleton]; omega) (hit₃.at fun o e => hs₇.extBut _ _ hID e) ⟨_, hn₃.sameBut hs₇ hDC.symm⟩ (hD₇.trans (congrArg some (lst_snoc ys y))) (fun b o e => hs₇.extBut b o (below b (lts e)).2.2 (up₃ b o e)) ?_
        rw [tks]
        exact hGs _ _ _ _ hG hR
      · rw [if_neg hp]
        rw [if_neg hp, List.append_nil] at tks
        exact fin ys h₃ _ (Nat.le_succ_of_le hyl) hit₃ ⟨_, hn₃⟩ hD₃ up₃ (by rw [tks]; exact hG)
    · obtain rfl : i = vs.length := Nat.le_antisymm hi (Nat.not_lt.mp hlt')
      rw [show xs.take vs.length = xs by rw [hlen, List.take_length]] at hG
      refine W.done _ _ _ ⟨by simpa using hit, hl'⟩ fun h₂ tk₂ hk₂ => ?_
      have up₂ : ∀ b o, s.heap.get? b = some o → h₂.get? b = some o := fun b o e => hk₂ b o (by simpa using (below b (lts e)).1) (up' b o e)
      refine hRR D C h₂ tk₂ _ ys (F.keeps up₂) (fun q hq => ?_) (fun q hq => (below _ (lts (N q hq).1)).2.2) (hn'.at' fun o e => hk₂ _ o (by simpa using Ne.symm hIC) e) hC₀ (Ne.symm (below L hLlt).2.1) hDC.symm (fun q hq => (below _ (lts (N q hq).1)).2.1) hG
      rcases List.mem_cons.mp hq with rfl | hq
      · exact ⟨hk₂ _ _ (by simpa using hID.symm) hD', Ne.symm (below L hLlt).2.2, hD₀⟩
      · exact N.grown up₂ q hq
  exact codeAny_compStart_list (loop _ ⟨_, rfl⟩) (W.self 0 _ _ _ ⟨hit₁, hl.at fun o e => old _ o e⟩ (loop _ ⟨_, rfl⟩))
theorem qassign {elt iter c : PySem.Expr} {x₁ x₂ y : Str} {px px₂ tp py : Pos} {kk : Nat} {scope : Scope} {cl : List (Str × Addr)} {pos spos : Pos} {xs : List α} {p : α → Bool} {R : α → Value → Prop} {G : List α → List Value → Prop} {Q : Flow → Shared → Prop} (_F₀ : Fr h₀ L s.heap m) (hLe : env.locals = L)
    (hsw : swapsWith (.ListComp elt [⟨.Tuple [.Name x₁ px, .Name x₂ px₂] kk tp, iter, [c], 0⟩] scope pos) (some (.Name y py)) spos.line env = pure true)
    (hclos : closureFor scope env = pure cl) (hcell : ∀ y ∈ scope.names, y.2 ≠ .cell) (hkind : scope.kind = .function)
    (hnames : ∀ z ∈ scope.names, z.2 = .local → scope.names.lookup z.1 = some .local) (hx : scope.names.lookup x₁ = some .local) (hx₂ : scope.names.lookup x₂ = some .local) (hxx : x₁ ≠ x₂)
    (hy : env.kindOf y = some .local) (hp : (env.scope.kind == .class || (env.scope.kind == .module && env.locals != env.globals)) = false)
    (hG0 : G [] []) (hGs : ∀ zs ys x y, G zs ys → R x y → G (zs ++ [x]) (ys ++ [y]))
    (h : wpAny (model prog w) A (eval iter env) (fun v s₁ => ∃ (l : Addr) (vs : List Value) (nl : Nat) (news : List (Addr × Obj)), v = .ref l ∧ A.handled = none ∧ Fr h₀ L s₁.heap m ∧ News h₀ L s₁.heap news ∧ (l, listOf vs.toArray nl) ∈ news ∧ vs.length ≤ sizeLine ∧ vs.length = xs.length ∧
      (∀ (i : Nat) (x : α), xs[i]? = some x → ∃ (t : Addr) (ot : Obj) (v₁ v₂ : Value) (nt : Nat), vs[i]? = some (Value.ref t) ∧ (t, ot) ∈ news ∧ ot.cls = .type "tuple" ∧ ot.data = .seq #[v₁, v₂] nt ∧ QTurn prog w A h₀ L m env c elt x₁ x₂ scope cl s₁ news v₁ v₂ (p x) (R x)) ∧
      (∀ D h tk ys, Fr h₀ L h (fun z => if z = y then some (.ref D) else m z) → News h₀ L h ((D, lst ys) :: news) → (∀ q ∈ news, q.1 ≠ D) → G (xs.filter p) ys → Q .next { s₁ with heap := h, toks := tk })) E s)
    (hs : ∀ x, foldedSetIterable iter env x = pure x := by intro _; rfl) :
    wpAny (model prog w) A (exec (.Assign [.Name y py] (.ListComp elt [⟨.Tuple [.Name x₁ px, .Name x₂ px₂] kk tp, iter, [c], 0⟩] scope pos) spos) env) Q E s := by
  subst hLe
  rw [exec_Assign_Name_used _ _ _ _ hsw]
  refine wpAny_bind (wpAny_standAt (wpAny_bind ?_))
  show wpAny _ A (do let _ ← comprehension (.ListComp elt [⟨.Tuple [.Name x₁ px, .Name x₂ px₂] kk tp, iter, [c], 0⟩] scope pos) scope env _ (newList []) false (eval iter env) (some (assign (.Name y py) env))) _ _ s
  refine wpAny_bind (wpAny_mono (wpAny_comprehension_free (use := some (assign (.Name y py) env)) (Q := fun _ s' => Q .next s') rfl hs hclos hkind hnames
    (wpAny_mono h (fun xv s₁ h₁ => ?_) fun _ _ e => e)) (fun _ s' hq => wpAny_pure (wpAny_pure hq)) fun _ _ e => e)
  obtain ⟨l, vs, nl, news, rfl, hh, F, N, hm, hz, hlen, turn, fin⟩ := h₁
  refine qblock (p := p) (R := R) (G := G) hh F N hm hz hlen hG0 hGs hcell hkind hx hx₂ hxx turn ?_
  intro D C h₂ tk m' ys F' N' offD hn hC₀ hCL hCD offC hG
  show wpAny _ A (assign (.Name y py) env (.ref D)) _ _ _
  refine wpAny_assign_Name (wpAny_storeName_local hy F'.ns (fun h₃ hn₃ hs₃ => ?_) hp)
  have hL₀ : h₀.get? env.locals = none := Heap.get?_none_of_le F'.above
  have F₂ : Fr h₀ env.locals h₃ (fun z => if z = y then some (.ref D) else m z) := ⟨hn₃, fun b o e => hs₃.extBut b o (fun q => by rw [q, hL₀] at e; cases e) (F'.keep b o e), F'.above⟩
  refine ⟨m', hn.sameBut hs₃ hCL, fun h'' hs'' => fin D h'' _ ys (F₂.change hs'' hCL hC₀) (fun p hp => ?_) offD hG⟩
  have z : h₃.get? p.1 = some p.2 := hs₃.extBut _ _ (N' p hp).2.1 (N' p hp).1
  refine ⟨hs''.extBut _ _ ?_ z, (N' p hp).2⟩
  rcases List.mem_cons.mp hp with rfl | hp
  · exact Ne.symm hCD
  · exact offC p hp
/-- the library's blocks with one name and a test, for any number of turns, where the turns change nothing -/
theorem restT_run {c elt : PySem.Expr} {x : Str} {scope : Scope} {cl : List (Str × Addr)} {Fin : List Value → List (Addr × Obj) → Prop} {l : Addr} {vs : List Value} {news : List (Addr × Obj)} {xs : List α} {p : α → Bool} {R : α → Value → Prop} {G : List α → List Value → Prop}
    (hS : SrcAt h₀ l vs.toArray news) (hlen : vs.length = xs.length) (hG0 : G [] []) (hGs : ∀ zs ys x y, G zs ys → R x y → G (zs ++ [x]) (ys ++ [y]))
    (turn : ∀ (i : Nat) (a : α) (v : Value), xs[i]? = some a → vs[i]? = some v → ∀ C h tk m₂ (E' : Value → Shared → Prop), h.Ns C m₂ → m₂ x = some v → Fr h₀ L h m → News h₀ L h news →
      wpAny (model prog w) A (isTrue c (compEnvC scope cl C env) (eval c (compEnvC scope cl C env))) (fun ok s' => ok = p a ∧ s' = { s with heap := h, toks := tk }) E' { s with heap := h, toks := tk } ∧
      wpAny (model prog w) A (eval elt (compEnvC scope cl C env)) (fun y s' => R a y ∧ s' = { s with heap := h, toks := tk }) E' { s with heap := h, toks := tk })
    (fin : ∀ ys, G (xs.filter p) ys → Fin ys news) :
    LCt.CompRestT prog w A h₀ L m env c elt x scope cl s (SrcAt h₀ l vs.toArray) (fun i v => vs.toArray[i]? = some v) Fin vs.toArray.size 0 [] news := by
  have key : ∀ k i ys, i + k = vs.length → G ((xs.take i).filter p) ys → LCt.CompRestT prog w A h₀ L m env c elt x scope cl s (SrcAt h₀ l vs.toArray) (fun i v => vs.toArray[i]? = some v) Fin k i ys news := by
    intro k
    induction k with
    | zero =>
      intro i ys hi hG
      rw [show i = xs.length by omega, List.take_length] at hG
      exact LCt.CompRestT.zero (fin ys hG)
    | succ k ih =>
      intro i ys hi hG
      refine LCt.CompRestT.succ ?_
      intro v I oI C oC D m₂ h tk E' hv hoC hx F N off ne
      have hix : i < xs.length := by omega
      have hv' : vs[i]? = some v := by simpa using hv
      have NC := (N (C, oC) (List.mem_cons_of_mem _ List.mem_cons_self)).1
      have N' : News h₀ L h news := fun q hq => N q (List.mem_cons_of_mem _ (List.mem_cons_of_mem _ (List.mem_cons_of_mem _ hq)))
      have tks : (xs.take (i + 1)).filter p = (xs.take i).filter p ++ (if p xs[i] = true then [xs[i]] else []) := by
        rw [List.take_add_one, List.getElem?_eq_getElem hix, List.filter_append]
        cases hp : p xs[i] <;> simp [hp]
      have T := turn i xs[i] v (by simp [hix]) hv' C h tk m₂ E' (hoC.ns NC) hx F N'
      refine wpAny_mono T.1 (fun ok s₅ h₅ => ?_) fun _ _ e => e
      obtain ⟨rfl, rfl⟩ := h₅
      by_cases hp : p xs[i] = true
      · rw [if_pos hp]
        rw [if_pos hp] at tks
        refine wpAny_mono T.2 (fun y s₆ h₆ => ?_) fun _ _ e => e
        obtain ⟨hR, rfl⟩ := h₆
        exact ⟨h, tk, news, rfl, F, N, off, hS, ih (i + 1) (ys ++ [y]) (by omega) (by rw [tks]; exact hGs _ _ _ _ hG hR)⟩
      · rw [if_neg hp]
        rw [if_neg hp, List.append_nil] at tks
        exact ⟨h, tk, news, rfl, F, N, off, hS, ih (i + 1) ys (by omega) (by rw [tks]; exact hG)⟩
  rw [List.size_toArray]
  exact key vs.length 0 [] (by omega) hG0
/-- the same with a pair of names and no test -/
theorem restP_run {elt : PySem.Expr} {x₁ x₂ : Str} {scope : Scope} {cl : List (Str × Addr)} {Fin : List Value → List (Addr × Obj) → Prop} {l : Addr} {vs : List Value} {news : List (Addr × Obj)} {xs : List α} {R : α → Value → Prop} {G : List α → List Value → Prop}
    (hS : SrcAt h₀ l vs.toArray news) (hlen : vs.length = xs.length) (hG0 : G [] []) (hGs : ∀ zs ys x y, G zs ys → R x y → G (zs ++ [x]) (ys ++ [y]))
    (turn : ∀ (i : Nat) (a : α), xs[i]? = some a → ∃ (t : Addr) (ot : Obj) (v₁ v₂ : Value) (nt : Nat), vs[i]? = some (Value.ref t) ∧ (t, ot) ∈ news ∧ ot.cls = .type "tuple" ∧ ot.data = .seq #[v₁, v₂] nt ∧ ∀ C h tk m₂ (E' : Value → Shared → Prop), h.Ns C m₂ → m₂ x₁ = some v₁ → m₂ x₂ = some v₂ → Fr h₀ L h m → News h₀ L h news →
      wpAny (model prog w) A (eval elt (compEnvC scope cl C env)) (fun y s' => R a y ∧ s' = { s with heap := h, toks := tk }) E' { s with heap := h, toks := tk })
    (fin : ∀ ys, G xs ys → Fin ys news) :
    LCp.CompRestP prog w A h₀ L m env elt x₁ x₂ scope cl s (SrcAt h₀ l vs.toArray) (fun i v => vs.toArray[i]? = some v) Fin vs.toArray.size 0 [] news := by
  have key : ∀ k i ys, i + k = vs.length → G (xs.take i) ys → LCp.CompRestP prog w A h₀ L m env elt x₁ x₂ scope cl s (SrcAt h₀ l vs.toArray) (fun i v => vs.toArray[i]? = some v) Fin k i ys news := by
    intro k
    induction k with
    | zero =>
      intro i ys hi hG
      rw [show i = xs.length by omega, List.take_length] at hG
      exact LCp.CompRestP.zero (fin ys hG)
    | succ k ih =>
      intro i ys hi hG
      refine LCp.CompRestP.succ fun v hv => ?_
      have hix : i < xs.length := by omega
      have hv' : vs[i]? = some v := by simpa using hv
      obtain ⟨t, ot, v₁, v₂, nt, e, hmt, hct, hdt, T⟩ := turn i xs[i] (by simp [hix])
      rw [hv'] at e
      cases e
      refine ⟨t, ot, v₁, v₂, nt, rfl, hmt, hct, hdt, ?_⟩
      intro I oI C oC D m₂ h tk E' hoC hx hx₂ F N off ne
      have NC := (N (C, oC) (List.mem_cons_of_mem _ List.mem_cons_self)).1
      have N' : News h₀ L h news := fun q hq => N q (List.mem_cons_of_mem _ (List.mem_cons_of_mem _ (List.mem_cons_of_mem _ hq)))
      refine wpAny_mono (T C h tk m₂ E' (hoC.ns NC) hx hx₂ F N') (fun y s₆ h₆ => ?_) fun _ _ e => e
      obtain ⟨hR, rfl⟩ := h₆
      refine ⟨h, tk, news, rfl, F, N, off, hS, ih (i + 1) (ys ++ [y]) (by omega) ?_⟩
      rw [List.take_add_one, List.getElem?_eq_getElem hix]
      exact hGs _ _ _ _ hG hR
  rw [List.size_toArray]
  exact key vs.length 0 [] (by omega) hG0
end
end Mine
end
section
open PySem PySem.W PyProof.Rows PySem.Calls PyProof.V PySem.Spec PySem.SeqAt
namespace Mine
open LCg
/-- values that are ints or None -/
inductive OptsAre : List Value → List (Option Int) → Prop
  | nil : OptsAre [] []
  | cons {vs os} (o : Option Int) (t : Tok) : OptsAre vs os → OptsAre (optV o t :: vs) (o :: os)
theorem OptsAre.snoc {o : Option Int} {t : Tok} : ∀ {vs : List Value} {os : List (Option Int)}, OptsAre vs os → OptsAre (vs ++ [optV o t]) (os ++ [o]) := by
  intro vs os h
  induction h with
  | nil => exact .cons o t .nil
  | cons o' t' _ ih => exact .cons o' t' ih
theorem OptsAre.length : ∀ {vs : List Value} {os : List (Option Int)}, OptsAre vs os → vs.length = os.length := by
  intro vs os h
  induction h with
  | nil => rfl
  | cons _ _ _ ih => exact congrArg (· + 1) ih
theorem OptsAre.get : ∀ {vs : List Value} {os : List (Option Int)}, OptsAre vs os → ∀ (i : Nat) (o : Option Int), os[i]? = some o → ∃ t, vs[i]? = some (optV o t) := by
  intro vs os h
  induction h with
  | nil => intro i o e; cases e
  | cons o' t' _ ih =>
    intro i o e
    cases i with
    | zero => cases e; exact ⟨t', rfl⟩
    | succ i => exact ih i o e
theorem OptsAre.ints : ∀ {vs : List Value} {os : List (Option Int)}, OptsAre vs os → (∀ o ∈ os, o.isSome = true) → IntsAre vs (os.filterMap id) := by
  intro vs os h
  induction h with
  | nil => intro _; exact IntsAre.nil
  | cons o t _ ih =>
    intro hs
    cases o with
    | none => cases hs none (.head _)
    | some x => exact IntsAre.cons x t (ih fun o ho => hs o (.tail _ ho))
noncomputable def optD : Option Int → PyData
  | none => .none
  | some x => .int x
theorem OptsAre.reads {h : Heap} : ∀ {vs : List Value} {os : List (Option Int)}, OptsAre vs os → ReadsAll h vs (os.map optD) [] := by
  intro vs os q
  induction q with
  | nil => exact .nil
  | cons o t _ ih =>
    cases o with
    | none => exact ReadsAll.cons (Reads.none (h := h)) ih
    | some k => exact ReadsAll.cons (Reads.int (h := h) k t) ih
theorem canLayAll0_opts : ∀ ns : List (Option Int), PyData.canLayAll0 (ns.map optD) = true
  | [] => by simp [PyData.canLayAll0]
  | some n :: r => by simp [PyData.canLayAll0, PyData.canLay0, optD, canLayAll0_opts r]
  | none :: r => by simp [PyData.canLayAll0, PyData.canLay0, optD, canLayAll0_opts r]
theorem depthAll_opts : ∀ ns : List (Option Int), PyData.depthAll (ns.map optD) ≤ 1
  | [] => by simp [PyData.depthAll]
  | n :: r => by
    have := depthAll_opts r
    cases n <;> simp only [List.map_cons, PyData.depthAll, PyData.depth, optD] <;> omega
theorem shaped_opts (ns : List (Option Int)) : shaped (.list (ns.map optD)) = true := by
  have h1 := depthAll_opts ns
  have h2 : PyData.depth (.list (ns.map optD)) ≤ 64 := by simp only [PyData.depth]; omega
  show (PyData.canLay0 (.list (ns.map optD)) && decide (PyData.depth (.list (ns.map optD)) ≤ 64)) = true
  rw [Bool.and_eq_true]
  exact ⟨by simp only [PyData.canLay0]; exact canLayAll0_opts ns, decide_eq_true h2⟩
section
variable {prog : Program} {w : World} {A : Around} {E : Value → Shared → Prop} {s : Shared} {h₀ : Heap} {L l : Addr} {news : List (Addr × Obj)}
theorem ne_nil_opts {l e : Addr} {vs : List Value} {os : List (Option Int)} {n k : Nat} {b : Bool} {Q : Value → Shared → Prop} (N : News h₀ L s.heap news) (hm : (l, listOf vs.toArray n) ∈ news) (hi : OptsAre vs os) (he : (e, listOf #[] k) ∈ news) (hu : A.units + 64 < cLine) (hb : (!decide (os = [])) = b)
    (h : Q (.bool b) s) : wpAny (model prog w) A (compareOp .NotEq (.ref l) (.ref e)) Q E s := by
  obtain ⟨o, ho, hc, m, hd⟩ := News.isList N hm
  obtain ⟨o2, ho2, hc2, m2, hd2⟩ := News.isList N he
  have r1 : Reads s.heap (.ref l) (.list (os.map optD)) [l] := Reads.list ho hc hd (by simpa using hi.reads)
  have r2 : Reads s.heap (.ref e) (.list (([] : List (Option Int)).map optD)) [e] := Reads.list ho2 hc2 hd2 (by simpa using ReadsAll.nil)
  refine ne_dataH_same r1 r2 (shaped_opts os) (shaped_opts []) hu ?_ ?_
  · cases os <;> simp [noMix, noMixAll]
  · have e : PySem.Spec.same (.list (os.map optD)) (.list (([] : List (Option Int)).map optD)) = decide (os = []) := by cases os <;> simp [PySem.Spec.same, PySem.Spec.sameAll]
    rw [e, hb]; exact h
theorem l_at {value slice : Expr} {vs : List Value} {n : Nat} {k : Int} {u : Tok} {x : Value} {Q : Value → Shared → Prop} (N : News h₀ L s.heap news) (hm : (l, listOf vs.toArray n) ∈ news) (h0 : 0 ≤ k) (h1 : k < 1000) (hx : vs[k.toNat]? = some x) (h : Q x s)
    (hs : subscripted slice false (.ref l) (.int k u) = operate [.ref l, .int k u] (getItem (.ref l) (.int k u)) := by with_unfolding_all rfl) (hg : ∀ r, letTemporaryGo value (.ref l) r = pure () := by intro _; with_unfolding_all rfl) :
    wpAny (model prog w) A (subscriptTail value slice (.ref l) (.int k u)) Q E s :=
  item_list (News.isList N hm) h0 (by omega) (by simpa using hx) h hs hg
theorem l_last {value slice : Expr} {vs : List Value} {n : Nat} {u : Tok} {x : Value} {Q : Value → Shared → Prop} (N : News h₀ L s.heap news) (hm : (l, listOf vs.toArray n) ∈ news) (hx : vs.getLast? = some x) (h : Q x s)
    (hs : subscripted slice false (.ref l) (.int (-1) u) = operate [.ref l, .int (-1) u] (getItem (.ref l) (.int (-1) u)) := by with_unfolding_all rfl) (hg : ∀ r, letTemporaryGo value (.ref l) r = pure () := by intro _; with_unfolding_all rfl) :
    wpAny (model prog w) A (subscriptTail value slice (.ref l) (.int (-1) u)) Q E s := by
  have hl := News.isList N hm
  have hp : 1 ≤ vs.length := by cases vs <;> simp at hx ⊢
  refine subscriptTail_builtin hl.typeIs slot_list_getitem.lookup (wpAny_getItem_list_neg hl (by decide) (by rw [List.size_toArray]; omega) (by decide) (x := x) ?_ h) hs hg
  rw [List.getLast?_eq_getElem?] at hx
  rw [show ((-1 : Int) + (vs.toArray.size : Nat)).toNat = vs.length - 1 by rw [List.size_toArray]; omega]
  simpa using hx
end
theorem enterHC {prog : Program} {w : World} {A A₀ : Around} {s : Shared} {K : Frag} {L : Addr} {h₀ base : Heap} {m mg mb : Str → Option Value} {news : List (Addr × Obj)} {p : Program} {loose : List Str} {mean : ExcName → Option Value}
    {env : Env} {outer : List Env} {R : Result → Shared → Prop} {name qual : Str} {params : Arguments} {body : List Stmt} {scope : Scope} {dV kV doc pm cdv ct oc : Value} {an od : Option Addr} {osl : Array (Option Value)} {f : Addr} {args : Args} {binds : List (Str × Value)}
    (B : Below A₀ base outer h₀) (F : Fr h₀ L s.heap m) (X₀ : K.In h₀) (N : News h₀ L s.heap news) (T : Top p loose mean mg mb h₀) (hA : A.frames = some (env :: outer)) (hf : env.frame = some L) (hke : env.scope.kind = .function)
    (ho : K.lookup f = some ⟨oc, od, .func (fnOf name qual params body scope dV kV doc pm an cdv ct), osl⟩) (hcd : codeIn K cdv qual = true) (hroom : A.depth < recursionLimit)
    (hbind : BindsTo s (fnOf name qual params body scope dV kV doc pm an cdv ct) args binds) (hkind : (binds.all fun y => scope.names.lookup y.1 == some .local || scope.names.lookup y.1 == some .cell) = true)
    (hnd : ((cellsFrom 0 scope.names []).map (·.1)).Nodup)
    (h : ∀ g L' h₁ tk cells, let gS := s.gens; let dS := s.drawn; let oS := s.os; Fr h₀ L g m → Fr g L' h₁ (bindL (envOfC qual scope L' f cdv).kindOf binds fun _ => none) → News g L' h₁ (cells ++ news) →
      CellsAre (bindC (envOfC qual scope L' f cdv).kindOf binds fun _ => none) (cellsFrom (L' + 1) scope.names []) cells → Below A base (env :: outer) g → K.In g → Top p loose mean mg mb g →
      g = hideAll s.heap (news.map (·.1)) → L' = s.heap.objs.size →
      wpAny (model prog w) (A.deeper (envOfC qual scope L' f cdv)) (execs body (envOfC qual scope L' f cdv))
        (fun fl s' => LeaveK h₀ L m g R (match fl with | .ret v => v | _ => .none) s')
        (fun e s' => wpAny (model prog w) (A.deeper (envOfC qual scope L' f cdv)) (leaving (envOfC qual scope L' f cdv) e) (fun _ s'' => R (.error e) s'') (fun e' s'' => R (.error e') s'') s')
        ⟨h₁, gS, dS, tk, oS⟩)
    (hco : scope.isCoroutine = false) (hgen : scope.isGenerator = false) (hk : scope.kind = .function) : codeAny (model prog w) A (.call (.ref f) args) R s := by
  obtain ⟨FG, BG, st, lv⟩ := groundX (R := R) B F N hA hf hke
  refine codeAny_call_function hroom ((X₀.keeps F.keep) _ _ ho) rfl hco hgen rfl (codeRec_of (X₀.keeps F.keep) hcd) (hbind _ _ _ _ ?_)
  refine wpAny_newFunctionEnv_cells hk (kindsX hkind _) fun env' he s' x => ?_
  subst he
  refine ⟨(T.nolimit.keeps F.keep).keeps x.toInCall.keep, codeAny_func ?_⟩
  obtain ⟨h₁, tk, rfl, _⟩ := x.done
  have hk₁ := x.toInCall.keep
  obtain ⟨cells, NC, Y⟩ := Cl.news (h₀ := s.heap) (Nat.le_refl _) fun n c hm => ⟨x.cell n c (lookup_of_mem_nodup (cellsFrom_names scope.names 0 (s.heap.objs.size + 1) [] [] rfl ▸ hnd) hm), x.above n c hm⟩
  refine wpAny_mono (h _ s.heap.objs.size h₁ tk cells FG ⟨x.toInCall.ns, fun b o e => hk₁ b o (of_hideAll _ e), Nat.le_of_eq (hideAll_size _ _)⟩ (fun p hp => ?_) Y BG (X₀.keeps st) (T.keeps st) rfl rfl) (fun fl s' hl => lv _ _ hl) fun _ _ y => y
  rcases List.mem_append.mp hp with hp | hp
  · refine ⟨(NC p hp).1, (NC p hp).2.1, ?_⟩
    cases q : (hideAll s.heap (news.map (·.1))).get? p.1 with
    | none => rfl
    | some o => have := of_hideAll _ q; rw [(NC p hp).2.2] at this; cases this
  · exact ⟨hk₁ _ _ (N p hp).1, Nat.ne_of_lt (Heap.lt_size (N p hp).1), hideAll_none _ (List.mem_map_of_mem hp)⟩
/-- what _law_net reckons -/
noncomputable def ownOf (st : List Stp) (sl : Int) : List (Option Int) := (st.filter fun p => decide (p.1 = sl)).map (·.2)
noncomputable def lastOf (d : Int) (own : List (Option Int)) : Int := ((own.filterMap id).getLast?).getD d
noncomputable def netSlot (fst : Int → Int) (st : List Stp) (sl : Int) : Int :=
  if ownOf st sl = [] then 0 else 2100 + 100 * (ownOf st sl).length + leadOf (fst sl) (lastOf (fst sl) (ownOf st sl)) - (if (ownOf st sl).head? = some none then 100 else 0)
theorem OptsAre.last : ∀ {vs : List Value} {os : List (Option Int)}, OptsAre vs os → (∀ o ∈ os, o.isSome = true) → os ≠ [] → ∀ d, ∃ t, vs.getLast? = some (.int (lastOf d os) t) := fun {vs os} h hs hne d => by
  have hi := h.ints hs
  have hl := hi.length
  have hz : (os.filterMap id).length = vs.length := hl.symm
  have hv : vs.length ≠ 0 := by rw [h.length]; simpa using hne
  obtain ⟨x, hx⟩ : ∃ x, (os.filterMap id).getLast? = some x := by
    cases e : (os.filterMap id).getLast? with
    | some x => exact ⟨x, rfl⟩
    | none => rw [List.getLast?_eq_none_iff] at e; rw [e] at hz; simp at hz; omega
  have e2 : lastOf d os = x := by unfold lastOf; rw [hx]; rfl
  rw [e2, List.getLast?_eq_getElem?, h.length]
  rw [List.getLast?_eq_getElem?, hz, h.length] at hx
  obtain ⟨t, e⟩ := IntsAre.get hi _ _ hx
  exact ⟨t, e⟩
theorem lastOf_filter (d : Int) (own : List (Option Int)) : lastOf d (own.filter (·.isSome)) = lastOf d own := by
  unfold lastOf
  congr 2
  induction own with
  | nil => rfl
  | cons o r ih => cases o <;> simp [ih]
theorem lastOf_nil (d : Int) (own : List (Option Int)) (h : own.filter (·.isSome) = []) : lastOf d own = d := by
  rw [← lastOf_filter, h]; rfl
end Mine
end
section
open PySem PySem.W PyProof.Rows PySem.Calls PySem.Spec
namespace Mine
/-- the pure law of the steps -/
noncomputable def phi (o c : Int) : Int := if o ≠ 0 ∧ c = 0 then 4800 else 0
theorem phi_nonneg (o c : Int) : 0 ≤ phi o c := by unfold phi; split <;> omega
theorem phi_self (o : Int) : phi o o = 0 := by unfold phi; split <;> omega
theorem refund_phi (o c f : Int) : phi o f - phi o c ≤ refundOf o c f := by
  unfold phi refundOf
  by_cases h1 : f = c <;> by_cases h2 : o = 0 <;> by_cases h3 : c = 0 <;> by_cases h4 : f = 0 <;> by_cases h5 : o = c <;> by_cases h6 : o = f <;> simp_all <;> omega
theorem step_net (o c f : Int) : changeCost o c f - refundOf o c f = 100 + leadOf o f - leadOf o c := by
  unfold changeCost refundOf leadOf
  by_cases h1 : f = c <;> by_cases h2 : o = 0 <;> by_cases h3 : c = 0 <;> by_cases h4 : f = 0 <;> by_cases h5 : o = c <;> by_cases h6 : o = f <;> simp_all <;> omega
theorem lead_self (o : Int) : leadOf o o = 0 := by unfold leadOf; simp
theorem snoc_ind {α : Type} {P : List α → Prop} (h0 : P []) (hs : ∀ l a, P l → P (l ++ [a])) (l : List α) : P l := by
  have : ∀ l : List α, P l.reverse := fun l => by
    induction l with
    | nil => exact h0
    | cons a l ih => rw [List.reverse_cons]; exact hs _ _ ih
  rw [← List.reverse_reverse l]; exact this _
theorem walked_snoc {fst : Int → Int} {st : List Stp} {p : Stp} : walked fst (st ++ [p]) = wstep fst (walked fst st) p := by
  unfold walked; rw [List.foldl_append]; rfl
theorem own_snoc {st : List Stp} {p : Stp} {sl : Int} : ownOf (st ++ [p]) sl = ownOf st sl ++ (if p.1 = sl then [p.2] else []) := by
  unfold ownOf
  rw [List.filter_append, List.map_append]
  by_cases h : p.1 = sl <;> simp [h]
theorem last_none {d : Int} {own : List (Option Int)} : lastOf d (own ++ [none]) = lastOf d own := by
  unfold lastOf; rw [List.filterMap_append]; simp
theorem last_some {d f : Int} {own : List (Option Int)} : lastOf d (own ++ [some f]) = f := by
  unfold lastOf; rw [List.filterMap_append]; simp
theorem walked_held {fst : Int → Int} {sl : Int} (st : List Stp) : (walked fst st).held sl = lastOf (fst sl) (ownOf st sl) := by
  induction st using snoc_ind with
  | h0 => rfl
  | hs st p ih =>
    rw [walked_snoc, own_snoc]
    obtain ⟨s, f⟩ := p
    cases f with
    | none =>
      show (walked fst st).held sl = _
      by_cases h : s = sl
      · rw [if_pos h, last_none, ih]
      · rw [if_neg h, List.append_nil, ih]
    | some f =>
      show upd (walked fst st).held s f sl = _
      unfold upd
      by_cases h : s = sl
      · rw [if_pos h, last_some, if_pos h.symm]
      · rw [if_neg h, List.append_nil, if_neg (fun e => h e.symm), ih]
theorem walked_come {fst : Int → Int} {sl : Int} (st : List Stp) : sl ∈ (walked fst st).come ↔ ownOf st sl ≠ [] := by
  induction st using snoc_ind with
  | h0 => simp [walked, ownOf]
  | hs st p ih =>
    rw [walked_snoc, own_snoc]
    obtain ⟨s, f⟩ := p
    have e : (wstep fst (walked fst st) (s, f)).come = (walked fst st).come ++ [s] := by cases f <;> rfl
    rw [e, List.mem_append, ih]
    by_cases h : s = sl
    · simp [h]
    · have : ¬ sl = s := fun e => h e.symm
      simp [h, this]
noncomputable def sumC (l : List (Int × Int)) : Int := (l.map (·.1)).sum
noncomputable def sumR (l : List (Int × Int)) : Int := (l.map (·.2)).sum
theorem sumC_snoc {l : List (Int × Int)} {p : Int × Int} : sumC (l ++ [p]) = sumC l + p.1 := by simp [sumC]
theorem sumR_snoc {l : List (Int × Int)} {p : Int × Int} : sumR (l ++ [p]) = sumR l + p.2 := by simp [sumR]
/-- the pair that a step adds -/
noncomputable def pairOf (fst : Int → Int) (k : WK) : Stp → Int × Int
  | (sl, none) => ((if sl ∈ k.come then 100 else 2100), 0)
  | (sl, some f) => (dueCost (fst sl) (k.held sl) f (!decide (sl ∈ k.come)), refundOf (fst sl) (k.held sl) f)
theorem wstep_pairs {fst : Int → Int} {k : WK} {p : Stp} : (wstep fst k p).pairs = k.pairs ++ [pairOf fst k p] := by
  obtain ⟨s, f⟩ := p
  cases f <;> rfl
theorem net_other {fst : Int → Int} {st : List Stp} {p : Stp} {sl : Int} (h : p.1 ≠ sl) : netSlot fst (st ++ [p]) sl = netSlot fst st sl := by
  unfold netSlot; rw [own_snoc, if_neg h, List.append_nil]
theorem net_own {fst : Int → Int} {st : List Stp} {sl : Int} {o : Option Int} : netSlot fst (st ++ [(sl, o)]) sl = netSlot fst st sl + (pairOf fst (walked fst st) (sl, o)).1 - (pairOf fst (walked fst st) (sl, o)).2 := by
  have hh := walked_held (fst := fst) (sl := sl) st
  have hc := walked_come (fst := fst) (sl := sl) st
  unfold netSlot
  rw [own_snoc, if_pos rfl]
  generalize ownOf st sl = own at *
  generalize walked fst st = K at *
  cases own with
  | nil =>
    have hn : ¬ sl ∈ K.come := fun h => hc.mp h rfl
    cases o with
    | none => simp [pairOf, hn, lastOf, leadOf]
    | some f =>
      have hf : K.held sl = fst sl := by rw [hh]; rfl
      have := step_net (fst sl) (fst sl) f
      have e := lead_self (fst sl)
      have l1 : lastOf (fst sl) ([] ++ [some f]) = f := last_some
      simp only [pairOf, hn, hf, dueCost, l1]
      simp
      omega
  | cons x own =>
    have hn : sl ∈ K.come := hc.mpr (by simp)
    have hne : x :: own ++ [o] ≠ [] := by simp
    rw [if_neg hne, if_neg (by simp : ¬ (x :: own = []))]
    cases o with
    | none =>
      rw [last_none]
      simp [pairOf, hn]
      omega
    | some f =>
      rw [last_some]
      have := step_net (fst sl) (K.held sl) f
      rw [hh] at this
      simp only [pairOf, hn, dueCost, hh]
      simp
      omega
theorem net_law {fst : Int → Int} {s1 s2 : Int} (hne : s1 ≠ s2) (st : List Stp) : (∀ p ∈ st, p.1 = s1 ∨ p.1 = s2) → sumC (walked fst st).pairs - sumR (walked fst st).pairs = netSlot fst st s1 + netSlot fst st s2 := by
  induction st using snoc_ind with
  | h0 => intro _; rfl
  | hs st p ih =>
    intro h
    have ih := ih fun q hq => h q (List.mem_append_left _ hq)
    rw [walked_snoc, wstep_pairs, sumC_snoc, sumR_snoc]
    obtain ⟨s, o⟩ := p
    rcases h (s, o) (by simp) with rfl | rfl
    · dsimp only at hne ih ⊢; rw [net_own, net_other (p := (s, o)) hne]; omega
    · dsimp only at hne ih ⊢; rw [net_own, net_other (p := (s, o)) (fun e => hne e.symm)]; omega
theorem refund_law {fst : Int → Int} {s1 s2 : Int} (hne : s1 ≠ s2) (st : List Stp) : (∀ p ∈ st, p.1 = s1 ∨ p.1 = s2) → phi (fst s1) ((walked fst st).held s1) + phi (fst s2) ((walked fst st).held s2) ≤ sumR (walked fst st).pairs := by
  induction st using snoc_ind with
  | h0 =>
    intro _
    show phi (fst s1) (fst s1) + phi (fst s2) (fst s2) ≤ 0
    rw [phi_self, phi_self]; omega
  | hs st p ih =>
    intro h
    have ih := ih fun q hq => h q (List.mem_append_left _ hq)
    rw [walked_snoc, wstep_pairs, sumR_snoc]
    obtain ⟨s, o⟩ := p
    generalize walked fst st = K at *
    cases o with
    | none => show phi _ (K.held s1) + phi _ (K.held s2) ≤ sumR K.pairs + 0; omega
    | some f =>
      show phi _ (upd K.held s f s1) + phi _ (upd K.held s f s2) ≤ sumR K.pairs + refundOf (fst s) (K.held s) f
      have := refund_phi (fst s) (K.held s) f
      rcases h (s, some f) (by simp) with e | e
      · dsimp only at e
        subst e
        have e2 : upd K.held s f s = f := by simp [upd]
        have e3 : upd K.held s f s2 = K.held s2 := if_neg fun e => hne e.symm
        rw [e2, e3]; omega
      · dsimp only at e
        subst e
        have e2 : upd K.held s f s = f := by simp [upd]
        have e3 : upd K.held s f s1 = K.held s1 := if_neg fun e => hne e
        rw [e2, e3]; omega
theorem refund_nonneg {fst : Int → Int} {s1 s2 : Int} (hne : s1 ≠ s2) (st : List Stp) (h : ∀ p ∈ st, p.1 = s1 ∨ p.1 = s2) : 0 ≤ sumR (walked fst st).pairs := by
  have := refund_law (fst := fst) hne st h
  have := phi_nonneg (fst s1) ((walked fst st).held s1)
  have := phi_nonneg (fst s2) ((walked fst st).held s2)
  omega
/-- the state is that of the steps that stand -/
structure Mt (fst : Int → Int) (st : List Stp) (S : SS) : Prop where
  hsto : S.sto = (walked fst st).held
  hwrm : S.wrm = fun x => decide (x ∈ (walked fst st).come)
  hrfd : S.rfd = sumR (walked fst st).pairs
theorem Undone.back {s1 s2 : Int} {Ji : List JR} {Si : SS} {J' : List JR} {S' : SS} {J : List JR} {S : SS} (h : Undone s1 s2 J' S' J S) : Undone s1 s2 Ji Si J S → Ji.length ≤ J'.length → Undone s1 s2 Ji Si J' S' := by
  induction h with
  | refl => exact fun h _ => h
  | @step J r S a b ih =>
    intro h2 hl
    have hb := b.le
    obtain ⟨J1, r1, e, _, d⟩ := h2.inv (by rw [List.length_append, List.length_singleton]; omega)
    obtain ⟨e1, e2⟩ := List.append_inj' e rfl
    subst e1
    cases e2
    exact ih d hl
/-- the marks that were noted -/
structure NotesOK (s1 s2 : Int) (fst : Int → Int) (notes : List (Nat × Nat)) (st : List Stp) (J : List JR) (S : SS) : Prop where
  srt : notes.Pairwise fun a b => a.2 ≤ b.2 ∧ a.1 ≤ b.1
  ok : ∀ p ∈ notes, p.1 ≤ st.length ∧ ∃ J' S', J'.length = p.2 ∧ Mt fst (st.take p.1) S' ∧ Undone s1 s2 J' S' J S
theorem NotesOK.nil {s1 s2 : Int} {fst : Int → Int} {st : List Stp} {J : List JR} {S : SS} : NotesOK s1 s2 fst [] st J S := ⟨.nil, fun _ h => nomatch h⟩
theorem NotesOK.push {s1 s2 : Int} {fst : Int → Int} {notes : List (Nat × Nat)} {st : List Stp} {J : List JR} {S : SS} (h : NotesOK s1 s2 fst notes st J S) (hm : Mt fst st S) : NotesOK s1 s2 fst (notes ++ [(st.length, J.length)]) st J S := by
  refine ⟨List.pairwise_append.mpr ⟨h.srt, List.pairwise_singleton _ _, fun a ha b hb => ?_⟩, fun p hp => ?_⟩
  · rw [List.mem_singleton.mp hb]
    obtain ⟨h1, J', S', e, _, u⟩ := h.ok a ha
    have := u.le
    exact ⟨by show a.2 ≤ J.length; omega, h1⟩
  · rcases List.mem_append.mp hp with hp | hp
    · exact h.ok p hp
    · rw [List.mem_singleton.mp hp]
      exact ⟨Nat.le_refl _, J, S, rfl, by rw [List.take_length]; exact hm, .refl⟩
theorem NotesOK.step {s1 s2 : Int} {fst : Int → Int} {notes : List (Nat × Nat)} {st : List Stp} {J J1 : List JR} {S S1 : SS} {p : Stp} (h : NotesOK s1 s2 fst notes st J S) (hu : ∀ J' S', Undone s1 s2 J' S' J S → Undone s1 s2 J' S' J1 S1) : NotesOK s1 s2 fst notes (st ++ [p]) J1 S1 := by
  refine ⟨h.srt, fun q hq => ?_⟩
  obtain ⟨h1, J', S', e, m, u⟩ := h.ok q hq
  refine ⟨by rw [List.length_append]; omega, J', S', e, ?_, hu _ _ u⟩
  rw [List.take_append_of_le_length h1]; exact m
theorem NotesOK.pop {s1 s2 : Int} {fst : Int → Int} {notes : List (Nat × Nat)} {many k : Nat} {st : List Stp} {J : List JR} {S : SS} (h : NotesOK s1 s2 fst (notes ++ [(many, k)]) st J S) :
    many ≤ st.length ∧ ∃ J' S', J'.length = k ∧ Mt fst (st.take many) S' ∧ Undone s1 s2 J' S' J S ∧ NotesOK s1 s2 fst notes (st.take many) J' S' := by
  obtain ⟨h1, J', S', e, m, u⟩ := h.ok (many, k) (by simp)
  have hs := List.pairwise_append.mp h.srt
  refine ⟨h1, J', S', e, m, u, hs.1, fun q hq => ?_⟩
  obtain ⟨g1, Jq, Sq, eq, mq, uq⟩ := h.ok q (List.mem_append_left _ hq)
  have hle := hs.2.2 q hq (many, k) (by simp)
  dsimp only at hle e
  refine ⟨by rw [List.length_take]; omega, Jq, Sq, eq, ?_, u.back uq (by omega)⟩
  rw [List.take_take, Nat.min_eq_left hle.2]; exact mq
/-- what has never been set is as at first -/
noncomputable def Unset (W : Int → Bool) (st : List Stp) : Prop := ∀ x, W x = false → ∀ f, (x, some f) ∉ st
theorem Unset.held {fst : Int → Int} {W : Int → Bool} {st : List Stp} (h : Unset W st) {x : Int} (hx : W x = false) : (walked fst st).held x = fst x := by
  rw [walked_held]
  have : ∀ o ∈ ownOf st x, o = none := fun o ho => by
    unfold ownOf at ho
    obtain ⟨p, hp, rfl⟩ := List.mem_map.mp ho
    obtain ⟨h1, h2⟩ := List.mem_filter.mp hp
    obtain ⟨s, o⟩ := p
    cases o with
    | none => rfl
    | some f =>
      have e : s = x := by simpa using h2
      exact absurd h1 (e ▸ h x hx f)
  unfold lastOf
  rw [show (ownOf st x).filterMap id = [] from List.filterMap_eq_nil_iff.mpr this]
  rfl
theorem Unset.take {W : Int → Bool} {st : List Stp} {n : Nat} (h : Unset W st) : Unset W (st.take n) := fun x hx f hm => h x hx f (List.mem_of_mem_take hm)
theorem Unset.read {W : Int → Bool} {st : List Stp} {sl : Int} (h : Unset W st) : Unset W (st ++ [(sl, none)]) := fun x hx f hm => by
  rcases List.mem_append.mp hm with hm | hm
  · exact h x hx f hm
  · cases List.mem_singleton.mp hm
theorem Unset.put {W : Int → Bool} {st : List Stp} {sl f : Int} (h : Unset W st) : Unset (setB W sl true) (st ++ [(sl, some f)]) := fun x hx g hm => by
  unfold setB at hx
  split at hx
  · cases hx
  · rename_i hne
    rcases List.mem_append.mp hm with hm | hm
    · exact h x hx g hm
    · exact hne (congrArg Prod.fst (List.mem_singleton.mp hm))
/-- the journal's lines of a reading step -/
theorem undone_warm {s1 s2 sl : Int} {J : List JR} {S : SS} {J' : List JR} {S' : SS} (h : Undone s1 s2 J' S' J S) : Undone s1 s2 J' S' (J ++ if S.wrm sl then [] else [JR.warm sl]) { S with wrm := setB S.wrm sl true } := by
  cases hw : S.wrm sl with
  | true =>
    have : ({ S with wrm := setB S.wrm sl true } : SS) = S := by
      obtain ⟨a, b, c, d⟩ := S
      have : setB c sl true = c := by funext x; unfold setB; split <;> simp_all
      simp [this]
    rw [this, if_pos rfl, List.append_nil]; exact h
  | false =>
    rw [if_neg (by simp)]
    refine .step (by show setB S.wrm sl true sl = true; simp [setB]) ?_
    have : undo1 (JR.warm sl) { S with wrm := setB S.wrm sl true } = S := by
      obtain ⟨a, b, c, d⟩ := S
      have : setB (setB c sl true) sl false = c := by funext x; unfold setB; split <;> simp_all
      simp [undo1, this]
    rw [this]; exact h
theorem undone_set {s1 s2 sl wd : Int} (hsl : sl = s1 ∨ sl = s2) {J : List JR} {S : SS} {J' : List JR} {S' : SS} (h : Undone s1 s2 J' S' J S) : Undone s1 s2 J' S' (J ++ (if S.tch then [] else [JR.touched]) ++ [JR.slot sl (S.sto sl)]) { S with sto := upd S.sto sl wd, tch := true } := by
  refine .step hsl ?_
  have : undo1 (JR.slot sl (S.sto sl)) { S with sto := upd S.sto sl wd, tch := true } = { S with tch := true } := by
    obtain ⟨a, b, c, d⟩ := S
    have : upd (upd a sl wd) sl (a sl) = a := by funext x; unfold upd; split <;> simp_all
    simp [undo1, this]
  rw [this]
  cases ht : S.tch with
  | true =>
    have : ({ S with tch := true } : SS) = S := by obtain ⟨a, b, c, d⟩ := S; cases ht; rfl
    rw [this, if_pos rfl, List.append_nil]; exact h
  | false =>
    rw [if_neg (by simp)]
    refine .step rfl ?_
    have : undo1 JR.touched { S with tch := true } = S := by obtain ⟨a, b, c, d⟩ := S; cases ht; rfl
    rw [this]; exact h
theorem undone_refund {s1 s2 r : Int} {J : List JR} {S : SS} {J' : List JR} {S' : SS} (h : Undone s1 s2 J' S' J S) : Undone s1 s2 J' S' (J ++ [JR.refund S.rfd]) { S with rfd := S.rfd + r } := by
  refine .step trivial ?_
  exact h
theorem Mt.read {fst : Int → Int} {st : List Stp} {S : SS} {sl : Int} (h : Mt fst st S) : Mt fst (st ++ [(sl, none)]) { S with wrm := setB S.wrm sl true } := by
  obtain ⟨a, b, c⟩ := h
  constructor
  · rw [walked_snoc]; exact a
  · rw [walked_snoc]
    funext x
    show setB S.wrm sl true x = decide (x ∈ (walked fst st).come ++ [sl])
    rw [b]
    unfold setB
    by_cases hx : x = sl <;> simp [hx]
  · rw [walked_snoc, wstep_pairs, sumR_snoc]
    show S.rfd = _ + 0
    omega
theorem Mt.put {fst : Int → Int} {st : List Stp} {S : SS} {sl f : Int} (h : Mt fst st S) : Mt fst (st ++ [(sl, some f)]) ⟨upd S.sto sl f, true, setB S.wrm sl true, S.rfd + refundOf (fst sl) (S.sto sl) f⟩ := by
  obtain ⟨a, b, c⟩ := h
  constructor
  · rw [walked_snoc]
    show upd S.sto sl f = upd _ sl f
    rw [a]
  · rw [walked_snoc]
    funext x
    show setB S.wrm sl true x = decide (x ∈ (walked fst st).come ++ [sl])
    rw [b]
    unfold setB
    by_cases hx : x = sl <;> simp [hx]
  · rw [walked_snoc, wstep_pairs, sumR_snoc, ← c]
    show S.rfd + refundOf (fst sl) (S.sto sl) f = S.rfd + refundOf (fst sl) ((walked fst st).held sl) f
    rw [a]
end Mine
end
section
open PySem PySem.W PyProof.Rows PySem.Calls
namespace Mine
theorem fresh_M21 : True := by
  w_top off
  trivial
theorem lines_M21_0 : True := by
  k_with_none
  (k_with "g_ktr_room" => (first | exact Nat.le_of_ble_eq_true rfl | exact roomF 0 (by assumption) rfl rfl | exact roomF 1 (by assumption) rfl rfl | exact roomF 2 (by assumption) rfl rfl | exact roomF 3 (by assumption) rfl rfl | exact roomF 4 (by assumption) rfl rfl))
  (k_with "g_ktr_units" => (first | exact Nat.le_of_ble_eq_true rfl | exact unitF 3 (by assumption) rfl rfl | exact unitG 3 (by assumption) rfl rfl | exact unitG 6 (by assumption) rfl rfl | exact unitF 6 (by assumption) rfl rfl | exact unitF 7 (by assumption) rfl rfl | exact unitF 4 (by assumption) rfl rfl | exact unitF 5 (by assumption) rfl rfl | exact unitF 8 (by assumption) rfl rfl | exact unitF 9 (by assumption) rfl rfl | exact unitF 10 (by assumption) rfl rfl | exact unitF 11 (by assumption) rfl rfl | exact unitF 12 (by assumption) rfl rfl | exact unitF 13 (by assumption) rfl rfl | exact unitF 14 (by assumption) rfl rfl | exact unitF 15 (by assumption) rfl rfl | exact unitF 0 (by assumption) rfl rfl | exact unitF 1 (by assumption) rfl rfl | exact unitF 2 (by assumption) rfl rfl))
  (k_with "g_k_ne" => ((refine neN ?_; (try dsimp only); first | exact Ne'.o (by with_reducible assumption) | exact Ne'.s (by with_reducible assumption) | k_extra "ne")))
  (k_with "g_k_all" => (first | exact OwnOff.ne (by with_reducible assumption) (by k_mem) | exact allLt_ne (by assumption)))
  (k_with "g_size_fits" => ((simp only [List.size_toArray, List.length_map, List.length_append, List.length_cons, List.length_nil, Array.size_push]; (first | done | (rw [sizeLine_eq]; omega)))))
  (k_with "g_ent" => (apply code_defF; (case hA => exact rfl); (case hf => exact rfl); (case hke => exact rfl); (case B => k_asm); (case F => k_asm); (case X₀ => k_asm); (case N => k_asm); (case T => k_asm); (case ho => k_is); (case hcd => k_is); (case hroom => k_room); (case hbind => first | exact BindsTo.of_eq rfl | exact binds_K (by k_in) rfl (by k_is) rfl rfl rfl | fail "no rule for these arguments"); (case hcell => decide); (case hloc => exact locs rfl); (case hco => exact rfl); (case hgen => exact rfl); (case hk => exact rfl); k_whole; intro _ _ _ evX AX mmX _ _ _ _ _ _; (try dsimp only); (try k_fold)))
  (k_with "call ref" => (k_here; k_dflt (first
    | (apply call_cls0; (case F => k_asm); (case X₀ => k_asm); (case N => k_asm); (case hm => k_is); (case hi => k_is); k_whole; intro x' d' h' F' N' l1 l2; (try k_lt l1); (try k_lt2 l2); (try k_sweep); (revert x' d' h' F' N' l1 l2; intros))
    | (apply call_cls; (case F => k_asm); (case X₀ => k_asm); (case N => k_asm); (case hm => k_is); (case hi => k_is); (case hf => k_is); k_whole; intro x' d' h' F' N' l1 l2; (try k_lt l1); (try k_lt2 l2); (try k_sweep); (revert x' d' h' F' N' l1 l2; intros); k_extra "g_ent")
    | (apply call_meth; (case N => k_asm); (case hq => k_mem); k_whole; k_extra "g_ent")
    | (refine wpAny_call ?_; k_extra "g_ent"))))
  (k_with "call ref" => (k_here; (with_reducible show wpAny _ _ (call (Value.ref 154) [_, _, _, _] _) _ _ _); k_dflt (apply row_call; (case B => k_asm); (case F => k_asm); (case X => k_asm); (case N => k_asm); (case T => k_asm); (case hk => exact rfl); (case hd => ktr_room); k_whole); intro x' d' h' tk' k0' k1' k2' k3' F' N' l1 l2; (try k_lt l1); (try k_lt2 l2); (try k_sweep); (revert x' d' h' tk' k0' k1' k2' k3' F' N' l1 l2; intros)))
  (k_with "storeName" => (k_here; k_dflt (apply stXF; (case F => k_asm); (case N => k_asm); (case hk => rfl); (case hx => rfl); k_whole); intro mmX; intro _ _ _; (try k_sweep)))
  (k_with "execs cons" => (k_here; (try dsimp only); (refine execsF ?_); intro qkX))
  (k_with "execs cons" => (k_here; (try dsimp only); (with_reducible show wpAny _ _ _ _ _ (Shared.mk _ _ _ (_ + _) _)); (refine toksF ?_); intro tkX; (refine execsF ?_); intro qkX))
  (k_with "lt" => (first | with_reducible assumption | (apply And.left; first | with_reducible assumption | (apply And.right; first | with_reducible assumption | (apply And.right; first | with_reducible assumption | (apply And.right; first | with_reducible assumption | (apply And.right; first | with_reducible assumption | (apply And.right; first | with_reducible assumption | (apply And.right; first | with_reducible assumption | (apply And.right; first | with_reducible assumption | (apply And.right; first | with_reducible assumption | (apply And.right; first | with_reducible assumption | (apply And.right; first | with_reducible assumption | (apply And.right; first | with_reducible assumption | (apply And.right; first | with_reducible assumption | (apply And.right; first | with_reducible assumption | (apply And.right; first | with_reducible assumption | (apply And.right; with_reducible assumption))))))))))))))))))
  (k_with "ne" => (first | (refine Nat.ne_of_gt ?_; k_extra "lt") | (refine Nat.ne_of_lt ?_; k_extra "lt") | (refine Nat.ne_of_gt ?_; apply Nat.lt_trans; rotate_left; (with_reducible assumption); k_extra "lt") | (refine Nat.ne_of_lt ?_; apply Nat.lt_trans; rotate_left; (with_reducible assumption); k_extra "lt")))
  (k_with "subscriptTail" => (k_here; (with_reducible show wpAny _ _ (subscriptTail _ _ (Value.ref _) (Value.str _ _)) _ _ _); k_dflt (apply d_item (knd := strKind _ _) (hkey := (str_key _ _)); (case N => k_asm); (case hm => k_mem); (case hD => assumption); (case hv => first | assumption | exact rfl); (case hs => with_unfolding_all rfl); k_whole)))
  (k_with "subscriptTail" => (k_here; (with_reducible show wpAny _ _ (subscriptTail _ _ (Value.ref _) (Value.int _ _)) _ _ _); k_dflt (apply d_item (knd := intKind _ _) (hkey := (int_key _ _)); (case N => k_asm); (case hm => k_mem); (case hD => assumption); (case hv => first | assumption | exact rfl); (case hs => with_unfolding_all rfl); k_whole)))
  (k_with "compareOp In" => (k_here; (with_reducible show wpAny _ _ (compareOp CmpOp.In (Value.int _ _) (Value.ref _)) _ _ _); k_dflt (apply d_inB (knd := intKind _ _) (hkey := (int_key _ _)); (case N => k_asm); (case hm => k_mem); (case hD => assumption); (case lo => assumption); (case hb => first | assumption | exact rfl); k_whole)))
  (k_with "compareOp NotIn" => (k_here; (with_reducible show wpAny _ _ (compareOp CmpOp.NotIn (Value.int _ _) (Value.ref _)) _ _ _); k_dflt (apply d_notIn (knd := intKind _ _) (hkey := (int_key _ _)); (case N => k_asm); (case hm => k_mem); (case hD => assumption); (case lo => assumption); (case hb => first | assumption | exact rfl); k_whole)))
  (k_with "call builtin:dict.get" => (k_here; (with_reducible show wpAny _ _ (call (Value.builtin _) [Value.ref _, Value.int _ _, _]) _ _ _); k_dflt (apply d_get2B (knd := intKind _ _) (hkey := (int_key _ _)); (case N => k_asm); (case hm => k_mem); (case hD => assumption); (case lo => assumption); (case hv => first | assumption | exact rfl); k_whole)))
  (k_with "setItem" => (k_here; (with_reducible show wpAny _ _ (setItem (Value.ref _) (Value.str _ _) _) _ _ _); k_dflt (apply d_set (knd := strKind _ _) (hkey := (str_key _ _)); (case F => k_asm); (case N => k_asm); (case U => k_updF); (case hD => assumption); (case hz => first | assumption | decide | (simp; done)); k_whole); intro h' o' F' N' D'; (try dsimp only at N'); (try simp (decide := true) [stored] at D'); (try k_sweep); (revert h' o' F' N' D'; intros)))
  (k_with "setItem" => (k_here; (with_reducible show wpAny _ _ (setItem (Value.ref _) (Value.int _ _) _) _ _ _); k_dflt (apply d_set (knd := intKind _ _) (hkey := (int_key _ _)); (case F => k_asm); (case N => k_asm); (case U => k_updF); (case hD => assumption); (case hz => first | assumption | decide | (simp; done)); k_whole); intro h' o' F' N' D'; (try dsimp only at N'); (try k_sweep); (revert h' o' F' N' D'; intros)))
  (k_with "delItem" => (k_here; (with_reducible show wpAny _ _ (delItem (Value.ref _) (Value.int _ _)) _ _ _); k_dflt (apply d_del (knd := intKind _ _) (hkey := (int_key _ _)); (case F => k_asm); (case N => k_asm); (case U => k_updF); (case hD => assumption); (case hl => assumption); (case hz => first | assumption | decide | (simp; done)); k_whole); intro h' o' F' N' D'; (try dsimp only at N'); (try k_sweep); (revert h' o' F' N' D'; intros)))
  (k_with "getMethod ref" => (k_here; (with_reducible show wpAny _ _ (getMethod (Value.ref _) (PySem.Str.ofString "get") _) _ _ _); k_dflt (apply t_getMethod; (case N => k_asm); (case hm => k_mem); (case hD => assumption); k_whole)))
  (k_with "call builtin:len" => (k_here; (with_reducible show wpAny _ _ (call (Value.builtin "len") [Value.ref _]) _ _ _); k_dflt (apply l_len; (case N => k_asm); (case hm => k_mem); (case hz => (simp only [List.size_toArray, List.length_map]; omega)); k_whole)))
  (k_with "compareOp In" => (k_here; (with_reducible show wpAny _ _ (compareOp CmpOp.In (Value.ref _) (Value.ref _)) _ _ _); k_dflt (apply t_in; (case N => k_asm); (case hm => k_mem); (case hD => assumption); (case hK => exact KeysIn.mono (by assumption) (by intro p hp; repeat (first | exact hp | refine List.Mem.tail _ ?_))); (case hq => k_mem); (case ht => exact tupO2); (case hu => ktr_units); (case lo => assumption); (case hb => assumption); k_whole)))
  (k_with "compareOp NotIn" => (k_here; (with_reducible show wpAny _ _ (compareOp CmpOp.NotIn (Value.ref _) (Value.ref _)) _ _ _); k_dflt (apply t_notIn; (case N => k_asm); (case hm => k_mem); (case hD => assumption); (case hK => exact KeysIn.mono (by assumption) (by intro p hp; repeat (first | exact hp | refine List.Mem.tail _ ?_))); (case hq => k_mem); (case ht => exact tupO2); (case hu => ktr_units); (case lo => assumption); (case hb => assumption); k_whole)))
  (k_with "call builtin:dict.get" => (k_here; (with_reducible show wpAny _ _ (call (Value.builtin _) [Value.ref _, Value.ref _, _]) _ _ _); k_dflt (apply t_get2; (case N => k_asm); (case hm => k_mem); (case hD => assumption); (case hK => exact KeysIn.mono (by assumption) (by intro p hp; repeat (first | exact hp | refine List.Mem.tail _ ?_))); (case hq => k_mem); (case ht => exact tupO2); (case hu => ktr_units); (case lo => assumption); (case hv => first | assumption | exact rfl); k_whole)))
  (k_with "setItem" => (k_here; (with_reducible show wpAny _ _ (setItem (Value.ref _) (Value.ref _) _) _ _ _); k_dflt (apply t_set; (case F => k_asm); (case N => k_asm); (case U => k_updF); (case hD => assumption); (case hK => exact KeysIn.mono (by assumption) (by intro p hp; repeat (first | exact hp | refine List.Mem.tail _ ?_))); (case hq => k_mem); (case ht => exact tupO2); (case hu => ktr_units); (case hz => assumption); k_whole); intro h' o' F' N' D'; (try dsimp only at N'); (try k_sweep); (revert h' o' F' N' D'; intros)))
  (k_with "delItem" => (k_here; (with_reducible show wpAny _ _ (delItem (Value.ref _) (Value.ref _)) _ _ _); k_dflt (apply t_del; (case F => k_asm); (case N => k_asm); (case U => k_updF); (case hD => assumption); (case hK => exact KeysIn.mono (by assumption) (by intro p hp; repeat (first | exact hp | refine List.Mem.tail _ ?_))); (case hq => k_mem); (case ht => exact tupO2); (case hu => ktr_units); (case hl => assumption); (case hz => assumption); k_whole); intro h' o' F' N' D'; (try dsimp only at N'); (try k_sweep); (revert h' o' F' N' D'; intros)))
  (k_with "eval Dict" => (k_here; k_dflt (refine' kdn_str ?q ?F ?N ?b ?a ?l ?e ?n ?_; (case q => rfl); (case F => k_asm); (case N => first | k_asm | exact News.nil); (case b => exact Top.nolimit (by k_asm)); (case a => rfl); (case l => rfl); (case e => exact List.cons_ne_nil _ _); (case n => exact Nat.le_of_ble_eq_true rfl)); intro d' h' o' F' N' l1 lo' hd'; (try k_lt l1); (revert d' h' o' F' N' l1 lo' hd'; intros)))
  (k_with "compareOp NotIn" => (k_here; (with_reducible show wpAny _ _ (compareOp CmpOp.NotIn (Value.int _ _) (Value.ref _)) _ _ _); k_dflt (apply li_notIn; (case N => k_asm); (case hm => k_mem); (case hi => assumption); (case hb => first | assumption | exact rfl); k_whole)))
  (k_with "compareOp In" => (k_here; (with_reducible show wpAny _ _ (compareOp CmpOp.In (Value.int _ _) (Value.ref _)) _ _ _); k_dflt (apply li_in; (case N => k_asm); (case hm => k_mem); (case hi => assumption); (case hb => first | assumption | exact rfl); k_whole)))
  (k_with "call builtin:list.append" => (k_here; (with_reducible show wpAny _ _ (call (Value.builtin _) [Value.ref _, _]) _ _ _); k_dflt (apply l_append; (case F => k_asm); (case N => k_asm); (case U => k_updF); (case hz => first | assumption | omega); k_whole); intro h' F' N'; (try dsimp only at N'); (revert h' F' N'; intros)))
  (k_with "call type:dict" => (k_here; (with_reducible show wpAny _ _ (call (Value.type "dict") [Value.ref _]) _ _ _); k_dflt (apply dict_copy2; (case F => k_asm); (case N => k_asm); (case hbig => exact Top.nolimit (by k_asm)); (case hm => k_mem); (case hD => assumption); (case hR => assumption); (case lo => assumption); k_whole); intro d' h' o' kvs' F' N' l1 lo' hd' hr'; (try k_lt l1); (revert d' h' o' kvs' F' N' l1 lo' hd' hr'; intros)))
  (k_with "compareOp NotIn int ref" => (k_here; (with_reducible show wpAny _ _ (compareOp CmpOp.NotIn (Value.int _ _) (Value.ref _)) _ _ _); k_dflt (apply li_notIn; (case N => k_asm); (case hm => k_mem); (case hi => assumption); (case hb => first | assumption | exact rfl); k_whole)))
  (k_with "compareOp In int ref" => (k_here; (with_reducible show wpAny _ _ (compareOp CmpOp.In (Value.int _ _) (Value.ref _)) _ _ _); k_dflt (apply li_in; (case N => k_asm); (case hm => k_mem); (case hi => assumption); (case hb => first | assumption | exact rfl); k_whole)))
  (k_with "eval Call" => (k_here; (with_reducible show wpAny _ _ (eval (Expr.Call (Expr.Name _ _) _ [] _) _) _ _ _); k_dflt (refine Call_ ?_)))
  (k_with "eval Name" => (k_here; (with_reducible show wpAny _ _ (eval (Expr.Name _ _) (compEnvC _ _ _ _)) _ _ _); k_dflt (first
  | (apply ldVarK; (case hd => decide); (case hk => rfl); (case hl => rfl); (case F => assumption); (case hv => assumption); k_whole)
  | (apply lcf_free; (case hb => decide); (case hn => decide); (case hk => rfl); (case hx => rfl); (case N => k_asm); (case hc => rfl); (case hm => k_mem); (case hd => k_asm); k_whole))))
  (k_with "call ref" => (k_here; (with_reducible show wpAny _ _ (call (Value.ref 438) _ _) _ _ _); (with_reducible refine stop_mk ?_)))
  (k_with "exec For Name Name cons nil" => (k_here; (with_reducible refine stop_mk ?_)))
  (k_with "pyIter ref" => (k_here; (with_reducible refine stop_mk ?_)))
  (k_with "exec Assign cons ListComp" => (k_here; (with_reducible refine stop_mk ?_)))
  (k_with "compareOp NotEq ref ref" => (k_here; (with_reducible refine stop_mk ?_)))
  (k_with "subscriptTail" => (k_here; (with_reducible show wpAny _ _ (subscriptTail _ _ (Value.ref _) (Value.int 0 _)) _ _ _); k_dflt (apply l_at; (case N => k_asm); (case hm => k_mem); (case h0 => decide); (case h1 => decide); (case hx => assumption); (case hs => with_unfolding_all rfl); (case hg => intro _; with_unfolding_all rfl); k_whole)))
  (k_with "subscriptTail" => (k_here; (with_reducible show wpAny _ _ (subscriptTail _ _ (Value.ref _) (Value.int (-1) _)) _ _ _); k_dflt (apply l_last; (case N => k_asm); (case hm => k_mem); (case hx => assumption); (case hs => with_unfolding_all rfl); (case hg => intro _; with_unfolding_all rfl); k_whole)))
  trivial
theorem amt_succ {g : Int → Int} {l : List Int} {i : Nat} {k : Int} (h : l[i]? = some k) : ((l.take (i + 1)).map g).sum = ((l.take i).map g).sum + g k := by
  rw [List.take_add_one, h, List.map_append, List.sum_append]
  simp
theorem own_len (st : List Stp) (sl : Int) : (ownOf st sl).length ≤ st.length := by
  unfold ownOf; rw [List.length_map]; exact List.length_filter_le _ _
theorem netSlot_nil {fst : Int → Int} {st : List Stp} {sl : Int} (h : ownOf st sl = []) : netSlot fst st sl = 0 := by unfold netSlot; rw [if_pos h]
theorem Agree.eta4 {a b c d : Str} {m m0 : Str → Option Value} (h : Agree [a, b, c, d] m m0) : ∃ u v x y, u = m a ∧ v = m b ∧ x = m c ∧ y = m d ∧ m = fun z => if z = a then u else if z = b then v else if z = c then x else if z = d then y else m0 z := ⟨_, _, _, _, rfl, rfl, rfl, rfl, by
  funext y
  by_cases h1 : y = a
  · simp [h1]
  · by_cases h2 : y = b
    · subst h2; rw [if_neg h1, if_pos rfl]
    · by_cases h3 : y = c
      · subst h3; rw [if_neg h1, if_neg h2, if_pos rfl]
      · by_cases h4 : y = d
        · subst h4; rw [if_neg h1, if_neg h2, if_neg h3, if_pos rfl]
        · rw [if_neg h1, if_neg h2, if_neg h3, if_neg h4]; exact h y (by simp [h1, h2, h3, h4])⟩
theorem c_net {w : World} {mean : ExcName → Option Value} {mg mb : Str → Option Value} {s1 s2 : Int} {fst : Int → Int} {fd sd : Addr} {oF : Obj} {kvF : List (Int × Value)} {sv : List Value} {n : Nat} {trest : List (Addr × Obj)} {st : List Stp} (hF : oF.IsDictOf (intKind PP w) kvF) (hR : HeldRep s1 s2 kvF fst) (lo : (fd == sysModules) = false) (hst : ObjsIn stepR trest sv st) (hlen : st.length ≤ 20) (hne : s1 ≠ s2) (hfs : Ne' fd sd) :
    Con w mean mg mb 443 [.ref fd, .ref sd] 12 ((fd, oF) :: (sd, listOf sv.toArray n) :: trest) (fun _ => True) (fun h v h' => (∃ t, v = .int (netSlot fst st s1 + netSlot fst st s2) t) ∧ Sat h' ((fd, oF) :: (sd, listOf sv.toArray n) :: trest)) := by
  unfold Con
  k_fill
  intro dp un gd cn cs a ccd cells outer A₀ base h₀ L m s Q E B F X N T hk hpre hd hu hret
  refine wpAny_call ?_
  k_dflt (refine' enterHC ?k1_q ?k2_q ?k3_q ?k4_q ?k5_q ?kA_q ?kF_q ?kK_q ?k6_q ?k7_q ?k8_q ?k9_q ?kB_q ?kD_q ?_ ?c2_q ?c3_q ?c4_q; (case kA_q => exact rfl); (case kF_q => exact rfl); (case kK_q => assumption); (case k1_q => k_asm); (case k2_q => k_asm); (case k3_q => k_asm); (case k4_q => k_asm); (case k5_q => k_asm); (case k6_q => k_is); (case k7_q => k_is); (case k8_q => ktr_room); (case k9_q => exact BindsTo.of_eq rfl); (case kB_q => exact rfl); (case kD_q => decide +kernel); (case c2_q => exact rfl); (case c3_q => exact rfl); (case c4_q => exact rfl); k_whole; intro g' L' h' tk' cells' gSX dSX oSX FG' F' N' Y' B' X' T' hg' hL'; k_cells Y'; (try simp only [List.cons_append, List.nil_append] at N'); (try dsimp only); (try k_lift B'); (try k_fold))
  obtain ⟨tf1, tf2, rfl⟩ := hR
  have ltL : ∀ p ∈ ((fd, oF) :: (sd, listOf sv.toArray n) :: trest), p.1 ≠ L' + 1 := fun p hp => Nat.ne_of_lt (Nat.lt_succ_of_lt (hL' ▸ Heap.lt_size (N p hp).1))
  have nc1 : Ne' fd (L' + 1) := ltL _ (.head _)
  have nc2 : Ne' sd (L' + 1) := ltL _ (.tail _ (.head _))
  have offc : OwnOff trest [L' + 1] := fun p hp b hb => by rw [List.mem_singleton.mp hb]; exact ltL _ (.tail _ (.tail _ hp))
  clear ltL
  k_steps
  rename_i oc0 dc0 _ hq0 _ _
  revert dc0
  generalize bindC _ _ _ _ = cv0
  intro dc0
  refine stop_out ?_
  refine' For_turns ?F1_q ?G1_q ?S1_q ?E1_q
  case F1_q => k_asm
  case E1_q => passes_own
  case S1_q => intro _; rfl
  case G1_q =>
  k_steps
  refine stop_out ?_
  refine' lp_keys (knd := intKind PP w) (kvs := [(s1, Value.int (fst s1) tf1), (s2, Value.int (fst s2) tf2)]) (J := fun m0 i m nw => ∃ co cv ta, nw = (L' + 1, co) :: (fd, oF) :: (sd, listOf sv.toArray n) :: trest ∧ co.data = .cell cv ∧ m (Str.ofString "amount") = some (.int ((([s1, s2].take i).map (netSlot fst st)).sum) ta) ∧
    Agree [Str.ofString "amount", Str.ofString "own", Str.ofString "put_now", Str.ofString "last"] m m0) ?hh1_q ?low1_q ?F2_q ?N2_q ?D2_q ?J2_q ?K2_q ?step2_q ?done2_q
  case hh1_q => rfl
  case low1_q => assumption
  case D2_q => assumption
  case F2_q => k_asm
  case J2_q => exact ⟨_, _, _, rfl, dc0, rfl, Agree.refl⟩
  case N2_q => k_asm
  case K2_q => rintro i m nw ⟨co, cv, ta, rfl, _⟩; exact .tail _ (.head _)
  case step2_q =>
    rintro I i k x v m1 nw h1 tk1 io hv hk ⟨co, cv, ta, rfl, hcd, ham, hA⟩ hn F1 N1
    obtain ⟨tk, rfl⟩ := Value.isInt_shape hk
    clear hk
    have hx : [s1, s2][i]? = some k := by
      rcases i with _ | _ | i
      · simp at hv; simp [hv.1]
      · simp at hv; simp [hv.1]
      · simp at hv
    have hk2 : k = s1 ∨ k = s2 := by
      have := List.mem_of_getElem? hx
      simpa using this
    show let GX : Prop := _; GX
    intro GX
    obtain ⟨u1, u2, u3, u4, e1, -, -, -, e3⟩ := hA.eta4
    k_unfold
    clear GX
    rw [ham] at e1
    subst e1
    clear hA ham
    subst e3
    have nI1 : Ne' (L' + 1) I := hn _ (.head _)
    have hn2 : ∀ o', ∀ p ∈ ((L' + 1, o') :: (fd, oF) :: (sd, listOf sv.toArray n) :: trest), p.1 ≠ I := fun o' p hp => by
      rcases List.mem_cons.mp hp with rfl | hp
      · exact nI1.o
      · exact hn p (.tail _ hp)
    k_sweep
    k_steps
    refine stop_out ?_
    rename_i o2 F2 N2 d2
    refine' qassign (F2) (xs := st) (p := fun q => decide (q.1 = k)) (R := fun q v => ∃ t, v = optV q.2 t) (G := fun zs ys => OptsAre ys (zs.map (·.2))) ?hLe_q ?hsw_q ?hclos_q ?hcell_q ?hkind_q ?hnames_q ?hx_q ?hx2_q ?hxx_q ?hy_q ?hp_q ?G0_q ?Gs_q ?src_q ?hs_q
    case hLe_q => rfl
    case hsw_q => with_unfolding_all rfl
    case hclos_q => with_unfolding_all rfl
    case hcell_q => decide
    case hkind_q => rfl
    case hnames_q => decide
    case hx_q => rfl
    case hx2_q => rfl
    case hxx_q => decide
    case hy_q => rfl
    case hp_q => rfl
    case hs_q => intro _; rfl
    case G0_q => exact .nil
    case Gs_q =>
      rintro zs ys x y hG ⟨t, rfl⟩
      rw [List.map_append]
      exact hG.snoc
    case src_q =>
    k_dflt (refine' nameX_L ?Fq_q ?vq_q ?gq_q ?aq_q ?bq_q; (case Fq_q => exact F2); (case aq_q => rfl); (case bq_q => rfl); (case vq_q => rfl); k_whole)
    refine ⟨sd, sv, n, _, rfl, rfl, F2, N2, by k_dflt k_mem, ?_, hst.1, ?_, ?_⟩
    · rw [hst.1, sizeLine_eq]; omega
    · intro i q hq
      show let GX : Prop := _; GX
      intro GX
      obtain ⟨a, o, hv, hm, t, u, rfl⟩ := hst.2 i q hq
      k_unfold
      clear GX
      refine ⟨a, _, .int q.1 t, optV q.2 u, 0, hv, by repeat (first | exact hm | refine List.Mem.tail _ ?_), rfl, rfl, ?_⟩
      intro C h tk m₂ E' hns hx1 hx2 F9 N9
      constructor
      · k_steps
      · k_steps
    · intro D h3 tk3 ys F3 N3 hD3 hG3
      have hI3 : OptsAre ys (ownOf st k) := hG3
      clear F2 N2
      have nD1 : Ne' (L' + 1) D := hD3 _ (.tail _ (.head _))
      have nDI : Ne' I D := hD3 _ (.head _)
      cases hb : (!decide (ownOf st k = [])) with
      | false =>
        k_steps
        refine stop_out ?_
        k_dflt (refine' ne_nil_opts (l := D) ?N81_q ?m81_q hI3 ?e81_q ?u81_q hb ?q81_q; (case N81_q => k_asm); (case m81_q => k_mem); (case e81_q => k_mem); (case u81_q => ktr_units); k_whole)
        k_steps
        have hown : ownOf st k = [] := by simpa using hb
        refine' LPost.mk ((L' + 1, o2) :: (fd, oF) :: (sd, listOf sv.toArray n) :: trest) ?F7_q ?N7_q ?I7_q ?S7_q ?O7_q ?J7_q
        case F7_q => k_asm
        case N7_q => k_asm
        case I7_q => k_dflt k_mem
        case S7_q => ((try unfold StA.led StA.lits); (try dsimp only [List.cons_append, List.nil_append]); repeat (first | (refine List.forall_mem_cons.mpr ⟨?_, ?_⟩; focus (show _ ∈ _; k_dflt k_mem)) | (intro p hp; repeat (first | exact hp | refine List.Mem.tail _ ?_))))
        case O7_q => exact hn2 _
        case J7_q =>
          exact ⟨o2, _, ta, rfl, d2, by rw [amt_succ hx, netSlot_nil hown, Int.add_zero]; rfl, by repeat (first | exact Agree.refl | refine Agree.set (by decide) ?_)⟩
      | true =>
        k_steps
        refine stop_out ?_
        k_dflt (refine' ne_nil_opts (l := D) ?N82_q ?m82_q hI3 ?e82_q ?u82_q hb ?q82_q; (case N82_q => k_asm); (case m82_q => k_mem); (case e82_q => k_mem); (case u82_q => ktr_units); k_whole)
        k_steps
        have hown : ownOf st k ≠ [] := by simpa using hb
        refine stop_out ?_
        rename_i e4 h4 F4 N4 l4
        k_dflt (refine LCt.Assign_ListComp_T (F₀ := F4) (by rfl) (by with_unfolding_all rfl) (by with_unfolding_all rfl) (by decide) (by rfl) (by decide) (by rfl) (by rfl) (by rfl) ?_)
        k_dflt (refine' nameX_L ?Fr_q ?vr_q ?gr_q ?ar_q ?br_q; (case Fr_q => exact F4); (case ar_q => rfl); (case br_q => rfl); (case vr_q => rfl); k_whole)
        refine LCt.CompSrcT.ledger (by rfl) F4 N4 (by k_dflt k_mem) (by rw [List.size_toArray, hI3.length]; have := own_len st k; rw [sizeLine_eq]; omega) ?_
        intro g4
        refine restT_run (xs := ownOf st k) (p := fun o => o.isSome) (R := fun o v => ∃ t, v = optV o t) (G := fun zs ys => OptsAre ys zs) (.inr ⟨_, by k_dflt k_mem, rfl, _, rfl⟩) hI3.length .nil (by rintro zs ys x y hG ⟨t, rfl⟩; exact hG.snoc) ?_ ?_
        · intro i o v ho hv C h tk m₂ E' hns hx1 F9 N9
          obtain ⟨t, e⟩ := hI3.get i o ho
          rw [hv] at e
          cases e
          constructor
          · cases o with
            | none => dsimp only [optV] at hx1; k_steps
            | some f => dsimp only [optV] at hx1; k_steps
          · k_steps
        · intro ys2 hG2 D2 h5 tk5 F5 N5 hD5
          clear N4
          obtain ⟨tv, hva⟩ := HeldRep.at ⟨tf1, tf2, rfl⟩ hk2
          have hyl : ys.length ≤ 20 := by rw [hI3.length]; have := own_len st k; omega
          obtain ⟨o, r, ho⟩ : ∃ o r, ownOf st k = o :: r := by
            cases e : ownOf st k with
            | nil => exact absurd e hown
            | cons o r => exact ⟨o, r, rfl⟩
          obtain ⟨th, hy0⟩ := hI3.get 0 o (by rw [ho]; rfl)
          have hnet : ((([s1, s2].take (i + 1)).map (netSlot fst st)).sum) = ((([s1, s2].take i).map (netSlot fst st)).sum) + 2100 + 100 * (ys.length : Nat) + leadOf (fst k) (lastOf (fst k) (ownOf st k)) - (if o = none then 100 else 0) := by
            rw [amt_succ hx, hI3.length]
            unfold netSlot
            rw [if_neg hown, ho]
            have e : (some o = some (none : Option Int)) = (o = none) := by simp
            simp only [List.head?_cons, e]
            omega
          cases hb2 : (!decide ((ownOf st k).filter (fun o => o.isSome) = [])) with
          | false =>
            have hl := lastOf_nil (fst k) (ownOf st k) (by simpa using hb2)
            rw [hl] at hnet
            cases o with
            | none =>
              dsimp only [optV] at hy0
              simp only [reduceCtorEq, if_true, if_false] at hnet
              dsimp only
              k_steps
              refine stop_out ?_
              k_dflt (refine' ne_nil_opts (l := D2) ?N83_q ?m83_q hG2 ?e83_q ?u83_q hb2 ?q83_q; (case N83_q => k_asm); (case m83_q => k_mem); (case e83_q => k_mem); (case u83_q => ktr_units); k_whole)
              k_steps
              refine stop_out ?_
              refine' Con.useP (c_lead _ _ _ _) ?kBu1_q ?kFu1_q ?kXu1_q ?kNu1_q ?kTu1_q ?khu1_q trivial ?kdu1_q ?kuu1_q ?kku1_q
              case kBu1_q => k_asm
              case kFu1_q => k_asm
              case kXu1_q => k_asm
              case kTu1_q => k_asm
              case kNu1_q => k_asm
              case khu1_q => exact rfl
              case kdu1_q => ktr_room
              case kuu1_q => ktr_units
              case kku1_q =>
              rintro v4 h4 tk4 ⟨t9, rfl⟩ F4 N4
              k_sweep
              k_steps
              refine' LPost.mk ((L' + 1, o2) :: (fd, oF) :: (sd, listOf sv.toArray n) :: trest) ?F73_q ?N73_q ?I73_q ?S73_q ?O73_q ?J73_q
              case F73_q => k_asm
              case N73_q => k_asm
              case I73_q => k_dflt k_mem
              case S73_q => ((try unfold StA.led StA.lits); (try dsimp only [List.cons_append, List.nil_append]); repeat (first | (refine List.forall_mem_cons.mpr ⟨?_, ?_⟩; focus (show _ ∈ _; k_dflt k_mem)) | (intro p hp; repeat (first | exact hp | refine List.Mem.tail _ ?_))))
              case O73_q => exact hn2 _
              case J73_q =>
                exact ⟨o2, _, _, rfl, d2, by rw [hnet]; rfl, by repeat (first | exact Agree.refl | refine Agree.set (by decide) ?_)⟩
            | some f =>
              dsimp only [optV] at hy0
              simp only [reduceCtorEq, if_true, if_false] at hnet
              dsimp only
              k_steps
              refine stop_out ?_
              k_dflt (refine' ne_nil_opts (l := D2) ?N84_q ?m84_q hG2 ?e84_q ?u84_q hb2 ?q84_q; (case N84_q => k_asm); (case m84_q => k_mem); (case e84_q => k_mem); (case u84_q => ktr_units); k_whole)
              k_steps
              refine stop_out ?_
              refine' Con.useP (c_lead _ _ _ _) ?kBu2_q ?kFu2_q ?kXu2_q ?kNu2_q ?kTu2_q ?khu2_q trivial ?kdu2_q ?kuu2_q ?kku2_q
              case kBu2_q => k_asm
              case kFu2_q => k_asm
              case kXu2_q => k_asm
              case kTu2_q => k_asm
              case kNu2_q => k_asm
              case khu2_q => exact rfl
              case kdu2_q => ktr_room
              case kuu2_q => ktr_units
              case kku2_q =>
              rintro v4 h4 tk4 ⟨t9, rfl⟩ F4 N4
              k_sweep
              k_steps
              refine' LPost.mk ((L' + 1, o2) :: (fd, oF) :: (sd, listOf sv.toArray n) :: trest) ?F74_q ?N74_q ?I74_q ?S74_q ?O74_q ?J74_q
              case F74_q => k_asm
              case N74_q => k_asm
              case I74_q => k_dflt k_mem
              case S74_q => ((try unfold StA.led StA.lits); (try dsimp only [List.cons_append, List.nil_append]); repeat (first | (refine List.forall_mem_cons.mpr ⟨?_, ?_⟩; focus (show _ ∈ _; k_dflt k_mem)) | (intro p hp; repeat (first | exact hp | refine List.Mem.tail _ ?_))))
              case O74_q => exact hn2 _
              case J74_q =>
                exact ⟨o2, _, _, rfl, d2, by rw [hnet]; rfl, by repeat (first | exact Agree.refl | refine Agree.set (by decide) ?_)⟩
          | true =>
            obtain ⟨tl, hla⟩ := hG2.last (fun o ho => by simpa using (List.mem_filter.mp ho).2) (by simpa using hb2) (fst k)
            rw [lastOf_filter] at hla
            cases o with
            | none =>
              dsimp only [optV] at hy0
              simp only [reduceCtorEq, if_true, if_false] at hnet
              dsimp only
              k_steps
              refine stop_out ?_
              k_dflt (refine' ne_nil_opts (l := D2) ?N85_q ?m85_q hG2 ?e85_q ?u85_q hb2 ?q85_q; (case N85_q => k_asm); (case m85_q => k_mem); (case e85_q => k_mem); (case u85_q => ktr_units); k_whole)
              k_steps
              refine stop_out ?_
              refine' Con.useP (c_lead _ _ _ _) ?kBu3_q ?kFu3_q ?kXu3_q ?kNu3_q ?kTu3_q ?khu3_q trivial ?kdu3_q ?kuu3_q ?kku3_q
              case kBu3_q => k_asm
              case kFu3_q => k_asm
              case kXu3_q => k_asm
              case kTu3_q => k_asm
              case kNu3_q => k_asm
              case khu3_q => exact rfl
              case kdu3_q => ktr_room
              case kuu3_q => ktr_units
              case kku3_q =>
              rintro v4 h4 tk4 ⟨t9, rfl⟩ F4 N4
              k_sweep
              k_steps
              refine' LPost.mk ((L' + 1, o2) :: (fd, oF) :: (sd, listOf sv.toArray n) :: trest) ?F75_q ?N75_q ?I75_q ?S75_q ?O75_q ?J75_q
              case F75_q => k_asm
              case N75_q => k_asm
              case I75_q => k_dflt k_mem
              case S75_q => ((try unfold StA.led StA.lits); (try dsimp only [List.cons_append, List.nil_append]); repeat (first | (refine List.forall_mem_cons.mpr ⟨?_, ?_⟩; focus (show _ ∈ _; k_dflt k_mem)) | (intro p hp; repeat (first | exact hp | refine List.Mem.tail _ ?_))))
              case O75_q => exact hn2 _
              case J75_q =>
                exact ⟨o2, _, _, rfl, d2, by rw [hnet]; rfl, by repeat (first | exact Agree.refl | refine Agree.set (by decide) ?_)⟩
            | some f =>
              dsimp only [optV] at hy0
              simp only [reduceCtorEq, if_true, if_false] at hnet
              dsimp only
              k_steps
              refine stop_out ?_
              k_dflt (refine' ne_nil_opts (l := D2) ?N86_q ?m86_q hG2 ?e86_q ?u86_q hb2 ?q86_q; (case N86_q => k_asm); (case m86_q => k_mem); (case e86_q => k_mem); (case u86_q => ktr_units); k_whole)
              k_steps
              refine stop_out ?_
              refine' Con.useP (c_lead _ _ _ _) ?kBu4_q ?kFu4_q ?kXu4_q ?kNu4_q ?kTu4_q ?khu4_q trivial ?kdu4_q ?kuu4_q ?kku4_q
              case kBu4_q => k_asm
              case kFu4_q => k_asm
              case kXu4_q => k_asm
              case kTu4_q => k_asm
              case kNu4_q => k_asm
              case khu4_q => exact rfl
              case kdu4_q => ktr_room
              case kuu4_q => ktr_units
              case kku4_q =>
              rintro v4 h4 tk4 ⟨t9, rfl⟩ F4 N4
              k_sweep
              k_steps
              refine' LPost.mk ((L' + 1, o2) :: (fd, oF) :: (sd, listOf sv.toArray n) :: trest) ?F76_q ?N76_q ?I76_q ?S76_q ?O76_q ?J76_q
              case F76_q => k_asm
              case N76_q => k_asm
              case I76_q => k_dflt k_mem
              case S76_q => ((try unfold StA.led StA.lits); (try dsimp only [List.cons_append, List.nil_append]); repeat (first | (refine List.forall_mem_cons.mpr ⟨?_, ?_⟩; focus (show _ ∈ _; k_dflt k_mem)) | (intro p hp; repeat (first | exact hp | refine List.Mem.tail _ ?_))))
              case O76_q => exact hn2 _
              case J76_q =>
                exact ⟨o2, _, _, rfl, d2, by rw [hnet]; rfl, by repeat (first | exact Agree.refl | refine Agree.set (by decide) ?_)⟩
  case done2_q =>
    rintro h1 tk1 m1 nw F1 N1 ⟨co, cv, ta, rfl, hcd, ham, hA⟩
    show let GX : Prop := _; GX
    intro GX
    obtain ⟨u1, u2, u3, u4, e1, -, -, -, e3⟩ := hA.eta4
    k_unfold
    clear GX
    rw [ham] at e1
    subst e1
    clear hA ham
    subst e3
    k_sweep
    k_steps
    refine hret _ _ _ (by assumption) (keeps_end hg' (by assumption)) ⟨⟨ta, ?e_q⟩, sat_sub (by assumption) ?s_q⟩
    case e_q => show Value.int (netSlot fst st s1 + (netSlot fst st s2 + 0)) ta = _; rw [Int.add_zero]
    case s_q => ((try unfold StA.led StA.lits); (try dsimp only [List.cons_append, List.nil_append]); repeat (first | (refine List.forall_mem_cons.mpr ⟨?_, ?_⟩; focus (show _ ∈ _; k_dflt k_mem)) | (intro p hp; repeat (first | exact hp | refine List.Mem.tail _ ?_))))

end Mine
end
section
open PySem PySem.W PyProof.Rows PySem.Calls
namespace Mine
theorem fresh_M6 : True := by
  w_top off
  trivial
theorem lines_M6_0 : True := by
  k_with_none
  (k_with "g_ktr_room" => (first | exact Nat.le_of_ble_eq_true rfl | exact roomF 0 (by assumption) rfl rfl | exact roomF 1 (by assumption) rfl rfl | exact roomF 2 (by assumption) rfl rfl | exact roomF 3 (by assumption) rfl rfl | exact roomF 4 (by assumption) rfl rfl))
  (k_with "g_ktr_units" => (first | exact Nat.le_of_ble_eq_true rfl | exact unitF 3 (by assumption) rfl rfl | exact unitG 3 (by assumption) rfl rfl | exact unitG 6 (by assumption) rfl rfl | exact unitF 6 (by assumption) rfl rfl | exact unitF 7 (by assumption) rfl rfl | exact unitF 4 (by assumption) rfl rfl | exact unitF 5 (by assumption) rfl rfl | exact unitF 8 (by assumption) rfl rfl | exact unitF 9 (by assumption) rfl rfl | exact unitF 10 (by assumption) rfl rfl | exact unitF 11 (by assumption) rfl rfl | exact unitF 12 (by assumption) rfl rfl | exact unitF 13 (by assumption) rfl rfl | exact unitF 14 (by assumption) rfl rfl | exact unitF 15 (by assumption) rfl rfl | exact unitF 0 (by assumption) rfl rfl | exact unitF 1 (by assumption) rfl rfl | exact unitF 2 (by assumption) rfl rfl))
  (k_with "g_k_ne" => ((refine neN ?_; (try dsimp only); first | exact Ne'.o (by with_reducible assumption) | exact Ne'.s (by with_reducible assumption) | k_extra "ne")))
  (k_with "g_k_all" => (first | exact OwnOff.ne (by with_reducible assumption) (by k_mem) | exact allLt_ne (by assumption)))
  (k_with "g_size_fits" => ((simp only [List.size_toArray, List.length_map, List.length_append, List.length_cons, List.length_nil, Array.size_push]; (first | done | (rw [sizeLine_eq]; omega)))))
  (k_with "g_ent" => (apply code_defF; (case hA => exact rfl); (case hf => exact rfl); (case hke => exact rfl); (case B => k_asm); (case F => k_asm); (case X₀ => k_asm); (case N => k_asm); (case T => k_asm); (case ho => k_is); (case hcd => k_is); (case hroom => k_room); (case hbind => first | exact BindsTo.of_eq rfl | exact binds_K (by k_in) rfl (by k_is) rfl rfl rfl | fail "no rule for these arguments"); (case hcell => decide); (case hloc => exact locs rfl); (case hco => exact rfl); (case hgen => exact rfl); (case hk => exact rfl); k_whole; intro _ _ _ evX AX mmX _ _ _ _ _ _; (try dsimp only); (try k_fold)))
  (k_with "call ref" => (k_here; k_dflt (first
    | (apply call_cls0; (case F => k_asm); (case X₀ => k_asm); (case N => k_asm); (case hm => k_is); (case hi => k_is); k_whole; intro x' d' h' F' N' l1 l2; (try k_lt l1); (try k_lt2 l2); (try k_sweep); (revert x' d' h' F' N' l1 l2; intros))
    | (apply call_cls; (case F => k_asm); (case X₀ => k_asm); (case N => k_asm); (case hm => k_is); (case hi => k_is); (case hf => k_is); k_whole; intro x' d' h' F' N' l1 l2; (try k_lt l1); (try k_lt2 l2); (try k_sweep); (revert x' d' h' F' N' l1 l2; intros); k_extra "g_ent")
    | (apply call_meth; (case N => k_asm); (case hq => k_mem); k_whole; k_extra "g_ent")
    | (refine wpAny_call ?_; k_extra "g_ent"))))
  (k_with "call ref" => (k_here; (with_reducible show wpAny _ _ (call (Value.ref 154) [_, _, _, _] _) _ _ _); k_dflt (apply row_call; (case B => k_asm); (case F => k_asm); (case X => k_asm); (case N => k_asm); (case T => k_asm); (case hk => exact rfl); (case hd => ktr_room); k_whole); intro x' d' h' tk' k0' k1' k2' k3' F' N' l1 l2; (try k_lt l1); (try k_lt2 l2); (try k_sweep); (revert x' d' h' tk' k0' k1' k2' k3' F' N' l1 l2; intros)))
  (k_with "storeName" => (k_here; k_dflt (apply stXF; (case F => k_asm); (case N => k_asm); (case hk => rfl); (case hx => rfl); k_whole); intro mmX; intro _ _ _; (try k_sweep)))
  (k_with "execs cons" => (k_here; (try dsimp only); (refine execsF ?_); intro qkX))
  (k_with "execs cons" => (k_here; (try dsimp only); (with_reducible show wpAny _ _ _ _ _ (Shared.mk _ _ _ (_ + _) _)); (refine toksF ?_); intro tkX; (refine execsF ?_); intro qkX))
  (k_with "lt" => (first | with_reducible assumption | (apply And.left; first | with_reducible assumption | (apply And.right; first | with_reducible assumption | (apply And.right; first | with_reducible assumption | (apply And.right; first | with_reducible assumption | (apply And.right; first | with_reducible assumption | (apply And.right; first | with_reducible assumption | (apply And.right; first | with_reducible assumption | (apply And.right; first | with_reducible assumption | (apply And.right; first | with_reducible assumption | (apply And.right; first | with_reducible assumption | (apply And.right; first | with_reducible assumption | (apply And.right; first | with_reducible assumption | (apply And.right; first | with_reducible assumption | (apply And.right; first | with_reducible assumption | (apply And.right; first | with_reducible assumption | (apply And.right; with_reducible assumption))))))))))))))))))
  (k_with "ne" => (first | (refine Nat.ne_of_gt ?_; k_extra "lt") | (refine Nat.ne_of_lt ?_; k_extra "lt") | (refine Nat.ne_of_gt ?_; apply Nat.lt_trans; rotate_left; (with_reducible assumption); k_extra "lt") | (refine Nat.ne_of_lt ?_; apply Nat.lt_trans; rotate_left; (with_reducible assumption); k_extra "lt")))
  (k_with "subscriptTail" => (k_here; (with_reducible show wpAny _ _ (subscriptTail _ _ (Value.ref _) (Value.str _ _)) _ _ _); k_dflt (apply d_item (knd := strKind _ _) (hkey := (str_key _ _)); (case N => k_asm); (case hm => k_mem); (case hD => assumption); (case hv => first | assumption | exact rfl); (case hs => with_unfolding_all rfl); k_whole)))
  (k_with "subscriptTail" => (k_here; (with_reducible show wpAny _ _ (subscriptTail _ _ (Value.ref _) (Value.int _ _)) _ _ _); k_dflt (apply d_item (knd := intKind _ _) (hkey := (int_key _ _)); (case N => k_asm); (case hm => k_mem); (case hD => assumption); (case hv => first | assumption | exact rfl); (case hs => with_unfolding_all rfl); k_whole)))
  (k_with "compareOp In" => (k_here; (with_reducible show wpAny _ _ (compareOp CmpOp.In (Value.int _ _) (Value.ref _)) _ _ _); k_dflt (apply d_inB (knd := intKind _ _) (hkey := (int_key _ _)); (case N => k_asm); (case hm => k_mem); (case hD => assumption); (case lo => assumption); (case hb => first | assumption | exact rfl); k_whole)))
  (k_with "compareOp NotIn" => (k_here; (with_reducible show wpAny _ _ (compareOp CmpOp.NotIn (Value.int _ _) (Value.ref _)) _ _ _); k_dflt (apply d_notIn (knd := intKind _ _) (hkey := (int_key _ _)); (case N => k_asm); (case hm => k_mem); (case hD => assumption); (case lo => assumption); (case hb => first | assumption | exact rfl); k_whole)))
  (k_with "call builtin:dict.get" => (k_here; (with_reducible show wpAny _ _ (call (Value.builtin _) [Value.ref _, Value.int _ _, _]) _ _ _); k_dflt (apply d_get2B (knd := intKind _ _) (hkey := (int_key _ _)); (case N => k_asm); (case hm => k_mem); (case hD => assumption); (case lo => assumption); (case hv => first | assumption | exact rfl); k_whole)))
  (k_with "setItem" => (k_here; (with_reducible show wpAny _ _ (setItem (Value.ref _) (Value.str _ _) _) _ _ _); k_dflt (apply d_set (knd := strKind _ _) (hkey := (str_key _ _)); (case F => k_asm); (case N => k_asm); (case U => k_updF); (case hD => assumption); (case hz => first | assumption | decide | (simp; done)); k_whole); intro h' o' F' N' D'; (try dsimp only at N'); (try simp (decide := true) [stored] at D'); (try k_sweep); (revert h' o' F' N' D'; intros)))
  (k_with "setItem" => (k_here; (with_reducible show wpAny _ _ (setItem (Value.ref _) (Value.int _ _) _) _ _ _); k_dflt (apply d_set (knd := intKind _ _) (hkey := (int_key _ _)); (case F => k_asm); (case N => k_asm); (case U => k_updF); (case hD => assumption); (case hz => first | assumption | decide | (simp; done)); k_whole); intro h' o' F' N' D'; (try dsimp only at N'); (try k_sweep); (revert h' o' F' N' D'; intros)))
  (k_with "delItem" => (k_here; (with_reducible show wpAny _ _ (delItem (Value.ref _) (Value.int _ _)) _ _ _); k_dflt (apply d_del (knd := intKind _ _) (hkey := (int_key _ _)); (case F => k_asm); (case N => k_asm); (case U => k_updF); (case hD => assumption); (case hl => assumption); (case hz => first | assumption | decide | (simp; done)); k_whole); intro h' o' F' N' D'; (try dsimp only at N'); (try k_sweep); (revert h' o' F' N' D'; intros)))
  (k_with "getMethod ref" => (k_here; (with_reducible show wpAny _ _ (getMethod (Value.ref _) (PySem.Str.ofString "get") _) _ _ _); k_dflt (apply t_getMethod; (case N => k_asm); (case hm => k_mem); (case hD => assumption); k_whole)))
  (k_with "call builtin:len" => (k_here; (with_reducible show wpAny _ _ (call (Value.builtin "len") [Value.ref _]) _ _ _); k_dflt (apply l_len; (case N => k_asm); (case hm => k_mem); (case hz => (simp only [List.size_toArray, List.length_map]; omega)); k_whole)))
  (k_with "compareOp In" => (k_here; (with_reducible show wpAny _ _ (compareOp CmpOp.In (Value.ref _) (Value.ref _)) _ _ _); k_dflt (apply t_in; (case N => k_asm); (case hm => k_mem); (case hD => assumption); (case hK => exact KeysIn.mono (by assumption) (by intro p hp; repeat (first | exact hp | refine List.Mem.tail _ ?_))); (case hq => k_mem); (case ht => exact tupO2); (case hu => ktr_units); (case lo => assumption); (case hb => assumption); k_whole)))
  (k_with "compareOp NotIn" => (k_here; (with_reducible show wpAny _ _ (compareOp CmpOp.NotIn (Value.ref _) (Value.ref _)) _ _ _); k_dflt (apply t_notIn; (case N => k_asm); (case hm => k_mem); (case hD => assumption); (case hK => exact KeysIn.mono (by assumption) (by intro p hp; repeat (first | exact hp | refine List.Mem.tail _ ?_))); (case hq => k_mem); (case ht => exact tupO2); (case hu => ktr_units); (case lo => assumption); (case hb => assumption); k_whole)))
  (k_with "call builtin:dict.get" => (k_here; (with_reducible show wpAny _ _ (call (Value.builtin _) [Value.ref _, Value.ref _, _]) _ _ _); k_dflt (apply t_get2; (case N => k_asm); (case hm => k_mem); (case hD => assumption); (case hK => exact KeysIn.mono (by assumption) (by intro p hp; repeat (first | exact hp | refine List.Mem.tail _ ?_))); (case hq => k_mem); (case ht => exact tupO2); (case hu => ktr_units); (case lo => assumption); (case hv => first | assumption | exact rfl); k_whole)))
  (k_with "setItem" => (k_here; (with_reducible show wpAny _ _ (setItem (Value.ref _) (Value.ref _) _) _ _ _); k_dflt (apply t_set; (case F => k_asm); (case N => k_asm); (case U => k_updF); (case hD => assumption); (case hK => exact KeysIn.mono (by assumption) (by intro p hp; repeat (first | exact hp | refine List.Mem.tail _ ?_))); (case hq => k_mem); (case ht => exact tupO2); (case hu => ktr_units); (case hz => assumption); k_whole); intro h' o' F' N' D'; (try dsimp only at N'); (try k_sweep); (revert h' o' F' N' D'; intros)))
  (k_with "delItem" => (k_here; (with_reducible show wpAny _ _ (delItem (Value.ref _) (Value.ref _)) _ _ _); k_dflt (apply t_del; (case F => k_asm); (case N => k_asm); (case U => k_updF); (case hD => assumption); (case hK => exact KeysIn.mono (by assumption) (by intro p hp; repeat (first | exact hp | refine List.Mem.tail _ ?_))); (case hq => k_mem); (case ht => exact tupO2); (case hu => ktr_units); (case hl => assumption); (case hz => assumption); k_whole); intro h' o' F' N' D'; (try dsimp only at N'); (try k_sweep); (revert h' o' F' N' D'; intros)))
  trivial
theorem c_slot {w : World} {mean : ExcName → Option Value} {mg mb : Str → Option Value} {home s1 s2 : Int} {fst : Int → Int} {P : StA} (hP : StAOK w home P) {C : StC} {S : SS} {J : List JR} {W : Int → Bool} (hS : StCOK w home s1 s2 fst P C S J W) (sl : Int) (t1 t2 : Tok) :
    Con w mean mg mb 298 [.ref P.st, .int home t1, .int sl t2] 1 (P.led w C S.rfd) (fun _ => True) (fun _ v h' => (∃ t, v = .int (S.sto sl) t) ∧ Sat h' (P.led w C S.rfd)) := by
  obtain ⟨st, dst, acc, ac, dac, sto, jl, tch, des, ws, org, wo, lg, oacc, odes, kS, kA, tn, tb, tc⟩ := P
  obtain ⟨osto, otch, ows, oorg, tr, n, jv, kvs, xs, ys, rows, rest⟩ := C
  have hS0 := hS
  have hP0 := hP
  have kvz := hS.kvs_le
  have xsz := hS.xs_le
  have ysz := hS.ys_le
  have jln := hS.jlen
  obtain ⟨nd, lo1, lo2, lo3, lo4, lo5, lo6, hacc, hdes⟩ := hP
  obtain ⟨off, hsto, hkv, hkn, htch, hws, hxk, hxs, hxn, horg, hyk, hys, hyn, hW, hjv, hJ, hrow⟩ := hS
  dsimp only [StA.addrs] at *
  unfold Con StA.led StA.lits
  dsimp only [List.cons_append, List.nil_append]
  k_fill
  intro dp un gd cn cs a ccd cells outer A₀ base h₀ L m s Q E B F X N T hk hpre hd hu hret
  refine wpAny_call ?_
  k_dflt (refine' enterHF ?k1_q ?k2_q ?k3_q ?k4_q ?k5_q ?kA_q ?kF_q ?kK_q ?k6_q ?k7_q ?k8_q ?k9_q ?kB_q ?_ ?c2_q ?c3_q ?c4_q ?c5_q; (case kA_q => exact rfl); (case kF_q => exact rfl); (case kK_q => assumption); (case k1_q => k_asm); (case k2_q => k_asm); (case k3_q => k_asm); (case k4_q => k_asm); (case k5_q => k_asm); (case k6_q => k_is); (case k7_q => k_is); (case k8_q => ktr_room); (case k9_q => exact BindsTo.of_eq rfl); (case c5_q => decide); (case kB_q => exact locs rfl); (case c2_q => exact rfl); (case c3_q => exact rfl); (case c4_q => exact rfl); k_whole; intro g' L' h' evX AX mmX gSX dSX oSX FG' F' N' B' X' T' hg' hL'; (try dsimp only); (try k_fold))
  have e1 : (valueAt [(home, Value.ref ac)] home).isSome = true := by simp [valueAt]
  have e2 : valueAt [(home, Value.ref ac)] home = some (Value.ref ac) := by simp [valueAt]
  obtain ⟨tz, e3⟩ : ∃ tz : Tok, ∀ t : Tok, (valueAt kvs sl).getD (Value.int 0 t) = .int (S.sto sl) (if S.sto sl = 0 then t else tz) := by
    by_cases hz : S.sto sl = 0
    · exact ⟨0, fun t => by rw [(hkv sl).1 hz, if_pos hz, hz]; rfl⟩
    · obtain ⟨t, e⟩ := (hkv sl).2 hz
      exact ⟨t, fun _ => by rw [e, if_neg hz]; rfl⟩
  k_steps
  rw [e3]
  all_goals (refine hret _ _ _ (by assumption) (keeps_end hg' (by assumption)) ⟨⟨_, rfl⟩, sat_sub (by assumption) (by intro p hp; repeat (first | exact hp | refine List.Mem.tail _ ?_))⟩)

theorem c_org {w : World} {mean : ExcName → Option Value} {mg mb : Str → Option Value} {home s1 s2 : Int} {fst : Int → Int} {P : StA} (hP : StAOK w home P) {C : StC} {S : SS} {J : List JR} {W : Int → Bool} (hS : StCOK w home s1 s2 fst P C S J W) (sl : Int) (t1 t2 : Tok) :
    Con w mean mg mb 312 [.ref P.st, .int home t1, .int sl t2] 2 (P.led w C S.rfd) (fun _ => True) (fun _ v h' => (∃ t, v = .int (if W sl then fst sl else S.sto sl) t) ∧ Sat h' (P.led w C S.rfd)) := by
  obtain ⟨st, dst, acc, ac, dac, sto, jl, tch, des, ws, org, wo, lg, oacc, odes, kS, kA, tn, tb, tc⟩ := P
  obtain ⟨osto, otch, ows, oorg, tr, n, jv, kvs, xs, ys, rows, rest⟩ := C
  have hS0 := hS
  have hP0 := hP
  have kvz := hS.kvs_le
  have xsz := hS.xs_le
  have ysz := hS.ys_le
  have jln := hS.jlen
  obtain ⟨nd, lo1, lo2, lo3, lo4, lo5, lo6, hacc, hdes⟩ := hP
  obtain ⟨off, hsto, hkv, hkn, htch, hws, hxk, hxs, hxn, horg, hyk, hys, hyn, hW, hjv, hJ, hrow⟩ := hS
  dsimp only [StA.addrs] at *
  unfold Con StA.led StA.lits
  dsimp only [List.cons_append, List.nil_append]
  k_fill
  intro dp un gd cn cs a ccd cells outer A₀ base h₀ L m s Q E B F X N T hk hpre hd hu hret
  refine wpAny_call ?_
  k_dflt (refine' enterHF ?k1_q ?k2_q ?k3_q ?k4_q ?k5_q ?kA_q ?kF_q ?kK_q ?k6_q ?k7_q ?k8_q ?k9_q ?kB_q ?_ ?c2_q ?c3_q ?c4_q ?c5_q; (case kA_q => exact rfl); (case kF_q => exact rfl); (case kK_q => assumption); (case k1_q => k_asm); (case k2_q => k_asm); (case k3_q => k_asm); (case k4_q => k_asm); (case k5_q => k_asm); (case k6_q => k_is); (case k7_q => k_is); (case k8_q => ktr_room); (case k9_q => exact BindsTo.of_eq rfl); (case c5_q => decide); (case kB_q => exact locs rfl); (case c2_q => exact rfl); (case c3_q => exact rfl); (case c4_q => exact rfl); k_whole; intro g' L' h' evX AX mmX gSX dSX oSX FG' F' N' B' X' T' hg' hL'; (try dsimp only); (try k_fold))
  have e1 : (valueAt [(home, Value.ref ac)] home).isSome = true := by simp [valueAt]
  have e2 : valueAt [(home, Value.ref ac)] home = some (Value.ref ac) := by simp [valueAt]
  obtain ⟨tz, e3⟩ : ∃ tz : Tok, ∀ t : Tok, (valueAt kvs sl).getD (Value.int 0 t) = .int (S.sto sl) (if S.sto sl = 0 then t else tz) := by
    by_cases hz : S.sto sl = 0
    · exact ⟨0, fun t => by rw [(hkv sl).1 hz, if_pos hz, hz]; rfl⟩
    · obtain ⟨t, e⟩ := (hkv sl).2 hz
      exact ⟨t, fun _ => by rw [e, if_neg hz]; rfl⟩
  obtain ⟨ty, e4⟩ : ∃ ty : Tok, ∀ t : Tok, ((atKey ys [home, sl]).map (·.2)).getD (Value.int (S.sto sl) t) = .int (if W sl then fst sl else S.sto sl) (if W sl then ty else t) := by
    cases hy : atKey ys [home, sl] with
    | none =>
      have : W sl = false := by rw [← hW, hy]; rfl
      exact ⟨0, fun t => by simp [this]⟩
    | some p =>
      have : W sl = true := by rw [← hW, hy]; rfl
      obtain ⟨t, e⟩ := hys _ _ hy
      exact ⟨t, fun t => by simp [this, e]⟩
  k_steps
  rw [e3, e4]
  all_goals (refine hret _ _ _ (by assumption) (keeps_end hg' (by assumption)) ⟨⟨_, rfl⟩, sat_sub (by assumption) (by intro p hp; repeat (first | exact hp | refine List.Mem.tail _ ?_))⟩)

theorem c_isw {w : World} {mean : ExcName → Option Value} {mg mb : Str → Option Value} {home s1 s2 : Int} {fst : Int → Int} {P : StA} (hP : StAOK w home P) {C : StC} {S : SS} {J : List JR} {W : Int → Bool} (hS : StCOK w home s1 s2 fst P C S J W) (sl : Int) (t1 t2 : Tok) :
    Con w mean mg mb 333 [.ref P.st, .int home t1, .int sl t2] 1 (P.led w C S.rfd) (fun _ => True) (fun _ v h' => v = .bool (S.wrm sl) ∧ Sat h' (P.led w C S.rfd)) := by
  obtain ⟨st, dst, acc, ac, dac, sto, jl, tch, des, ws, org, wo, lg, oacc, odes, kS, kA, tn, tb, tc⟩ := P
  obtain ⟨osto, otch, ows, oorg, tr, n, jv, kvs, xs, ys, rows, rest⟩ := C
  have hS0 := hS
  have hP0 := hP
  have kvz := hS.kvs_le
  have xsz := hS.xs_le
  have ysz := hS.ys_le
  have jln := hS.jlen
  obtain ⟨nd, lo1, lo2, lo3, lo4, lo5, lo6, hacc, hdes⟩ := hP
  obtain ⟨off, hsto, hkv, hkn, htch, hws, hxk, hxs, hxn, horg, hyk, hys, hyn, hW, hjv, hJ, hrow⟩ := hS
  dsimp only [StA.addrs] at *
  unfold Con StA.led StA.lits
  dsimp only [List.cons_append, List.nil_append]
  k_fill
  intro dp un gd cn cs a ccd cells outer A₀ base h₀ L m s Q E B F X N T hk hpre hd hu hret
  refine wpAny_call ?_
  k_dflt (refine' enterHF ?k1_q ?k2_q ?k3_q ?k4_q ?k5_q ?kA_q ?kF_q ?kK_q ?k6_q ?k7_q ?k8_q ?k9_q ?kB_q ?_ ?c2_q ?c3_q ?c4_q ?c5_q; (case kA_q => exact rfl); (case kF_q => exact rfl); (case kK_q => assumption); (case k1_q => k_asm); (case k2_q => k_asm); (case k3_q => k_asm); (case k4_q => k_asm); (case k5_q => k_asm); (case k6_q => k_is); (case k7_q => k_is); (case k8_q => ktr_room); (case k9_q => exact BindsTo.of_eq rfl); (case c5_q => decide); (case kB_q => exact locs rfl); (case c2_q => exact rfl); (case c3_q => exact rfl); (case c4_q => exact rfl); k_whole; intro g' L' h' evX AX mmX gSX dSX oSX FG' F' N' B' X' T' hg' hL'; (try dsimp only); (try k_fold))
  have e1 := hxs sl
  k_steps
  all_goals (refine hret _ _ _ (by assumption) (keeps_end hg' (by assumption)) ⟨rfl, sat_sub (by assumption) (by intro p hp; repeat (first | exact hp | refine List.Mem.tail _ ?_))⟩)

theorem c_mark {w : World} {mean : ExcName → Option Value} {mg mb : Str → Option Value} {home s1 s2 : Int} {fst : Int → Int} {P : StA} (hP : StAOK w home P) {C : StC} {S : SS} {J : List JR} {W : Int → Bool} (hS : StCOK w home s1 s2 fst P C S J W) (hJn : J.length ≤ 900) :
    Con w mean mg mb 375 [.ref P.st] 1 (P.led w C S.rfd) (fun _ => True) (fun _ v h' => (∃ t, v = .int J.length t) ∧ Sat h' (P.led w C S.rfd)) := by
  obtain ⟨st, dst, acc, ac, dac, sto, jl, tch, des, ws, org, wo, lg, oacc, odes, kS, kA, tn, tb, tc⟩ := P
  obtain ⟨osto, otch, ows, oorg, tr, n, jv, kvs, xs, ys, rows, rest⟩ := C
  have hS0 := hS
  have hP0 := hP
  have kvz := hS.kvs_le
  have xsz := hS.xs_le
  have ysz := hS.ys_le
  have jln := hS.jlen
  obtain ⟨nd, lo1, lo2, lo3, lo4, lo5, lo6, hacc, hdes⟩ := hP
  obtain ⟨off, hsto, hkv, hkn, htch, hws, hxk, hxs, hxn, horg, hyk, hys, hyn, hW, hjv, hJ, hrow⟩ := hS
  dsimp only [StA.addrs] at *
  unfold Con StA.led StA.lits
  dsimp only [List.cons_append, List.nil_append]
  k_fill
  intro dp un gd cn cs a ccd cells outer A₀ base h₀ L m s Q E B F X N T hk hpre hd hu hret
  refine wpAny_call ?_
  k_dflt (refine' enterHF ?k1_q ?k2_q ?k3_q ?k4_q ?k5_q ?kA_q ?kF_q ?kK_q ?k6_q ?k7_q ?k8_q ?k9_q ?kB_q ?_ ?c2_q ?c3_q ?c4_q ?c5_q; (case kA_q => exact rfl); (case kF_q => exact rfl); (case kK_q => assumption); (case k1_q => k_asm); (case k2_q => k_asm); (case k3_q => k_asm); (case k4_q => k_asm); (case k5_q => k_asm); (case k6_q => k_is); (case k7_q => k_is); (case k8_q => ktr_room); (case k9_q => exact BindsTo.of_eq rfl); (case c5_q => decide); (case kB_q => exact locs rfl); (case c2_q => exact rfl); (case c3_q => exact rfl); (case c4_q => exact rfl); k_whole; intro g' L' h' evX AX mmX gSX dSX oSX FG' F' N' B' X' T' hg' hL'; (try dsimp only); (try k_fold))
  k_steps
  all_goals (refine hret _ _ _ (by assumption) (keeps_end hg' (by assumption)) ⟨ex_int (by first | rfl | rw [jln]), sat_sub (by assumption) (by intro p hp; repeat (first | exact hp | refine List.Mem.tail _ ?_))⟩)

theorem c_addref {w : World} {mean : ExcName → Option Value} {mg mb : Str → Option Value} {home s1 s2 : Int} {fst : Int → Int} {P : StA} (hP : StAOK w home P) {C : StC} {S : SS} {J : List JR} {W : Int → Bool} (hS : StCOK w home s1 s2 fst P C S J W) (r : Int) (t1 : Tok) (hJn : J.length ≤ 900) :
    Con w mean mg mb 347 [.ref P.st, .int r t1] 2 (P.led w C S.rfd) (fun _ => True) (fun h v h' => v = .none ∧ StPost w home s1 s2 fst P C S { S with rfd := S.rfd + r } (J ++ [JR.refund S.rfd]) W h h') := by
  let PX : StA := P
  let CX : StC := C
  have hS0 : StCOK w home s1 s2 fst PX CX S J W := hS
  show Con w mean mg mb 347 [.ref P.st, .int r t1] 2 (P.led w C S.rfd) (fun _ => True) (fun h v h' => v = .none ∧ StPost w home s1 s2 fst PX CX S { S with rfd := S.rfd + r } (J ++ [JR.refund S.rfd]) W h h')
  obtain ⟨st, dst, acc, ac, dac, sto, jl, tch, des, ws, org, wo, lg, oacc, odes, kS, kA, tn, tb, tc⟩ := P
  obtain ⟨osto, otch, ows, oorg, tr, n, jv, kvs, xs, ys, rows, rest⟩ := C
  have hP0 := hP
  have kvz := hS.kvs_le
  have xsz := hS.xs_le
  have ysz := hS.ys_le
  have jln := hS.jlen
  obtain ⟨nd, lo1, lo2, lo3, lo4, lo5, lo6, hacc, hdes⟩ := hP
  obtain ⟨off, hsto, hkv, hkn, htch, hws, hxk, hxs, hxn, horg, hyk, hys, hyn, hW, hjv, hJ, hrow⟩ := hS
  dsimp only [StA.addrs] at *
  unfold Con StA.led StA.lits
  dsimp only [List.cons_append, List.nil_append]
  k_fill
  intro dp un gd cn cs a ccd cells outer A₀ base h₀ L m s Q E B F X N T hk hpre hd hu hret
  refine wpAny_call ?_
  k_dflt (refine' enterHF ?k1_q ?k2_q ?k3_q ?k4_q ?k5_q ?kA_q ?kF_q ?kK_q ?k6_q ?k7_q ?k8_q ?k9_q ?kB_q ?_ ?c2_q ?c3_q ?c4_q ?c5_q; (case kA_q => exact rfl); (case kF_q => exact rfl); (case kK_q => assumption); (case k1_q => k_asm); (case k2_q => k_asm); (case k3_q => k_asm); (case k4_q => k_asm); (case k5_q => k_asm); (case k6_q => k_is); (case k7_q => k_is); (case k8_q => ktr_room); (case k9_q => exact BindsTo.of_eq rfl); (case c5_q => decide); (case kB_q => exact locs rfl); (case c2_q => exact rfl); (case c3_q => exact rfl); (case c4_q => exact rfl); k_whole; intro g' L' h' evX AX mmX gSX dSX oSX FG' F' N' B' X' T' hg' hL'; (try dsimp only); (try k_fold))
  refine apart11 nd fun n_st_dst n_st_acc n_st_ac n_st_dac n_st_sto n_st_jl n_st_tch n_st_des n_st_ws n_st_org n_dst_acc n_dst_ac n_dst_dac n_dst_sto n_dst_jl n_dst_tch n_dst_des n_dst_ws n_dst_org n_acc_ac n_acc_dac n_acc_sto n_acc_jl n_acc_tch n_acc_des n_acc_ws n_acc_org n_ac_dac n_ac_sto n_ac_jl n_ac_tch n_ac_des n_ac_ws n_ac_org n_dac_sto n_dac_jl n_dac_tch n_dac_des n_dac_ws n_dac_org n_sto_jl n_sto_tch n_sto_des n_sto_ws n_sto_org n_jl_tch n_jl_des n_jl_ws n_jl_org n_tch_des n_tch_ws n_tch_org n_des_ws n_des_org n_ws_org => ?_
  k_steps
  all_goals (refine' hret _ _ _ ?hF_q (keeps_end hg' ?hF2_q) ⟨rfl, StPost.mk ((hS0.newRow (JR.refund S.rfd) ?n_q ?off_q rfl rfl rfl ⟨_, rfl⟩).rfd ?r_q ?tr_q) hg' ?NN_q ?sub_q⟩; (case hF_q => assumption); (case hF2_q => assumption); (case NN_q => assumption); (case sub_q => ((try unfold StA.led StA.lits); (try dsimp only [List.cons_append, List.nil_append]); repeat (first | (refine List.forall_mem_cons.mpr ⟨?_, ?_⟩; focus (show _ ∈ _; k_dflt k_mem)) | (intro p hp; repeat (first | exact hp | refine List.Mem.tail _ ?_))))); (case off_q => (repeat (first | exact off_nil | (refine off_cons ?_ ?_; focus (dsimp only [StA.addrs, PX]; repeat (first | exact List.forall_mem_nil _ | (refine List.forall_mem_cons.mpr ⟨?_, ?_⟩; focus k_ne))))))))

end Mine
end
section
open PySem PySem.W PyProof.Rows PySem.Calls
namespace Mine
theorem fresh_M10 : True := by
  w_top off
  trivial
theorem lines_M10_0 : True := by
  k_with_none
  (k_with "g_ktr_room" => (first | exact Nat.le_of_ble_eq_true rfl | exact roomF 0 (by assumption) rfl rfl | exact roomF 1 (by assumption) rfl rfl | exact roomF 2 (by assumption) rfl rfl | exact roomF 3 (by assumption) rfl rfl | exact roomF 4 (by assumption) rfl rfl))
  (k_with "g_ktr_units" => (first | exact Nat.le_of_ble_eq_true rfl | exact unitF 3 (by assumption) rfl rfl | exact unitG 3 (by assumption) rfl rfl | exact unitG 6 (by assumption) rfl rfl | exact unitF 6 (by assumption) rfl rfl | exact unitF 7 (by assumption) rfl rfl | exact unitF 4 (by assumption) rfl rfl | exact unitF 5 (by assumption) rfl rfl | exact unitF 8 (by assumption) rfl rfl | exact unitF 9 (by assumption) rfl rfl | exact unitF 10 (by assumption) rfl rfl | exact unitF 11 (by assumption) rfl rfl | exact unitF 12 (by assumption) rfl rfl | exact unitF 13 (by assumption) rfl rfl | exact unitF 14 (by assumption) rfl rfl | exact unitF 15 (by assumption) rfl rfl | exact unitF 0 (by assumption) rfl rfl | exact unitF 1 (by assumption) rfl rfl | exact unitF 2 (by assumption) rfl rfl))
  (k_with "g_k_ne" => ((refine neN ?_; (try dsimp only); first | exact Ne'.o (by with_reducible assumption) | exact Ne'.s (by with_reducible assumption) | k_extra "ne")))
  (k_with "g_k_all" => (first | exact OwnOff.ne (by with_reducible assumption) (by k_mem) | exact allLt_ne (by assumption)))
  (k_with "g_size_fits" => ((simp only [List.size_toArray, List.length_map, List.length_append, List.length_cons, List.length_nil, Array.size_push]; (first | done | (rw [sizeLine_eq]; omega)))))
  (k_with "g_ent" => (apply code_defF; (case hA => exact rfl); (case hf => exact rfl); (case hke => exact rfl); (case B => k_asm); (case F => k_asm); (case X₀ => k_asm); (case N => k_asm); (case T => k_asm); (case ho => k_is); (case hcd => k_is); (case hroom => k_room); (case hbind => first | exact BindsTo.of_eq rfl | exact binds_K (by k_in) rfl (by k_is) rfl rfl rfl | fail "no rule for these arguments"); (case hcell => decide); (case hloc => exact locs rfl); (case hco => exact rfl); (case hgen => exact rfl); (case hk => exact rfl); k_whole; intro _ _ _ evX AX mmX _ _ _ _ _ _; (try dsimp only); (try k_fold)))
  (k_with "call ref" => (k_here; k_dflt (first
    | (apply call_cls0; (case F => k_asm); (case X₀ => k_asm); (case N => k_asm); (case hm => k_is); (case hi => k_is); k_whole; intro x' d' h' F' N' l1 l2; (try k_lt l1); (try k_lt2 l2); (try k_sweep); (revert x' d' h' F' N' l1 l2; intros))
    | (apply call_cls; (case F => k_asm); (case X₀ => k_asm); (case N => k_asm); (case hm => k_is); (case hi => k_is); (case hf => k_is); k_whole; intro x' d' h' F' N' l1 l2; (try k_lt l1); (try k_lt2 l2); (try k_sweep); (revert x' d' h' F' N' l1 l2; intros); k_extra "g_ent")
    | (apply call_meth; (case N => k_asm); (case hq => k_mem); k_whole; k_extra "g_ent")
    | (refine wpAny_call ?_; k_extra "g_ent"))))
  (k_with "call ref" => (k_here; (with_reducible show wpAny _ _ (call (Value.ref 154) [_, _, _, _] _) _ _ _); k_dflt (apply row_call; (case B => k_asm); (case F => k_asm); (case X => k_asm); (case N => k_asm); (case T => k_asm); (case hk => exact rfl); (case hd => ktr_room); k_whole); intro x' d' h' tk' k0' k1' k2' k3' F' N' l1 l2; (try k_lt l1); (try k_lt2 l2); (try k_sweep); (revert x' d' h' tk' k0' k1' k2' k3' F' N' l1 l2; intros)))
  (k_with "storeName" => (k_here; k_dflt (apply stXF; (case F => k_asm); (case N => k_asm); (case hk => rfl); (case hx => rfl); k_whole); intro mmX; intro _ _ _; (try k_sweep)))
  (k_with "execs cons" => (k_here; (try dsimp only); (refine execsF ?_); intro qkX))
  (k_with "execs cons" => (k_here; (try dsimp only); (with_reducible show wpAny _ _ _ _ _ (Shared.mk _ _ _ (_ + _) _)); (refine toksF ?_); intro tkX; (refine execsF ?_); intro qkX))
  (k_with "lt" => (first | with_reducible assumption | (apply And.left; first | with_reducible assumption | (apply And.right; first | with_reducible assumption | (apply And.right; first | with_reducible assumption | (apply And.right; first | with_reducible assumption | (apply And.right; first | with_reducible assumption | (apply And.right; first | with_reducible assumption | (apply And.right; first | with_reducible assumption | (apply And.right; first | with_reducible assumption | (apply And.right; first | with_reducible assumption | (apply And.right; first | with_reducible assumption | (apply And.right; first | with_reducible assumption | (apply And.right; first | with_reducible assumption | (apply And.right; first | with_reducible assumption | (apply And.right; first | with_reducible assumption | (apply And.right; first | with_reducible assumption | (apply And.right; with_reducible assumption))))))))))))))))))
  (k_with "ne" => (first | (refine Nat.ne_of_gt ?_; k_extra "lt") | (refine Nat.ne_of_lt ?_; k_extra "lt") | (refine Nat.ne_of_gt ?_; apply Nat.lt_trans; rotate_left; (with_reducible assumption); k_extra "lt") | (refine Nat.ne_of_lt ?_; apply Nat.lt_trans; rotate_left; (with_reducible assumption); k_extra "lt")))
  (k_with "subscriptTail" => (k_here; (with_reducible show wpAny _ _ (subscriptTail _ _ (Value.ref _) (Value.str _ _)) _ _ _); k_dflt (apply d_item (knd := strKind _ _) (hkey := (str_key _ _)); (case N => k_asm); (case hm => k_mem); (case hD => assumption); (case hv => first | assumption | exact rfl); (case hs => with_unfolding_all rfl); k_whole)))
  (k_with "subscriptTail" => (k_here; (with_reducible show wpAny _ _ (subscriptTail _ _ (Value.ref _) (Value.int _ _)) _ _ _); k_dflt (apply d_item (knd := intKind _ _) (hkey := (int_key _ _)); (case N => k_asm); (case hm => k_mem); (case hD => assumption); (case hv => first | assumption | exact rfl); (case hs => with_unfolding_all rfl); k_whole)))
  (k_with "compareOp In" => (k_here; (with_reducible show wpAny _ _ (compareOp CmpOp.In (Value.int _ _) (Value.ref _)) _ _ _); k_dflt (apply d_inB (knd := intKind _ _) (hkey := (int_key _ _)); (case N => k_asm); (case hm => k_mem); (case hD => assumption); (case lo => assumption); (case hb => first | assumption | exact rfl); k_whole)))
  (k_with "compareOp NotIn" => (k_here; (with_reducible show wpAny _ _ (compareOp CmpOp.NotIn (Value.int _ _) (Value.ref _)) _ _ _); k_dflt (apply d_notIn (knd := intKind _ _) (hkey := (int_key _ _)); (case N => k_asm); (case hm => k_mem); (case hD => assumption); (case lo => assumption); (case hb => first | assumption | exact rfl); k_whole)))
  (k_with "call builtin:dict.get" => (k_here; (with_reducible show wpAny _ _ (call (Value.builtin _) [Value.ref _, Value.int _ _, _]) _ _ _); k_dflt (apply d_get2B (knd := intKind _ _) (hkey := (int_key _ _)); (case N => k_asm); (case hm => k_mem); (case hD => assumption); (case lo => assumption); (case hv => first | assumption | exact rfl); k_whole)))
  (k_with "setItem" => (k_here; (with_reducible show wpAny _ _ (setItem (Value.ref _) (Value.str _ _) _) _ _ _); k_dflt (apply d_set (knd := strKind _ _) (hkey := (str_key _ _)); (case F => k_asm); (case N => k_asm); (case U => k_updF); (case hD => assumption); (case hz => first | assumption | decide | (simp; done)); k_whole); intro h' o' F' N' D'; (try dsimp only at N'); (try simp (decide := true) [stored] at D'); (try k_sweep); (revert h' o' F' N' D'; intros)))
  (k_with "setItem" => (k_here; (with_reducible show wpAny _ _ (setItem (Value.ref _) (Value.int _ _) _) _ _ _); k_dflt (apply d_set (knd := intKind _ _) (hkey := (int_key _ _)); (case F => k_asm); (case N => k_asm); (case U => k_updF); (case hD => assumption); (case hz => first | assumption | decide | (simp; done)); k_whole); intro h' o' F' N' D'; (try dsimp only at N'); (try k_sweep); (revert h' o' F' N' D'; intros)))
  (k_with "delItem" => (k_here; (with_reducible show wpAny _ _ (delItem (Value.ref _) (Value.int _ _)) _ _ _); k_dflt (apply d_del (knd := intKind _ _) (hkey := (int_key _ _)); (case F => k_asm); (case N => k_asm); (case U => k_updF); (case hD => assumption); (case hl => assumption); (case hz => first | assumption | decide | (simp; done)); k_whole); intro h' o' F' N' D'; (try dsimp only at N'); (try k_sweep); (revert h' o' F' N' D'; intros)))
  (k_with "getMethod ref" => (k_here; (with_reducible show wpAny _ _ (getMethod (Value.ref _) (PySem.Str.ofString "get") _) _ _ _); k_dflt (apply t_getMethod; (case N => k_asm); (case hm => k_mem); (case hD => assumption); k_whole)))
  (k_with "call builtin:len" => (k_here; (with_reducible show wpAny _ _ (call (Value.builtin "len") [Value.ref _]) _ _ _); k_dflt (apply l_len; (case N => k_asm); (case hm => k_mem); (case hz => (simp only [List.size_toArray, List.length_map]; omega)); k_whole)))
  (k_with "compareOp In" => (k_here; (with_reducible show wpAny _ _ (compareOp CmpOp.In (Value.ref _) (Value.ref _)) _ _ _); k_dflt (apply t_in; (case N => k_asm); (case hm => k_mem); (case hD => assumption); (case hK => exact KeysIn.mono (by assumption) (by intro p hp; repeat (first | exact hp | refine List.Mem.tail _ ?_))); (case hq => k_mem); (case ht => exact tupO2); (case hu => ktr_units); (case lo => assumption); (case hb => assumption); k_whole)))
  (k_with "compareOp NotIn" => (k_here; (with_reducible show wpAny _ _ (compareOp CmpOp.NotIn (Value.ref _) (Value.ref _)) _ _ _); k_dflt (apply t_notIn; (case N => k_asm); (case hm => k_mem); (case hD => assumption); (case hK => exact KeysIn.mono (by assumption) (by intro p hp; repeat (first | exact hp | refine List.Mem.tail _ ?_))); (case hq => k_mem); (case ht => exact tupO2); (case hu => ktr_units); (case lo => assumption); (case hb => assumption); k_whole)))
  (k_with "call builtin:dict.get" => (k_here; (with_reducible show wpAny _ _ (call (Value.builtin _) [Value.ref _, Value.ref _, _]) _ _ _); k_dflt (apply t_get2; (case N => k_asm); (case hm => k_mem); (case hD => assumption); (case hK => exact KeysIn.mono (by assumption) (by intro p hp; repeat (first | exact hp | refine List.Mem.tail _ ?_))); (case hq => k_mem); (case ht => exact tupO2); (case hu => ktr_units); (case lo => assumption); (case hv => first | assumption | exact rfl); k_whole)))
  (k_with "setItem" => (k_here; (with_reducible show wpAny _ _ (setItem (Value.ref _) (Value.ref _) _) _ _ _); k_dflt (apply t_set; (case F => k_asm); (case N => k_asm); (case U => k_updF); (case hD => assumption); (case hK => exact KeysIn.mono (by assumption) (by intro p hp; repeat (first | exact hp | refine List.Mem.tail _ ?_))); (case hq => k_mem); (case ht => exact tupO2); (case hu => ktr_units); (case hz => assumption); k_whole); intro h' o' F' N' D'; (try dsimp only at N'); (try k_sweep); (revert h' o' F' N' D'; intros)))
  (k_with "delItem" => (k_here; (with_reducible show wpAny _ _ (delItem (Value.ref _) (Value.ref _)) _ _ _); k_dflt (apply t_del; (case F => k_asm); (case N => k_asm); (case U => k_updF); (case hD => assumption); (case hK => exact KeysIn.mono (by assumption) (by intro p hp; repeat (first | exact hp | refine List.Mem.tail _ ?_))); (case hq => k_mem); (case ht => exact tupO2); (case hu => ktr_units); (case hl => assumption); (case hz => assumption); k_whole); intro h' o' F' N' D'; (try dsimp only at N'); (try k_sweep); (revert h' o' F' N' D'; intros)))
  (k_with "call ref" => (k_here; (with_reducible show wpAny _ _ (call (Value.ref 214) _ _) _ _ _); (with_reducible refine stop_mk ?_)))
  (k_with "call ref" => (k_here; (with_reducible show wpAny _ _ (call (Value.ref 137) _ _) _ _ _); (with_reducible refine stop_mk ?_)))
  trivial
theorem c_set {w : World} {mean : ExcName → Option Value} {mg mb : Str → Option Value} {home s1 s2 : Int} {fst : Int → Int} {P : StA} (hP : StAOK w home P) {C : StC} {S : SS} {J : List JR} {W : Int → Bool} (hS : StCOK w home s1 s2 fst P C S J W) (sl wd : Int) (t1 t2 t3 : Tok) (hsl : sl = s1 ∨ sl = s2) (hWf : W sl = false → S.sto sl = fst sl) (hJn : J.length ≤ 800) :
    Con w mean mg mb 305 [.ref P.st, .int home t1, .int sl t2, .int wd t3] 3 (P.led w C S.rfd) (fun _ => True) (fun h v h' => v = .none ∧ StPost w home s1 s2 fst P C S { S with sto := upd S.sto sl wd, tch := true } (J ++ (if S.tch then [] else [JR.touched]) ++ [JR.slot sl (S.sto sl)]) (setB W sl true) h h') := by
  let PX : StA := P
  let CX : StC := C
  have hS0 : StCOK w home s1 s2 fst PX CX S J W := hS
  show Con w mean mg mb 305 [.ref P.st, .int home t1, .int sl t2, .int wd t3] 3 (P.led w C S.rfd) (fun _ => True) (fun h v h' => v = .none ∧ StPost w home s1 s2 fst PX CX S { S with sto := upd S.sto sl wd, tch := true } (J ++ (if S.tch then [] else [JR.touched]) ++ [JR.slot sl (S.sto sl)]) (setB W sl true) h h')
  obtain ⟨st, dst, acc, ac, dac, sto, jl, tch, des, ws, org, wo, lg, oacc, odes, kS, kA, tn, tb, tc⟩ := P
  obtain ⟨osto, otch, ows, oorg, tr, n, jv, kvs, xs, ys, rows, rest⟩ := C
  have hP0 := hP
  have kvz := hS.kvs_le
  have xsz := hS.xs_le
  have ysz := hS.ys_le
  have jln := hS.jlen
  obtain ⟨nd, lo1, lo2, lo3, lo4, lo5, lo6, hacc, hdes⟩ := hP
  obtain ⟨off, hsto, hkv, hkn, htch, hws, hxk, hxs, hxn, horg, hyk, hys, hyn, hW, hjv, hJ, hrow⟩ := hS
  dsimp only [StA.addrs] at *
  unfold Con StA.led StA.lits
  dsimp only [List.cons_append, List.nil_append]
  k_fill
  intro dp un gd cn cs a ccd cells outer A₀ base h₀ L m s Q E B F X N T hk hpre hd hu hret
  refine wpAny_call ?_
  k_dflt (refine' enterHF ?k1_q ?k2_q ?k3_q ?k4_q ?k5_q ?kA_q ?kF_q ?kK_q ?k6_q ?k7_q ?k8_q ?k9_q ?kB_q ?_ ?c2_q ?c3_q ?c4_q ?c5_q; (case kA_q => exact rfl); (case kF_q => exact rfl); (case kK_q => assumption); (case k1_q => k_asm); (case k2_q => k_asm); (case k3_q => k_asm); (case k4_q => k_asm); (case k5_q => k_asm); (case k6_q => k_is); (case k7_q => k_is); (case k8_q => ktr_room); (case k9_q => exact BindsTo.of_eq rfl); (case c5_q => decide); (case kB_q => exact locs rfl); (case c2_q => exact rfl); (case c3_q => exact rfl); (case c4_q => exact rfl); k_whole; intro g' L' h' evX AX mmX gSX dSX oSX FG' F' N' B' X' T' hg' hL'; (try dsimp only); (try k_fold))
  refine apart11 nd fun n_st_dst n_st_acc n_st_ac n_st_dac n_st_sto n_st_jl n_st_tch n_st_des n_st_ws n_st_org n_dst_acc n_dst_ac n_dst_dac n_dst_sto n_dst_jl n_dst_tch n_dst_des n_dst_ws n_dst_org n_acc_ac n_acc_dac n_acc_sto n_acc_jl n_acc_tch n_acc_des n_acc_ws n_acc_org n_ac_dac n_ac_sto n_ac_jl n_ac_tch n_ac_des n_ac_ws n_ac_org n_dac_sto n_dac_jl n_dac_tch n_dac_des n_dac_ws n_dac_org n_sto_jl n_sto_tch n_sto_des n_sto_ws n_sto_org n_jl_tch n_jl_des n_jl_ws n_jl_org n_tch_des n_tch_ws n_tch_org n_des_ws n_des_org n_ws_org => ?_
  have e1 : (valueAt [(home, Value.ref ac)] home).isSome = true := by simp [valueAt]
  have e2 : valueAt [(home, Value.ref ac)] home = some (Value.ref ac) := by simp [valueAt]
  obtain ⟨tz, e3⟩ : ∃ tz : Tok, ∀ t : Tok, (valueAt kvs sl).getD (Value.int 0 t) = .int (S.sto sl) (if S.sto sl = 0 then t else tz) := by
    by_cases hz : S.sto sl = 0
    · exact ⟨0, fun t => by rw [(hkv sl).1 hz, if_pos hz, hz]; rfl⟩
    · obtain ⟨t, e⟩ := (hkv sl).2 hz
      exact ⟨t, fun _ => by rw [e, if_neg hz]; rfl⟩
  have e4 := hW sl
  have hJn' : J.length ≤ 900 := by omega
  cases hw : W sl with
  | false =>
    have hf := hWf hw
    rw [hw] at e4
    k_steps
    refine stop_out ?_
    refine' Con.useSt (c_written hP0 ((hS0.more [(?qu1_q, ?oqu1_q)] ?off1u1_q).orig hw hsl ⟨_, (e3 _).trans (by rw [hf])⟩ (.head _) tupO2 ?hD1u1_q) _ hJn') [] ?kBu1_q ?kFu1_q ?kXu1_q (News.perm ?kNu1_q ?ksubu1_q) ?kOu1_q ?kTu1_q ?khu1_q trivial ?kdu1_q ?kuu1_q ?kku1_q
    case kBu1_q => k_asm
    case kFu1_q => k_asm
    case kXu1_q => k_asm
    case kTu1_q => k_asm
    case kNu1_q => k_asm
    case hD1u1_q => assumption
    case ksubu1_q => ((try unfold StA.led StA.lits); (try dsimp only [List.cons_append, List.nil_append]); repeat (first | (refine List.forall_mem_cons.mpr ⟨?_, ?_⟩; focus (show _ ∈ _; k_dflt k_mem)) | (intro p hp; repeat (first | exact hp | refine List.Mem.tail _ ?_))))
    case off1u1_q => (repeat (first | exact off_nil | (refine off_cons ?_ ?_; focus (dsimp only [StA.addrs, PX]; repeat (first | exact List.forall_mem_nil _ | (refine List.forall_mem_cons.mpr ⟨?_, ?_⟩; focus k_ne))))))
    case kOu1_q => exact OffL.nil
    case khu1_q => exact rfl
    case kdu1_q => ktr_room
    case kuu1_q => ktr_units
    case kku1_q =>
    intro v3 h3 tk3 C3 hv3 hS3 F3 N3 O3
    unfold StA.led StA.lits at N3
    dsimp only [List.cons_append, List.nil_append] at N3
    obtain ⟨osto3, otch3, ows3, oorg3, tr3, n3, jv3, kvs3, xs3, ys3, rows3, rest3⟩ := C3
    have hS3c := hS3
    have kvz3 := hS3.kvs_le
    have xsz3 := hS3.xs_le
    have ysz3 := hS3.ys_le
    have jln3 := hS3.jlen
    obtain ⟨off3, hsto3, hkv3, hkn3, htch3, hws3, hxk3, hxs3, hxn3, horg3, hyk3, hys3, hyn3, hW3, hjv3, hJ3, hrow3⟩ := hS3
    dsimp only [StA.addrs] at off3 hsto3 hkv3 hkn3 htch3 hws3 hxk3 hxs3 hxn3 horg3 hyk3 hys3 hyn3 hW3 hjv3 hJ3 hrow3 kvz3 xsz3 ysz3 jln3
    subst hv3
    have jz3 : jv3.size ≤ 900 := by rw [jln3, List.length_append]; split <;> simp <;> omega
    k_sweep
    k_steps
    refine stop_out ?_
    refine' Con.useSt (c_put hP0 (hS3c.newRow (JR.slot sl (S.sto sl)) ?nu2_q ?off2u2_q rfl rfl rfl ⟨_, e3 _⟩) sl wd _ _ hsl) [] ?kBu2_q ?kFu2_q ?kXu2_q (News.perm ?kNu2_q ?ksubu2_q) ?kOu2_q ?kTu2_q ?khu2_q trivial ?kdu2_q ?kuu2_q ?kku2_q
    case kBu2_q => k_asm
    case kFu2_q => k_asm
    case kXu2_q => k_asm
    case kTu2_q => k_asm
    case kNu2_q => k_asm
    case ksubu2_q => ((try unfold StA.led StA.lits); (try dsimp only [List.cons_append, List.nil_append]); repeat (first | (refine List.forall_mem_cons.mpr ⟨?_, ?_⟩; focus (show _ ∈ _; k_dflt k_mem)) | (intro p hp; repeat (first | exact hp | refine List.Mem.tail _ ?_))))
    case off2u2_q => (repeat (first | exact off_nil | (refine off_cons ?_ ?_; focus (dsimp only [StA.addrs, PX]; repeat (first | exact List.forall_mem_nil _ | (refine List.forall_mem_cons.mpr ⟨?_, ?_⟩; focus k_ne))))))
    case kOu2_q => exact OffL.nil
    case khu2_q => exact rfl
    case kdu2_q => ktr_room
    case kuu2_q => ktr_units
    case kku2_q =>
    intro v5 h5 tk5 C5 hv5 hS5 F5 N5 O5

    subst hv5
    k_steps
    exact hret _ _ _ (by assumption) (keeps_end hg' (by assumption)) ⟨rfl, StPost.mk (by first | exact hS5 | (rw [hWe]; exact hS5)) hg' (by assumption) (fun _ hp => hp)⟩
  | true =>
    have hWe : setB W sl true = W := by
      funext x; unfold setB; split
      · rename_i e; rw [e, hw]
      · rfl
    rw [hw] at e4
    k_steps
    refine stop_out ?_
    refine' Con.useSt (c_written hP0 hS0 _ hJn') [] ?kBu3_q ?kFu3_q ?kXu3_q (News.perm ?kNu3_q ?ksubu3_q) ?kOu3_q ?kTu3_q ?khu3_q trivial ?kdu3_q ?kuu3_q ?kku3_q
    case kBu3_q => k_asm
    case kFu3_q => k_asm
    case kXu3_q => k_asm
    case kTu3_q => k_asm
    case kNu3_q => k_asm
    case ksubu3_q => ((try unfold StA.led StA.lits); (try dsimp only [List.cons_append, List.nil_append]); repeat (first | (refine List.forall_mem_cons.mpr ⟨?_, ?_⟩; focus (show _ ∈ _; k_dflt k_mem)) | (intro p hp; repeat (first | exact hp | refine List.Mem.tail _ ?_))))
    case kOu3_q => exact OffL.nil
    case khu3_q => exact rfl
    case kdu3_q => ktr_room
    case kuu3_q => ktr_units
    case kku3_q =>
    intro v3 h3 tk3 C3 hv3 hS3 F3 N3 O3
    unfold StA.led StA.lits at N3
    dsimp only [List.cons_append, List.nil_append] at N3
    obtain ⟨osto3, otch3, ows3, oorg3, tr3, n3, jv3, kvs3, xs3, ys3, rows3, rest3⟩ := C3
    have hS3c := hS3
    have kvz3 := hS3.kvs_le
    have xsz3 := hS3.xs_le
    have ysz3 := hS3.ys_le
    have jln3 := hS3.jlen
    obtain ⟨off3, hsto3, hkv3, hkn3, htch3, hws3, hxk3, hxs3, hxn3, horg3, hyk3, hys3, hyn3, hW3, hjv3, hJ3, hrow3⟩ := hS3
    dsimp only [StA.addrs] at off3 hsto3 hkv3 hkn3 htch3 hws3 hxk3 hxs3 hxn3 horg3 hyk3 hys3 hyn3 hW3 hjv3 hJ3 hrow3 kvz3 xsz3 ysz3 jln3
    subst hv3
    have jz3 : jv3.size ≤ 900 := by rw [jln3, List.length_append]; split <;> simp <;> omega
    k_sweep
    k_steps
    refine stop_out ?_
    refine' Con.useSt (c_put hP0 (hS3c.newRow (JR.slot sl (S.sto sl)) ?nu4_q ?off2u4_q rfl rfl rfl ⟨_, e3 _⟩) sl wd _ _ hsl) [] ?kBu4_q ?kFu4_q ?kXu4_q (News.perm ?kNu4_q ?ksubu4_q) ?kOu4_q ?kTu4_q ?khu4_q trivial ?kdu4_q ?kuu4_q ?kku4_q
    case kBu4_q => k_asm
    case kFu4_q => k_asm
    case kXu4_q => k_asm
    case kTu4_q => k_asm
    case kNu4_q => k_asm
    case ksubu4_q => ((try unfold StA.led StA.lits); (try dsimp only [List.cons_append, List.nil_append]); repeat (first | (refine List.forall_mem_cons.mpr ⟨?_, ?_⟩; focus (show _ ∈ _; k_dflt k_mem)) | (intro p hp; repeat (first | exact hp | refine List.Mem.tail _ ?_))))
    case off2u4_q => (repeat (first | exact off_nil | (refine off_cons ?_ ?_; focus (dsimp only [StA.addrs, PX]; repeat (first | exact List.forall_mem_nil _ | (refine List.forall_mem_cons.mpr ⟨?_, ?_⟩; focus k_ne))))))
    case kOu4_q => exact OffL.nil
    case khu4_q => exact rfl
    case kdu4_q => ktr_room
    case kuu4_q => ktr_units
    case kku4_q =>
    intro v5 h5 tk5 C5 hv5 hS5 F5 N5 O5

    subst hv5
    k_steps
    exact hret _ _ _ (by assumption) (keeps_end hg' (by assumption)) ⟨rfl, StPost.mk (by first | exact hS5 | (rw [hWe]; exact hS5)) hg' (by assumption) (fun _ hp => hp)⟩

end Mine
end
section
open PySem PySem.W PyProof.Rows PySem.Calls
namespace Mine
theorem fresh_M3 : True := by
  w_top off
  trivial
theorem lines_M3_0 : True := by
  k_with_none
  (k_with "g_ktr_room" => (first | exact Nat.le_of_ble_eq_true rfl | exact roomF 0 (by assumption) rfl rfl | exact roomF 1 (by assumption) rfl rfl | exact roomF 2 (by assumption) rfl rfl | exact roomF 3 (by assumption) rfl rfl | exact roomF 4 (by assumption) rfl rfl))
  (k_with "g_ktr_units" => (first | exact Nat.le_of_ble_eq_true rfl | exact unitF 3 (by assumption) rfl rfl | exact unitG 3 (by assumption) rfl rfl | exact unitG 6 (by assumption) rfl rfl | exact unitF 6 (by assumption) rfl rfl | exact unitF 7 (by assumption) rfl rfl | exact unitF 4 (by assumption) rfl rfl | exact unitF 5 (by assumption) rfl rfl | exact unitF 8 (by assumption) rfl rfl | exact unitF 9 (by assumption) rfl rfl | exact unitF 10 (by assumption) rfl rfl | exact unitF 11 (by assumption) rfl rfl | exact unitF 12 (by assumption) rfl rfl | exact unitF 13 (by assumption) rfl rfl | exact unitF 14 (by assumption) rfl rfl | exact unitF 15 (by assumption) rfl rfl | exact unitF 0 (by assumption) rfl rfl | exact unitF 1 (by assumption) rfl rfl | exact unitF 2 (by assumption) rfl rfl))
  (k_with "g_k_ne" => ((refine neN ?_; (try dsimp only); first | exact Ne'.o (by with_reducible assumption) | exact Ne'.s (by with_reducible assumption) | k_extra "ne")))
  (k_with "g_k_all" => (first | exact OwnOff.ne (by with_reducible assumption) (by k_mem) | exact allLt_ne (by assumption)))
  (k_with "g_size_fits" => ((simp only [List.size_toArray, List.length_map, List.length_append, List.length_cons, List.length_nil, Array.size_push]; (first | done | (rw [sizeLine_eq]; omega)))))
  (k_with "g_ent" => (apply code_defF; (case hA => exact rfl); (case hf => exact rfl); (case hke => exact rfl); (case B => k_asm); (case F => k_asm); (case X₀ => k_asm); (case N => k_asm); (case T => k_asm); (case ho => k_is); (case hcd => k_is); (case hroom => k_room); (case hbind => first | exact BindsTo.of_eq rfl | exact binds_K (by k_in) rfl (by k_is) rfl rfl rfl | fail "no rule for these arguments"); (case hcell => decide); (case hloc => exact locs rfl); (case hco => exact rfl); (case hgen => exact rfl); (case hk => exact rfl); k_whole; intro _ _ _ evX AX mmX _ _ _ _ _ _; (try dsimp only); (try k_fold)))
  (k_with "call ref" => (k_here; k_dflt (first
    | (apply call_cls0; (case F => k_asm); (case X₀ => k_asm); (case N => k_asm); (case hm => k_is); (case hi => k_is); k_whole; intro x' d' h' F' N' l1 l2; (try k_lt l1); (try k_lt2 l2); (try k_sweep); (revert x' d' h' F' N' l1 l2; intros))
    | (apply call_cls; (case F => k_asm); (case X₀ => k_asm); (case N => k_asm); (case hm => k_is); (case hi => k_is); (case hf => k_is); k_whole; intro x' d' h' F' N' l1 l2; (try k_lt l1); (try k_lt2 l2); (try k_sweep); (revert x' d' h' F' N' l1 l2; intros); k_extra "g_ent")
    | (apply call_meth; (case N => k_asm); (case hq => k_mem); k_whole; k_extra "g_ent")
    | (refine wpAny_call ?_; k_extra "g_ent"))))
  (k_with "call ref" => (k_here; (with_reducible show wpAny _ _ (call (Value.ref 154) [_, _, _, _] _) _ _ _); k_dflt (apply row_call; (case B => k_asm); (case F => k_asm); (case X => k_asm); (case N => k_asm); (case T => k_asm); (case hk => exact rfl); (case hd => ktr_room); k_whole); intro x' d' h' tk' k0' k1' k2' k3' F' N' l1 l2; (try k_lt l1); (try k_lt2 l2); (try k_sweep); (revert x' d' h' tk' k0' k1' k2' k3' F' N' l1 l2; intros)))
  (k_with "storeName" => (k_here; k_dflt (apply stXF; (case F => k_asm); (case N => k_asm); (case hk => rfl); (case hx => rfl); k_whole); intro mmX; intro _ _ _; (try k_sweep)))
  (k_with "execs cons" => (k_here; (try dsimp only); (refine execsF ?_); intro qkX))
  (k_with "execs cons" => (k_here; (try dsimp only); (with_reducible show wpAny _ _ _ _ _ (Shared.mk _ _ _ (_ + _) _)); (refine toksF ?_); intro tkX; (refine execsF ?_); intro qkX))
  (k_with "lt" => (first | with_reducible assumption | (apply And.left; first | with_reducible assumption | (apply And.right; first | with_reducible assumption | (apply And.right; first | with_reducible assumption | (apply And.right; first | with_reducible assumption | (apply And.right; first | with_reducible assumption | (apply And.right; first | with_reducible assumption | (apply And.right; first | with_reducible assumption | (apply And.right; first | with_reducible assumption | (apply And.right; first | with_reducible assumption | (apply And.right; first | with_reducible assumption | (apply And.right; first | with_reducible assumption | (apply And.right; first | with_reducible assumption | (apply And.right; first | with_reducible assumption | (apply And.right; first | with_reducible assumption | (apply And.right; first | with_reducible assumption | (apply And.right; with_reducible assumption))))))))))))))))))
  (k_with "ne" => (first | (refine Nat.ne_of_gt ?_; k_extra "lt") | (refine Nat.ne_of_lt ?_; k_extra "lt") | (refine Nat.ne_of_gt ?_; apply Nat.lt_trans; rotate_left; (with_reducible assumption); k_extra "lt") | (refine Nat.ne_of_lt ?_; apply Nat.lt_trans; rotate_left; (with_reducible assumption); k_extra "lt")))
  (k_with "subscriptTail" => (k_here; (with_reducible show wpAny _ _ (subscriptTail _ _ (Value.ref _) (Value.str _ _)) _ _ _); k_dflt (apply d_item (knd := strKind _ _) (hkey := (str_key _ _)); (case N => k_asm); (case hm => k_mem); (case hD => assumption); (case hv => first | assumption | exact rfl); (case hs => with_unfolding_all rfl); k_whole)))
  (k_with "subscriptTail" => (k_here; (with_reducible show wpAny _ _ (subscriptTail _ _ (Value.ref _) (Value.int _ _)) _ _ _); k_dflt (apply d_item (knd := intKind _ _) (hkey := (int_key _ _)); (case N => k_asm); (case hm => k_mem); (case hD => assumption); (case hv => first | assumption | exact rfl); (case hs => with_unfolding_all rfl); k_whole)))
  (k_with "compareOp In" => (k_here; (with_reducible show wpAny _ _ (compareOp CmpOp.In (Value.int _ _) (Value.ref _)) _ _ _); k_dflt (apply d_inB (knd := intKind _ _) (hkey := (int_key _ _)); (case N => k_asm); (case hm => k_mem); (case hD => assumption); (case lo => assumption); (case hb => first | assumption | exact rfl); k_whole)))
  (k_with "compareOp NotIn" => (k_here; (with_reducible show wpAny _ _ (compareOp CmpOp.NotIn (Value.int _ _) (Value.ref _)) _ _ _); k_dflt (apply d_notIn (knd := intKind _ _) (hkey := (int_key _ _)); (case N => k_asm); (case hm => k_mem); (case hD => assumption); (case lo => assumption); (case hb => first | assumption | exact rfl); k_whole)))
  (k_with "call builtin:dict.get" => (k_here; (with_reducible show wpAny _ _ (call (Value.builtin _) [Value.ref _, Value.int _ _, _]) _ _ _); k_dflt (apply d_get2B (knd := intKind _ _) (hkey := (int_key _ _)); (case N => k_asm); (case hm => k_mem); (case hD => assumption); (case lo => assumption); (case hv => first | assumption | exact rfl); k_whole)))
  (k_with "setItem" => (k_here; (with_reducible show wpAny _ _ (setItem (Value.ref _) (Value.str _ _) _) _ _ _); k_dflt (apply d_set (knd := strKind _ _) (hkey := (str_key _ _)); (case F => k_asm); (case N => k_asm); (case U => k_updF); (case hD => assumption); (case hz => first | assumption | decide | (simp; done)); k_whole); intro h' o' F' N' D'; (try dsimp only at N'); (try simp (decide := true) [stored] at D'); (try k_sweep); (revert h' o' F' N' D'; intros)))
  (k_with "setItem" => (k_here; (with_reducible show wpAny _ _ (setItem (Value.ref _) (Value.int _ _) _) _ _ _); k_dflt (apply d_set (knd := intKind _ _) (hkey := (int_key _ _)); (case F => k_asm); (case N => k_asm); (case U => k_updF); (case hD => assumption); (case hz => first | assumption | decide | (simp; done)); k_whole); intro h' o' F' N' D'; (try dsimp only at N'); (try k_sweep); (revert h' o' F' N' D'; intros)))
  (k_with "delItem" => (k_here; (with_reducible show wpAny _ _ (delItem (Value.ref _) (Value.int _ _)) _ _ _); k_dflt (apply d_del (knd := intKind _ _) (hkey := (int_key _ _)); (case F => k_asm); (case N => k_asm); (case U => k_updF); (case hD => assumption); (case hl => assumption); (case hz => first | assumption | decide | (simp; done)); k_whole); intro h' o' F' N' D'; (try dsimp only at N'); (try k_sweep); (revert h' o' F' N' D'; intros)))
  trivial
noncomputable abbrev caskIs (w : World) (o : Obj) (cl : Addr) (turn : Int) (tt : Tok) : Prop := o.IsDictOf (strKind PP w) [(Str.ofString "cells", .ref cl), (Str.ofString "turn", .int turn tt)]
theorem c_dip {w : World} {mean : ExcName → Option Value} {mg mb : Str → Option Value} (c cl : Addr) (oc : Obj) (tt tm : Tok) (turn many : Int) (vs : List Value) (ns : List Int) :
    Con w mean mg mb 417 [.ref c, .int many tm] 1 [(c, oc)] (fun h => caskIs w oc cl turn tt ∧ h.IsList cl vs.toArray ∧ IntsAre vs ns ∧ ns.length ≤ 63 ∧ 0 ≤ turn ∧ 0 < many) (fun _ v h' => ∃ r t t' oc', v = .int r t ∧ 0 ≤ r ∧ r < many ∧ h'.get? c = some oc' ∧ caskIs w oc' cl (turn + 1) t') := by
  unfold Con
  k_fill
  intro dp un gd cn cs a ccd cells outer A₀ base h₀ L m s Q E B F X N T hk hpre hd hu hret
  refine wpAny_call ?_
  k_dflt (refine' enterHF ?k1_q ?k2_q ?k3_q ?k4_q ?k5_q ?kA_q ?kF_q ?kK_q ?k6_q ?k7_q ?k8_q ?k9_q ?kB_q ?_ ?c2_q ?c3_q ?c4_q ?c5_q; (case kA_q => exact rfl); (case kF_q => exact rfl); (case kK_q => assumption); (case k1_q => k_asm); (case k2_q => k_asm); (case k3_q => k_asm); (case k4_q => k_asm); (case k5_q => k_asm); (case k6_q => k_is); (case k7_q => k_is); (case k8_q => ktr_room); (case k9_q => exact BindsTo.of_eq rfl); (case c5_q => decide); (case kB_q => exact locs rfl); (case c2_q => exact rfl); (case c3_q => exact rfl); (case c4_q => exact rfl); k_whole; intro g' L' h' evX AX mmX gSX dSX oSX FG' F' N' B' X' T' hg' hL'; (try dsimp only); (try k_fold))
  show let GX : Prop := _; GX
  intro GX
  obtain ⟨hD, hl, hi, hlen, h0, hm⟩ := hpre
  k_unfold
  clear GX
  have hlg : g'.IsList cl vs.toArray := by
    show let GX : Prop := _; GX
    intro GX
    obtain ⟨o, ho, hc, nn, hdd⟩ := hl
    k_unfold
    clear GX
    refine ⟨o, keeps_of hg' _ _ ?_ ho, hc, nn, hdd⟩
    intro hmem
    have := (N _ (List.mem_singleton.mpr rfl)).1
    simp only [List.map_cons, List.map_nil, List.mem_singleton] at hmem
    subst hmem
    rw [ho] at this
    cases this
    show let GX : Prop := _; GX
    intro GX
    obtain ⟨es, ep, hx, hy, _⟩ := hD
    k_unfold
    clear GX
    rw [hdd] at hy
    cases hy
  have hlh : h'.IsList cl vs.toArray := hlg.at fun o e => F'.keep _ _ e
  k_steps
  all_goals (refine hret _ _ _ (by assumption) (keeps_end hg' (by assumption)) ⟨_, _, _, _, rfl, Int.fmod_nonneg_of_pos _ hm, Int.fmod_lt_of_pos _ hm, News.get (by assumption) (List.Mem.head _), by assumption⟩)

end Mine
end
section
open PySem PySem.W PyProof.Rows PySem.Calls PySem.Spec
namespace Mine
theorem OffL.symm {a b : List (Addr × Obj)} (h : OffL a b) : OffL b a := fun p hp q hq e => h q hq p hp e.symm
theorem OffL.app {a b l : List (Addr × Obj)} (h1 : OffL a l) (h2 : OffL b l) : OffL (a ++ b) l := fun p hp => (List.mem_append.mp hp).elim (h1 p) (h2 p)
theorem OffL.mem {led l : List (Addr × Obj)} (h : OffL led l) {a : Addr} {o : Obj} (hm : (a, o) ∈ led) : ∀ q ∈ l, q.1 ≠ a := h _ hm
theorem OffL.sub {a a' l : List (Addr × Obj)} (h : OffL a l) (hs : ∀ p ∈ a', p ∈ a) : OffL a' l := fun p hp => h p (hs p hp)
theorem StA.led_st {w : World} {P : StA} {C : StC} {r : Int} : (P.st, instObj 399 P.dst) ∈ P.led w C r := List.mem_append_left _ (.head _)
theorem StA.led_dst {w : World} {P : StA} {C : StC} {r : Int} : (P.dst, sObj w P.kS P.acc P.jl P.tch P.des P.wo P.ws P.org P.lg r C.tr) ∈ P.led w C r := List.mem_append_left _ (.tail _ (.head _))
theorem news_st {w : World} {P : StA} {C : StC} {r : Int} {h₀ h : Heap} {L : Addr} {oth : List (Addr × Obj)} (N : News h₀ L h (oth ++ P.led w C r)) : News h₀ L h ((P.st, instObj 399 P.dst) :: (P.dst, sObj w P.kS P.acc P.jl P.tch P.des P.wo P.ws P.org P.lg r C.tr) :: (oth ++ P.led w C r)) :=
  news_one (news_one N (List.mem_append_right _ StA.led_dst)) (.tail _ (List.mem_append_right _ StA.led_st))
section
variable {w : World} {mean : ExcName → Option Value} {mg mb : Str → Option Value} {home s1 s2 : Int} {fst : Int → Int} {P : StA} (hP : StAOK w home P) {C : StC} {S : SS} {J : List JR} {W : Int → Bool} (hS : StCOK w home s1 s2 fst P C S J W) {st : List Stp} (hm : Mt fst st S)
include hP hS hm
theorem c_slotM (sl : Int) (t1 t2 : Tok) : Con w mean mg mb 298 [.ref P.st, .int home t1, .int sl t2] 1 (P.led w C S.rfd) (fun _ => True) (fun _ v h' => (∃ t, v = .int ((walked fst st).held sl) t) ∧ Sat h' (P.led w C S.rfd)) :=
  (c_slot hP hS sl t1 t2).mono (fun _ h => h) fun _ _ _ ⟨⟨t, e⟩, s⟩ => ⟨⟨t, by rw [e, hm.hsto]⟩, s⟩
theorem c_orgM (hU : Unset W st) (sl : Int) (t1 t2 : Tok) : Con w mean mg mb 312 [.ref P.st, .int home t1, .int sl t2] 2 (P.led w C S.rfd) (fun _ => True) (fun _ v h' => (∃ t, v = .int (fst sl) t) ∧ Sat h' (P.led w C S.rfd)) :=
  (c_org hP hS sl t1 t2).mono (fun _ h => h) fun _ _ _ ⟨⟨t, e⟩, s⟩ => ⟨⟨t, by
    rw [e]
    cases hw : W sl with
    | true => rfl
    | false =>
      have e2 : S.sto sl = fst sl := by rw [hm.hsto]; exact hU.held hw
      simp [e2]⟩, s⟩
theorem c_iswM (sl : Int) (t1 t2 : Tok) : Con w mean mg mb 333 [.ref P.st, .int home t1, .int sl t2] 1 (P.led w C S.rfd) (fun _ => True) (fun _ v h' => v = .bool (decide (sl ∈ (walked fst st).come)) ∧ Sat h' (P.led w C S.rfd)) :=
  (c_isw hP hS sl t1 t2).mono (fun _ h => h) fun _ _ _ ⟨e, s⟩ => ⟨by rw [e, hm.hwrm], s⟩
end
end Mine
end
section
open PySem PySem.W PyProof.Rows PySem.Calls
namespace Mine
theorem fresh_M18 : True := by
  w_top off
  trivial
theorem lines_M18_0 : True := by
  k_with_none
  (k_with "g_ktr_room" => (first | exact Nat.le_of_ble_eq_true rfl | exact roomF 0 (by assumption) rfl rfl | exact roomF 1 (by assumption) rfl rfl | exact roomF 2 (by assumption) rfl rfl | exact roomF 3 (by assumption) rfl rfl | exact roomF 4 (by assumption) rfl rfl))
  (k_with "g_ktr_units" => (first | exact Nat.le_of_ble_eq_true rfl | exact unitF 3 (by assumption) rfl rfl | exact unitG 3 (by assumption) rfl rfl | exact unitG 6 (by assumption) rfl rfl | exact unitF 6 (by assumption) rfl rfl | exact unitF 7 (by assumption) rfl rfl | exact unitF 4 (by assumption) rfl rfl | exact unitF 5 (by assumption) rfl rfl | exact unitF 8 (by assumption) rfl rfl | exact unitF 9 (by assumption) rfl rfl | exact unitF 10 (by assumption) rfl rfl | exact unitF 11 (by assumption) rfl rfl | exact unitF 12 (by assumption) rfl rfl | exact unitF 13 (by assumption) rfl rfl | exact unitF 14 (by assumption) rfl rfl | exact unitF 15 (by assumption) rfl rfl | exact unitF 0 (by assumption) rfl rfl | exact unitF 1 (by assumption) rfl rfl | exact unitF 2 (by assumption) rfl rfl))
  (k_with "g_k_ne" => ((refine neN ?_; (try dsimp only); first | exact Ne'.o (by with_reducible assumption) | exact Ne'.s (by with_reducible assumption) | k_extra "ne")))
  (k_with "g_k_all" => (first | exact OwnOff.ne (by with_reducible assumption) (by k_mem) | exact allLt_ne (by assumption)))
  (k_with "g_size_fits" => ((simp only [List.size_toArray, List.length_map, List.length_append, List.length_cons, List.length_nil, Array.size_push]; (first | done | (rw [sizeLine_eq]; omega)))))
  (k_with "g_ent" => (apply code_defF; (case hA => exact rfl); (case hf => exact rfl); (case hke => exact rfl); (case B => k_asm); (case F => k_asm); (case X₀ => k_asm); (case N => k_asm); (case T => k_asm); (case ho => k_is); (case hcd => k_is); (case hroom => k_room); (case hbind => first | exact BindsTo.of_eq rfl | exact binds_K (by k_in) rfl (by k_is) rfl rfl rfl | fail "no rule for these arguments"); (case hcell => decide); (case hloc => exact locs rfl); (case hco => exact rfl); (case hgen => exact rfl); (case hk => exact rfl); k_whole; intro _ _ _ evX AX mmX _ _ _ _ _ _; (try dsimp only); (try k_fold)))
  (k_with "call ref" => (k_here; k_dflt (first
    | (apply call_cls0; (case F => k_asm); (case X₀ => k_asm); (case N => k_asm); (case hm => k_is); (case hi => k_is); k_whole; intro x' d' h' F' N' l1 l2; (try k_lt l1); (try k_lt2 l2); (try k_sweep); (revert x' d' h' F' N' l1 l2; intros))
    | (apply call_cls; (case F => k_asm); (case X₀ => k_asm); (case N => k_asm); (case hm => k_is); (case hi => k_is); (case hf => k_is); k_whole; intro x' d' h' F' N' l1 l2; (try k_lt l1); (try k_lt2 l2); (try k_sweep); (revert x' d' h' F' N' l1 l2; intros); k_extra "g_ent")
    | (apply call_meth; (case N => k_asm); (case hq => k_mem); k_whole; k_extra "g_ent")
    | (refine wpAny_call ?_; k_extra "g_ent"))))
  (k_with "call ref" => (k_here; (with_reducible show wpAny _ _ (call (Value.ref 154) [_, _, _, _] _) _ _ _); k_dflt (apply row_call; (case B => k_asm); (case F => k_asm); (case X => k_asm); (case N => k_asm); (case T => k_asm); (case hk => exact rfl); (case hd => ktr_room); k_whole); intro x' d' h' tk' k0' k1' k2' k3' F' N' l1 l2; (try k_lt l1); (try k_lt2 l2); (try k_sweep); (revert x' d' h' tk' k0' k1' k2' k3' F' N' l1 l2; intros)))
  (k_with "storeName" => (k_here; k_dflt (apply stXF; (case F => k_asm); (case N => k_asm); (case hk => rfl); (case hx => rfl); k_whole); intro mmX; intro _ _ _; (try k_sweep)))
  (k_with "execs cons" => (k_here; (try dsimp only); (refine execsF ?_); intro qkX))
  (k_with "execs cons" => (k_here; (try dsimp only); (with_reducible show wpAny _ _ _ _ _ (Shared.mk _ _ _ (_ + _) _)); (refine toksF ?_); intro tkX; (refine execsF ?_); intro qkX))
  (k_with "lt" => (first | with_reducible assumption | (apply And.left; first | with_reducible assumption | (apply And.right; first | with_reducible assumption | (apply And.right; first | with_reducible assumption | (apply And.right; first | with_reducible assumption | (apply And.right; first | with_reducible assumption | (apply And.right; first | with_reducible assumption | (apply And.right; first | with_reducible assumption | (apply And.right; first | with_reducible assumption | (apply And.right; first | with_reducible assumption | (apply And.right; first | with_reducible assumption | (apply And.right; first | with_reducible assumption | (apply And.right; first | with_reducible assumption | (apply And.right; first | with_reducible assumption | (apply And.right; first | with_reducible assumption | (apply And.right; first | with_reducible assumption | (apply And.right; with_reducible assumption))))))))))))))))))
  (k_with "ne" => (first | (refine Nat.ne_of_gt ?_; k_extra "lt") | (refine Nat.ne_of_lt ?_; k_extra "lt") | (refine Nat.ne_of_gt ?_; apply Nat.lt_trans; rotate_left; (with_reducible assumption); k_extra "lt") | (refine Nat.ne_of_lt ?_; apply Nat.lt_trans; rotate_left; (with_reducible assumption); k_extra "lt")))
  (k_with "exec Assign" => (k_here; (with_reducible show wpAny _ _ (exec (Stmt.Assign [Expr.Tuple _ _ _] _ _) _) _ _ _); k_dflt (first | refine Assign_Tuple ?_ (hs := by kernel_rfl!) (hw := by kernel_rfl!) | refine Assign_Tuple_swapped (names := [Str.ofString "held", Str.ofString "pairs", Str.ofString "come"]) ?_ (hs := by kernel_rfl!) (hw := by kernel_rfl!))))
  (k_with "subscriptTail" => (k_here; (with_reducible show wpAny _ _ (subscriptTail _ _ (Value.ref _) (Value.str _ _)) _ _ _); k_dflt (apply d_item (knd := strKind _ _) (hkey := (str_key _ _)); (case N => k_asm); (case hm => k_mem); (case hD => assumption); (case hv => first | assumption | exact rfl); (case hs => with_unfolding_all rfl); k_whole)))
  (k_with "subscriptTail" => (k_here; (with_reducible show wpAny _ _ (subscriptTail _ _ (Value.ref _) (Value.int _ _)) _ _ _); k_dflt (apply d_item (knd := intKind _ _) (hkey := (int_key _ _)); (case N => k_asm); (case hm => k_mem); (case hD => assumption); (case hv => first | assumption | exact rfl); (case hs => with_unfolding_all rfl); k_whole)))
  (k_with "compareOp In" => (k_here; (with_reducible show wpAny _ _ (compareOp CmpOp.In (Value.int _ _) (Value.ref _)) _ _ _); k_dflt (apply d_inB (knd := intKind _ _) (hkey := (int_key _ _)); (case N => k_asm); (case hm => k_mem); (case hD => assumption); (case lo => assumption); (case hb => first | assumption | exact rfl); k_whole)))
  (k_with "compareOp NotIn" => (k_here; (with_reducible show wpAny _ _ (compareOp CmpOp.NotIn (Value.int _ _) (Value.ref _)) _ _ _); k_dflt (apply d_notIn (knd := intKind _ _) (hkey := (int_key _ _)); (case N => k_asm); (case hm => k_mem); (case hD => assumption); (case lo => assumption); (case hb => first | assumption | exact rfl); k_whole)))
  (k_with "call builtin:dict.get" => (k_here; (with_reducible show wpAny _ _ (call (Value.builtin _) [Value.ref _, Value.int _ _, _]) _ _ _); k_dflt (apply d_get2B (knd := intKind _ _) (hkey := (int_key _ _)); (case N => k_asm); (case hm => k_mem); (case hD => assumption); (case lo => assumption); (case hv => first | assumption | exact rfl); k_whole)))
  (k_with "setItem" => (k_here; (with_reducible show wpAny _ _ (setItem (Value.ref _) (Value.str _ _) _) _ _ _); k_dflt (apply d_set (knd := strKind _ _) (hkey := (str_key _ _)); (case F => k_asm); (case N => k_asm); (case U => k_updF); (case hD => assumption); (case hz => first | assumption | decide | (simp; done)); k_whole); intro h' o' F' N' D'; (try dsimp only at N'); (try simp (decide := true) [stored] at D'); (try k_sweep); (revert h' o' F' N' D'; intros)))
  (k_with "setItem" => (k_here; (with_reducible show wpAny _ _ (setItem (Value.ref _) (Value.int _ _) _) _ _ _); k_dflt (apply d_set (knd := intKind _ _) (hkey := (int_key _ _)); (case F => k_asm); (case N => k_asm); (case U => k_updF); (case hD => assumption); (case hz => first | assumption | decide | (simp; done)); k_whole); intro h' o' F' N' D'; (try dsimp only at N'); (try k_sweep); (revert h' o' F' N' D'; intros)))
  (k_with "delItem" => (k_here; (with_reducible show wpAny _ _ (delItem (Value.ref _) (Value.int _ _)) _ _ _); k_dflt (apply d_del (knd := intKind _ _) (hkey := (int_key _ _)); (case F => k_asm); (case N => k_asm); (case U => k_updF); (case hD => assumption); (case hl => assumption); (case hz => first | assumption | decide | (simp; done)); k_whole); intro h' o' F' N' D'; (try dsimp only at N'); (try k_sweep); (revert h' o' F' N' D'; intros)))
  (k_with "getMethod ref" => (k_here; (with_reducible show wpAny _ _ (getMethod (Value.ref _) (PySem.Str.ofString "get") _) _ _ _); k_dflt (apply t_getMethod; (case N => k_asm); (case hm => k_mem); (case hD => assumption); k_whole)))
  (k_with "call builtin:len" => (k_here; (with_reducible show wpAny _ _ (call (Value.builtin "len") [Value.ref _]) _ _ _); k_dflt (apply l_len; (case N => k_asm); (case hm => k_mem); (case hz => (simp only [List.size_toArray, List.length_map]; omega)); k_whole)))
  (k_with "compareOp In" => (k_here; (with_reducible show wpAny _ _ (compareOp CmpOp.In (Value.ref _) (Value.ref _)) _ _ _); k_dflt (apply t_in; (case N => k_asm); (case hm => k_mem); (case hD => assumption); (case hK => exact KeysIn.mono (by assumption) (by intro p hp; repeat (first | exact hp | refine List.Mem.tail _ ?_))); (case hq => k_mem); (case ht => exact tupO2); (case hu => ktr_units); (case lo => assumption); (case hb => assumption); k_whole)))
  (k_with "compareOp NotIn" => (k_here; (with_reducible show wpAny _ _ (compareOp CmpOp.NotIn (Value.ref _) (Value.ref _)) _ _ _); k_dflt (apply t_notIn; (case N => k_asm); (case hm => k_mem); (case hD => assumption); (case hK => exact KeysIn.mono (by assumption) (by intro p hp; repeat (first | exact hp | refine List.Mem.tail _ ?_))); (case hq => k_mem); (case ht => exact tupO2); (case hu => ktr_units); (case lo => assumption); (case hb => assumption); k_whole)))
  (k_with "call builtin:dict.get" => (k_here; (with_reducible show wpAny _ _ (call (Value.builtin _) [Value.ref _, Value.ref _, _]) _ _ _); k_dflt (apply t_get2; (case N => k_asm); (case hm => k_mem); (case hD => assumption); (case hK => exact KeysIn.mono (by assumption) (by intro p hp; repeat (first | exact hp | refine List.Mem.tail _ ?_))); (case hq => k_mem); (case ht => exact tupO2); (case hu => ktr_units); (case lo => assumption); (case hv => first | assumption | exact rfl); k_whole)))
  (k_with "setItem" => (k_here; (with_reducible show wpAny _ _ (setItem (Value.ref _) (Value.ref _) _) _ _ _); k_dflt (apply t_set; (case F => k_asm); (case N => k_asm); (case U => k_updF); (case hD => assumption); (case hK => exact KeysIn.mono (by assumption) (by intro p hp; repeat (first | exact hp | refine List.Mem.tail _ ?_))); (case hq => k_mem); (case ht => exact tupO2); (case hu => ktr_units); (case hz => assumption); k_whole); intro h' o' F' N' D'; (try dsimp only at N'); (try k_sweep); (revert h' o' F' N' D'; intros)))
  (k_with "delItem" => (k_here; (with_reducible show wpAny _ _ (delItem (Value.ref _) (Value.ref _)) _ _ _); k_dflt (apply t_del; (case F => k_asm); (case N => k_asm); (case U => k_updF); (case hD => assumption); (case hK => exact KeysIn.mono (by assumption) (by intro p hp; repeat (first | exact hp | refine List.Mem.tail _ ?_))); (case hq => k_mem); (case ht => exact tupO2); (case hu => ktr_units); (case hl => assumption); (case hz => assumption); k_whole); intro h' o' F' N' D'; (try dsimp only at N'); (try k_sweep); (revert h' o' F' N' D'; intros)))
  (k_with "eval Dict" => (k_here; k_dflt (refine' kdn_str ?q ?F ?N ?b ?a ?l ?e ?n ?_; (case q => rfl); (case F => k_asm); (case N => first | k_asm | exact News.nil); (case b => exact Top.nolimit (by k_asm)); (case a => rfl); (case l => rfl); (case e => exact List.cons_ne_nil _ _); (case n => exact Nat.le_of_ble_eq_true rfl)); intro d' h' o' F' N' l1 lo' hd'; (try k_lt l1); (revert d' h' o' F' N' l1 lo' hd'; intros)))
  (k_with "compareOp NotIn" => (k_here; (with_reducible show wpAny _ _ (compareOp CmpOp.NotIn (Value.int _ _) (Value.ref _)) _ _ _); k_dflt (apply li_notIn; (case N => k_asm); (case hm => k_mem); (case hi => assumption); (case hb => first | assumption | exact rfl); k_whole)))
  (k_with "compareOp In" => (k_here; (with_reducible show wpAny _ _ (compareOp CmpOp.In (Value.int _ _) (Value.ref _)) _ _ _); k_dflt (apply li_in; (case N => k_asm); (case hm => k_mem); (case hi => assumption); (case hb => first | assumption | exact rfl); k_whole)))
  (k_with "call builtin:list.append" => (k_here; (with_reducible show wpAny _ _ (call (Value.builtin _) [Value.ref _, _]) _ _ _); k_dflt (apply l_append; (case F => k_asm); (case N => k_asm); (case U => k_updF); (case hz => first | assumption | omega); k_whole); intro h' F' N'; (try dsimp only at N'); (revert h' F' N'; intros)))
  (k_with "call type:dict" => (k_here; (with_reducible show wpAny _ _ (call (Value.type "dict") [Value.ref _]) _ _ _); k_dflt (apply dict_copy2; (case F => k_asm); (case N => k_asm); (case hbig => exact Top.nolimit (by k_asm)); (case hm => k_mem); (case hD => assumption); (case hR => assumption); (case lo => assumption); k_whole); intro d' h' o' kvs' F' N' l1 lo' hd' hr'; (try k_lt l1); (revert d' h' o' kvs' F' N' l1 lo' hd' hr'; intros)))
  (k_with "compareOp NotIn int ref" => (k_here; (with_reducible show wpAny _ _ (compareOp CmpOp.NotIn (Value.int _ _) (Value.ref _)) _ _ _); k_dflt (apply li_notIn; (case N => k_asm); (case hm => k_mem); (case hi => assumption); (case hb => first | assumption | exact rfl); k_whole)))
  (k_with "compareOp In int ref" => (k_here; (with_reducible show wpAny _ _ (compareOp CmpOp.In (Value.int _ _) (Value.ref _)) _ _ _); k_dflt (apply li_in; (case N => k_asm); (case hm => k_mem); (case hi => assumption); (case hb => first | assumption | exact rfl); k_whole)))
  (k_with "eval Call" => (k_here; (with_reducible show wpAny _ _ (eval (Expr.Call (Expr.Name _ _) _ [] _) _) _ _ _); k_dflt (refine Call_ ?_)))
  (k_with "call ref" => (k_here; (with_reducible show wpAny _ _ (call (Value.ref 424) _ _) _ _ _); (with_reducible refine stop_mk ?_)))
  (k_with "exec For Tuple Name cons nil" => (k_here; (with_reducible refine stop_mk ?_)))
  (k_with "pyIter ref" => (k_here; (with_reducible refine stop_mk ?_)))
  trivial
theorem c_walked {w : World} {mean : ExcName → Option Value} {mg mb : Str → Option Value} {s1 s2 : Int} {fst : Int → Int} {fd sd : Addr} {oF : Obj} {kvF : List (Int × Value)} {sv : List Value} {n : Nat} {trest : List (Addr × Obj)} {st : List Stp} (hF : oF.IsDictOf (intKind PP w) kvF) (hR : HeldRep s1 s2 kvF fst) (lo : (fd == sysModules) = false) (hst : ObjsIn stepR trest sv st) (hsl : ∀ p ∈ st, p.1 = s1 ∨ p.1 = s2) (hlen : st.length ≤ 20) (hne : s1 ≠ s2) (hfs : Ne' fd sd) (hoff : OwnOff trest [fd, sd]) :
    Con w mean mg mb 431 [.ref fd, .ref sd] 4 ((fd, oF) :: (sd, listOf sv.toArray n) :: trest) (fun _ => True) (fun h v h' => ∃ led, WOut w s1 s2 (walked fst st) v led ∧ Sat h' led ∧ Grows h ((fd, oF) :: (sd, listOf sv.toArray n) :: trest) led ∧ Sat h' ((fd, oF) :: (sd, listOf sv.toArray n) :: trest)) := by
  unfold Con
  k_fill
  intro dp un gd cn cs a ccd cells outer A₀ base h₀ L m s Q E B F X N T hk hpre hd hu hret
  refine wpAny_call ?_
  k_dflt (refine' enterHF ?k1_q ?k2_q ?k3_q ?k4_q ?k5_q ?kA_q ?kF_q ?kK_q ?k6_q ?k7_q ?k8_q ?k9_q ?kB_q ?_ ?c2_q ?c3_q ?c4_q ?c5_q; (case kA_q => exact rfl); (case kF_q => exact rfl); (case kK_q => assumption); (case k1_q => k_asm); (case k2_q => k_asm); (case k3_q => k_asm); (case k4_q => k_asm); (case k5_q => k_asm); (case k6_q => k_is); (case k7_q => k_is); (case k8_q => ktr_room); (case k9_q => exact BindsTo.of_eq rfl); (case c5_q => decide); (case kB_q => exact locs rfl); (case c2_q => exact rfl); (case c3_q => exact rfl); (case c4_q => exact rfl); k_whole; intro g' L' h' evX AX mmX gSX dSX oSX FG' F' N' B' X' T' hg' hL'; (try dsimp only); (try k_fold))
  k_steps
  rename_i hd _ oH kvH loH hDH hRH l1 pl _ l2 cl _ l3 D _ l4 _ _ _ _ _ _ F0 N0
  have off3 : OwnOff trest [hd, pl, cl] := by
    intro p hp b hb
    rcases List.mem_cons.mp hb with rfl | hb
    · exact allLt_ne l1.2.2 p hp
    · rcases List.mem_cons.mp hb with rfl | hb
      · exact allLt_ne l2.2.2.2 p hp
      · rw [List.mem_singleton.mp hb]; exact allLt_ne l3.2.2.2.2 p hp
  have n_hp : Ne' hd pl := Nat.ne_of_lt l2.1
  have n_hc : Ne' hd cl := Nat.ne_of_lt l3.2.1
  have n_pc : Ne' pl cl := Nat.ne_of_lt l3.1
  have n_fh : Ne' fd hd := Nat.ne_of_lt l1.1
  have n_sh : Ne' sd hd := Nat.ne_of_lt l1.2.1
  have n_fp : Ne' fd pl := Nat.ne_of_lt l2.2.1
  have n_sp : Ne' sd pl := Nat.ne_of_lt l2.2.2.1
  have n_fc : Ne' fd cl := Nat.ne_of_lt l3.2.2.1
  have n_sc : Ne' sd cl := Nat.ne_of_lt l3.2.2.2.1
  refine stop_out ?_
  refine' For_turns ?F1_q ?G1_q ?S1_q ?E1_q
  case F1_q => k_asm
  case E1_q => passes_own
  case S1_q => intro _; rfl
  case G1_q =>
  k_steps
  refine stop_out ?_
  refine' lp_list (J := fun m0 i m nw => ∃ oH kvH pv np cv nc rest, nw = (hd, oH) :: (pl, listOf pv.toArray np) :: (cl, listOf cv.toArray nc) :: (fd, oF) :: (sd, listOf sv.toArray n) :: rest ∧ (∀ p ∈ trest, p ∈ rest) ∧ OwnOff rest [hd, pl, cl] ∧ oH.IsDictOf (intKind PP w) kvH ∧
    HeldRep s1 s2 kvH (walked fst (st.take i)).held ∧ ObjsIn pairR rest pv (walked fst (st.take i)).pairs ∧ IntsAre cv (walked fst (st.take i)).come ∧ Agree [Str.ofString "slot", Str.ofString "fresh", Str.ofString "is_cold"] m m0) (n := n) (vs := sv) ?hh1_q ?F2_q ?N2_q ?J2_q ?K2_q ?step2_q ?done2_q
  case hh1_q => rfl
  case F2_q => k_asm
  case J2_q => exact ⟨oH, kvH, [], 0, [], 0, trest, rfl, fun _ h => h, off3, hDH, hRH, .nil, .nil, Agree.refl⟩
  case N2_q => exact News.perm (by assumption) (by ((try unfold StA.led StA.lits); (try dsimp only [List.cons_append, List.nil_append]); repeat (first | (refine List.forall_mem_cons.mpr ⟨?_, ?_⟩; focus (show _ ∈ _; k_dflt k_mem)) | (intro p hp; repeat (first | exact hp | refine List.Mem.tail _ ?_)))))
  case K2_q => rintro i m nw ⟨oH, kvH, pv, np, cv, nc, rest, rfl, _⟩; exact .tail _ (.tail _ (.tail _ (.tail _ (.head _))))
  case step2_q =>
    clear F0 N0 hDH hRH
    rintro I i v m1 nw h1 tk1 io hv ⟨oH2, kvH2, pv, np, cv, nc, rest, rfl, hsub, hofr, hDH2, hRH2, hpv, hcv, hA⟩ hn F1 N1
    show let GX : Prop := _; GX
    intro GX
    obtain ⟨p, a, oa, hp, rfl, hma, ta, ua, rfl⟩ := hst.at hv
    k_unfold
    clear GX
    have hsl' := hsl _ (List.mem_of_getElem? hp)
    have hi : i ≤ 20 := by
      have := (List.getElem?_eq_some_iff.mp hp).1
      omega
    have hkl := walked_len fst (st.take i)
    have hpl := hpv.1
    have hcl := hcv.length
    rw [hkl.1, List.length_take] at hpl
    rw [hkl.2, List.length_take] at hcl
    rw [walked_succ hp]
    generalize walked fst (st.take i) = K at *
    obtain ⟨sl, fr⟩ := p
    show let GX : Prop := _; GX
    intro GX
    obtain ⟨u1, u2, u3, _, _, _, e3⟩ := hA.eta3
    k_unfold
    clear GX
    clear hA
    subst e3
    have nI1 : Ne' hd I := hn _ (.head _)
    have nI2 : Ne' pl I := hn _ (.tail _ (.head _))
    have nI3 : Ne' cl I := hn _ (.tail _ (.tail _ (.head _)))
    have hmr := hsub _ hma
    have na1 : Ne' a hd := hofr _ hmr _ (.head _)
    have na2 : Ne' a pl := hofr _ hmr _ (.tail _ (.head _))
    have na3 : Ne' a cl := hofr _ hmr _ (.tail _ (.tail _ (.head _)))
    replace N1 := news_one N1 (p := (a, stepO (sl, fr) ta ua)) (by repeat (first | exact hmr | refine List.Mem.tail _ ?_))
    obtain ⟨tF, eF⟩ := hR.at hsl'
    obtain ⟨tH, eH⟩ := hRH2.at hsl'
    have zH := hRH2.len
    have zp : pv.length ≤ 900 := by omega
    have zc : cv.length ≤ 900 := by omega
    k_sweep
    cases fr with
    | none =>
      unfold stepO optV at N1
      dsimp only at N1
      cases hc : (!decide (sl ∈ K.come)) with
      | true =>
        k_steps
        have hcost : (if sl ∈ K.come then (100 : Int) else 2100) = 2100 := by simpa using hc
        refine' LPost.mk ((hd, oH2) :: (pl, listOf (pv ++ [Value.ref ?Da_q]).toArray ?n1a_q) :: (cl, listOf (cv ++ [Value.int sl ?ta_q]).toArray ?n2a_q) :: (fd, oF) :: (sd, listOf sv.toArray n) :: (?Da_q, tupII ?ca_q ?u1a_q ?ra_q ?u2a_q) :: rest) ?Fa_q ?Na_q ?Ia_q ?Sa_q ?Oa_q ?Ja_q
        case Fa_q => k_asm
        case Na_q => k_asm
        case Sa_q => ((try unfold StA.led StA.lits); (try dsimp only [List.cons_append, List.nil_append]); repeat (first | (refine List.forall_mem_cons.mpr ⟨?_, ?_⟩; focus (show _ ∈ _; k_dflt k_mem)) | (intro p hp; repeat (first | exact hp | refine List.Mem.tail _ ?_))))
        case Ia_q => k_dflt k_mem
        case Oa_q => exact List.forall_mem_cons.mpr ⟨nI1, List.forall_mem_cons.mpr ⟨nI2, List.forall_mem_cons.mpr ⟨nI3, List.forall_mem_cons.mpr ⟨hn _ (.tail _ (.tail _ (.tail _ (.head _)))), List.forall_mem_cons.mpr ⟨hn _ (.tail _ (.tail _ (.tail _ (.tail _ (.head _))))), List.forall_mem_cons.mpr ⟨(by refine neN ?_; (try dsimp only); omega), fun p hp => hn p (.tail _ (.tail _ (.tail _ (.tail _ (.tail _ hp)))))⟩⟩⟩⟩⟩⟩
        case Ja_q =>
          refine ⟨oH2, kvH2, _, _, _, _, _, rfl, fun p hp => .tail _ (hsub p hp), off_cons (List.forall_mem_cons.mpr ⟨(by refine neN ?_; (try dsimp only); omega), List.forall_mem_cons.mpr ⟨(by refine neN ?_; (try dsimp only); omega), List.forall_mem_cons.mpr ⟨(by refine neN ?_; (try dsimp only); omega), List.forall_mem_nil _⟩⟩⟩) hofr, hDH2, hRH2, ?_, hcv.append (IntsAre.cons sl _ IntsAre.nil), by repeat (first | exact Agree.refl | refine Agree.set (by decide) ?_)⟩
          show ObjsIn pairR _ _ (K.pairs ++ [((if sl ∈ K.come then 100 else 2100), 0)])
          rw [hcost]
          exact (hpv.mono fun p hp => .tail _ hp).snoc (.head _) ⟨_, _, rfl⟩
      | false =>
        k_steps
        have hcost : (if sl ∈ K.come then (100 : Int) else 2100) = 100 := by simpa using hc
        refine' LPost.mk ((hd, oH2) :: (pl, listOf (pv ++ [Value.ref ?Db_q]).toArray ?n1b_q) :: (cl, listOf (cv ++ [Value.int sl ?tb_q]).toArray ?n2b_q) :: (fd, oF) :: (sd, listOf sv.toArray n) :: (?Db_q, tupII ?cb_q ?u1b_q ?rb_q ?u2b_q) :: rest) ?Fb_q ?Nb_q ?Ib_q ?Sb_q ?Ob_q ?Jb_q
        case Fb_q => k_asm
        case Nb_q => k_asm
        case Sb_q => ((try unfold StA.led StA.lits); (try dsimp only [List.cons_append, List.nil_append]); repeat (first | (refine List.forall_mem_cons.mpr ⟨?_, ?_⟩; focus (show _ ∈ _; k_dflt k_mem)) | (intro p hp; repeat (first | exact hp | refine List.Mem.tail _ ?_))))
        case Ib_q => k_dflt k_mem
        case Ob_q => exact List.forall_mem_cons.mpr ⟨nI1, List.forall_mem_cons.mpr ⟨nI2, List.forall_mem_cons.mpr ⟨nI3, List.forall_mem_cons.mpr ⟨hn _ (.tail _ (.tail _ (.tail _ (.head _)))), List.forall_mem_cons.mpr ⟨hn _ (.tail _ (.tail _ (.tail _ (.tail _ (.head _))))), List.forall_mem_cons.mpr ⟨(by refine neN ?_; (try dsimp only); omega), fun p hp => hn p (.tail _ (.tail _ (.tail _ (.tail _ (.tail _ hp)))))⟩⟩⟩⟩⟩⟩
        case Jb_q =>
          refine ⟨oH2, kvH2, _, _, _, _, _, rfl, fun p hp => .tail _ (hsub p hp), off_cons (List.forall_mem_cons.mpr ⟨(by refine neN ?_; (try dsimp only); omega), List.forall_mem_cons.mpr ⟨(by refine neN ?_; (try dsimp only); omega), List.forall_mem_cons.mpr ⟨(by refine neN ?_; (try dsimp only); omega), List.forall_mem_nil _⟩⟩⟩) hofr, hDH2, hRH2, ?_, hcv.append (IntsAre.cons sl _ IntsAre.nil), by repeat (first | exact Agree.refl | refine Agree.set (by decide) ?_)⟩
          show ObjsIn pairR _ _ (K.pairs ++ [((if sl ∈ K.come then 100 else 2100), 0)])
          rw [hcost]
          exact (hpv.mono fun p hp => .tail _ hp).snoc (.head _) ⟨_, _, rfl⟩
    | some f =>
      unfold stepO optV at N1
      dsimp only at N1
      k_steps
      refine stop_out ?_
      refine' Con.useT (c_due _ _ _ _ _ _ _) ?kB_q ?kF_q ?kX_q ?kN_q ?kT_q ?kh_q trivial ?kd_q ?ku_q ?kk_q
      case kB_q => k_asm
      case kF_q => k_asm
      case kX_q => k_asm
      case kT_q => k_asm
      case kN_q => k_asm
      case kh_q => exact rfl
      case kd_q => ktr_room
      case ku_q => ktr_units
      case kk_q =>
        intro q tq uq h5 tk5 F5 N5 hq
        have nq1 : Ne' hd q := hq (hd, oH2) (by k_dflt k_mem)
        have nq2 : Ne' pl q := hq (pl, listOf pv.toArray np) (by k_dflt k_mem)
        have nq3 : Ne' cl q := hq (cl, listOf (cv ++ [Value.int sl ta]).toArray (nc + 1)) (by k_dflt k_mem)
        have nqI : Ne' I q := hq (I, io) (by k_dflt k_mem)
        k_sweep
        k_steps
        rename Obj.IsDictOf _ _ (stored _ _ _) => hDn
        refine' LPost.mk ((hd, _) :: (pl, listOf (pv ++ [Value.ref q]).toArray ?n1c_q) :: (cl, listOf (cv ++ [Value.int sl ?tc_q]).toArray ?n2c_q) :: (fd, oF) :: (sd, listOf sv.toArray n) :: (q, tupII ?cc_q ?u1c_q ?rc_q ?u2c_q) :: rest) ?Fc_q ?Nc_q ?Ic_q ?Sc_q ?Oc_q ?Jc_q
        case Fc_q => k_asm
        case Nc_q => k_asm
        case Sc_q => ((try unfold StA.led StA.lits); (try dsimp only [List.cons_append, List.nil_append]); repeat (first | (refine List.forall_mem_cons.mpr ⟨?_, ?_⟩; focus (show _ ∈ _; k_dflt k_mem)) | (intro p hp; repeat (first | exact hp | refine List.Mem.tail _ ?_))))
        case Ic_q => k_dflt k_mem
        case Oc_q => exact List.forall_mem_cons.mpr ⟨nI1, List.forall_mem_cons.mpr ⟨nI2, List.forall_mem_cons.mpr ⟨nI3, List.forall_mem_cons.mpr ⟨hn _ (.tail _ (.tail _ (.tail _ (.head _)))), List.forall_mem_cons.mpr ⟨hn _ (.tail _ (.tail _ (.tail _ (.tail _ (.head _))))), List.forall_mem_cons.mpr ⟨nqI.s, fun p hp => hn p (.tail _ (.tail _ (.tail _ (.tail _ (.tail _ hp)))))⟩⟩⟩⟩⟩⟩
        case Jc_q =>
          refine ⟨_, _, _, _, _, _, _, rfl, fun p hp => .tail _ (hsub p hp), off_cons (List.forall_mem_cons.mpr ⟨nq1.s, List.forall_mem_cons.mpr ⟨nq2.s, List.forall_mem_cons.mpr ⟨nq3.s, List.forall_mem_nil _⟩⟩⟩) hofr, hDn, hRH2.put hne hsl', ?_, hcv.append (IntsAre.cons sl _ IntsAre.nil), by repeat (first | exact Agree.refl | refine Agree.set (by decide) ?_)⟩
          exact (hpv.mono fun p hp => .tail _ hp).snoc (.head _) ⟨_, _, rfl⟩
  case done2_q =>
    rintro h1 tk1 m1 nw F1 N1 ⟨oH2, kvH2, pv, np, cv, nc, rest, rfl, hsub, hofr, hDH2, hRH2, hpv, hcv, hA⟩
    show let GX : Prop := _; GX
    intro GX
    obtain ⟨u1, u2, u3, _, _, _, e3⟩ := hA.eta3
    k_unfold
    clear GX
    clear hA
    subst e3
    rw [hst.1, List.take_length] at hRH2 hpv hcv
    k_sweep
    k_steps
    rename_i Dq _ _ _ _ _ _ _ _
    refine' hret _ _ _ ?Fd_q ?Kd_q ⟨(_, _) :: (hd, oH2) :: (pl, listOf pv.toArray np) :: (cl, listOf cv.toArray nc) :: rest, ⟨_, hd, oH2, kvH2, pl, pv, np, cl, cv, nc, rfl, .head _, .tail _ (.head _), .tail _ (.tail _ (.head _)), .tail _ (.tail _ (.tail _ (.head _))), hDH2, loH, hRH2, hpv.mono (fun p hp => .tail _ (.tail _ (.tail _ (.tail _ hp)))), hcv⟩, sat_sub (by assumption) ?Sd_q, grows_of hg' (by assumption) ?Sd2_q, sat_sub (by assumption) ?Sd3_q⟩
    case Fd_q => k_asm
    case Kd_q => exact keeps_end hg' (by assumption)
    case Sd_q => ((try unfold StA.led StA.lits); (try dsimp only [List.cons_append, List.nil_append]); repeat (first | (refine List.forall_mem_cons.mpr ⟨?_, ?_⟩; focus (show _ ∈ _; k_dflt k_mem)) | (intro p hp; repeat (first | exact hp | refine List.Mem.tail _ ?_))))
    case Sd2_q => ((try unfold StA.led StA.lits); (try dsimp only [List.cons_append, List.nil_append]); repeat (first | (refine List.forall_mem_cons.mpr ⟨?_, ?_⟩; focus (show _ ∈ _; k_dflt k_mem)) | (intro p hp; repeat (first | exact hp | refine List.Mem.tail _ ?_))))
    case Sd3_q => exact List.forall_mem_cons.mpr ⟨by k_dflt k_mem, List.forall_mem_cons.mpr ⟨by k_dflt k_mem, fun p hp => by have := hsub p hp; repeat (first | exact this | refine List.Mem.tail _ ?_)⟩⟩

end Mine
end
section
open PySem PySem.W PyProof.Rows PySem.Calls PyProof.V PySem.Spec PySem.SeqAt
namespace Mine
/-- a note: how many steps stood, and the mark -/
noncomputable def noteR (p : Nat × Nat) (o : Obj) : Prop := ∃ t u, o = tupII p.1 t p.2 u
noncomputable def pairD (p : Int × Int) : PyData := .tuple [.int p.1, .int p.2]
theorem reads_pair {h : Heap} {a : Addr} {c r : Int} {t u : Tok} (e : h.get? a = some (tupII c t r u)) : Reads h (.ref a) (pairD (c, r)) [] :=
  Reads.tuple e rfl rfl (ReadsAll.cons (Reads.int c t) (ReadsAll.cons (Reads.int r u) .nil))
theorem reads_notes {h₀ h : Heap} {L : Addr} {news : List (Addr × Obj)} (N : News h₀ L h news) : ∀ {vs : List Value} {xs : List (Nat × Nat)}, ObjsIn noteR news vs xs → ReadsAll h vs (xs.map fun p => pairD (p.1, p.2)) []
  | [], [], _ => .nil
  | [], _ :: _, h => by have := h.1; simp at this
  | _ :: _, [], h => by have := h.1; simp at this
  | v :: vs, x :: xs, hx => by
    obtain ⟨a, o, e, m, t, u, rfl⟩ := hx.2 0 x rfl
    simp only [List.getElem?_cons_zero, Option.some.injEq] at e
    subst e
    have ih := reads_notes N (vs := vs) (xs := xs) ⟨by have := hx.1; simpa using this, fun i y hy => by simpa using hx.2 (i + 1) y (by simpa using hy)⟩
    have := ReadsAll.cons (reads_pair (N _ m).1) ih
    simpa using this
theorem canLayAll0_notes : ∀ ns : List (Nat × Nat), PyData.canLayAll0 (ns.map fun p => pairD (p.1, p.2)) = true
  | [] => by simp [PyData.canLayAll0]
  | n :: r => by have := canLayAll0_notes r; simpa [PyData.canLayAll0, PyData.canLay0, pairD] using this
theorem depthAll_notes : ∀ ns : List (Nat × Nat), PyData.depthAll (ns.map fun p => pairD (p.1, p.2)) ≤ 2
  | [] => by simp [PyData.depthAll]
  | n :: r => by
    have := depthAll_notes r
    simp only [pairD] at this
    simp only [List.map_cons, PyData.depthAll, PyData.depth, pairD] <;> omega
theorem shaped_notes (ns : List (Nat × Nat)) : shaped (.list (ns.map fun p => pairD (p.1, p.2))) = true := by
  have h1 := depthAll_notes ns
  have h2 : PyData.depth (.list (ns.map fun p => pairD (p.1, p.2))) ≤ 64 := by simp only [PyData.depth]; omega
  show (PyData.canLay0 (.list (ns.map fun p => pairD (p.1, p.2))) && decide (PyData.depth (.list (ns.map fun p => pairD (p.1, p.2))) ≤ 64)) = true
  rw [Bool.and_eq_true]
  exact ⟨by simp only [PyData.canLay0]; exact canLayAll0_notes ns, decide_eq_true h2⟩
theorem shaped_pair (p : Int × Int) : shaped (pairD p) = true := by
  show (PyData.canLay0 (pairD p) && decide (PyData.depth (pairD p) ≤ 64)) = true
  simp [pairD, PyData.canLay0, PyData.canLayAll0, PyData.depth, PyData.depthAll]
section
variable {prog : Program} {w : World} {A : Around} {E : Value → Shared → Prop} {s : Shared} {h₀ : Heap} {L l : Addr} {m : Str → Option Value} {news : List (Addr × Obj)}
theorem ne_nil_notes {l e : Addr} {vs : List Value} {ns : List (Nat × Nat)} {n k : Nat} {b : Bool} {Q : Value → Shared → Prop} (N : News h₀ L s.heap news) (hm : (l, listOf vs.toArray n) ∈ news) (hi : ObjsIn noteR news vs ns) (he : (e, listOf #[] k) ∈ news) (hu : A.units + 64 < cLine) (hb : (!decide (ns = [])) = b)
    (h : Q (.bool b) s) : wpAny (model prog w) A (compareOp .NotEq (.ref l) (.ref e)) Q E s := by
  obtain ⟨o, ho, hc, m, hd⟩ := News.isList N hm
  obtain ⟨o2, ho2, hc2, m2, hd2⟩ := News.isList N he
  have r1 : Reads s.heap (.ref l) (.list (ns.map fun p => pairD (p.1, p.2))) [l] := Reads.list ho hc hd (by simpa using reads_notes N hi)
  have r2 : Reads s.heap (.ref e) (.list (([] : List (Nat × Nat)).map fun p => pairD (p.1, p.2))) [e] := Reads.list ho2 hc2 hd2 (by simpa using ReadsAll.nil)
  refine ne_dataH_same r1 r2 (shaped_notes ns) (shaped_notes []) hu ?_ ?_
  · cases ns <;> simp [noMix, noMixAll]
  · have e : PySem.Spec.same (.list (ns.map fun p => pairD (p.1, p.2))) (.list (([] : List (Nat × Nat)).map fun p => pairD (p.1, p.2))) = decide (ns = []) := by cases ns <;> simp [PySem.Spec.same, PySem.Spec.sameAll]
    rw [e, hb]; exact h
theorem ne_pair {a b : Addr} {c r : Int} {t u t' u' : Tok} {Q : Value → Shared → Prop} (N : News h₀ L s.heap news) (ha : (a, tupII c t r u) ∈ news) (hb : (b, tupII c t' r u') ∈ news) (hu : A.units + 64 < cLine)
    (h : Q (.bool false) s) : wpAny (model prog w) A (compareOp .NotEq (.ref a) (.ref b)) Q E s := by
  refine ne_dataH_same (reads_pair (N _ ha).1) (reads_pair (N _ hb).1) (shaped_pair _) (shaped_pair _) hu ?_ ?_
  · simp [noMix, noMixAll, pairD]
  · have e : PySem.Spec.same (pairD (c, r)) (pairD (c, r)) = true := by simp [pairD, PySem.Spec.same, PySem.Spec.sameAll]
    rw [e]; exact h
theorem l_upto {value slice : Expr} {vs : List Value} {n : Nat} {y : Nat} {t : Tok} {Q : Value → Shared → Prop} (F : Fr h₀ L s.heap m) (N : News h₀ L s.heap news) (hm : (l, listOf vs.toArray n) ∈ news) (hz : vs.length ≤ 1000)
    (h : ∀ D h', Fr h₀ L h' m → News h₀ L h' ((D, listOf (vs.take y).toArray 0) :: news) → (∀ p ∈ news, p.1 < D) → Q (.ref D) { s with heap := h' })
    (hs : subscripted slice false (.ref l) (.ref s.heap.objs.size) = operate [.ref s.heap.objs.size, .ref l] (getItem (.ref l) (.ref s.heap.objs.size))) (ht : ∀ r, letTemporaryGo value (.ref l) r = pure ()) :
    wpAny (model prog w) A (subscriptTail value slice (.ref l) (.ref s.heap.objs.size)) Q E { s with heap := s.heap.push { cls := .type "slice", data := .fields #[.none, .int (y : Nat) t, .none] } } := by
  have e : (slicePick vs.toArray none (some ((y : Nat) : Int)) none).toList = vs.take y := by
    have e : sliceBounds none (some ((y : Nat) : Int)) none vs.toArray.size = (((0 : Nat) : Int), ((min y vs.toArray.size : Nat) : Int), 1) := by
      simp only [sliceBounds, Option.getD_none, show (1 : Int) > 0 by decide, if_true, if_neg (show ¬ (((y : Nat) : Int) < 0) by omega)]
      congr 1
      congr 1
      omega
    rw [kmk_pick_nat _ e]
    show (vs.drop 0).take (min y vs.toArray.size - 0) = _
    rw [List.drop_zero, Nat.sub_zero, List.size_toArray, kmk_take_min]
  exact kmk_slice_lit F N (News.isList N hm) IsPart.none (IsPart.int _ _) e h hs ht (by rw [List.size_toArray, sizeLine_eq]; omega)
end
section
variable {prog : Program} {w : World} {A : Around} {E : Value → Shared → Prop} {s : Shared} {env : Env} {h₀ : Heap} {x : Str} {body : List Stmt} {Q : Flow → Shared → Prop} {m₀ : Str → Option Value} {news : List (Addr × Obj)}
/-- a loop over a range -/
theorem lp_range {r : Addr} {a₀ b₀ : Int} {t₀ u₀ v₀ : Tok} {n : Nat} (hh : A.handled = none) (hr : IsRange s.heap r a₀ b₀ 1 t₀ u₀ v₀) (hsmall : Builtin.Range.small a₀ b₀ 1 = true) (hn : Builtin.Range.rangeSize a₀ b₀ 1 = (n : Int)) (F : Fr h₀ env.locals s.heap m₀) (N : News h₀ env.locals s.heap news)
    (J : (Str → Option Value) → Nat → (Str → Option Value) → List (Addr × Obj) → Prop) (h0 : J m₀ 0 m₀ news)
    (step : ∀ I i t m₁ news₁ h₁ tk₁ io, i < n → J m₀ i m₁ news₁ → (∀ p ∈ news₁, p.1 ≠ I) → Fr h₀ env.locals h₁ (fun y => if y = x then some (.int (a₀ + (i : Int)) t) else m₁ y) → News h₀ env.locals h₁ ((I, io) :: news₁) →
      wpAny (model prog w) A (execs body env) (LPost h₀ env.locals { s with heap := h₁, toks := tk₁ } I io (J m₀ (i + 1)) Q) E { s with heap := h₁, toks := tk₁ })
    (done : ∀ h' tk m' news', Fr h₀ env.locals h' m' → News h₀ env.locals h' news' → J m₀ n m' news' → Q .next { s with heap := h', toks := tk }) :
    wpAny (model prog w) A (pyIter (.ref r)) (fun it s₂ => LoopAtV prog w A h₀ env x body Q E it s₂) E s := by
  refine wpAny_pyIter_range hr hsmall ?_
  have hnew := next_is_new F
  refine ⟨_, _, _, n, _, _, m₀, news, J m₀, rfl, LCg.range_walks hh a₀ n, fun hm => absurd F.ns.lt ((List.mem_singleton.mp hm) ▸ Nat.lt_irrefl _), fun b hb => by rw [List.mem_singleton.mp hb]; exact hnew,
    fun p hp hI => absurd (Heap.lt_size (N p hp).1) ((List.mem_singleton.mp hI) ▸ Nat.lt_irrefl _), (by show IsRangeIter _ _ _ _ _; rw [hn]; simpa using Heap.get?_push_size _ rfl), F.push _, (fun p hp => ⟨Heap.get?_push_of_some _ (N p hp).1, (N p hp).2⟩), h0, ?_, fun h' tk m' news' F' N' _ j => done h' tk m' news' F' N' j⟩
  rintro i v m₁ news₁ s₁ own ⟨h₁, tk₁, rfl⟩ hin ⟨t, rfl⟩ hJ hoff hown hget hall hst F₁ N₁
  obtain ⟨io, hio⟩ : ∃ io, h₁.get? s.heap.objs.size = some io := ⟨_, hst⟩
  have hmem := hall s.heap.objs.size (List.mem_singleton.mpr rfl) hnew io hio
  have N₂ : News h₀ env.locals h₁ ((s.heap.objs.size, io) :: news₁) := fun p hp => by
    rcases List.mem_cons.mp hp with rfl | hp
    · exact N₁ _ (List.mem_append_left _ hmem)
    · exact N₁ _ (List.mem_append_right _ hp)
  refine wpAny_mono (step _ i t m₁ news₁ h₁ tk₁ io hin hJ (fun p hp e => hoff p hp (List.mem_singleton.mpr e)) F₁ N₂) (fun f s₂ h₂ => ?_) fun _ _ e => e
  have fin : (∃ h' tk m' news', s₂ = { s with heap := h', toks := tk } ∧ Fr h₀ env.locals h' m' ∧ News h₀ env.locals h' ((s.heap.objs.size, io) :: news') ∧ (∀ p ∈ news', p.1 ≠ s.heap.objs.size) ∧ J m₀ (i + 1) m' news') →
      LoopStepU h₀ env.locals [s.heap.objs.size] own (J m₀ (i + 1)) { s with heap := h₁, toks := tk₁ } .next s₂ := by
    rintro ⟨h', tk, m', news', e, F', N', off, j⟩
    refine ⟨rfl, h', tk, m', news', e, F', fun p hp => ?_, fun p hp hI => off p hp (List.mem_singleton.mp hI), j⟩
    rcases List.mem_append.mp hp with hp | hp
    · have e1 : p.1 = s.heap.objs.size := List.mem_singleton.mp (hown p hp)
      have e2 := hget p hp
      rw [e1] at e2
      rw [show p = (s.heap.objs.size, io) from Prod.ext e1 (Option.some.inj (e2.symm.trans hio))]
      exact N' _ (.head _)
    · exact N' _ (.tail _ hp)
  cases f with
  | ret v => exact h₂
  | brk => exact h₂
  | next => exact fin h₂
  | cont => exact fin h₂
end
/-- a map of names, told for these names anew -/
noncomputable def ovr (m m0 : Str → Option Value) : List Str → Str → Option Value
  | [], y => m0 y
  | a :: r, y => if y = a then m a else ovr m m0 r y
theorem Agree.eta {ws : List Str} {m m0 : Str → Option Value} (h : Agree ws m m0) : m = ovr m m0 ws := by
  funext y
  have key : ∀ l : List Str, (∀ x, x ∉ l → x = y → m x = m0 x) → m y = ovr m m0 l y := fun l => by
    induction l with
    | nil => exact fun k => k y (by simp) rfl
    | cons a r ih =>
      intro k
      unfold ovr
      split
      · rename_i e; rw [e]
      · rename_i ne
        refine ih fun x hx e => k x ?_ e
        intro hm
        rcases List.mem_cons.mp hm with q | q
        · exact ne (e.symm.trans q)
        · exact hx q
  exact key ws fun x hx _ => h x hx
theorem ObjsIn.take {α : Type} {R : α → Obj → Prop} {led : List (Addr × Obj)} {vs : List Value} {xs : List α} (h : ObjsIn R led vs xs) (n : Nat) : ObjsIn R led (vs.take n) (xs.take n) := by
  refine ⟨by rw [List.length_take, List.length_take, h.1], fun i x hx => ?_⟩
  rw [List.getElem?_take] at hx ⊢
  split at hx
  · rename_i hi
    rw [if_pos hi]; exact h.2 i x hx
  · cases hx
theorem ObjsIn.last {α : Type} {R : α → Obj → Prop} {led : List (Addr × Obj)} {vs : List Value} {xs : List α} {x : α} (h : ObjsIn R led vs (xs ++ [x])) : ∃ a o us, vs = us ++ [.ref a] ∧ (a, o) ∈ led ∧ R x o ∧ ObjsIn R led us xs := by
  obtain ⟨a, o, e, m, r⟩ := h.2 xs.length x (by simp)
  have hl : vs.length = xs.length + 1 := by have := h.1; simpa using this
  have hd : vs = vs.take xs.length ++ [.ref a] := by
    have h1 : vs.take (xs.length + 1) = vs := List.take_of_length_le (by omega)
    rw [List.take_add_one, e] at h1
    exact h1.symm
  refine ⟨a, o, vs.take xs.length, hd, m, r, ?_⟩
  have := h.take xs.length
  rwa [List.take_left'] at this
  rfl
end Mine
end
section
open PySem PySem.W PyProof.Rows PySem.Calls
namespace Mine
theorem fresh_M23 : True := by
  w_top off
  trivial
theorem lines_M23_0 : True := by
  k_with_none
  (k_with "g_ktr_room" => (first | exact Nat.le_of_ble_eq_true rfl | exact roomF 0 (by assumption) rfl rfl | exact roomF 1 (by assumption) rfl rfl | exact roomF 2 (by assumption) rfl rfl | exact roomF 3 (by assumption) rfl rfl | exact roomF 4 (by assumption) rfl rfl))
  (k_with "g_ktr_units" => (first | exact Nat.le_of_ble_eq_true rfl | exact unitF 3 (by assumption) rfl rfl | exact unitG 3 (by assumption) rfl rfl | exact unitG 6 (by assumption) rfl rfl | exact unitF 6 (by assumption) rfl rfl | exact unitF 7 (by assumption) rfl rfl | exact unitF 4 (by assumption) rfl rfl | exact unitF 5 (by assumption) rfl rfl | exact unitF 8 (by assumption) rfl rfl | exact unitF 9 (by assumption) rfl rfl | exact unitF 10 (by assumption) rfl rfl | exact unitF 11 (by assumption) rfl rfl | exact unitF 12 (by assumption) rfl rfl | exact unitF 13 (by assumption) rfl rfl | exact unitF 14 (by assumption) rfl rfl | exact unitF 15 (by assumption) rfl rfl | exact unitF 0 (by assumption) rfl rfl | exact unitF 1 (by assumption) rfl rfl | exact unitF 2 (by assumption) rfl rfl))
  (k_with "g_k_ne" => ((refine neN ?_; (try dsimp only); first | exact Ne'.o (by with_reducible assumption) | exact Ne'.s (by with_reducible assumption) | k_extra "ne")))
  (k_with "g_k_all" => (first | exact OwnOff.ne (by with_reducible assumption) (by k_mem) | exact allLt_ne (by assumption)))
  (k_with "g_size_fits" => ((simp only [List.size_toArray, List.length_map, List.length_append, List.length_cons, List.length_nil, Array.size_push]; (first | done | (rw [sizeLine_eq]; omega)))))
  (k_with "g_ent" => (apply code_defF; (case hA => exact rfl); (case hf => exact rfl); (case hke => exact rfl); (case B => k_asm); (case F => k_asm); (case X₀ => k_asm); (case N => k_asm); (case T => k_asm); (case ho => k_is); (case hcd => k_is); (case hroom => k_room); (case hbind => first | exact BindsTo.of_eq rfl | exact binds_K (by k_in) rfl (by k_is) rfl rfl rfl | fail "no rule for these arguments"); (case hcell => decide); (case hloc => exact locs rfl); (case hco => exact rfl); (case hgen => exact rfl); (case hk => exact rfl); k_whole; intro _ _ _ evX AX mmX _ _ _ _ _ _; (try dsimp only); (try k_fold)))
  (k_with "call ref" => (k_here; k_dflt (first
    | (apply call_cls0; (case F => k_asm); (case X₀ => k_asm); (case N => k_asm); (case hm => k_is); (case hi => k_is); k_whole; intro x' d' h' F' N' l1 l2; (try k_lt l1); (try k_lt2 l2); (try k_sweep); (revert x' d' h' F' N' l1 l2; intros))
    | (apply call_cls; (case F => k_asm); (case X₀ => k_asm); (case N => k_asm); (case hm => k_is); (case hi => k_is); (case hf => k_is); k_whole; intro x' d' h' F' N' l1 l2; (try k_lt l1); (try k_lt2 l2); (try k_sweep); (revert x' d' h' F' N' l1 l2; intros); k_extra "g_ent")
    | (apply call_meth; (case N => k_asm); (case hq => k_mem); k_whole; k_extra "g_ent")
    | (refine wpAny_call ?_; k_extra "g_ent"))))
  (k_with "call ref" => (k_here; (with_reducible show wpAny _ _ (call (Value.ref 154) [_, _, _, _] _) _ _ _); k_dflt (apply row_call; (case B => k_asm); (case F => k_asm); (case X => k_asm); (case N => k_asm); (case T => k_asm); (case hk => exact rfl); (case hd => ktr_room); k_whole); intro x' d' h' tk' k0' k1' k2' k3' F' N' l1 l2; (try k_lt l1); (try k_lt2 l2); (try k_sweep); (revert x' d' h' tk' k0' k1' k2' k3' F' N' l1 l2; intros)))
  (k_with "storeName" => (k_here; k_dflt (apply stXF; (case F => k_asm); (case N => k_asm); (case hk => rfl); (case hx => rfl); k_whole); intro mmX; intro _ _ _; (try k_sweep)))
  (k_with "execs cons" => (k_here; (try dsimp only); (refine execsF ?_); intro qkX))
  (k_with "execs cons" => (k_here; (try dsimp only); (with_reducible show wpAny _ _ _ _ _ (Shared.mk _ _ _ (_ + _) _)); (refine toksF ?_); intro tkX; (refine execsF ?_); intro qkX))
  (k_with "lt" => (first | with_reducible assumption | (apply And.left; first | with_reducible assumption | (apply And.right; first | with_reducible assumption | (apply And.right; first | with_reducible assumption | (apply And.right; first | with_reducible assumption | (apply And.right; first | with_reducible assumption | (apply And.right; first | with_reducible assumption | (apply And.right; first | with_reducible assumption | (apply And.right; first | with_reducible assumption | (apply And.right; first | with_reducible assumption | (apply And.right; first | with_reducible assumption | (apply And.right; first | with_reducible assumption | (apply And.right; first | with_reducible assumption | (apply And.right; first | with_reducible assumption | (apply And.right; first | with_reducible assumption | (apply And.right; first | with_reducible assumption | (apply And.right; with_reducible assumption))))))))))))))))))
  (k_with "ne" => (first | (refine Nat.ne_of_gt ?_; k_extra "lt") | (refine Nat.ne_of_lt ?_; k_extra "lt") | (refine Nat.ne_of_gt ?_; apply Nat.lt_trans; rotate_left; (with_reducible assumption); k_extra "lt") | (refine Nat.ne_of_lt ?_; apply Nat.lt_trans; rotate_left; (with_reducible assumption); k_extra "lt")))
  (k_with "subscriptTail" => (k_here; (with_reducible show wpAny _ _ (subscriptTail _ _ (Value.ref _) (Value.str _ _)) _ _ _); k_dflt (apply d_item (knd := strKind _ _) (hkey := (str_key _ _)); (case N => k_asm); (case hm => k_mem); (case hD => assumption); (case hv => first | assumption | exact rfl); (case hs => with_unfolding_all rfl); k_whole)))
  (k_with "subscriptTail" => (k_here; (with_reducible show wpAny _ _ (subscriptTail _ _ (Value.ref _) (Value.int _ _)) _ _ _); k_dflt (apply d_item (knd := intKind _ _) (hkey := (int_key _ _)); (case N => k_asm); (case hm => k_mem); (case hD => assumption); (case hv => first | assumption | exact rfl); (case hs => with_unfolding_all rfl); k_whole)))
  (k_with "compareOp In" => (k_here; (with_reducible show wpAny _ _ (compareOp CmpOp.In (Value.int _ _) (Value.ref _)) _ _ _); k_dflt (apply d_inB (knd := intKind _ _) (hkey := (int_key _ _)); (case N => k_asm); (case hm => k_mem); (case hD => assumption); (case lo => assumption); (case hb => first | assumption | exact rfl); k_whole)))
  (k_with "compareOp NotIn" => (k_here; (with_reducible show wpAny _ _ (compareOp CmpOp.NotIn (Value.int _ _) (Value.ref _)) _ _ _); k_dflt (apply d_notIn (knd := intKind _ _) (hkey := (int_key _ _)); (case N => k_asm); (case hm => k_mem); (case hD => assumption); (case lo => assumption); (case hb => first | assumption | exact rfl); k_whole)))
  (k_with "call builtin:dict.get" => (k_here; (with_reducible show wpAny _ _ (call (Value.builtin _) [Value.ref _, Value.int _ _, _]) _ _ _); k_dflt (apply d_get2B (knd := intKind _ _) (hkey := (int_key _ _)); (case N => k_asm); (case hm => k_mem); (case hD => assumption); (case lo => assumption); (case hv => first | assumption | exact rfl); k_whole)))
  (k_with "setItem" => (k_here; (with_reducible show wpAny _ _ (setItem (Value.ref _) (Value.str _ _) _) _ _ _); k_dflt (apply d_set (knd := strKind _ _) (hkey := (str_key _ _)); (case F => k_asm); (case N => k_asm); (case U => k_updF); (case hD => assumption); (case hz => first | assumption | decide | (simp; done)); k_whole); intro h' o' F' N' D'; (try dsimp only at N'); (try simp (decide := true) [stored] at D'); (try k_sweep); (revert h' o' F' N' D'; intros)))
  (k_with "setItem" => (k_here; (with_reducible show wpAny _ _ (setItem (Value.ref _) (Value.int _ _) _) _ _ _); k_dflt (apply d_set (knd := intKind _ _) (hkey := (int_key _ _)); (case F => k_asm); (case N => k_asm); (case U => k_updF); (case hD => assumption); (case hz => first | assumption | decide | (simp; done)); k_whole); intro h' o' F' N' D'; (try dsimp only at N'); (try k_sweep); (revert h' o' F' N' D'; intros)))
  (k_with "delItem" => (k_here; (with_reducible show wpAny _ _ (delItem (Value.ref _) (Value.int _ _)) _ _ _); k_dflt (apply d_del (knd := intKind _ _) (hkey := (int_key _ _)); (case F => k_asm); (case N => k_asm); (case U => k_updF); (case hD => assumption); (case hl => assumption); (case hz => first | assumption | decide | (simp; done)); k_whole); intro h' o' F' N' D'; (try dsimp only at N'); (try k_sweep); (revert h' o' F' N' D'; intros)))
  (k_with "getMethod ref" => (k_here; (with_reducible show wpAny _ _ (getMethod (Value.ref _) (PySem.Str.ofString "get") _) _ _ _); k_dflt (apply t_getMethod; (case N => k_asm); (case hm => k_mem); (case hD => assumption); k_whole)))
  (k_with "call builtin:len" => (k_here; (with_reducible show wpAny _ _ (call (Value.builtin "len") [Value.ref _]) _ _ _); k_dflt (apply l_len; (case N => k_asm); (case hm => k_mem); (case hz => (simp only [List.size_toArray, List.length_map]; omega)); k_whole)))
  (k_with "compareOp In" => (k_here; (with_reducible show wpAny _ _ (compareOp CmpOp.In (Value.ref _) (Value.ref _)) _ _ _); k_dflt (apply t_in; (case N => k_asm); (case hm => k_mem); (case hD => assumption); (case hK => exact KeysIn.mono (by assumption) (by intro p hp; repeat (first | exact hp | refine List.Mem.tail _ ?_))); (case hq => k_mem); (case ht => exact tupO2); (case hu => ktr_units); (case lo => assumption); (case hb => assumption); k_whole)))
  (k_with "compareOp NotIn" => (k_here; (with_reducible show wpAny _ _ (compareOp CmpOp.NotIn (Value.ref _) (Value.ref _)) _ _ _); k_dflt (apply t_notIn; (case N => k_asm); (case hm => k_mem); (case hD => assumption); (case hK => exact KeysIn.mono (by assumption) (by intro p hp; repeat (first | exact hp | refine List.Mem.tail _ ?_))); (case hq => k_mem); (case ht => exact tupO2); (case hu => ktr_units); (case lo => assumption); (case hb => assumption); k_whole)))
  (k_with "call builtin:dict.get" => (k_here; (with_reducible show wpAny _ _ (call (Value.builtin _) [Value.ref _, Value.ref _, _]) _ _ _); k_dflt (apply t_get2; (case N => k_asm); (case hm => k_mem); (case hD => assumption); (case hK => exact KeysIn.mono (by assumption) (by intro p hp; repeat (first | exact hp | refine List.Mem.tail _ ?_))); (case hq => k_mem); (case ht => exact tupO2); (case hu => ktr_units); (case lo => assumption); (case hv => first | assumption | exact rfl); k_whole)))
  (k_with "setItem" => (k_here; (with_reducible show wpAny _ _ (setItem (Value.ref _) (Value.ref _) _) _ _ _); k_dflt (apply t_set; (case F => k_asm); (case N => k_asm); (case U => k_updF); (case hD => assumption); (case hK => exact KeysIn.mono (by assumption) (by intro p hp; repeat (first | exact hp | refine List.Mem.tail _ ?_))); (case hq => k_mem); (case ht => exact tupO2); (case hu => ktr_units); (case hz => assumption); k_whole); intro h' o' F' N' D'; (try dsimp only at N'); (try k_sweep); (revert h' o' F' N' D'; intros)))
  (k_with "delItem" => (k_here; (with_reducible show wpAny _ _ (delItem (Value.ref _) (Value.ref _)) _ _ _); k_dflt (apply t_del; (case F => k_asm); (case N => k_asm); (case U => k_updF); (case hD => assumption); (case hK => exact KeysIn.mono (by assumption) (by intro p hp; repeat (first | exact hp | refine List.Mem.tail _ ?_))); (case hq => k_mem); (case ht => exact tupO2); (case hu => ktr_units); (case hl => assumption); (case hz => assumption); k_whole); intro h' o' F' N' D'; (try dsimp only at N'); (try k_sweep); (revert h' o' F' N' D'; intros)))
  (k_with "eval Dict" => (k_here; k_dflt (refine' kdn_str ?q ?F ?N ?b ?a ?l ?e ?n ?_; (case q => rfl); (case F => k_asm); (case N => first | k_asm | exact News.nil); (case b => exact Top.nolimit (by k_asm)); (case a => rfl); (case l => rfl); (case e => exact List.cons_ne_nil _ _); (case n => exact Nat.le_of_ble_eq_true rfl)); intro d' h' o' F' N' l1 lo' hd'; (try k_lt l1); (revert d' h' o' F' N' l1 lo' hd'; intros)))
  (k_with "compareOp NotIn" => (k_here; (with_reducible show wpAny _ _ (compareOp CmpOp.NotIn (Value.int _ _) (Value.ref _)) _ _ _); k_dflt (apply li_notIn; (case N => k_asm); (case hm => k_mem); (case hi => assumption); (case hb => first | assumption | exact rfl); k_whole)))
  (k_with "compareOp In" => (k_here; (with_reducible show wpAny _ _ (compareOp CmpOp.In (Value.int _ _) (Value.ref _)) _ _ _); k_dflt (apply li_in; (case N => k_asm); (case hm => k_mem); (case hi => assumption); (case hb => first | assumption | exact rfl); k_whole)))
  (k_with "call builtin:list.append" => (k_here; (with_reducible show wpAny _ _ (call (Value.builtin _) [Value.ref _, _]) _ _ _); k_dflt (apply l_append; (case F => k_asm); (case N => k_asm); (case U => k_updF); (case hz => first | assumption | omega); k_whole); intro h' F' N'; (try dsimp only at N'); (revert h' F' N'; intros)))
  (k_with "call type:dict" => (k_here; (with_reducible show wpAny _ _ (call (Value.type "dict") [Value.ref _]) _ _ _); k_dflt (apply dict_copy2; (case F => k_asm); (case N => k_asm); (case hbig => exact Top.nolimit (by k_asm)); (case hm => k_mem); (case hD => assumption); (case hR => assumption); (case lo => assumption); k_whole); intro d' h' o' kvs' F' N' l1 lo' hd' hr'; (try k_lt l1); (revert d' h' o' kvs' F' N' l1 lo' hd' hr'; intros)))
  (k_with "compareOp NotIn int ref" => (k_here; (with_reducible show wpAny _ _ (compareOp CmpOp.NotIn (Value.int _ _) (Value.ref _)) _ _ _); k_dflt (apply li_notIn; (case N => k_asm); (case hm => k_mem); (case hi => assumption); (case hb => first | assumption | exact rfl); k_whole)))
  (k_with "compareOp In int ref" => (k_here; (with_reducible show wpAny _ _ (compareOp CmpOp.In (Value.int _ _) (Value.ref _)) _ _ _); k_dflt (apply li_in; (case N => k_asm); (case hm => k_mem); (case hi => assumption); (case hb => first | assumption | exact rfl); k_whole)))
  (k_with "eval Call" => (k_here; (with_reducible show wpAny _ _ (eval (Expr.Call (Expr.Name _ _) _ [] _) _) _ _ _); k_dflt (refine Call_ ?_)))
  (k_with "eval Name" => (k_here; (with_reducible show wpAny _ _ (eval (Expr.Name _ _) (compEnvC _ _ _ _)) _ _ _); k_dflt (first
  | (apply ldVarK; (case hd => decide); (case hk => rfl); (case hl => rfl); (case F => assumption); (case hv => assumption); k_whole)
  | (apply lcf_free; (case hb => decide); (case hn => decide); (case hk => rfl); (case hx => rfl); (case N => k_asm); (case hc => rfl); (case hm => k_mem); (case hd => k_asm); k_whole))))
  (k_with "call ref" => (k_here; (with_reducible show wpAny _ _ (call (Value.ref 431) _ _) _ _ _); (with_reducible refine stop_mk ?_)))
  (k_with "call ref" => (k_here; (with_reducible show wpAny _ _ (call (Value.ref 298) _ _) _ _ _); (with_reducible refine stop_mk ?_)))
  (k_with "call ref" => (k_here; (with_reducible show wpAny _ _ (call (Value.ref 312) _ _) _ _ _); (with_reducible refine stop_mk ?_)))
  (k_with "call ref" => (k_here; (with_reducible show wpAny _ _ (call (Value.ref 333) _ _) _ _ _); (with_reducible refine stop_mk ?_)))
  (k_with "exec For Name Name cons nil" => (k_here; (with_reducible refine stop_mk ?_)))
  (k_with "pyIter ref" => (k_here; (with_reducible refine stop_mk ?_)))
  (k_with "eval ListComp" => (k_here; (with_reducible refine stop_mk ?_)))
  (k_with "call builtin:sum" => (k_here; (with_reducible refine stop_mk ?_)))
  trivial
theorem c_alike {w : World} {mean : ExcName → Option Value} {mg mb : Str → Option Value} {home s1 s2 : Int} {fst : Int → Int} {P : StA} (hP : StAOK w home P) {C : StC} {S : SS} {J : List JR} {W : Int → Bool} (hS : StCOK w home s1 s2 fst P C S J W) {fd sd : Addr} {oF : Obj} {kvF : List (Int × Value)} {sv : List Value} {n : Nat} {trest : List (Addr × Obj)} {st : List Stp} (hF : oF.IsDictOf (intKind PP w) kvF) (hR : HeldRep s1 s2 kvF fst) (lo : (fd == sysModules) = false) (hst : ObjsIn stepR trest sv st) (hsl : ∀ p ∈ st, p.1 = s1 ∨ p.1 = s2) (hlen : st.length ≤ 20) (hne : s1 ≠ s2) (hfs : Ne' fd sd) (hoff : OwnOff trest [fd, sd]) (hO : OffL (P.led w C S.rfd) ((fd, oF) :: (sd, listOf sv.toArray n) :: trest)) (hm : Mt fst st S) (hU : Unset W st) (t1 : Tok) :
    Con w mean mg mb 448 [.ref P.st, .int home t1, .ref fd, .ref sd] 6 (P.led w C S.rfd ++ ((fd, oF) :: (sd, listOf sv.toArray n) :: trest)) (fun _ => True) (fun h v h' => v = .bool true ∧ Sat h' (P.led w C S.rfd ++ ((fd, oF) :: (sd, listOf sv.toArray n) :: trest))) := by
  unfold Con
  k_fill
  intro dp un gd cn cs a ccd cells outer A₀ base h₀ L m s Q E B F X N T hk hpre hd hu hret
  refine wpAny_call ?_
  k_dflt (refine' enterHF ?k1_q ?k2_q ?k3_q ?k4_q ?k5_q ?kA_q ?kF_q ?kK_q ?k6_q ?k7_q ?k8_q ?k9_q ?kB_q ?_ ?c2_q ?c3_q ?c4_q ?c5_q; (case kA_q => exact rfl); (case kF_q => exact rfl); (case kK_q => assumption); (case k1_q => k_asm); (case k2_q => k_asm); (case k3_q => k_asm); (case k4_q => k_asm); (case k5_q => k_asm); (case k6_q => k_is); (case k7_q => k_is); (case k8_q => ktr_room); (case k9_q => exact BindsTo.of_eq rfl); (case c5_q => decide); (case kB_q => exact locs rfl); (case c2_q => exact rfl); (case c3_q => exact rfl); (case c4_q => exact rfl); k_whole; intro g' L' h' evX AX mmX gSX dSX oSX FG' F' N' B' X' T' hg' hL'; (try dsimp only); (try k_fold))
  have NN : News g' L' h' ((P.st, instObj 399 P.dst) :: (P.dst, sObj w P.kS P.acc P.jl P.tch P.des P.wo P.ws P.org P.lg S.rfd C.tr) :: (fd, oF) :: (sd, listOf sv.toArray n) :: (trest ++ P.led w C S.rfd)) := News.perm N' (List.forall_mem_cons.mpr ⟨List.mem_append_left _ StA.led_st, List.forall_mem_cons.mpr ⟨List.mem_append_left _ StA.led_dst, List.forall_mem_cons.mpr ⟨List.mem_append_right _ (.head _), List.forall_mem_cons.mpr ⟨List.mem_append_right _ (.tail _ (.head _)), List.forall_mem_append.mpr ⟨fun p hp => List.mem_append_right _ (.tail _ (.tail _ hp)), fun p hp => List.mem_append_left _ hp⟩⟩⟩⟩⟩)
  clear N'
  have hrn := refund_nonneg (fst := fst) hne st hsl
  have hlk := walked_len fst st
  k_steps
  refine stop_out ?_
  refine' Con.useG (c_walked hF hR lo hst hsl hlen hne hfs hoff) (P.led w C S.rfd) ?kB_q ?kF_q ?kX_q (News.perm ?kN_q ?ks_q) hO ?kT_q ?kh_q trivial ?kd_q ?ku_q ?kk_q
  case kB_q => k_asm
  case kF_q => k_asm
  case kX_q => k_asm
  case kT_q => k_asm
  case kN_q => k_asm
  case ks_q => ((try dsimp only [List.cons_append, List.nil_append]); repeat (first | (with_reducible refine List.forall_mem_cons.mpr ⟨?_, ?_⟩; focus (show _ ∈ _; k_dflt k_mem)) | (with_reducible refine List.forall_mem_append.mpr ⟨?_, ?_⟩) | (intro p hp; repeat (first | exact hp | with_reducible exact List.mem_append_left _ hp | with_reducible refine List.mem_append_right _ ?_ | with_reducible refine List.mem_cons_of_mem _ ?_))))
  case kh_q => exact rfl
  case kd_q => ktr_room
  case ku_q => ktr_units
  case kk_q =>
  rintro v5 h5 tk5 ⟨led5, ⟨q, hd, oH, kvH, pl, pv, np, cl, cv, nc, rfl, mq, mh, mp, mc, hDH, loH, hRH, hpv, hcv⟩, hsat5, hgr5, hsatF⟩ F5 N5 k5
  obtain ⟨n5, o5⟩ := k5 _ hsat5 hgr5
  obtain ⟨nF, -⟩ := k5 _ hsatF (fun p hp => .inl (List.mem_map_of_mem hp))
  have hoth : OffL ((q, ({ cls := .type "tuple", data := .seq #[.ref hd, .ref pl, .ref cl] } : Obj)) :: (hd, oH) :: (pl, listOf pv.toArray np) :: (cl, listOf cv.toArray nc) :: (fd, oF) :: (sd, listOf sv.toArray n) :: (led5 ++ trest)) (P.led w C S.rfd) :=
    OffL.cons (o5.symm.mem mq) (OffL.cons (o5.symm.mem mh) (OffL.cons (o5.symm.mem mp) (OffL.cons (o5.symm.mem mc) (OffL.cons (hO.symm.mem (.head _)) (OffL.cons (hO.symm.mem (.tail _ (.head _))) (OffL.app o5.symm (hO.symm.sub fun p hp => .tail _ (.tail _ hp))))))))
  have N6 : News g' L' h5 ((P.st, instObj 399 P.dst) :: (P.dst, sObj w P.kS P.acc P.jl P.tch P.des P.wo P.ws P.org P.lg S.rfd C.tr) :: ((q, ({ cls := .type "tuple", data := .seq #[.ref hd, .ref pl, .ref cl] } : Obj)) :: (hd, oH) :: (pl, listOf pv.toArray np) :: (cl, listOf cv.toArray nc) :: (fd, oF) :: (sd, listOf sv.toArray n) :: (led5 ++ (trest ++ P.led w C S.rfd)))) := News.perm (n5.append (nF.append N5)) (List.forall_mem_cons.mpr ⟨List.mem_append_right _ (List.mem_append_right _ StA.led_st), List.forall_mem_cons.mpr ⟨List.mem_append_right _ (List.mem_append_right _ StA.led_dst), List.forall_mem_cons.mpr ⟨List.mem_append_left _ mq, List.forall_mem_cons.mpr ⟨List.mem_append_left _ mh, List.forall_mem_cons.mpr ⟨List.mem_append_left _ mp, List.forall_mem_cons.mpr ⟨List.mem_append_left _ mc, List.forall_mem_cons.mpr ⟨List.mem_append_right _ (List.mem_append_left _ (.head _)), List.forall_mem_cons.mpr ⟨List.mem_append_right _ (List.mem_append_left _ (.tail _ (.head _))), List.forall_mem_append.mpr ⟨fun p hp => List.mem_append_left _ hp, List.forall_mem_append.mpr ⟨fun p hp => List.mem_append_right _ (List.mem_append_left _ (.tail _ (.tail _ hp))), fun p hp => List.mem_append_right _ (List.mem_append_right _ hp)⟩⟩⟩⟩⟩⟩⟩⟩⟩⟩)
  clear N5 n5 nF k5 NN
  k_sweep
  k_steps
  refine stop_out ?_
  rename_i F6 N6
  k_dflt (refine LCp.ListComp_P (F₀ := F6) (by with_unfolding_all rfl) (by decide) (by rfl) (by decide) (by rfl) (by rfl) (by decide) ?_)
  k_dflt (refine' nameX_L ?Fr_q ?vr_q ?gr_q ?ar_q ?br_q; (case Fr_q => exact F6); (case ar_q => rfl); (case br_q => rfl); (case vr_q => rfl); k_whole)
  refine LCp.SrcLP.ledger (by rfl) F6 N6 (by k_dflt k_mem) (by rw [List.size_toArray, hpv.1, hlk.1, sizeLine_eq]; omega) ?_
  intro g4
  refine restP_run (xs := (walked fst st).pairs) (R := fun p v => ∃ t, v = .int p.2 t) (G := fun zs ys => IntsAre ys (zs.map (·.2))) (.inr ⟨_, by k_dflt k_mem, rfl, _, rfl⟩) hpv.1 .nil (by
    rintro zs ys x y hG ⟨t, rfl⟩
    rw [List.map_append]
    exact hG.append (.cons _ _ .nil)) ?_ ?_
  · intro i a ha
    show let GX : Prop := _; GX
    intro GX
    obtain ⟨ad, o, hv, hma, t, u, rfl⟩ := hpv.2 i a ha
    k_unfold
    clear GX
    refine ⟨ad, _, .int a.1 t, .int a.2 u, 0, hv, by repeat (first | exact List.mem_append_left _ hma | refine List.mem_cons_of_mem _ ?_), rfl, rfl, ?_⟩
    intro C h tk m₂ E' hns hx1 hx2 F9 N9
    k_steps
  · intro ys hG D h7 tk7 F7 N7 hD7
    clear N6
    k_steps
    refine stop_out ?_
    refine' sumK (ns := (walked fst st).pairs.map (·.2)) (l := D) (vs := ys) ?hh7_q ?F8_q ?N8_q ?L8_q hG ?h8_q
    case hh7_q => rfl
    case F8_q => k_asm
    case N8_q => k_asm
    case L8_q => exact ⟨_, (N7 _ (.head _)).1, rfl, _, rfl⟩
    case h8_q =>
    intro h8 tk8 t8 F8 N8
    k_sweep
    have hr1 : S.rfd = ((walked fst st).pairs.map (·.2)).sum := hm.hrfd
    have hr2 : 0 ≤ S.rfd := by rw [hm.hrfd]; exact hrn
    rw [← hr1]
    clear hr1
    k_steps
    · exact absurd rfl ‹S.rfd ≠ S.rfd›
    clear hr2
    refine stop_out ?_
    refine' For_turns ?F1_q ?G1_q ?S1_q ?E1_q
    case F1_q => k_asm
    case E1_q => passes_own
    case S1_q => intro _; rfl
    case G1_q =>
    k_steps
    refine stop_out ?_
    refine' lp_keys (knd := intKind PP w) (kvs := kvF) (J := fun m0 i m nw => nw = ((q, ({ cls := .type "tuple", data := .seq #[.ref hd, .ref pl, .ref cl] } : Obj)) :: (hd, oH) :: (pl, listOf pv.toArray np) :: (cl, listOf cv.toArray nc) :: (fd, oF) :: (sd, listOf sv.toArray n) :: (led5 ++ (trest ++ P.led w C S.rfd))) ∧ Agree [Str.ofString "slot"] m m0) ?hh1_q ?low1_q ?F2_q (News.perm ?N2_q ?N2s_q) ?D2_q ?J2_q ?K2_q ?step2_q ?done2_q
    case hh1_q => rfl
    case low1_q => assumption
    case D2_q => assumption
    case F2_q => k_asm
    case J2_q => exact ⟨rfl, Agree.refl⟩
    case N2_q => k_asm
    case N2s_q => ((try dsimp only [List.cons_append, List.nil_append]); repeat (first | (with_reducible refine List.forall_mem_cons.mpr ⟨?_, ?_⟩; focus (show _ ∈ _; k_dflt k_mem)) | (with_reducible refine List.forall_mem_append.mpr ⟨?_, ?_⟩) | (intro p hp; repeat (first | exact hp | with_reducible exact List.mem_append_left _ hp | with_reducible refine List.mem_append_right _ ?_ | with_reducible refine List.mem_cons_of_mem _ ?_))))
    case K2_q => rintro i m nw ⟨rfl, _⟩; exact .tail _ (.tail _ (.tail _ (.tail _ (.head _))))
    case step2_q =>
      rintro I i k x v m1 nw h1 tk1 io hv hk ⟨rfl, hA⟩ hn F1 N1
      obtain ⟨tk, rfl⟩ := Value.isInt_shape hk
      clear hk
      have hk2 : k = s1 ∨ k = s2 := by
        obtain ⟨tf1, tf2, rfl⟩ := hR
        have := List.mem_of_getElem? hv
        simp at this
        rcases this with h | h
        · exact .inl h.1
        · exact .inr h.1
      obtain ⟨u1, -, e3⟩ := hA.eta1
      clear hA
      subst e3
      have hothI : OffL ((I, io) :: ((q, ({ cls := .type "tuple", data := .seq #[.ref hd, .ref pl, .ref cl] } : Obj)) :: (hd, oH) :: (pl, listOf pv.toArray np) :: (cl, listOf cv.toArray nc) :: (fd, oF) :: (sd, listOf sv.toArray n) :: (led5 ++ trest))) (P.led w C S.rfd) := OffL.cons (fun q hq => hn q (by repeat (first | exact List.mem_append_right _ (List.mem_append_right _ hq) | refine List.mem_cons_of_mem _ ?_))) hoth
      obtain ⟨tF, eF⟩ := hR.at hk2
      obtain ⟨tH, eH⟩ := hRH.at hk2
      replace N1 := news_one (p := (P.st, instObj 399 P.dst)) (news_one (p := (P.dst, sObj w P.kS P.acc P.jl P.tch P.des P.wo P.ws P.org P.lg S.rfd C.tr)) N1 (by repeat (first | exact List.mem_append_right _ (List.mem_append_right _ StA.led_dst) | refine List.mem_cons_of_mem _ ?_))) (by repeat (first | exact List.mem_append_right _ (List.mem_append_right _ StA.led_st) | refine List.mem_cons_of_mem _ ?_))
      k_sweep
      k_steps
      refine stop_out ?_
      refine' Con.useRd (c_slotM hP hS hm k _ _) ((I, io) :: (q, ({ cls := .type "tuple", data := .seq #[.ref hd, .ref pl, .ref cl] } : Obj)) :: (hd, oH) :: (pl, listOf pv.toArray np) :: (cl, listOf cv.toArray nc) :: (fd, oF) :: (sd, listOf sv.toArray n) :: (led5 ++ trest)) ?kBu1_q ?kFu1_q ?kXu1_q (News.perm ?kNu1_q ?ksu1_q) ?kOu1_q ?kTu1_q ?khu1_q trivial ?kdu1_q ?kuu1_q ?kku1_q
      case kBu1_q => k_asm
      case kFu1_q => k_asm
      case kXu1_q => k_asm
      case kTu1_q => k_asm
      case kNu1_q => k_asm
      case ksu1_q => ((try dsimp only [List.cons_append, List.nil_append]); repeat (first | (with_reducible refine List.forall_mem_cons.mpr ⟨?_, ?_⟩; focus (show _ ∈ _; k_dflt k_mem)) | (with_reducible refine List.forall_mem_append.mpr ⟨?_, ?_⟩) | (intro p hp; repeat (first | exact hp | with_reducible exact List.mem_append_left _ hp | with_reducible refine List.mem_append_right _ ?_ | with_reducible refine List.mem_cons_of_mem _ ?_))))
      case kOu1_q => exact hothI
      case khu1_q => exact rfl
      case kdu1_q => ktr_room
      case kuu1_q => ktr_units
      case kku1_q =>
      rintro v7 h7 tk7 HV7 F7 N7
      replace N7 := news_st N7
      (try simp only [List.cons_append, List.nil_append, List.append_assoc] at N7)

      obtain ⟨t7, rfl⟩ := HV7
      k_sweep
      k_steps
      · exact absurd rfl ‹(walked fst st).held k ≠ (walked fst st).held k›
      refine stop_out ?_
      refine' Con.useRd (c_orgM hP hS hm hU k _ _) ((I, io) :: (q, ({ cls := .type "tuple", data := .seq #[.ref hd, .ref pl, .ref cl] } : Obj)) :: (hd, oH) :: (pl, listOf pv.toArray np) :: (cl, listOf cv.toArray nc) :: (fd, oF) :: (sd, listOf sv.toArray n) :: (led5 ++ trest)) ?kBu2_q ?kFu2_q ?kXu2_q (News.perm ?kNu2_q ?ksu2_q) ?kOu2_q ?kTu2_q ?khu2_q trivial ?kdu2_q ?kuu2_q ?kku2_q
      case kBu2_q => k_asm
      case kFu2_q => k_asm
      case kXu2_q => k_asm
      case kTu2_q => k_asm
      case kNu2_q => k_asm
      case ksu2_q => ((try dsimp only [List.cons_append, List.nil_append]); repeat (first | (with_reducible refine List.forall_mem_cons.mpr ⟨?_, ?_⟩; focus (show _ ∈ _; k_dflt k_mem)) | (with_reducible refine List.forall_mem_append.mpr ⟨?_, ?_⟩) | (intro p hp; repeat (first | exact hp | with_reducible exact List.mem_append_left _ hp | with_reducible refine List.mem_append_right _ ?_ | with_reducible refine List.mem_cons_of_mem _ ?_))))
      case kOu2_q => exact hothI
      case khu2_q => exact rfl
      case kdu2_q => ktr_room
      case kuu2_q => ktr_units
      case kku2_q =>
      rintro v8 h8 tk8 HV8 F8 N8
      replace N8 := news_st N8
      (try simp only [List.cons_append, List.nil_append, List.append_assoc] at N8)

      obtain ⟨t8, rfl⟩ := HV8
      k_sweep
      k_steps
      · exact absurd rfl ‹fst k ≠ fst k›
      refine stop_out ?_
      refine' Con.useRd (c_iswM hP hS hm k _ _) ((I, io) :: (q, ({ cls := .type "tuple", data := .seq #[.ref hd, .ref pl, .ref cl] } : Obj)) :: (hd, oH) :: (pl, listOf pv.toArray np) :: (cl, listOf cv.toArray nc) :: (fd, oF) :: (sd, listOf sv.toArray n) :: (led5 ++ trest)) ?kBu3_q ?kFu3_q ?kXu3_q (News.perm ?kNu3_q ?ksu3_q) ?kOu3_q ?kTu3_q ?khu3_q trivial ?kdu3_q ?kuu3_q ?kku3_q
      case kBu3_q => k_asm
      case kFu3_q => k_asm
      case kXu3_q => k_asm
      case kTu3_q => k_asm
      case kNu3_q => k_asm
      case ksu3_q => ((try dsimp only [List.cons_append, List.nil_append]); repeat (first | (with_reducible refine List.forall_mem_cons.mpr ⟨?_, ?_⟩; focus (show _ ∈ _; k_dflt k_mem)) | (with_reducible refine List.forall_mem_append.mpr ⟨?_, ?_⟩) | (intro p hp; repeat (first | exact hp | with_reducible exact List.mem_append_left _ hp | with_reducible refine List.mem_append_right _ ?_ | with_reducible refine List.mem_cons_of_mem _ ?_))))
      case kOu3_q => exact hothI
      case khu3_q => exact rfl
      case kdu3_q => ktr_room
      case kuu3_q => ktr_units
      case kku3_q =>
      rintro v9 h9 tk9 HV9 F9 N9
      replace N9 := news_st N9
      (try simp only [List.cons_append, List.nil_append, List.append_assoc] at N9)

      subst HV9
      k_sweep
      cases hcm : decide (k ∈ (walked fst st).come) with
      | true =>
        k_steps
        refine LPost.mk ((q, ({ cls := .type "tuple", data := .seq #[.ref hd, .ref pl, .ref cl] } : Obj)) :: (hd, oH) :: (pl, listOf pv.toArray np) :: (cl, listOf cv.toArray nc) :: (fd, oF) :: (sd, listOf sv.toArray n) :: (led5 ++ (trest ++ P.led w C S.rfd))) (by assumption) (by assumption) (by k_dflt k_mem) ?S1_q hn ⟨rfl, by repeat (first | exact Agree.refl | refine Agree.set (by decide) ?_)⟩
        case S1_q => ((try dsimp only [List.cons_append, List.nil_append]); repeat (first | (with_reducible refine List.forall_mem_cons.mpr ⟨?_, ?_⟩; focus (show _ ∈ _; k_dflt k_mem)) | (with_reducible refine List.forall_mem_append.mpr ⟨?_, ?_⟩) | (intro p hp; repeat (first | exact hp | with_reducible exact List.mem_append_left _ hp | with_reducible refine List.mem_append_right _ ?_ | with_reducible refine List.mem_cons_of_mem _ ?_))))
      | false =>
        k_steps
        refine LPost.mk ((q, ({ cls := .type "tuple", data := .seq #[.ref hd, .ref pl, .ref cl] } : Obj)) :: (hd, oH) :: (pl, listOf pv.toArray np) :: (cl, listOf cv.toArray nc) :: (fd, oF) :: (sd, listOf sv.toArray n) :: (led5 ++ (trest ++ P.led w C S.rfd))) (by assumption) (by assumption) (by k_dflt k_mem) ?S2_q hn ⟨rfl, by repeat (first | exact Agree.refl | refine Agree.set (by decide) ?_)⟩
        case S2_q => ((try dsimp only [List.cons_append, List.nil_append]); repeat (first | (with_reducible refine List.forall_mem_cons.mpr ⟨?_, ?_⟩; focus (show _ ∈ _; k_dflt k_mem)) | (with_reducible refine List.forall_mem_append.mpr ⟨?_, ?_⟩) | (intro p hp; repeat (first | exact hp | with_reducible exact List.mem_append_left _ hp | with_reducible refine List.mem_append_right _ ?_ | with_reducible refine List.mem_cons_of_mem _ ?_))))
    case done2_q =>
      rintro h1 tk1 m1 nw F1 N1 ⟨rfl, hA⟩
      obtain ⟨u1, -, e3⟩ := hA.eta1
      clear hA
      subst e3
      k_sweep
      k_steps
      refine hret _ _ _ (by assumption) (keeps_end hg' (by assumption)) ⟨rfl, sat_sub (by assumption) ?s9_q⟩
      case s9_q => ((try dsimp only [List.cons_append, List.nil_append]); repeat (first | (with_reducible refine List.forall_mem_cons.mpr ⟨?_, ?_⟩; focus (show _ ∈ _; k_dflt k_mem)) | (with_reducible refine List.forall_mem_append.mpr ⟨?_, ?_⟩) | (intro p hp; repeat (first | exact hp | with_reducible exact List.mem_append_left _ hp | with_reducible refine List.mem_append_right _ ?_ | with_reducible refine List.mem_cons_of_mem _ ?_))))

end Mine
end
section
open PySem PySem.W PyProof.Rows PySem.Calls PyProof.V PySem.Spec PySem.SeqAt
namespace Mine
theorem news_push {h₀ h : Heap} {L : Addr} {news : List (Addr × Obj)} {o : Obj} (N : News h₀ L h news) : News h₀ L (h.push o) news := fun p hp => ⟨Heap.get?_push_of_some _ (N p hp).1, (N p hp).2⟩
theorem own7 {a1 a2 a3 a4 a5 a6 a7 : Addr} {o1 o2 o3 o4 o5 o6 o7 : Obj} {rest l : List (Addr × Obj)} (h : OffL ((a1, o1) :: (a2, o2) :: (a3, o3) :: (a4, o4) :: (a5, o5) :: (a6, o6) :: (a7, o7) :: rest) l) : OwnOff l [a1, a2, a3, a4, a5, a6, a7] ∧ OffL rest l := by
  refine ⟨fun q hq b hb => ?_, fun p hp => h p (.tail _ (.tail _ (.tail _ (.tail _ (.tail _ (.tail _ (.tail _ hp)))))))⟩
  simp only [List.mem_cons, List.not_mem_nil, or_false] at hb
  rcases hb with rfl | rfl | rfl | rfl | rfl | rfl | rfl
  · exact h _ (.head _) q hq
  · exact h _ (.tail _ (.head _)) q hq
  · exact h _ (.tail _ (.tail _ (.head _))) q hq
  · exact h _ (.tail _ (.tail _ (.tail _ (.head _)))) q hq
  · exact h _ (.tail _ (.tail _ (.tail _ (.tail _ (.head _))))) q hq
  · exact h _ (.tail _ (.tail _ (.tail _ (.tail _ (.tail _ (.head _)))))) q hq
  · exact h _ (.tail _ (.tail _ (.tail _ (.tail _ (.tail _ (.tail _ (.head _))))))) q hq
theorem off7 {a1 a2 a3 a4 a5 a6 a7 : Addr} {o1 o2 o3 o4 o5 o6 o7 : Obj} {rest l : List (Addr × Obj)} (h : OwnOff l [a1, a2, a3, a4, a5, a6, a7]) (hr : OffL rest l) : OffL ((a1, o1) :: (a2, o2) :: (a3, o3) :: (a4, o4) :: (a5, o5) :: (a6, o6) :: (a7, o7) :: rest) l :=
  OffL.cons (fun q hq => h q hq _ (by simp)) (OffL.cons (fun q hq => h q hq _ (by simp)) (OffL.cons (fun q hq => h q hq _ (by simp)) (OffL.cons (fun q hq => h q hq _ (by simp)) (OffL.cons (fun q hq => h q hq _ (by simp)) (OffL.cons (fun q hq => h q hq _ (by simp)) (OffL.cons (fun q hq => h q hq _ (by simp)) hr))))))
section
variable {w : World} {mean : ExcName → Option Value} {mg mb : Str → Option Value}
  {dp un : Nat} {gd : Option (List Code)} {cn : Str} {cs : Scope} {a : Addr} {ccd : Value} {cl0 : List (Str × Addr)} {outer : List Env} {A₀ : Around} {base h₀ : Heap} {L : Addr} {m : Str → Option Value} {s : Shared} {Q E : Value → Shared → Prop}
/-- a draw -/
theorem useDip {c cl : Addr} {oc : Obj} {tt tm : Tok} {turn many : Int} {cvs : List Value} {cns : List Int} {ncl : Nat} (oth : List (Addr × Obj)) (hc : caskIs w oc cl turn tt) (hci : IntsAre cvs cns) (hcl : cns.length ≤ 63) (h0 : 0 ≤ turn) (hm : 0 < many)
    (hclm : (cl, listOf cvs.toArray ncl) ∈ oth) (offc : ∀ p ∈ oth, p.1 ≠ c)
    (B : Below A₀ base outer h₀) (F : Fr h₀ L s.heap m) (X : (hd.heap_39 w.params).In h₀) (N : News h₀ L s.heap ((c, oc) :: oth)) (T : Top hd.view_39 (looseW hd.view_39 []) mean mg mb h₀) (hk : cs.kind = .function)
    (h1 : dp + 1 < recursionLimit) (h2 : un + 8 * 1 < cLine)
    (k : ∀ r t t' oc' h' tk', 0 ≤ r → r < many → caskIs w oc' cl (turn + 1) t' → Fr h₀ L h' m → News h₀ L h' ((c, oc') :: oth) → Q (.int r t) { s with heap := h', toks := tk' }) :
    wpAny (model PySem.Challenge.rw_pq0405_01.row.prog w) (ktrTop dp un gd cn cs L a ccd cl0 outer) (call (.ref 417) [.ref c, .int many tm]) Q E s := by
  have hl : s.heap.IsList cl cvs.toArray := News.isList N (.tail _ hclm)
  refine (c_dip c cl oc tt tm turn many cvs cns).useG oth B F X (N.perm fun p hp => ?_) (fun p hp q hq e => ?_) T hk ⟨hc, hl, hci, hcl, h0, hm⟩ h1 h2 ?_
  · rcases List.mem_append.mp hp with hp | hp
    · exact .tail _ hp
    · rw [List.mem_singleton.mp hp]; exact .head _
  · rw [List.mem_singleton.mp hq] at e
    exact offc p hp e.symm
  · rintro v h' tk' ⟨r, t, t', oc', rfl, hr0, hr1, hget, hcask⟩ F' N' k'
    obtain ⟨n1, _⟩ := k' [(c, oc')] (fun p hp => by rw [List.mem_singleton.mp hp]; exact hget) (fun p hp => by rw [List.mem_singleton.mp hp]; exact .inl (by simp))
    exact k r t t' oc' h' tk' hr0 hr1 hcask F' (n1.append N')
end
/-- what holds between the laps of a stage -/
structure Lap (w : World) (home s1 s2 : Int) (fst : Int → Int) (P : StA) (sd nd c slD cl sm fd : Addr) (i : Nat) (C : StC) (S : SS) (Js : List JR) (W : Int → Bool) (st : List Stp) (notes : List (Nat × Nat)) (sv nv : List Value) (trest : List (Addr × Obj)) (oc : Obj) (turn : Int) (tt : Tok) : Prop where
  hS : StCOK w home s1 s2 fst P C S Js W
  hM : Mt fst st S
  hN : NotesOK s1 s2 fst notes st Js S
  hU : Unset W st
  hsv : ObjsIn stepR trest sv st
  hnv : ObjsIn noteR trest nv notes
  hsl : ∀ p ∈ st, p.1 = s1 ∨ p.1 = s2
  hl1 : st.length ≤ i
  hl2 : Js.length ≤ 4 * i
  hl3 : notes.length ≤ i
  hc : caskIs w oc cl turn tt
  h0 : 0 ≤ turn
  hap : Apart [sd, nd, c, slD, cl, sm, fd]
  hot : OwnOff trest [sd, nd, c, slD, cl, sm, fd]
  hof1 : OwnOff (P.led w C S.rfd) [sd, nd, c, slD, cl, sm, fd]
  hof2 : OffL trest (P.led w C S.rfd)
theorem off7' {a1 a2 a3 a4 a5 a6 a7 : Addr} {o1 o7 : Obj} {rest l : List (Addr × Obj)} (h : OwnOff l [a1, a2, a3, a4, a5, a6, a7]) (hr : OffL rest l) : OffL l ((a7, o7) :: (a1, o1) :: rest) :=
  (OffL.cons (fun q hq => h q hq _ (by simp)) (OffL.cons (fun q hq => h q hq _ (by simp)) hr)).symm
theorem re_cons {A rest : List (Addr × Obj)} {a : Addr} {o o' : Obj} (h : (a, o') ∈ A) (hr : ∀ p ∈ rest, ∃ o, (p.1, o) ∈ A) : ∀ p ∈ (a, o) :: rest, ∃ o, (p.1, o) ∈ A :=
  List.forall_mem_cons.mpr ⟨⟨o', h⟩, hr⟩
theorem news_alike {h₀ h : Heap} {L : Addr} {oth SL tr : List (Addr × Obj)} {x y : Addr × Obj} (No : News h₀ L h oth) (nn : News h₀ L h (SL ++ x :: y :: tr)) : News h₀ L h (x :: y :: (oth ++ (tr ++ SL))) := by
  intro p hp
  rcases List.mem_cons.mp hp with rfl | hp
  · exact nn _ (List.mem_append_right _ (.head _))
  rcases List.mem_cons.mp hp with rfl | hp
  · exact nn _ (List.mem_append_right _ (.tail _ (.head _)))
  rcases List.mem_append.mp hp with hp | hp
  · exact No p hp
  rcases List.mem_append.mp hp with hp | hp
  · exact nn _ (List.mem_append_right _ (.tail _ (.tail _ hp)))
  · exact nn _ (List.mem_append_left _ hp)
theorem offAlike {oth SL tr : List (Addr × Obj)} {a b : Addr} {o o' : Obj} (h1 : OffL oth SL) (h2 : ∀ p ∈ oth, p.1 ≠ a) (h3 : ∀ p ∈ oth, p.1 ≠ b) (h4 : OffL oth tr) : OffL oth (SL ++ (a, o) :: (b, o') :: tr) := by
  intro p hp q hq
  rcases List.mem_append.mp hq with hq | hq
  · exact h1 p hp q hq
  rcases List.mem_cons.mp hq with rfl | hq
  · exact (h2 p hp).symm
  rcases List.mem_cons.mp hq with rfl | hq
  · exact (h3 p hp).symm
  · exact h4 p hp q hq
/-- what a test leaves that changes nothing of ours -/
noncomputable def AndPost (h₀ : Heap) (L : Addr) (s : Shared) (m : Str → Option Value) (news : List (Addr × Obj)) (b ok : Bool) (s' : Shared) : Prop := ok = b ∧ ∃ h' tk', s' = { s with heap := h', toks := tk' } ∧ Fr h₀ L h' m ∧ News h₀ L h' news
theorem and_mono {M : Model} {A : Around} {E : Value → Shared → Prop} {s : Shared} {h₀ : Heap} {L : Addr} {m : Str → Option Value} {news : List (Addr × Obj)} {t : Sem Bool} {Q : Bool → Shared → Prop} {b : Bool} (_F : Fr h₀ L s.heap m) (_N : News h₀ L s.heap news)
    (h1 : wpAny M A t (AndPost h₀ L s m news b) E s) (h2 : ∀ h' tk', Fr h₀ L h' m → News h₀ L h' news → Q b { s with heap := h', toks := tk' }) : wpAny M A t Q E s :=
  wpAny_mono h1 (fun ok s' h => by obtain ⟨rfl, h', tk', rfl, F, N⟩ := h; exact h2 h' tk' F N) fun _ _ x => x
theorem pair_set {fst : Int → Int} {K : WK} {sl f : Int} : pairOf fst K (sl, some f) = (dueCost (fst sl) (K.held sl) f (!decide (sl ∈ K.come)), refundOf (fst sl) (K.held sl) f) := rfl
theorem Mt.put2 {fst : Int → Int} {st : List Stp} {S : SS} {sl f : Int} (h : Mt fst st S) : Mt fst (st ++ [(sl, some f)]) ⟨upd S.sto sl f, true, setB S.wrm sl true, S.rfd + refundOf (fst sl) ((walked fst st).held sl) f⟩ := by
  have := h.put (sl := sl) (f := f)
  have e : S.sto sl = (walked fst st).held sl := by rw [h.hsto]
  rw [e] at this
  exact this
theorem news_done {h₀ h : Heap} {L : Addr} {q d l x y : Addr × Obj} {lits led5 SL tr : List (Addr × Obj)} (N : News h₀ L h (x :: y :: (lits ++ (tr ++ SL)))) (n5 : News h₀ L h led5) (mq : q ∈ led5) (mh : d ∈ led5) (mp : l ∈ led5) : News h₀ L h (([q, d, l] ++ (x :: y :: (lits ++ (tr ++ led5)))) ++ SL) := by
  intro p hp
  simp only [List.cons_append, List.nil_append, List.mem_cons, List.mem_append] at hp
  rcases hp with rfl | rfl | rfl | rfl | rfl | (hp | hp | hp) | hp
  · exact n5 _ mq
  · exact n5 _ mh
  · exact n5 _ mp
  · exact N _ (.head _)
  · exact N _ (.tail _ (.head _))
  · exact N _ (.tail _ (.tail _ (List.mem_append_left _ hp)))
  · exact N _ (.tail _ (.tail _ (List.mem_append_right _ (List.mem_append_left _ hp))))
  · exact n5 _ hp
  · exact N _ (.tail _ (.tail _ (List.mem_append_right _ (List.mem_append_right _ hp))))
theorem news_same {h₀ h h' : Heap} {L : Addr} {news foot : List (Addr × Obj)} (N : News h₀ L h news) (K : Keeps (foot.map (·.1)) h h') (S1 : Sat h foot) (S2 : Sat h' foot) : News h₀ L h' news := fun p hp => by
  refine ⟨?_, (N p hp).2⟩
  by_cases hm : p.1 ∈ foot.map (·.1)
  · obtain ⟨q, hq, e⟩ := List.mem_map.mp hm
    have e1 := S1 q hq
    have e2 := S2 q hq
    rw [e, (N p hp).1] at e1
    rw [e, ← Option.some.inj e1] at e2
    exact e2
  · exact K _ _ hm (N p hp).1
theorem OffL.subr {a l l' : List (Addr × Obj)} (h : OffL a l) (hs : ∀ p ∈ l', p ∈ l) : OffL a l' := fun p hp q hq => h p hp q (hs q hq)
theorem sub8 {α : Type} {a b c d e f g h x y z : α} {r : List α} : ∀ p ∈ [a, b, c, d, e, f, g, h], p ∈ [a, b, c, d, e, f, x, g, h, y, z] ++ r := fun p hp =>
  List.mem_append_left _ ((((((((.cons_cons a (.cons_cons b (.cons_cons c (.cons_cons d (.cons_cons e (.cons_cons f (.cons x (.cons_cons g (.cons_cons h (.cons y (.cons z .slnil)))))))))) : List.Sublist [a, b, c, d, e, f, g, h] [a, b, c, d, e, f, x, g, h, y, z]))))))).subset hp)
theorem StA.led8 {w : World} {P : StA} {C : StC} {r : Int} : ∀ p ∈ [(P.st, instObj 399 P.dst), (P.dst, sObj w P.kS P.acc P.jl P.tch P.des P.wo P.ws P.org P.lg r C.tr), (P.acc, P.oacc), (P.ac, instObj 112 P.dac), (P.dac, aObj w P.kA P.sto P.tn P.tb P.tc), (P.sto, C.osto), (P.tch, C.otch), (P.des, P.odes)], p ∈ P.led w C r := sub8
theorem StAOK.nd8 {w : World} {home : Int} {P : StA} (h : StAOK w home P) : Apart [P.st, P.dst, P.acc, P.ac, P.dac, P.sto, P.tch, P.des] := by
  have := h.nd
  simp only [StA.addrs, Apart, AllNe] at this ⊢
  simp only [this, and_self]
/-- what a read costs -/
noncomputable def readC (b : Bool) : Int := if b then 2100 else 100
theorem c_readC {w : World} {mean : ExcName → Option Value} {mg mb : Str → Option Value} (c : Bool) : Con w mean mg mb 60 [.bool c] 1 [] (fun _ => True) (fun _ v _ => ∃ t, v = .int (readC c) t) := c_read c
theorem pair_read {fst : Int → Int} {K : WK} {sl : Int} : pairOf fst K (sl, none) = (readC (!decide (sl ∈ K.come)), 0) := by
  unfold pairOf readC
  by_cases h : sl ∈ K.come <;> simp [h]
theorem slot_item {s1 s2 r : Int} {t1 t2 : Tok} (h0 : 0 ≤ r) (h1 : r < 2) : ∃ sl t, [Value.int s1 t1, Value.int s2 t2][r.toNat]? = some (.int sl t) ∧ (sl = s1 ∨ sl = s2) := by
  have : r = 0 ∨ r = 1 := by omega
  rcases this with rfl | rfl
  · exact ⟨s1, t1, rfl, .inl rfl⟩
  · exact ⟨s2, t2, rfl, .inr rfl⟩
theorem some_item {smv : List Value} {smn : List Int} {r : Int} (hi : IntsAre smv smn) (hl : smn.length = 4) (h0 : 0 ≤ r) (h1 : r < 4) : ∃ f t, smv[r.toNat]? = some (.int f t) := by
  have hr : r.toNat < smn.length := by omega
  obtain ⟨t, e⟩ := IntsAre.get hi r.toNat smn[r.toNat] (by simp [hr])
  exact ⟨_, t, e⟩
theorem offWalked {lits SL tr : List (Addr × Obj)} {a b : Addr} {o o' : Obj} (h1 : ∀ p ∈ lits, p.1 ≠ a) (h2 : ∀ p ∈ lits, p.1 ≠ b) (h3 : OffL lits tr) (h4 : OffL SL ((a, o) :: (b, o') :: tr)) : OffL (lits ++ SL) ((a, o) :: (b, o') :: tr) := by
  intro p hp q hq
  rcases List.mem_append.mp hp with hp | hp
  · rcases List.mem_cons.mp hq with rfl | hq
    · exact (h1 p hp).symm
    rcases List.mem_cons.mp hq with rfl | hq
    · exact (h2 p hp).symm
    · exact h3 p hp q hq
  · exact h4 p hp q hq
theorem news_walked {h₀ h : Heap} {L : Addr} {lits SL tr : List (Addr × Obj)} {x y : Addr × Obj} (No : News h₀ L h (lits ++ SL)) (nF : News h₀ L h (x :: y :: tr)) : News h₀ L h (x :: y :: (lits ++ (tr ++ SL))) := by
  intro p hp
  rcases List.mem_cons.mp hp with rfl | hp
  · exact nF _ (.head _)
  rcases List.mem_cons.mp hp with rfl | hp
  · exact nF _ (.tail _ (.head _))
  rcases List.mem_append.mp hp with hp | hp
  · exact No _ (List.mem_append_left _ hp)
  rcases List.mem_append.mp hp with hp | hp
  · exact nF _ (.tail _ (.tail _ hp))
  · exact No _ (List.mem_append_right _ hp)
theorem news_one2 {g h : Heap} {L : Addr} {p : Addr × Obj} {news : List (Addr × Obj)} (hp : h.get? p.1 = some p.2 ∧ p.1 ≠ L ∧ g.get? p.1 = none) (N : News g L h news) : News g L h (p :: news) := fun q hq => by
  rcases List.mem_cons.mp hq with rfl | hq
  · exact hp
  · exact N q hq
theorem OffL.lits {a : Addr} {o : Obj} {r l : List (Addr × Obj)} (h : ∀ q ∈ l, q.1 ≠ a) (hr : OffL r l) : OffL ((a, o) :: r) l := OffL.cons h hr
/-- the names and the ledger between the laps -/
noncomputable def LapJ (w : World) (home s1 s2 : Int) (fst : Int → Int) (P : StA) (nt c slD cl sm fd : Addr) (slO clO smO oF : Obj) (m0 : Str → Option Value) (i : Nat) (m : Str → Option Value) (nw : List (Addr × Obj)) : Prop :=
  ∃ sd n1 n2 C S Js W st notes sv nv trest oc turn tt, nw = (sd, listOf (List.toArray sv) n1) :: (nt, listOf (List.toArray nv) n2) :: (c, oc) :: (slD, slO) :: (cl, clO) :: (sm, smO) :: (fd, oF) :: (trest ++ P.led w C S.rfd) ∧
    Lap w home s1 s2 fst P sd nt c slD cl sm fd i C S Js W st notes sv nv trest oc turn tt ∧ m (Str.ofString "stood") = some (.ref sd) ∧
    Agree [Str.ofString "lap", Str.ofString "way", Str.ofString "many", Str.ofString "spot", Str.ofString "stood", Str.ofString "slot", Str.ofString "is_cold", Str.ofString "told_now", Str.ofString "fresh"] m m0
theorem OffL.re {a a' l : List (Addr × Obj)} (h : OffL a l) (hs : ∀ p ∈ a', ∃ o, (p.1, o) ∈ a) : OffL a' l := fun p hp q hq => let ⟨_, ho⟩ := hs p hp; h _ ho q hq
theorem lap_init {w : World} {home s1 s2 : Int} {σ : Int → Int} {P : StA} {C : StC} {sd nd c slD cl sm fd : Addr} {oc : Obj} {turn : Int} {tt : Tok}
    (hC : StCOK w home s1 s2 σ P C ⟨σ, false, fun _ => false, 0⟩ [] fun _ => false) (hc : caskIs w oc cl turn tt) (h0 : 0 ≤ turn) (hap : Apart [sd, nd, c, slD, cl, sm, fd]) (hof : OwnOff (P.led w C 0) [sd, nd, c, slD, cl, sm, fd]) :
    Lap w home s1 s2 σ P sd nd c slD cl sm fd 0 C ⟨σ, false, fun _ => false, 0⟩ [] (fun _ => false) [] [] [] [] [] oc turn tt :=
  ⟨hC, ⟨rfl, by funext x; simp [walked], rfl⟩, .nil, (fun _ _ _ h => nomatch h), .nil, .nil, (fun _ h => nomatch h), Nat.le_refl _, Nat.le_refl _, Nat.le_refl _, hc, h0, hap, off_nil, hof, OffL.nil⟩
end Mine
end
section
open PySem PySem.W PyProof.Rows PySem.Calls
namespace Mine
theorem fresh_M25 : True := by
  w_top off
  trivial
theorem lines_M25_0 : True := by
  k_with_none
  (k_with "g_ktr_room" => (first | exact Nat.le_of_ble_eq_true rfl | exact roomF 0 (by assumption) rfl rfl | exact roomF 1 (by assumption) rfl rfl | exact roomF 2 (by assumption) rfl rfl | exact roomF 3 (by assumption) rfl rfl | exact roomF 4 (by assumption) rfl rfl))
  (k_with "g_ktr_units" => (first | exact Nat.le_of_ble_eq_true rfl | exact unitF 3 (by assumption) rfl rfl | exact unitG 3 (by assumption) rfl rfl | exact unitG 6 (by assumption) rfl rfl | exact unitF 6 (by assumption) rfl rfl | exact unitF 7 (by assumption) rfl rfl | exact unitF 4 (by assumption) rfl rfl | exact unitF 5 (by assumption) rfl rfl | exact unitF 8 (by assumption) rfl rfl | exact unitF 9 (by assumption) rfl rfl | exact unitF 10 (by assumption) rfl rfl | exact unitF 11 (by assumption) rfl rfl | exact unitF 12 (by assumption) rfl rfl | exact unitF 13 (by assumption) rfl rfl | exact unitF 14 (by assumption) rfl rfl | exact unitF 15 (by assumption) rfl rfl | exact unitF 0 (by assumption) rfl rfl | exact unitF 1 (by assumption) rfl rfl | exact unitF 2 (by assumption) rfl rfl))
  (k_with "g_k_ne" => ((refine neN ?_; (try dsimp only); first | exact Ne'.o (by with_reducible assumption) | exact Ne'.s (by with_reducible assumption) | k_extra "ne")))
  (k_with "g_k_all" => (first | exact OwnOff.ne (by with_reducible assumption) (by k_mem) | exact allLt_ne (by assumption)))
  (k_with "g_size_fits" => ((simp only [List.size_toArray, List.length_map, List.length_append, List.length_cons, List.length_nil, Array.size_push]; (first | done | (rw [sizeLine_eq]; omega)))))
  (k_with "g_ent" => (apply code_defF; (case hA => exact rfl); (case hf => exact rfl); (case hke => exact rfl); (case B => k_asm); (case F => k_asm); (case X₀ => k_asm); (case N => k_asm); (case T => k_asm); (case ho => k_is); (case hcd => k_is); (case hroom => k_room); (case hbind => first | exact BindsTo.of_eq rfl | exact binds_K (by k_in) rfl (by k_is) rfl rfl rfl | fail "no rule for these arguments"); (case hcell => decide); (case hloc => exact locs rfl); (case hco => exact rfl); (case hgen => exact rfl); (case hk => exact rfl); k_whole; intro _ _ _ evX AX mmX _ _ _ _ _ _; (try dsimp only); (try k_fold)))
  (k_with "call ref" => (k_here; k_dflt (first
    | (apply call_cls0; (case F => k_asm); (case X₀ => k_asm); (case N => k_asm); (case hm => k_is); (case hi => k_is); k_whole; intro x' d' h' F' N' l1 l2; (try k_lt l1); (try k_lt2 l2); (try k_sweep); (revert x' d' h' F' N' l1 l2; intros))
    | (apply call_cls; (case F => k_asm); (case X₀ => k_asm); (case N => k_asm); (case hm => k_is); (case hi => k_is); (case hf => k_is); k_whole; intro x' d' h' F' N' l1 l2; (try k_lt l1); (try k_lt2 l2); (try k_sweep); (revert x' d' h' F' N' l1 l2; intros); k_extra "g_ent")
    | (apply call_meth; (case N => k_asm); (case hq => k_mem); k_whole; k_extra "g_ent")
    | (refine wpAny_call ?_; k_extra "g_ent"))))
  (k_with "call ref" => (k_here; (with_reducible show wpAny _ _ (call (Value.ref 154) [_, _, _, _] _) _ _ _); k_dflt (apply row_call; (case B => k_asm); (case F => k_asm); (case X => k_asm); (case N => k_asm); (case T => k_asm); (case hk => exact rfl); (case hd => ktr_room); k_whole); intro x' d' h' tk' k0' k1' k2' k3' F' N' l1 l2; (try k_lt l1); (try k_lt2 l2); (try k_sweep); (revert x' d' h' tk' k0' k1' k2' k3' F' N' l1 l2; intros)))
  (k_with "storeName" => (k_here; k_dflt (apply stXF; (case F => k_asm); (case N => k_asm); (case hk => rfl); (case hx => rfl); k_whole); intro mmX; intro _ _ _; (try k_sweep)))
  (k_with "execs cons" => (k_here; (try dsimp only); (refine execsF ?_); intro qkX))
  (k_with "execs cons" => (k_here; (try dsimp only); (with_reducible show wpAny _ _ _ _ _ (Shared.mk _ _ _ (_ + _) _)); (refine toksF ?_); intro tkX; (refine execsF ?_); intro qkX))
  (k_with "lt" => (first | with_reducible assumption | (apply And.left; first | with_reducible assumption | (apply And.right; first | with_reducible assumption | (apply And.right; first | with_reducible assumption | (apply And.right; first | with_reducible assumption | (apply And.right; first | with_reducible assumption | (apply And.right; first | with_reducible assumption | (apply And.right; first | with_reducible assumption | (apply And.right; first | with_reducible assumption | (apply And.right; first | with_reducible assumption | (apply And.right; first | with_reducible assumption | (apply And.right; first | with_reducible assumption | (apply And.right; first | with_reducible assumption | (apply And.right; first | with_reducible assumption | (apply And.right; first | with_reducible assumption | (apply And.right; first | with_reducible assumption | (apply And.right; with_reducible assumption))))))))))))))))))
  (k_with "ne" => (first | (refine Nat.ne_of_gt ?_; k_extra "lt") | (refine Nat.ne_of_lt ?_; k_extra "lt") | (refine Nat.ne_of_gt ?_; apply Nat.lt_trans; rotate_left; (with_reducible assumption); k_extra "lt") | (refine Nat.ne_of_lt ?_; apply Nat.lt_trans; rotate_left; (with_reducible assumption); k_extra "lt")))
  (k_with "subscriptTail" => (k_here; (with_reducible show wpAny _ _ (subscriptTail _ _ (Value.ref _) (Value.str _ _)) _ _ _); k_dflt (apply d_item (knd := strKind _ _) (hkey := (str_key _ _)); (case N => k_asm); (case hm => k_mem); (case hD => assumption); (case hv => first | assumption | exact rfl); (case hs => with_unfolding_all rfl); k_whole)))
  (k_with "subscriptTail" => (k_here; (with_reducible show wpAny _ _ (subscriptTail _ _ (Value.ref _) (Value.int _ _)) _ _ _); k_dflt (apply d_item (knd := intKind _ _) (hkey := (int_key _ _)); (case N => k_asm); (case hm => k_mem); (case hD => assumption); (case hv => first | assumption | exact rfl); (case hs => with_unfolding_all rfl); k_whole)))
  (k_with "compareOp In" => (k_here; (with_reducible show wpAny _ _ (compareOp CmpOp.In (Value.int _ _) (Value.ref _)) _ _ _); k_dflt (apply d_inB (knd := intKind _ _) (hkey := (int_key _ _)); (case N => k_asm); (case hm => k_mem); (case hD => assumption); (case lo => assumption); (case hb => first | assumption | exact rfl); k_whole)))
  (k_with "compareOp NotIn" => (k_here; (with_reducible show wpAny _ _ (compareOp CmpOp.NotIn (Value.int _ _) (Value.ref _)) _ _ _); k_dflt (apply d_notIn (knd := intKind _ _) (hkey := (int_key _ _)); (case N => k_asm); (case hm => k_mem); (case hD => assumption); (case lo => assumption); (case hb => first | assumption | exact rfl); k_whole)))
  (k_with "call builtin:dict.get" => (k_here; (with_reducible show wpAny _ _ (call (Value.builtin _) [Value.ref _, Value.int _ _, _]) _ _ _); k_dflt (apply d_get2B (knd := intKind _ _) (hkey := (int_key _ _)); (case N => k_asm); (case hm => k_mem); (case hD => assumption); (case lo => assumption); (case hv => first | assumption | exact rfl); k_whole)))
  (k_with "setItem" => (k_here; (with_reducible show wpAny _ _ (setItem (Value.ref _) (Value.str _ _) _) _ _ _); k_dflt (apply d_set (knd := strKind _ _) (hkey := (str_key _ _)); (case F => k_asm); (case N => k_asm); (case U => k_updF); (case hD => assumption); (case hz => first | assumption | decide | (simp; done)); k_whole); intro h' o' F' N' D'; (try dsimp only at N'); (try simp (decide := true) [stored] at D'); (try k_sweep); (revert h' o' F' N' D'; intros)))
  (k_with "setItem" => (k_here; (with_reducible show wpAny _ _ (setItem (Value.ref _) (Value.int _ _) _) _ _ _); k_dflt (apply d_set (knd := intKind _ _) (hkey := (int_key _ _)); (case F => k_asm); (case N => k_asm); (case U => k_updF); (case hD => assumption); (case hz => first | assumption | decide | (simp; done)); k_whole); intro h' o' F' N' D'; (try dsimp only at N'); (try k_sweep); (revert h' o' F' N' D'; intros)))
  (k_with "delItem" => (k_here; (with_reducible show wpAny _ _ (delItem (Value.ref _) (Value.int _ _)) _ _ _); k_dflt (apply d_del (knd := intKind _ _) (hkey := (int_key _ _)); (case F => k_asm); (case N => k_asm); (case U => k_updF); (case hD => assumption); (case hl => assumption); (case hz => first | assumption | decide | (simp; done)); k_whole); intro h' o' F' N' D'; (try dsimp only at N'); (try k_sweep); (revert h' o' F' N' D'; intros)))
  (k_with "getMethod ref" => (k_here; (with_reducible show wpAny _ _ (getMethod (Value.ref _) (PySem.Str.ofString "get") _) _ _ _); k_dflt (apply t_getMethod; (case N => k_asm); (case hm => k_mem); (case hD => assumption); k_whole)))
  (k_with "call builtin:len" => (k_here; (with_reducible show wpAny _ _ (call (Value.builtin "len") [Value.ref _]) _ _ _); k_dflt (apply l_len; (case N => k_asm); (case hm => k_mem); (case hz => (simp only [List.size_toArray, List.length_map]; omega)); k_whole)))
  (k_with "compareOp In" => (k_here; (with_reducible show wpAny _ _ (compareOp CmpOp.In (Value.ref _) (Value.ref _)) _ _ _); k_dflt (apply t_in; (case N => k_asm); (case hm => k_mem); (case hD => assumption); (case hK => exact KeysIn.mono (by assumption) (by intro p hp; repeat (first | exact hp | refine List.Mem.tail _ ?_))); (case hq => k_mem); (case ht => exact tupO2); (case hu => ktr_units); (case lo => assumption); (case hb => assumption); k_whole)))
  (k_with "compareOp NotIn" => (k_here; (with_reducible show wpAny _ _ (compareOp CmpOp.NotIn (Value.ref _) (Value.ref _)) _ _ _); k_dflt (apply t_notIn; (case N => k_asm); (case hm => k_mem); (case hD => assumption); (case hK => exact KeysIn.mono (by assumption) (by intro p hp; repeat (first | exact hp | refine List.Mem.tail _ ?_))); (case hq => k_mem); (case ht => exact tupO2); (case hu => ktr_units); (case lo => assumption); (case hb => assumption); k_whole)))
  (k_with "call builtin:dict.get" => (k_here; (with_reducible show wpAny _ _ (call (Value.builtin _) [Value.ref _, Value.ref _, _]) _ _ _); k_dflt (apply t_get2; (case N => k_asm); (case hm => k_mem); (case hD => assumption); (case hK => exact KeysIn.mono (by assumption) (by intro p hp; repeat (first | exact hp | refine List.Mem.tail _ ?_))); (case hq => k_mem); (case ht => exact tupO2); (case hu => ktr_units); (case lo => assumption); (case hv => first | assumption | exact rfl); k_whole)))
  (k_with "setItem" => (k_here; (with_reducible show wpAny _ _ (setItem (Value.ref _) (Value.ref _) _) _ _ _); k_dflt (apply t_set; (case F => k_asm); (case N => k_asm); (case U => k_updF); (case hD => assumption); (case hK => exact KeysIn.mono (by assumption) (by intro p hp; repeat (first | exact hp | refine List.Mem.tail _ ?_))); (case hq => k_mem); (case ht => exact tupO2); (case hu => ktr_units); (case hz => assumption); k_whole); intro h' o' F' N' D'; (try dsimp only at N'); (try k_sweep); (revert h' o' F' N' D'; intros)))
  (k_with "delItem" => (k_here; (with_reducible show wpAny _ _ (delItem (Value.ref _) (Value.ref _)) _ _ _); k_dflt (apply t_del; (case F => k_asm); (case N => k_asm); (case U => k_updF); (case hD => assumption); (case hK => exact KeysIn.mono (by assumption) (by intro p hp; repeat (first | exact hp | refine List.Mem.tail _ ?_))); (case hq => k_mem); (case ht => exact tupO2); (case hu => ktr_units); (case hl => assumption); (case hz => assumption); k_whole); intro h' o' F' N' D'; (try dsimp only at N'); (try k_sweep); (revert h' o' F' N' D'; intros)))
  (k_with "eval Dict" => (k_here; k_dflt (refine' kdn_str ?q ?F ?N ?b ?a ?l ?e ?n ?_; (case q => rfl); (case F => k_asm); (case N => first | k_asm | exact News.nil); (case b => exact Top.nolimit (by k_asm)); (case a => rfl); (case l => rfl); (case e => exact List.cons_ne_nil _ _); (case n => exact Nat.le_of_ble_eq_true rfl)); intro d' h' o' F' N' l1 lo' hd'; (try k_lt l1); (revert d' h' o' F' N' l1 lo' hd'; intros)))
  (k_with "compareOp NotIn" => (k_here; (with_reducible show wpAny _ _ (compareOp CmpOp.NotIn (Value.int _ _) (Value.ref _)) _ _ _); k_dflt (apply li_notIn; (case N => k_asm); (case hm => k_mem); (case hi => assumption); (case hb => first | assumption | exact rfl); k_whole)))
  (k_with "compareOp In" => (k_here; (with_reducible show wpAny _ _ (compareOp CmpOp.In (Value.int _ _) (Value.ref _)) _ _ _); k_dflt (apply li_in; (case N => k_asm); (case hm => k_mem); (case hi => assumption); (case hb => first | assumption | exact rfl); k_whole)))
  (k_with "call builtin:list.append" => (k_here; (with_reducible show wpAny _ _ (call (Value.builtin _) [Value.ref _, _]) _ _ _); k_dflt (apply l_append; (case F => k_asm); (case N => k_asm); (case U => k_updF); (case hz => first | assumption | omega); k_whole); intro h' F' N'; (try dsimp only at N'); (revert h' F' N'; intros)))
  (k_with "call type:dict" => (k_here; (with_reducible show wpAny _ _ (call (Value.type "dict") [Value.ref _]) _ _ _); k_dflt (apply dict_copy2; (case F => k_asm); (case N => k_asm); (case hbig => exact Top.nolimit (by k_asm)); (case hm => k_mem); (case hD => assumption); (case hR => assumption); (case lo => assumption); k_whole); intro d' h' o' kvs' F' N' l1 lo' hd' hr'; (try k_lt l1); (revert d' h' o' kvs' F' N' l1 lo' hd' hr'; intros)))
  (k_with "compareOp NotIn int ref" => (k_here; (with_reducible show wpAny _ _ (compareOp CmpOp.NotIn (Value.int _ _) (Value.ref _)) _ _ _); k_dflt (apply li_notIn; (case N => k_asm); (case hm => k_mem); (case hi => assumption); (case hb => first | assumption | exact rfl); k_whole)))
  (k_with "compareOp In int ref" => (k_here; (with_reducible show wpAny _ _ (compareOp CmpOp.In (Value.int _ _) (Value.ref _)) _ _ _); k_dflt (apply li_in; (case N => k_asm); (case hm => k_mem); (case hi => assumption); (case hb => first | assumption | exact rfl); k_whole)))
  (k_with "eval Call" => (k_here; (with_reducible show wpAny _ _ (eval (Expr.Call (Expr.Name _ _) _ [] _) _) _ _ _); k_dflt (refine Call_ ?_)))
  (k_with "call builtin:sorted" => (k_here; (with_reducible show wpAny _ _ (call (Value.builtin "sorted") [Value.ref _]) _ _ _); k_dflt (apply d_sorted; (case hh => exact rfl); (case F => k_asm); (case N => k_asm); (case hm => k_mem); (case hD => assumption); (case lo => assumption); (case hz => first | decide | (simp; done)); (case hs => first | assumption | (simp; done)); k_whole); intro D' h' tk' vs' n' F' N' l1 hI'; (first | (k_dflt (have e1' := ints_nil hI'); subst e1'; clear hI') | (k_dflt (obtain ⟨t1', e1'⟩ := ints_one hI'); subst e1'; clear hI') | (k_dflt (obtain ⟨t1', t2', e1'⟩ := ints_two hI'); subst e1'; clear hI')); (try k_lt l1); (try k_sweep); ((first | revert D' h' tk' n' F' N' l1 t1' t2' | revert D' h' tk' n' F' N' l1 t1' | revert D' h' tk' n' F' N' l1); intros)))
  (k_with "eval Name" => (k_here; (with_reducible show wpAny _ _ (eval (Expr.Name _ _) (compEnvC _ _ _ _)) _ _ _); k_dflt (first
  | (apply ldVarK; (case hd => decide); (case hk => rfl); (case hl => rfl); (case F => assumption); (case hv => assumption); k_whole)
  | (apply lcf_free; (case hb => decide); (case hn => decide); (case hk => rfl); (case hx => rfl); (case N => k_asm); (case hc => rfl); (case hm => k_mem); (case hd => k_asm); k_whole))))
  (k_with "call builtin:list.pop" => (k_here; (with_reducible show wpAny _ _ (call (Value.builtin _) [Value.ref _]) _ _ _); k_dflt (apply l_pop; (case F => k_asm); (case N => k_asm); (case U => k_upd); (case hz => omega); k_whole); intro h' F' N'; (try dsimp only [List.nil_append, List.cons_append] at N'); (revert h' F' N'; intros)))
  (k_with "subscriptTail" => (k_here; (with_reducible show wpAny _ _ (subscriptTail _ _ (Value.ref _) (Value.int _ _)) _ _ _); k_dflt (apply l_at; (case N => k_asm); (case hm => k_mem); (case hx => assumption); (case h0 => first | assumption | decide); (case h1 => first | assumption | decide); (case hs => with_unfolding_all rfl); (case hg => intro _; with_unfolding_all rfl); k_whole)))
  (k_with "subscriptTail" => (k_here; (with_reducible show wpAny _ _ (subscriptTail _ _ (Value.ref _) (Value.int (-1) _)) _ _ _); k_dflt (apply l_last; (case N => k_asm); (case hm => k_mem); (case hx => assumption); (case hs => with_unfolding_all rfl); (case hg => intro _; with_unfolding_all rfl); k_whole)))
  (k_with "isTrue BoolOp" => (k_here; (with_reducible show wpAny _ _ (isTrue (Expr.BoolOp BoolOp.And [_, _] _) _ _) _ _ _); (with_reducible refine stop_mk ?_)))
  (k_with "call ref" => (k_here; (with_reducible show wpAny _ _ (call (Value.ref 389) _ _) _ _ _); (with_reducible refine stop_mk ?_)))
  (k_with "call ref" => (k_here; (with_reducible show wpAny _ _ (call (Value.ref 396) _ _) _ _ _); (with_reducible refine stop_mk ?_)))
  (k_with "call ref" => (k_here; (with_reducible show wpAny _ _ (call (Value.ref 417) _ _) _ _ _); (with_reducible refine stop_mk ?_)))
  (k_with "call ref" => (k_here; (with_reducible show wpAny _ _ (call (Value.ref 375) _ _) _ _ _); (with_reducible refine stop_mk ?_)))
  (k_with "call ref" => (k_here; (with_reducible show wpAny _ _ (call (Value.ref 382) _ _) _ _ _); (with_reducible refine stop_mk ?_)))
  (k_with "call ref" => (k_here; (with_reducible show wpAny _ _ (call (Value.ref 333) _ _) _ _ _); (with_reducible refine stop_mk ?_)))
  (k_with "call ref" => (k_here; (with_reducible show wpAny _ _ (call (Value.ref 312) _ _) _ _ _); (with_reducible refine stop_mk ?_)))
  (k_with "call ref" => (k_here; (with_reducible show wpAny _ _ (call (Value.ref 298) _ _) _ _ _); (with_reducible refine stop_mk ?_)))
  (k_with "call ref" => (k_here; (with_reducible show wpAny _ _ (call (Value.ref 60) _ _) _ _ _); (with_reducible refine stop_mk ?_)))
  (k_with "call ref" => (k_here; (with_reducible show wpAny _ _ (call (Value.ref 88) _ _) _ _ _); (with_reducible refine stop_mk ?_)))
  (k_with "call ref" => (k_here; (with_reducible show wpAny _ _ (call (Value.ref 305) _ _) _ _ _); (with_reducible refine stop_mk ?_)))
  (k_with "call ref" => (k_here; (with_reducible show wpAny _ _ (call (Value.ref 347) _ _) _ _ _); (with_reducible refine stop_mk ?_)))
  (k_with "call ref" => (k_here; (with_reducible show wpAny _ _ (call (Value.ref 340) _ _) _ _ _); (with_reducible refine stop_mk ?_)))
  (k_with "call ref" => (k_here; (with_reducible show wpAny _ _ (call (Value.ref 431) _ _) _ _ _); (with_reducible refine stop_mk ?_)))
  (k_with "call ref" => (k_here; (with_reducible show wpAny _ _ (call (Value.ref 448) _ _) _ _ _); (with_reducible refine stop_mk ?_)))
  (k_with "call ref" => (k_here; (with_reducible show wpAny _ _ (call (Value.ref 443) _ _) _ _ _); (with_reducible refine stop_mk ?_)))
  (k_with "exec For Name Call cons nil" => (k_here; (with_reducible refine stop_mk ?_)))
  (k_with "call type:range" => (k_here; (with_reducible refine stop_mk ?_)))
  (k_with "pyIter ref" => (k_here; (with_reducible refine stop_mk ?_)))
  (k_with "compareOp NotEq ref ref" => (k_here; (with_reducible refine stop_mk ?_)))
  (k_with "subscriptTail Name Slice ref ref" => (k_here; (with_reducible refine stop_mk ?_)))
  (k_with "eval ListComp" => (k_here; (with_reducible refine stop_mk ?_)))
  (k_with "call builtin:sum" => (k_here; (with_reducible refine stop_mk ?_)))
  trivial
theorem c_stage {w : World} {mean : ExcName → Option Value} {mg mb : Str → Option Value} {st dst acc ac dac sto jl tch des ws org wo lg : Addr} {oacc odes otch osto : Obj} {kS kA : Nat → Tok} {tn tb tc tr : Tok} {r home s1 s2 : Int} {σ : Int → Int} {kvs : List (Int × Value)} (nd : Apart [st, dst, acc, ac, dac, sto, tch, des]) (lo1 : (acc == sysModules) = false) (lo2 : (sto == sysModules) = false) (lo3 : (tch == sysModules) = false) (lo4 : (des == sysModules) = false) (hacc : oacc.IsDictOf (intKind PP w) [(home, .ref ac)]) (hdes : odes.IsDictOf (intKind PP w) []) (hsto : osto.IsDictOf (intKind PP w) kvs) (hkv : StoRep kvs σ) (hkn : ∀ p ∈ kvs, p.1 = s1 ∨ p.1 = s2) {c cl sm fd : Addr} {oc oF : Obj} {cvs smv : List Value} {cns smn : List Int} {ncl nsm : Nat} {turn : Int} {tt : Tok} {kvF : List (Int × Value)} (b : Bool) (htch : otch.IsDictOf (intKind PP w) (if b then [(home, .bool true)] else [])) (hF : oF.IsDictOf (intKind PP w) kvF) (hR : HeldRep s1 s2 kvF σ) (loF : (fd == sysModules) = false) (h12 : s1 < s2) (hc : caskIs w oc cl turn tt) (h0 : 0 ≤ turn) (hci : IntsAre cvs cns) (hcl : cns.length ≤ 63) (hsi : IntsAre smv smn) (hsm4 : smn.length = 4) (hap : Apart [c, cl, sm, fd]) (hO : OffL [(c, oc), (cl, listOf cvs.toArray ncl), (sm, listOf smv.toArray nsm), (fd, oF)] [(st, instObj 399 dst), (dst, sObj w kS acc jl tch des wo ws org lg r tr), (acc, oacc), (ac, instObj 112 dac), (dac, aObj w kA sto tn tb tc), (sto, osto), (tch, otch), (des, odes)]) (th : Tok) :
    Con w mean mg mb 453 [.ref c, .ref st, .int home th, .ref fd, .ref sm] 14 ((c, oc) :: (cl, listOf cvs.toArray ncl) :: (sm, listOf smv.toArray nsm) :: (fd, oF) :: [(st, instObj 399 dst), (dst, sObj w kS acc jl tch des wo ws org lg r tr), (acc, oacc), (ac, instObj 112 dac), (dac, aObj w kA sto tn tb tc), (sto, osto), (tch, otch), (des, odes)]) (fun _ => True) (fun h v h' => ∃ hd oH kvH oc' turn' tt' σ' P C r', v = .ref hd ∧ oH.IsDictOf (intKind PP w) kvH ∧ HeldRep s1 s2 kvH σ' ∧ (hd == sysModules) = false ∧ caskIs w oc' cl turn' tt' ∧ 0 ≤ turn' ∧ P.st = st ∧ StAOK w home P ∧ StCOK w home s1 s2 σ P C ⟨σ', false, fun _ => false, r'⟩ [] (fun _ => false) ∧ Sat h' ((hd, oH) :: (c, oc') :: (cl, listOf cvs.toArray ncl) :: (sm, listOf smv.toArray nsm) :: P.led w C r') ∧ Grows h ((c, oc) :: (cl, listOf cvs.toArray ncl) :: (sm, listOf smv.toArray nsm) :: (fd, oF) :: [(st, instObj 399 dst), (dst, sObj w kS acc jl tch des wo ws org lg r tr), (acc, oacc), (ac, instObj 112 dac), (dac, aObj w kA sto tn tb tc), (sto, osto), (tch, otch), (des, odes)]) ((hd, oH) :: (c, oc') :: (cl, listOf cvs.toArray ncl) :: (sm, listOf smv.toArray nsm) :: P.led w C r') ∧ OffL [(hd, oH), (c, oc'), (cl, listOf cvs.toArray ncl), (sm, listOf smv.toArray nsm)] (P.led w C r') ∧ Apart [hd, c, cl, sm]) := by
  unfold Con
  k_fill
  intro dp un gd cn cs a ccd cells outer A₀ base h₀ L m s Q E B F X N T hk hpre hd hu hret
  refine wpAny_call ?_
  k_dflt (refine' enterHF ?k1_q ?k2_q ?k3_q ?k4_q ?k5_q ?kA_q ?kF_q ?kK_q ?k6_q ?k7_q ?k8_q ?k9_q ?kB_q ?_ ?c2_q ?c3_q ?c4_q ?c5_q; (case kA_q => exact rfl); (case kF_q => exact rfl); (case kK_q => assumption); (case k1_q => k_asm); (case k2_q => k_asm); (case k3_q => k_asm); (case k4_q => k_asm); (case k5_q => k_asm); (case k6_q => k_is); (case k7_q => k_is); (case k8_q => ktr_room); (case k9_q => exact BindsTo.of_eq rfl); (case c5_q => decide); (case kB_q => exact locs rfl); (case c2_q => exact rfl); (case c3_q => exact rfl); (case c4_q => exact rfl); k_whole; intro g' L' h' evX AX mmX gSX dSX oSX FG' F' N' B' X' T' hg' hL'; (try dsimp only); (try k_fold))
  obtain ⟨tf1, tf2, rfl⟩ := hR
  have hs9 : (([(s1, Value.int (σ s1) tf1), (s2, Value.int (σ s2) tf2)] : List (Int × Value)).map (·.1)).Pairwise (· ≤ ·) := by
    simp; omega
  have nd0 := nd
  have hap0 := hap
  show let GX : Prop := _; GX
  intro GX
  obtain ⟨⟨n_c_cl, n_c_sm, n_c_fd, _⟩, ⟨n_cl_sm, n_cl_fd, _⟩, ⟨n_sm_fd, _⟩, _⟩ := hap
  k_unfold
  clear GX
  k_steps
  refine stop_out ?_
  refine' Con.useG (c_begin (s1 := s1) (s2 := s2) (fst := σ) (σ := σ) (home := home) nd lo1 lo2 lo3 lo4 hacc hdes hsto hkv hkn b htch) [(c, oc), (cl, listOf cvs.toArray ncl), (sm, listOf smv.toArray nsm), (fd, oF)] ?kB_q ?kF_q ?kX_q (News.perm ?kN_q ?ks_q) hO ?kT_q ?kh_q trivial ?kd_q ?ku_q ?kk_q
  case kB_q => k_asm
  case kF_q => k_asm
  case kX_q => k_asm
  case kT_q => k_asm
  case kN_q => k_asm
  case ks_q => ((try dsimp only [List.cons_append, List.nil_append]); repeat (first | (with_reducible refine List.forall_mem_cons.mpr ⟨?_, ?_⟩; focus (show _ ∈ _; k_dflt k_mem)) | (with_reducible refine List.forall_mem_append.mpr ⟨?_, ?_⟩) | exact List.forall_mem_nil _ | (intro p hp; repeat (first | exact hp | with_reducible exact List.mem_append_left _ hp | with_reducible refine List.mem_append_right _ ?_ | with_reducible refine List.mem_cons_of_mem _ ?_))))
  case kh_q => exact rfl
  case kd_q => ktr_room
  case ku_q => ktr_units
  case kk_q =>
  rintro v5 h5 tk5 ⟨rfl, P, C, rfl, hP, hC, hsat5, hgr5⟩ F5 N5 k5
  obtain ⟨n5, hO5⟩ := k5 _ hsat5 hgr5
  have N6 := N5.append n5
  clear N5 n5 k5 hsat5
  dsimp only [List.cons_append, List.nil_append] at N6
  k_sweep
  k_steps
  rename_i slD _ _ nS tS1 tS2 lA sd _ lB nt _ lC DT _ lD _ _ _ _ _ _ F7 N7
  have n_c_sl : Ne' c slD := Nat.ne_of_lt lA.1
  have n_cl_sl : Ne' cl slD := Nat.ne_of_lt lA.2.1
  have n_sm_sl : Ne' sm slD := Nat.ne_of_lt lA.2.2.1
  have n_fd_sl : Ne' fd slD := Nat.ne_of_lt lA.2.2.2.1
  have n_sl_sd : Ne' slD sd := Nat.ne_of_lt lB.1
  have n_c_sd : Ne' c sd := Nat.ne_of_lt lB.2.1
  have n_cl_sd : Ne' cl sd := Nat.ne_of_lt lB.2.2.1
  have n_sm_sd : Ne' sm sd := Nat.ne_of_lt lB.2.2.2.1
  have n_fd_sd : Ne' fd sd := Nat.ne_of_lt lB.2.2.2.2.1
  have n_sd_nt : Ne' sd nt := Nat.ne_of_lt lC.1
  have n_sl_nt : Ne' slD nt := Nat.ne_of_lt lC.2.1
  have n_c_nt : Ne' c nt := Nat.ne_of_lt lC.2.2.1
  have n_cl_nt : Ne' cl nt := Nat.ne_of_lt lC.2.2.2.1
  have n_sm_nt : Ne' sm nt := Nat.ne_of_lt lC.2.2.2.2.1
  have n_fd_nt : Ne' fd nt := Nat.ne_of_lt lC.2.2.2.2.2.1
  have hap7 : Apart [sd, nt, c, slD, cl, sm, fd] :=
    ⟨⟨n_sd_nt, Ne'.s n_c_sd, Ne'.s n_sl_sd, Ne'.s n_cl_sd, Ne'.s n_sm_sd, Ne'.s n_fd_sd, trivial⟩, ⟨Ne'.s n_c_nt, Ne'.s n_sl_nt, Ne'.s n_cl_nt, Ne'.s n_sm_nt, Ne'.s n_fd_nt, trivial⟩, ⟨n_c_sl, n_c_cl, n_c_sm, n_c_fd, trivial⟩,
      ⟨Ne'.s n_cl_sl, Ne'.s n_sm_sl, Ne'.s n_fd_sl, trivial⟩, ⟨n_cl_sm, n_cl_fd, trivial⟩, ⟨n_sm_fd, trivial⟩, trivial, trivial⟩
  have offP : OwnOff (P.led w C 0) [sd, nt, c, slD, cl, sm, fd] := by
    intro q hq b hb
    simp only [List.mem_cons, List.not_mem_nil, or_false] at hb
    rcases hb with rfl | rfl | rfl | rfl | rfl | rfl | rfl
    · exact allLt_ne lB.2.2.2.2.2 q hq
    · exact allLt_ne lC.2.2.2.2.2.2 q hq
    · exact hO5 _ (.head _) q hq
    · exact allLt_ne lA.2.2.2.2 q hq
    · exact hO5 _ (.tail _ (.head _)) q hq
    · exact hO5 _ (.tail _ (.tail _ (.head _))) q hq
    · exact hO5 _ (.tail _ (.tail _ (.tail _ (.head _)))) q hq
  have N8 : News _ _ _ ([(sd, listOf ([] : List Value).toArray 0), (nt, listOf ([] : List Value).toArray 0), (c, oc), (slD, listOf [Value.int s1 tS1, Value.int s2 tS2].toArray nS), (cl, listOf cvs.toArray ncl), (sm, listOf smv.toArray nsm), (fd, oF)] ++ ([] ++ P.led w C 0)) := News.perm N7 (by ((try dsimp only [List.cons_append, List.nil_append]); repeat (first | (with_reducible refine List.forall_mem_cons.mpr ⟨?_, ?_⟩; focus (show _ ∈ _; k_dflt k_mem)) | (with_reducible refine List.forall_mem_append.mpr ⟨?_, ?_⟩) | exact List.forall_mem_nil _ | (intro p hp; repeat (first | exact hp | with_reducible exact List.mem_append_left _ hp | with_reducible refine List.mem_append_right _ ?_ | with_reducible refine List.mem_cons_of_mem _ ?_)))))
  clear N7 lA lB lC lD hO5
  refine stop_out ?_
  refine' For_invV (h₀ := g') ?hx1_q ?hp1_q ?G1_q ?S1_q ?E1_q
  case hx1_q => rfl
  case hp1_q => rfl
  case S1_q => intro _; rfl
  case E1_q => passes_own
  case G1_q =>
  dsimp only [List.cons_append, List.nil_append] at N8
  k_steps
  refine stop_out ?_
  refine' useDip (many := 3) (ncl := ncl) (cvs := cvs) (cns := cns) ((sd, listOf ([] : List Value).toArray 0) :: (nt, listOf ([] : List Value).toArray 0) :: (slD, listOf [Value.int s1 tS1, Value.int s2 tS2].toArray nS) :: (cl, listOf cvs.toArray ncl) :: (sm, listOf smv.toArray nsm) :: (fd, oF) :: P.led w C 0) hc hci hcl (by omega) (by decide) (.tail _ (.tail _ (.tail _ (.head _)))) (by (repeat (first | (with_reducible refine List.forall_mem_cons.mpr ⟨?_, ?_⟩; focus ((try dsimp only); first | exact Ne'.o (by with_reducible assumption) | exact Ne'.s (by with_reducible assumption) | (show @Ne Nat _ _; first | k_extra "ne" | omega))) | (with_reducible refine List.forall_mem_append.mpr ⟨?_, ?_⟩) | exact List.forall_mem_nil _ | exact allLt_ne (by assumption) | (refine OwnOff.ne (by assumption) ?_; focus (k_dflt k_mem))))) ?kB1_q ?kF1_q ?kX1_q (News.perm ?kN1_q ?ks1_q) ?kT1_q ?kh1_q ?kd1_q ?ku1_q ?kk1_q
  case kB1_q => k_asm
  case kF1_q => k_asm
  case kX1_q => k_asm
  case kT1_q => k_asm
  case kN1_q => k_asm
  case ks1_q => ((try dsimp only [List.cons_append, List.nil_append]); repeat (first | (with_reducible refine List.forall_mem_cons.mpr ⟨?_, ?_⟩; focus (show _ ∈ _; k_dflt k_mem)) | (with_reducible refine List.forall_mem_append.mpr ⟨?_, ?_⟩) | exact List.forall_mem_nil _ | (intro p hp; repeat (first | exact hp | with_reducible exact List.mem_append_left _ hp | with_reducible refine List.mem_append_right _ ?_ | with_reducible refine List.mem_cons_of_mem _ ?_))))
  case kh1_q => exact rfl
  case kd1_q => ktr_room
  case ku1_q => ktr_units
  case kk1_q =>
  intro r1 t1 tt1 oc1 h1 tk1 hr01 hr11 hc1 F1 N1

  k_sweep
  k_steps
  refine stop_out ?_
  refine call_range_1 ?_
  have F2 := F1.push { cls := .type "range", data := .fields #[.int 0 (tk1 + 1), .int (5 + r1) tk1, .int 1 (tk1 + 1 + 1)] }
  have N2 := news_push (o := { cls := .type "range", data := .fields #[.int 0 (tk1 + 1), .int (5 + r1) tk1, .int 1 (tk1 + 1 + 1)] }) N1
  clear F1 N1
  k_steps
  refine stop_out ?_
  refine' lp_range (n := (5 + r1).toNat) ?hh1_q (IsRange.new ..) ?small1_q ?rs1_q F2 (News.perm N2 ?ks2_q) (LapJ w home s1 s2 σ P nt c slD cl sm fd (listOf [Value.int s1 tS1, Value.int s2 tS2].toArray nS) (listOf cvs.toArray ncl) (listOf smv.toArray nsm) oF) ⟨sd, 0, 0, C, ⟨σ, false, fun _ => false, 0⟩, [], fun _ => false, [], [], [], [], [], oc1, turn + 1, tt1, rfl, lap_init hC hc1 (by omega) hap7 offP, rfl, Agree.refl⟩ ?step3_q ?done3_q
  case hh1_q => rfl
  case small1_q => exact small_one (by omega) (by omega) (by omega) (by omega)
  case rs1_q => rw [rangeSize_nat]; simp
  case ks2_q => dsimp only [List.nil_append]; ((try dsimp only [List.cons_append, List.nil_append]); repeat (first | (with_reducible refine List.forall_mem_cons.mpr ⟨?_, ?_⟩; focus (show _ ∈ _; k_dflt k_mem)) | (with_reducible refine List.forall_mem_append.mpr ⟨?_, ?_⟩) | exact List.forall_mem_nil _ | (intro p hp; repeat (first | exact hp | with_reducible exact List.mem_append_left _ hp | with_reducible refine List.mem_append_right _ ?_ | with_reducible refine List.mem_cons_of_mem _ ?_))))
  case done3_q =>
    clear F2 N2 hC hsto hkv hkn htch hdes hacc nd0 hap0 offP hap7 hgr5 hc1
    rintro h1 tk1 m1 nw F1 N1 ⟨sd, n1, n2, C, S, Js, W, st, notes, sv, nv, trest, oc, turn, tt, rfl, hL, hsd, hA⟩
    have hi8 : (5 + r1).toNat ≤ 8 := by omega
    show let GX : Prop := _; GX
    intro GX
    obtain ⟨hS, hM, hN, hU, hsv, hnv, hsl, hl1, hl2, hl3, hc, h0, hap, hot, hof1, hof2⟩ := hL
    k_unfold
    clear GX
    refine apart7 hap fun n_sd_nt n_sd_c n_sd_sl n_sd_cl n_sd_sm n_sd_fd n_nt_c n_nt_sl n_nt_cl n_nt_sm n_nt_fd n_c_sl n_c_cl n_c_sm n_c_fd n_sl_cl n_sl_sm n_sl_fd n_cl_sm n_cl_fd n_sm_fd => ?_
    have hO : OffL ((sd, listOf (List.toArray sv) n1) :: (nt, listOf (List.toArray nv) n2) :: (c, oc) :: (slD, listOf [Value.int s1 tS1, Value.int s2 tS2].toArray nS) :: (cl, listOf cvs.toArray ncl) :: (sm, listOf smv.toArray nsm) :: (fd, oF) :: trest) (P.led w C S.rfd) := off7 hof1 hof2
    have e9 : m1 = fun y => ovr m1 _ [Str.ofString "lap", Str.ofString "way", Str.ofString "many", Str.ofString "spot", Str.ofString "stood", Str.ofString "slot", Str.ofString "is_cold", Str.ofString "told_now", Str.ofString "fresh"] y := hA.eta
    simp only [ovr] at e9
    rw [hsd] at e9
    clear hsd hA
    generalize m1 (Str.ofString "lap") = u1 at e9
    generalize m1 (Str.ofString "way") = u2 at e9
    generalize m1 (Str.ofString "many") = u3 at e9
    generalize m1 (Str.ofString "spot") = u4 at e9
    generalize m1 (Str.ofString "slot") = u6 at e9
    generalize m1 (Str.ofString "is_cold") = u7 at e9
    generalize m1 (Str.ofString "told_now") = u8 at e9
    generalize m1 (Str.ofString "fresh") = u9 at e9
    subst e9
    k_sweep
    k_steps
    have hnet := net_law (fst := σ) (Int.ne_of_lt h12) st hsl
    have hlk := walked_len σ st
    refine stop_out ?_
    refine' Con.useG (c_walked hF ⟨tf1, tf2, rfl⟩ loF hsv hsl (by omega) (Int.ne_of_lt h12) (Ne'.s n_sd_fd) (fun p hp x hx => hot p hp x (by simp at hx; rcases hx with rfl | rfl <;> simp))) (((nt, listOf (List.toArray nv) n2) :: (c, oc) :: (slD, listOf [Value.int s1 tS1, Value.int s2 tS2].toArray nS) :: (cl, listOf cvs.toArray ncl) :: [(sm, listOf smv.toArray nsm)]) ++ P.led w C S.rfd) ?kB31_q ?kF31_q ?kX31_q (News.perm ?kN31_q ?ks31_q) (offWalked (by (repeat (first | (with_reducible refine List.forall_mem_cons.mpr ⟨?_, ?_⟩; focus ((try dsimp only); (first | exact Ne'.o (by with_reducible assumption) | exact Ne'.s (by with_reducible assumption) | (show @Ne Nat _ _; first | k_extra "ne" | omega)))) | (with_reducible refine List.forall_mem_append.mpr ⟨?_, ?_⟩) | (with_reducible assumption) | exact List.forall_mem_nil _ | (refine OwnOff.ne (by assumption) ?_; focus (simp; done)) | exact allLt_ne (by assumption)))) (by (repeat (first | (with_reducible refine List.forall_mem_cons.mpr ⟨?_, ?_⟩; focus ((try dsimp only); (first | exact Ne'.o (by with_reducible assumption) | exact Ne'.s (by with_reducible assumption) | (show @Ne Nat _ _; first | k_extra "ne" | omega)))) | (with_reducible refine List.forall_mem_append.mpr ⟨?_, ?_⟩) | (with_reducible assumption) | exact List.forall_mem_nil _ | (refine OwnOff.ne (by assumption) ?_; focus (simp; done)) | exact allLt_ne (by assumption)))) (OffL.cons (fun q hq => hot q hq _ (by simp)) (OffL.cons (fun q hq => hot q hq _ (by simp)) (OffL.cons (fun q hq => hot q hq _ (by simp)) (OffL.cons (fun q hq => hot q hq _ (by simp)) (OffL.cons (fun q hq => hot q hq _ (by simp)) OffL.nil))))) (off7' hof1 hof2)) ?kT31_q ?kh31_q trivial ?kd31_q ?ku31_q ?kk31_q
    case kB31_q => k_asm
    case kF31_q => k_asm
    case kX31_q => k_asm
    case kT31_q => k_asm
    case kN31_q => k_asm
    case ks31_q => ((try dsimp only [List.cons_append, List.nil_append]); repeat (first | (with_reducible refine List.forall_mem_cons.mpr ⟨?_, ?_⟩; focus (show _ ∈ _; k_dflt k_mem)) | (with_reducible refine List.forall_mem_append.mpr ⟨?_, ?_⟩) | exact List.forall_mem_nil _ | (intro p hp; repeat (first | exact hp | with_reducible exact List.mem_append_left _ hp | with_reducible refine List.mem_append_right _ ?_ | with_reducible refine List.mem_cons_of_mem _ ?_))))
    case kh31_q => exact rfl
    case kd31_q => ktr_room
    case ku31_q => ktr_units
    case kk31_q =>
    rintro v5 h5 tk5 ⟨led5, ⟨q, hd5, oH, kvH, pl, pv, np, cl5, cv, nc, rfl, mq, mh, mp, mc, hDH, loH, hRH, hpv, hcv⟩, hsat5, hgr5, hsatF⟩ F5 N5 k5
    obtain ⟨n5, o5⟩ := k5 _ hsat5 hgr5
    obtain ⟨nF, -⟩ := k5 _ hsatF (fun p hp => .inl (List.mem_map_of_mem hp))
    have N6 := news_st (news_done (news_walked N5 nF) n5 mq mh mp)
    clear N5
    (try simp only [List.cons_append, List.nil_append, List.append_assoc] at N6)
    k_sweep
    k_steps
    refine stop_out ?_
    rename_i F7 N7
    k_dflt (refine LCp.ListComp_P (F₀ := F7) (by with_unfolding_all rfl) (by decide) (by rfl) (by decide) (by rfl) (by rfl) (by decide) ?_)
    k_dflt (refine' nameX_L ?Fr_q ?vr_q ?gr_q ?ar_q ?br_q; (case Fr_q => exact F7); (case ar_q => rfl); (case br_q => rfl); (case vr_q => rfl); k_whole)
    refine LCp.SrcLP.ledger (by rfl) F7 N7 (by k_dflt k_mem) (by rw [List.size_toArray, hpv.1, hlk.1, sizeLine_eq]; omega) ?_
    intro g4
    refine restP_run (xs := (walked σ st).pairs) (R := fun p v => ∃ t, v = .int p.1 t) (G := fun zs ys => IntsAre ys (zs.map (·.1))) (.inr ⟨_, by k_dflt k_mem, rfl, _, rfl⟩) hpv.1 .nil (by
      rintro zs ys x y hG ⟨t, rfl⟩
      rw [List.map_append]
      exact hG.append (.cons _ _ .nil)) ?_ ?_
    · intro i a ha
      show let GX : Prop := _; GX
      intro GX
      obtain ⟨ad, o, hv, hma, t, u, rfl⟩ := hpv.2 i a ha
      k_unfold
      clear GX
      refine ⟨ad, _, .int a.1 t, .int a.2 u, 0, hv, by repeat (first | exact List.mem_append_left _ hma | exact List.mem_append_right _ (List.mem_append_left _ hma) | refine List.mem_cons_of_mem _ ?_), rfl, rfl, ?_⟩
      intro C h tk m₂ E' hns hx1 hx2 F9 N9
      k_steps
    · intro ys hG D h7 tk7 F8 N8 hD7
      clear N7
      k_steps
      refine stop_out ?_
      refine' sumK (ns := (walked σ st).pairs.map (·.1)) (l := D) (vs := ys) ?hh7_q ?F17_q ?N17_q ?L17_q hG ?h17_q
      case hh7_q => rfl
      case F17_q => k_asm
      case N17_q => k_asm
      case L17_q => exact ⟨_, (N8 _ (.head _)).1, rfl, _, rfl⟩
      case h17_q =>
      intro h8 tk8 t8 F18 N18
      k_sweep
      have hr1 : ((walked σ st).pairs.map (·.1)).sum = netSlot σ st s1 + netSlot σ st s2 + S.rfd := by
        have h1 : sumC (walked σ st).pairs = ((walked σ st).pairs.map (·.1)).sum := rfl
        rw [hM.hrfd]; omega
      rw [hr1]
      k_steps
      refine stop_out ?_
      refine' (c_net hF ⟨tf1, tf2, rfl⟩ loF hsv (by omega) (Int.ne_of_lt h12) (Ne'.s n_sd_fd)).use ?kB32_q ?kF32_q ?kX32_q (News.perm ?kN32_q ?ks32_q) ?kT32_q ?kh32_q trivial ?kd32_q ?ku32_q ?kk32_q
      case kB32_q => k_asm
      case kF32_q => k_asm
      case kX32_q => k_asm
      case kT32_q => k_asm
      case kN32_q => k_asm
      case ks32_q => ((try dsimp only [List.cons_append, List.nil_append]); repeat (first | (with_reducible refine List.forall_mem_cons.mpr ⟨?_, ?_⟩; focus (show _ ∈ _; k_dflt k_mem)) | (with_reducible refine List.forall_mem_append.mpr ⟨?_, ?_⟩) | exact List.forall_mem_nil _ | (intro p hp; repeat (first | exact hp | with_reducible exact List.mem_append_left _ hp | with_reducible refine List.mem_append_right _ ?_ | with_reducible refine List.mem_cons_of_mem _ ?_))))
      case kh32_q => exact rfl
      case kd32_q => ktr_room
      case ku32_q => ktr_units
      case kk32_q =>
      rintro v19 h19 tk19 F19 K19 ⟨⟨t19, rfl⟩, sat19⟩
      have N19 := news_same N18 K19 (sat_sub (led := ((fd, oF) :: (sd, listOf (List.toArray sv) n1) :: trest)) N18 (by ((try dsimp only [List.cons_append, List.nil_append]); repeat (first | (with_reducible refine List.forall_mem_cons.mpr ⟨?_, ?_⟩; focus (show _ ∈ _; k_dflt k_mem)) | (with_reducible refine List.forall_mem_append.mpr ⟨?_, ?_⟩) | exact List.forall_mem_nil _ | (intro p hp; repeat (first | exact hp | with_reducible exact List.mem_append_left _ hp | with_reducible refine List.mem_append_right _ ?_ | with_reducible refine List.mem_cons_of_mem _ ?_)))))) sat19
      clear N18 F18 K19 sat19
      k_sweep
      k_steps
      · exact absurd (show netSlot σ st s1 + netSlot σ st s2 + S.rfd - S.rfd = netSlot σ st s1 + netSlot σ st s2 by omega) (by assumption)
      have hoe : OffL [(hd5, oH), (c, oc), (cl, listOf cvs.toArray ncl), (sm, listOf smv.toArray nsm)] (P.led w C S.rfd) := OffL.cons (fun q hq => (o5 q (List.mem_append_right _ hq) _ mh).symm) (OffL.cons (fun q hq => hof1 q hq _ (by simp)) (OffL.cons (fun q hq => hof1 q hq _ (by simp)) (OffL.cons (fun q hq => hof1 q hq _ (by simp)) OffL.nil)))
      refine stop_out ?_
      refine' Con.useG (c_end (s1 := s1) (s2 := s2) (fst := σ) (σ := S.sto) (home := home) hP.nd8 hP.lo1 hP.lo2 hP.lo3 hP.lo4 hP.hacc hP.hdes hS.hsto hS.hkv hS.hkn S.tch hS.htch) [(hd5, oH), (c, oc), (cl, listOf cvs.toArray ncl), (sm, listOf smv.toArray nsm)] ?kB33_q ?kF33_q ?kX33_q (News.perm ?kN33_q ?ks33_q) (hoe.subr StA.led8) ?kT33_q ?kh33_q trivial ?kd33_q ?ku33_q ?kk33_q
      case kB33_q => k_asm
      case kF33_q => k_asm
      case kX33_q => k_asm
      case kT33_q => k_asm
      case kN33_q => k_asm
      case ks33_q =>
        refine List.forall_mem_append.mpr ⟨?_, fun p hp => ?_⟩
        · ((try dsimp only [List.cons_append, List.nil_append]); repeat (first | (with_reducible refine List.forall_mem_cons.mpr ⟨?_, ?_⟩; focus (show _ ∈ _; k_dflt k_mem)) | (with_reducible refine List.forall_mem_append.mpr ⟨?_, ?_⟩) | exact List.forall_mem_nil _ | (intro p hp; repeat (first | exact hp | with_reducible exact List.mem_append_left _ hp | with_reducible refine List.mem_append_right _ ?_ | with_reducible refine List.mem_cons_of_mem _ ?_))))
        · have hp2 := StA.led8 p hp
          repeat (first | exact hp2 | with_reducible refine List.mem_append_right _ ?_ | refine List.mem_cons_of_mem _ ?_)
      case kh33_q => exact rfl
      case kd33_q => ktr_room
      case ku33_q => ktr_units
      case kk33_q =>
      rintro v20 h20 tk20 ⟨rfl, P2, C2, hst2, hP2, hC2, hsat2, hgr2⟩ F20 N20 k20
      obtain ⟨n20, o20⟩ := k20 _ hsat2 hgr2
      have N21 := N20.append n20
      clear N20 n20 k20 hsat2 hgr2
      (try simp only [List.cons_append, List.nil_append, List.append_assoc] at N21)
      k_sweep
      k_steps
      refine' hret _ _ _ ?F22_q (keeps_end hg' ?K22_q) ⟨hd5, oH, kvH, oc, turn, tt, S.sto, P2, C2, S.rfd, rfl, hDH, by rw [hM.hsto]; exact hRH, loH, hc, h0, hst2, hP2, hC2, sat_sub (by assumption) ?S22_q, grows_of hg' (by assumption) ?G22_q, o20, ?A22_q⟩
      case F22_q => k_asm
      case K22_q => k_asm
      case S22_q => ((try dsimp only [List.cons_append, List.nil_append]); repeat (first | (with_reducible refine List.forall_mem_cons.mpr ⟨?_, ?_⟩; focus (show _ ∈ _; k_dflt k_mem)) | (with_reducible refine List.forall_mem_append.mpr ⟨?_, ?_⟩) | exact List.forall_mem_nil _ | (intro p hp; repeat (first | exact hp | with_reducible exact List.mem_append_left _ hp | with_reducible refine List.mem_append_right _ ?_ | with_reducible refine List.mem_cons_of_mem _ ?_))))
      case G22_q => ((try dsimp only [List.cons_append, List.nil_append]); repeat (first | (with_reducible refine List.forall_mem_cons.mpr ⟨?_, ?_⟩; focus (show _ ∈ _; k_dflt k_mem)) | (with_reducible refine List.forall_mem_append.mpr ⟨?_, ?_⟩) | exact List.forall_mem_nil _ | (intro p hp; repeat (first | exact hp | with_reducible exact List.mem_append_left _ hp | with_reducible refine List.mem_append_right _ ?_ | with_reducible refine List.mem_cons_of_mem _ ?_))))
      case A22_q => exact ⟨⟨(o5 (c, oc) (List.mem_append_left _ (.tail _ (.head _))) _ mh), (o5 (cl, listOf cvs.toArray ncl) (List.mem_append_left _ (.tail _ (.tail _ (.tail _ (.head _))))) _ mh), (o5 (sm, listOf smv.toArray nsm) (List.mem_append_left _ (.tail _ (.tail _ (.tail _ (.tail _ (.head _)))))) _ mh), trivial⟩, ⟨n_c_cl, n_c_sm, trivial⟩, ⟨n_cl_sm, trivial⟩, trivial, trivial⟩
  case step3_q =>
    clear F2 N2 hC hsto hkv hkn htch hdes hacc nd0 hap0 offP hap7 hgr5 hc1
    rintro I i tI m1 nw h1 tk1 io hi ⟨sd, n1, n2, C, S, Js, W, st, notes, sv, nv, trest, oc, turn, tt, rfl, hL, hsd, hA⟩ hn F1 N1
    have hi8 : i < 8 := by omega
    show let GX : Prop := _; GX
    intro GX
    obtain ⟨hS, hM, hN, hU, hsv, hnv, hsl, hl1, hl2, hl3, hc, h0, hap, hot, hof1, hof2⟩ := hL
    k_unfold
    clear GX
    have hap0 := hap
    refine apart7 hap fun n_sd_nt n_sd_c n_sd_sl n_sd_cl n_sd_sm n_sd_fd n_nt_c n_nt_sl n_nt_cl n_nt_sm n_nt_fd n_c_sl n_c_cl n_c_sm n_c_fd n_sl_cl n_sl_sm n_sl_fd n_cl_sm n_cl_fd n_sm_fd => ?_
    have n_sd_I : Ne' sd I := hn _ (.head _)
    have n_nt_I : Ne' nt I := hn _ (.tail _ (.head _))
    have n_c_I : Ne' c I := hn _ (.tail _ (.tail _ (.head _)))
    have n_sl_I : Ne' slD I := hn _ (.tail _ (.tail _ (.tail _ (.head _))))
    have n_cl_I : Ne' cl I := hn _ (.tail _ (.tail _ (.tail _ (.tail _ (.head _)))))
    have n_sm_I : Ne' sm I := hn _ (.tail _ (.tail _ (.tail _ (.tail _ (.tail _ (.head _))))))
    have n_fd_I : Ne' fd I := hn _ (.tail _ (.tail _ (.tail _ (.tail _ (.tail _ (.tail _ (.head _)))))))
    have n_st_sd : Ne' P.st sd := hof1 _ StA.led_st _ (.head _)
    have n_st_nt : Ne' P.st nt := hof1 _ StA.led_st _ (.tail _ (.head _))
    have n_st_c : Ne' P.st c := hof1 _ StA.led_st _ (.tail _ (.tail _ (.head _)))
    have n_dst_sd : Ne' P.dst sd := hof1 _ StA.led_dst _ (.head _)
    have n_dst_nt : Ne' P.dst nt := hof1 _ StA.led_dst _ (.tail _ (.head _))
    have n_dst_c : Ne' P.dst c := hof1 _ StA.led_dst _ (.tail _ (.tail _ (.head _)))
    have hO : OffL ((I, io) :: (sd, listOf (List.toArray sv) n1) :: (nt, listOf (List.toArray nv) n2) :: (c, oc) :: (slD, listOf [Value.int s1 tS1, Value.int s2 tS2].toArray nS) :: (cl, listOf cvs.toArray ncl) :: (sm, listOf smv.toArray nsm) :: (fd, oF) :: trest) (P.led w C S.rfd) := OffL.cons (fun q hq => hn q (by repeat (first | exact List.mem_append_right _ hq | refine List.mem_cons_of_mem _ ?_))) (off7 hof1 hof2)
    have e9 : m1 = fun y => ovr m1 _ [Str.ofString "lap", Str.ofString "way", Str.ofString "many", Str.ofString "spot", Str.ofString "stood", Str.ofString "slot", Str.ofString "is_cold", Str.ofString "told_now", Str.ofString "fresh"] y := hA.eta
    simp only [ovr] at e9
    rw [hsd] at e9
    clear hsd hA
    generalize m1 (Str.ofString "lap") = u1 at e9
    generalize m1 (Str.ofString "way") = u2 at e9
    generalize m1 (Str.ofString "many") = u3 at e9
    generalize m1 (Str.ofString "spot") = u4 at e9
    generalize m1 (Str.ofString "slot") = u6 at e9
    generalize m1 (Str.ofString "is_cold") = u7 at e9
    generalize m1 (Str.ofString "told_now") = u8 at e9
    generalize m1 (Str.ofString "fresh") = u9 at e9
    subst e9
    replace N1 := news_one (p := (P.st, instObj 399 P.dst)) (news_one (p := (P.dst, sObj w P.kS P.acc P.jl P.tch P.des P.wo P.ws P.org P.lg S.rfd C.tr)) N1 (by repeat (first | exact List.mem_append_right _ StA.led_dst | refine List.mem_cons_of_mem _ ?_))) (by repeat (first | exact List.mem_append_right _ StA.led_st | refine List.mem_cons_of_mem _ ?_))
    have hz1 : sv.length ≤ 8 := by rw [hsv.1]; omega
    have hz2 : nv.length ≤ 8 := by rw [hnv.1]; omega
    k_sweep
    k_steps
    refine stop_out ?_
    refine' useDip (many := 6) (ncl := ncl) (cvs := cvs) (cns := cns) ((P.st, instObj 399 P.dst) :: (P.dst, sObj w P.kS P.acc P.jl P.tch P.des P.wo P.ws P.org P.lg S.rfd C.tr) :: (I, io) :: (sd, listOf (List.toArray sv) n1) :: (nt, listOf (List.toArray nv) n2) :: (slD, listOf [Value.int s1 tS1, Value.int s2 tS2].toArray nS) :: (cl, listOf cvs.toArray ncl) :: (sm, listOf smv.toArray nsm) :: (fd, oF) :: (trest ++ P.led w C S.rfd)) hc hci hcl (by omega) (by decide) (by repeat (first | exact .head _ | refine .tail _ ?_)) (by (repeat (first | (with_reducible refine List.forall_mem_cons.mpr ⟨?_, ?_⟩; focus ((try dsimp only); first | exact Ne'.o (by with_reducible assumption) | exact Ne'.s (by with_reducible assumption) | (show @Ne Nat _ _; first | k_extra "ne" | omega))) | (with_reducible refine List.forall_mem_append.mpr ⟨?_, ?_⟩) | exact List.forall_mem_nil _ | (refine OwnOff.ne (by assumption) ?_; focus (simp; done)) | exact allLt_ne (by assumption)))) ?kB2_q ?kF2_q ?kX2_q (News.perm ?kN2_q ?ks2_q) ?kT2_q ?kh2_q ?kd2_q ?ku2_q ?kk2_q
    case kB2_q => k_asm
    case kF2_q => k_asm
    case kX2_q => k_asm
    case kT2_q => k_asm
    case kN2_q => k_asm
    case ks2_q => ((try dsimp only [List.cons_append, List.nil_append]); repeat (first | (with_reducible refine List.forall_mem_cons.mpr ⟨?_, ?_⟩; focus (show _ ∈ _; k_dflt k_mem)) | (with_reducible refine List.forall_mem_append.mpr ⟨?_, ?_⟩) | exact List.forall_mem_nil _ | (intro p hp; repeat (first | exact hp | with_reducible exact List.mem_append_left _ hp | with_reducible refine List.mem_append_right _ ?_ | with_reducible refine List.mem_cons_of_mem _ ?_))))
    case kh2_q => exact rfl
    case kd2_q => ktr_room
    case ku2_q => ktr_units
    case kk2_q =>
    intro r2 t2 tt2 oc2 h2 tk2 hr02 hr12 hc2 F2 N2
    k_sweep
    have hotP : OwnOff (trest ++ P.led w C S.rfd) [sd, nt, c] := fun p hp x hx => (List.mem_append.mp hp).elim (fun hp => hot p hp x (by simp at hx; rcases hx with rfl | rfl | rfl <;> simp)) (fun hp => hof1 p hp x (by simp at hx; rcases hx with rfl | rfl | rfl <;> simp))
    have hnT1 : ∀ p ∈ trest, p.1 ≠ I := fun p hp => hn p (by repeat (first | exact List.mem_append_left _ hp | refine List.mem_cons_of_mem _ ?_))
    have hnT2 : ∀ p ∈ P.led w C S.rfd, p.1 ≠ I := fun p hp => hn p (by repeat (first | exact List.mem_append_right _ hp | refine List.mem_cons_of_mem _ ?_))
    by_cases h4 : r2 = 4
    · have hd4 : (r2 == 4) = true := by simpa using h4
      k_steps
      refine stop_out ?_
      refine' Con.useRd (c_mark hP hS (by omega)) ((I, io) :: (sd, listOf (List.toArray sv) n1) :: (nt, listOf (List.toArray nv) n2) :: (c, oc2) :: (slD, listOf [Value.int s1 tS1, Value.int s2 tS2].toArray nS) :: (cl, listOf cvs.toArray ncl) :: (sm, listOf smv.toArray nsm) :: (fd, oF) :: trest) ?kBu1_q ?kFu1_q ?kXu1_q (News.perm ?kNu1_q ?ksu1_q) ?kOu1_q ?kTu1_q ?khu1_q trivial ?kdu1_q ?kuu1_q ?kku1_q
      case kBu1_q => k_asm
      case kFu1_q => k_asm
      case kXu1_q => k_asm
      case kTu1_q => k_asm
      case kNu1_q => k_asm
      case ksu1_q => ((try dsimp only [List.cons_append, List.nil_append]); repeat (first | (with_reducible refine List.forall_mem_cons.mpr ⟨?_, ?_⟩; focus (show _ ∈ _; k_dflt k_mem)) | (with_reducible refine List.forall_mem_append.mpr ⟨?_, ?_⟩) | exact List.forall_mem_nil _ | (intro p hp; repeat (first | exact hp | with_reducible exact List.mem_append_left _ hp | with_reducible refine List.mem_append_right _ ?_ | with_reducible refine List.mem_cons_of_mem _ ?_))))
      case kOu1_q => (refine hO.re ?_; (repeat (first | (apply re_cons; focus (k_dflt k_mem)) | exact List.forall_mem_nil _ | (intro p hp; refine ⟨p.2, ?_⟩; show p ∈ _; repeat (first | exact hp | refine List.mem_cons_of_mem _ ?_)))))
      case khu1_q => exact rfl
      case kdu1_q => ktr_room
      case kuu1_q => ktr_units
      case kku1_q =>
      rintro v3 h3 tk3 HV3 F3 N3
      replace N3 := news_st N3
      (try simp only [List.cons_append, List.nil_append, List.append_assoc] at N3)

      obtain ⟨t3, rfl⟩ := HV3
      k_sweep
      k_steps
      rename_i DT _ F3 N3 lT _ F4 N4
      clear F3 N3
      have hDT : AllLt DT (trest ++ P.led w C S.rfd) := lT.2.2.2.2.2.2.2.2.2.2
      have hM' := hN.push hM
      refine stop_out ?_
      refine' Con.useG (c_alike hP hS hF ⟨tf1, tf2, rfl⟩ loF hsv hsl (by omega) (Int.ne_of_lt h12) (Ne'.s n_sd_fd) (fun p hp x hx => hot p hp x (by simp at hx; rcases hx with rfl | rfl <;> simp)) (off7' hof1 hof2) hM hU th) ((DT, tupII (sv.length : Nat) ?tA1_q (Js.length : Nat) ?tB1_q) :: (I, io) :: (nt, listOf (List.toArray (nv ++ [Value.ref DT])) (n2 + 1)) :: (c, oc2) :: (slD, listOf [Value.int s1 tS1, Value.int s2 tS2].toArray nS) :: (cl, listOf cvs.toArray ncl) :: [(sm, listOf smv.toArray nsm)]) ?kB5_q ?kF5_q ?kX5_q (News.perm ?kN5_q ?ks5_q) ?offo5_q ?kT5_q ?kh5_q trivial ?kd5_q ?ku5_q ?kk5_q
      case kB5_q => k_asm
      case kF5_q => k_asm
      case kX5_q => k_asm
      case kT5_q => k_asm
      case kN5_q => k_asm
      case offo5_q => (refine offAlike (OffL.cons (fun q hq => allLt_ne hDT q (List.mem_append_right _ hq)) (hO.re ?_)) ?_ ?_ (OffL.cons (fun q hq => allLt_ne hDT q (List.mem_append_left _ hq)) (OffL.cons hnT1 (OffL.cons (fun q hq => hot q hq _ (by simp)) (OffL.cons (fun q hq => hot q hq _ (by simp)) (OffL.cons (fun q hq => hot q hq _ (by simp)) (OffL.cons (fun q hq => hot q hq _ (by simp)) (OffL.cons (fun q hq => hot q hq _ (by simp)) OffL.nil))))))); (focus (repeat (first | (apply re_cons; focus (k_dflt k_mem)) | exact List.forall_mem_nil _ | (intro p hp; refine ⟨p.2, ?_⟩; show p ∈ _; repeat (first | exact hp | refine List.mem_cons_of_mem _ ?_))))); (focus (repeat (first | (with_reducible refine List.forall_mem_cons.mpr ⟨?_, ?_⟩; focus ((try dsimp only); (first | exact Ne'.o (by with_reducible assumption) | exact Ne'.s (by with_reducible assumption) | (show @Ne Nat _ _; first | k_extra "ne" | omega)))) | (with_reducible refine List.forall_mem_append.mpr ⟨?_, ?_⟩) | (with_reducible assumption) | exact List.forall_mem_nil _ | (refine OwnOff.ne (by assumption) ?_; focus (simp; done)) | exact allLt_ne (by assumption)))); (repeat (first | (with_reducible refine List.forall_mem_cons.mpr ⟨?_, ?_⟩; focus ((try dsimp only); (first | exact Ne'.o (by with_reducible assumption) | exact Ne'.s (by with_reducible assumption) | (show @Ne Nat _ _; first | k_extra "ne" | omega)))) | (with_reducible refine List.forall_mem_append.mpr ⟨?_, ?_⟩) | (with_reducible assumption) | exact List.forall_mem_nil _ | (refine OwnOff.ne (by assumption) ?_; focus (simp; done)) | exact allLt_ne (by assumption))))
      case ks5_q => ((try dsimp only [List.cons_append, List.nil_append]); repeat (first | (with_reducible refine List.forall_mem_cons.mpr ⟨?_, ?_⟩; focus (show _ ∈ _; k_dflt k_mem)) | (with_reducible refine List.forall_mem_append.mpr ⟨?_, ?_⟩) | exact List.forall_mem_nil _ | (intro p hp; repeat (first | exact hp | with_reducible exact List.mem_append_left _ hp | with_reducible refine List.mem_append_right _ ?_ | with_reducible refine List.mem_cons_of_mem _ ?_))))
      case kh5_q => exact rfl
      case kd5_q => ktr_room
      case ku5_q => ktr_units
      case kk5_q =>
      rintro v5 h5 tk5 ⟨rfl, sat5⟩ F5 N5 k5
      obtain ⟨nn5, -⟩ := k5 _ sat5 (fun p hp => .inl (List.mem_map_of_mem hp))
      replace N5 := news_alike N5 nn5
      clear nn5 k5 sat5
      (try simp only [List.cons_append, List.nil_append, List.append_assoc] at N5)

      k_sweep
      k_steps
      refine' LPost.mk ((sd, listOf (List.toArray sv) n1) :: (nt, listOf (List.toArray (nv ++ [Value.ref DT])) (n2 + 1)) :: (c, oc2) :: (slD, listOf [Value.int s1 tS1, Value.int s2 tS2].toArray nS) :: (cl, listOf cvs.toArray ncl) :: (sm, listOf smv.toArray nsm) :: (fd, oF) :: (((DT, tupII (sv.length : Nat) ?tA2_q (Js.length : Nat) ?tB2_q) :: trest) ++ P.led w C S.rfd)) ?eF6_q ?eN6_q ?eI6_q ?eS6_q ?eO6_q ?eJ6_q
      case eF6_q => k_asm
      case eN6_q => k_asm
      case eI6_q => k_dflt k_mem
      case eS6_q => ((try dsimp only [List.cons_append, List.nil_append]); repeat (first | (with_reducible refine List.forall_mem_cons.mpr ⟨?_, ?_⟩; focus (show _ ∈ _; k_dflt k_mem)) | (with_reducible refine List.forall_mem_append.mpr ⟨?_, ?_⟩) | exact List.forall_mem_nil _ | (intro p hp; repeat (first | exact hp | with_reducible exact List.mem_append_left _ hp | with_reducible refine List.mem_append_right _ ?_ | with_reducible refine List.mem_cons_of_mem _ ?_))))
      case eO6_q => (repeat (first | (with_reducible refine List.forall_mem_cons.mpr ⟨?_, ?_⟩; focus ((try dsimp only); (first | exact Ne'.o (by with_reducible assumption) | exact Ne'.s (by with_reducible assumption) | (show @Ne Nat _ _; first | k_extra "ne" | omega)))) | (with_reducible refine List.forall_mem_append.mpr ⟨?_, ?_⟩) | (with_reducible assumption) | exact List.forall_mem_nil _ | (refine OwnOff.ne (by assumption) ?_; focus (simp; done)) | exact allLt_ne (by assumption)))
      case eJ6_q => exact ⟨sd, n1, n2 + 1, C, S, Js, W, st, notes ++ [(st.length, Js.length)], sv, nv ++ [Value.ref DT], _ :: trest, oc2, turn + 1, tt2, rfl, ⟨hS, hM, hM', hU, hsv.mono fun _ hp => .tail _ hp, (hnv.mono fun _ hp => .tail _ hp).snoc (.head _) ⟨_, _, by rw [hsv.1]⟩, hsl, by omega, by omega, by rw [List.length_append, List.length_singleton]; omega, hc2, by omega, hap0, off_cons (by (repeat (first | (refine List.forall_mem_cons.mpr ⟨?_, ?_⟩; focus ((try dsimp only); (first | exact Ne'.o (by with_reducible assumption) | exact Ne'.s (by with_reducible assumption) | (show @Ne Nat _ _; first | k_extra "ne" | omega)))) | exact List.forall_mem_nil _))) hot, hof1, OffL.cons (fun q hq => allLt_ne hDT q (List.mem_append_right _ hq)) hof2⟩, rfl, by repeat (first | exact Agree.refl | refine Agree.set (by decide) ?_)⟩
    · have hd4 : (r2 == 4) = false := by simpa using h4
      have hz4 : notes.length ≤ 8 := by omega
      k_steps
      refine stop_out ?_
      refine' and_mono (h₀ := g') (b := (r2 == 5 && !decide (notes = []))) ?aF_q ?aN_q ?a1_q ?a2_q
      case aF_q => k_asm
      case aN_q => k_asm
      case a1_q =>
        refine isTrue_and ?_
        by_cases h5 : r2 = 5
        · have hd5 : (r2 == 5) = true := by simpa using h5
          cases hbn : (!decide (notes = [])) with
          | true =>
            k_steps
            refine stop_out ?_
            rename_i N3 _
            k_dflt (refine' ne_nil_notes (l := nt) N3 ?mA_q (hnv.mono ?oA_q) ?eA_q ?uA_q hbn ?qA_q; (case mA_q => k_mem); (case oA_q => (intro p hp; repeat (first | exact List.mem_append_left _ hp | refine List.mem_cons_of_mem _ ?_))); (case eA_q => k_mem); (case uA_q => ktr_units); k_whole)
            k_steps
            exact ⟨by rw [hd5]; rfl, _, _, rfl, by assumption, News.perm N3 (by intro p hp; exact .tail _ hp)⟩
          | false =>
            k_steps
            refine stop_out ?_
            rename_i N3 _
            k_dflt (refine' ne_nil_notes (l := nt) N3 ?mB_q (hnv.mono ?oB_q) ?eB_q ?uB_q hbn ?qB_q; (case mB_q => k_mem); (case oB_q => (intro p hp; repeat (first | exact List.mem_append_left _ hp | refine List.mem_cons_of_mem _ ?_))); (case eB_q => k_mem); (case uB_q => ktr_units); k_whole)
            k_steps
            exact ⟨by rw [hd5]; rfl, _, _, rfl, by assumption, News.perm N3 (by intro p hp; exact .tail _ hp)⟩
        · have hd5 : (r2 == 5) = false := by simpa using h5
          k_steps
          exact ⟨by rw [hd5]; rfl, _, _, rfl, by assumption, by assumption⟩
      case a2_q =>
        intro h3 tk3 F3 N3
        cases hb5 : (r2 == 5 && !decide (notes = [])) with
        | true =>
          obtain ⟨us, ⟨many, spot⟩, hnb⟩ : ∃ us z, notes = us ++ [z] := by
            rcases List.eq_nil_or_concat notes with h | ⟨us, z, h⟩
            · simp [h] at hb5
            · exact ⟨us, z, by simpa using h⟩
          subst hnb
          clear hb5
          show let GX : Prop := _; GX
          intro GX
          obtain ⟨hmany, J', S', eJ, mM, uU, nN⟩ := hN.pop
          k_unfold
          clear GX
          subst eJ
          show let GX : Prop := _; GX
          intro GX
          obtain ⟨an, on, nv', env, man, ⟨tn1, tn2, eon⟩, hnv'⟩ := hnv.last
          k_unfold
          clear GX
          subst env eon
          have hz3 : nv'.length ≤ 8 := by rw [List.length_append] at hz2; omega
          have hul := uU.le
          rw [List.length_append, List.length_singleton] at hl3
          have n_an_nt : Ne' an nt := hot _ man _ (by simp)
          have n_an_sd : Ne' an sd := hot _ man _ (by simp)
          have n_an_c : Ne' an c := hot _ man _ (by simp)
          replace N3 := news_one (p := (an, tupII (many : Nat) tn1 (J'.length : Nat) tn2)) N3 (by repeat (first | exact List.mem_append_left _ man | refine List.mem_cons_of_mem _ ?_))
          k_sweep
          k_steps
          refine stop_out ?_
          refine' Con.useSt (c_back hP hS uU (by omega) tn2) ((I, io) :: (sd, listOf (List.toArray sv) n1) :: (nt, listOf (List.toArray nv') (n2 + 1)) :: (c, oc2) :: (slD, listOf [Value.int s1 tS1, Value.int s2 tS2].toArray nS) :: (cl, listOf cvs.toArray ncl) :: (sm, listOf smv.toArray nsm) :: (fd, oF) :: trest) ?kBx2_q ?kFx2_q ?kXx2_q (News.perm ?kNx2_q ?ksx2_q) ?kOx2_q ?kTx2_q ?khx2_q trivial ?kdx2_q ?kux2_q ?kkx2_q
          case kBx2_q => k_asm
          case kFx2_q => k_asm
          case kXx2_q => k_asm
          case kTx2_q => k_asm
          case kNx2_q => k_asm
          case ksx2_q => ((try dsimp only [List.cons_append, List.nil_append]); repeat (first | (with_reducible refine List.forall_mem_cons.mpr ⟨?_, ?_⟩; focus (show _ ∈ _; k_dflt k_mem)) | (with_reducible refine List.forall_mem_append.mpr ⟨?_, ?_⟩) | exact List.forall_mem_nil _ | (intro p hp; repeat (first | exact hp | with_reducible exact List.mem_append_left _ hp | with_reducible refine List.mem_append_right _ ?_ | with_reducible refine List.mem_cons_of_mem _ ?_))))
          case kOx2_q => (refine hO.re ?_; (repeat (first | (apply re_cons; focus (k_dflt k_mem)) | exact List.forall_mem_nil _ | (intro p hp; refine ⟨p.2, ?_⟩; show p ∈ _; repeat (first | exact hp | refine List.mem_cons_of_mem _ ?_)))))
          case khx2_q => exact rfl
          case kdx2_q => ktr_room
          case kux2_q => ktr_units
          case kkx2_q =>
          intro v4 h4 tk4 C4 hv4 hS4 F4 N4 O4
          replace N4 := news_st N4
          (try simp only [List.cons_append, List.nil_append, List.append_assoc] at N4)

          subst hv4
          k_sweep
          k_steps
          refine stop_out ?_
          k_dflt (refine' l_upto (l := sd) (vs := sv) (y := many) ?F9_q ?N9_q ?m9_q ?z9_q ?q9_q ?s9_q ?t9_q; (case F9_q => k_asm); (case N9_q => k_asm); (case m9_q => k_mem); (case z9_q => omega); (case s9_q => with_unfolding_all rfl); (case t9_q => intro _; with_unfolding_all rfl); k_whole)
          intro sd2 h9 F9 N9 l9
          have hD2 : ∀ p ∈ trest ++ P.led w C4 S'.rfd, p.1 ≠ sd2 := fun p hp => Nat.ne_of_lt (l9 p (by repeat (first | exact hp | refine List.mem_cons_of_mem _ ?_)))
          k_lt l9
          have hO7 : OffL ((sd2, listOf (List.toArray (sv.take many)) 0) :: (nt, listOf (List.toArray nv') (n2 + 1)) :: (c, oc2) :: (slD, listOf [Value.int s1 tS1, Value.int s2 tS2].toArray nS) :: (cl, listOf cvs.toArray ncl) :: (sm, listOf smv.toArray nsm) :: (fd, oF) :: trest) (P.led w C4 S'.rfd) := by
            refine OffL.cons (fun q hq => hD2 q (List.mem_append_right _ hq)) (O4.re ?_)
            (repeat (first | (apply re_cons; focus (k_dflt k_mem)) | exact List.forall_mem_nil _ | (intro p hp; refine ⟨p.2, ?_⟩; show p ∈ _; repeat (first | exact hp | refine List.mem_cons_of_mem _ ?_))))
          have hnT4 : ∀ p ∈ P.led w C4 S'.rfd, p.1 ≠ I := O4 _ (.head _)
          have hot2 : OwnOff trest [sd2, nt, c, slD, cl, sm, fd] := fun p hp x hx => by
            rcases List.mem_cons.mp hx with rfl | hx
            · exact hD2 p (List.mem_append_left _ hp)
            · exact hot p hp x (.tail _ hx)
          have hap2 : Apart [sd2, nt, c, slD, cl, sm, fd] := ⟨⟨(by show @Ne Nat _ _; omega), (by show @Ne Nat _ _; omega), (by show @Ne Nat _ _; omega), (by show @Ne Nat _ _; omega), (by show @Ne Nat _ _; omega), (by show @Ne Nat _ _; omega), trivial⟩, hap0.2⟩
          k_sweep
          k_steps
          refine stop_out ?_
          refine' Con.useG (c_alike hP hS4 hF ⟨tf1, tf2, rfl⟩ loF (hsv.take many) (fun p hp => hsl p (List.mem_of_mem_take hp)) (by rw [List.length_take]; omega) (Int.ne_of_lt h12) (show Ne' fd sd2 by show @Ne Nat _ _; omega) (fun p hp x hx => hot2 p hp x (by simp at hx; rcases hx with rfl | rfl <;> simp)) (off7' (own7 hO7).1 (own7 hO7).2) mM hU.take th) ((I, io) :: (nt, listOf (List.toArray nv') (n2 + 1)) :: (c, oc2) :: (slD, listOf [Value.int s1 tS1, Value.int s2 tS2].toArray nS) :: (cl, listOf cvs.toArray ncl) :: [(sm, listOf smv.toArray nsm)]) ?kB5_q ?kF5_q ?kX5_q (News.perm ?kN5_q ?ks5_q) ?offo5_q ?kT5_q ?kh5_q trivial ?kd5_q ?ku5_q ?kk5_q
          case kB5_q => k_asm
          case kF5_q => k_asm
          case kX5_q => k_asm
          case kT5_q => k_asm
          case kN5_q => k_asm
          case offo5_q => (refine offAlike (O4.re ?_) ?_ ?_ (OffL.cons hnT1 (OffL.cons (fun q hq => hot q hq _ (by simp)) (OffL.cons (fun q hq => hot q hq _ (by simp)) (OffL.cons (fun q hq => hot q hq _ (by simp)) (OffL.cons (fun q hq => hot q hq _ (by simp)) (OffL.cons (fun q hq => hot q hq _ (by simp)) OffL.nil)))))); (focus (repeat (first | (apply re_cons; focus (k_dflt k_mem)) | exact List.forall_mem_nil _ | (intro p hp; refine ⟨p.2, ?_⟩; show p ∈ _; repeat (first | exact hp | refine List.mem_cons_of_mem _ ?_))))); (focus (repeat (first | (with_reducible refine List.forall_mem_cons.mpr ⟨?_, ?_⟩; focus ((try dsimp only); (first | exact Ne'.o (by with_reducible assumption) | exact Ne'.s (by with_reducible assumption) | (show @Ne Nat _ _; first | k_extra "ne" | omega)))) | (with_reducible refine List.forall_mem_append.mpr ⟨?_, ?_⟩) | (with_reducible assumption) | exact List.forall_mem_nil _ | (refine OwnOff.ne (by assumption) ?_; focus (simp; done)) | exact allLt_ne (by assumption)))); (repeat (first | (with_reducible refine List.forall_mem_cons.mpr ⟨?_, ?_⟩; focus ((try dsimp only); (first | exact Ne'.o (by with_reducible assumption) | exact Ne'.s (by with_reducible assumption) | (show @Ne Nat _ _; first | k_extra "ne" | omega)))) | (with_reducible refine List.forall_mem_append.mpr ⟨?_, ?_⟩) | (with_reducible assumption) | exact List.forall_mem_nil _ | (refine OwnOff.ne (by assumption) ?_; focus (simp; done)) | exact allLt_ne (by assumption))))
          case ks5_q => ((try dsimp only [List.cons_append, List.nil_append]); repeat (first | (with_reducible refine List.forall_mem_cons.mpr ⟨?_, ?_⟩; focus (show _ ∈ _; k_dflt k_mem)) | (with_reducible refine List.forall_mem_append.mpr ⟨?_, ?_⟩) | exact List.forall_mem_nil _ | (intro p hp; repeat (first | exact hp | with_reducible exact List.mem_append_left _ hp | with_reducible refine List.mem_append_right _ ?_ | with_reducible refine List.mem_cons_of_mem _ ?_))))
          case kh5_q => exact rfl
          case kd5_q => ktr_room
          case ku5_q => ktr_units
          case kk5_q =>
          rintro v5 h5 tk5 ⟨rfl, sat5⟩ F5 N5 k5
          obtain ⟨nn5, -⟩ := k5 _ sat5 (fun p hp => .inl (List.mem_map_of_mem hp))
          replace N5 := news_alike N5 nn5
          clear nn5 k5 sat5
          (try simp only [List.cons_append, List.nil_append, List.append_assoc] at N5)

          k_sweep
          k_steps
          refine' LPost.mk ((sd2, listOf (List.toArray (sv.take many)) 0) :: (nt, listOf (List.toArray nv') (n2 + 1)) :: (c, oc2) :: (slD, listOf [Value.int s1 tS1, Value.int s2 tS2].toArray nS) :: (cl, listOf cvs.toArray ncl) :: (sm, listOf smv.toArray nsm) :: (fd, oF) :: (trest ++ P.led w C4 S'.rfd)) ?eF6_q ?eN6_q ?eI6_q ?eS6_q ?eO6_q ?eJ6_q
          case eF6_q => k_asm
          case eN6_q => k_asm
          case eI6_q => k_dflt k_mem
          case eS6_q => ((try dsimp only [List.cons_append, List.nil_append]); repeat (first | (with_reducible refine List.forall_mem_cons.mpr ⟨?_, ?_⟩; focus (show _ ∈ _; k_dflt k_mem)) | (with_reducible refine List.forall_mem_append.mpr ⟨?_, ?_⟩) | exact List.forall_mem_nil _ | (intro p hp; repeat (first | exact hp | with_reducible exact List.mem_append_left _ hp | with_reducible refine List.mem_append_right _ ?_ | with_reducible refine List.mem_cons_of_mem _ ?_))))
          case eO6_q => (repeat (first | (with_reducible refine List.forall_mem_cons.mpr ⟨?_, ?_⟩; focus ((try dsimp only); (first | exact Ne'.o (by with_reducible assumption) | exact Ne'.s (by with_reducible assumption) | (show @Ne Nat _ _; first | k_extra "ne" | omega)))) | (with_reducible refine List.forall_mem_append.mpr ⟨?_, ?_⟩) | (with_reducible assumption) | exact List.forall_mem_nil _ | (refine OwnOff.ne (by assumption) ?_; focus (simp; done)) | exact allLt_ne (by assumption)))
          case eJ6_q => exact ⟨sd2, 0, n2 + 1, C4, S', J', W, st.take many, us, sv.take many, nv', trest, oc2, turn + 1, tt2, rfl, ⟨hS4, mM, nN, hU.take, hsv.take many, hnv', fun p hp => hsl p (List.mem_of_mem_take hp), by rw [List.length_take]; omega, by omega, by omega, hc2, by omega, hap2, hot2, (own7 hO7).1, (own7 hO7).2⟩, rfl, by repeat (first | exact Agree.refl | refine Agree.set (by decide) ?_)⟩
        | false =>
          clear hb5
          k_sweep
          by_cases h3 : r2 = 3
          · have hd3 : (r2 == 3) = true := by simpa using h3
            k_steps
            refine stop_out ?_
            refine' useDip (many := 2) (ncl := ncl) (cvs := cvs) (cns := cns) ((P.st, instObj 399 P.dst) :: (P.dst, sObj w P.kS P.acc P.jl P.tch P.des P.wo P.ws P.org P.lg S.rfd C.tr) :: (I, io) :: (sd, listOf (List.toArray sv) n1) :: (nt, listOf (List.toArray nv) n2) :: (slD, listOf [Value.int s1 tS1, Value.int s2 tS2].toArray nS) :: (cl, listOf cvs.toArray ncl) :: (sm, listOf smv.toArray nsm) :: (fd, oF) :: (trest ++ P.led w C S.rfd)) hc2 hci hcl (by omega) (by decide) (by repeat (first | exact .head _ | refine .tail _ ?_)) (by (repeat (first | (with_reducible refine List.forall_mem_cons.mpr ⟨?_, ?_⟩; focus ((try dsimp only); first | exact Ne'.o (by with_reducible assumption) | exact Ne'.s (by with_reducible assumption) | (show @Ne Nat _ _; first | k_extra "ne" | omega))) | (with_reducible refine List.forall_mem_append.mpr ⟨?_, ?_⟩) | exact List.forall_mem_nil _ | (refine OwnOff.ne (by assumption) ?_; focus (simp; done)) | exact allLt_ne (by assumption)))) ?kB7c_q ?kF7c_q ?kX7c_q (News.perm ?kN7c_q ?ks7c_q) ?kT7c_q ?kh7c_q ?kd7c_q ?ku7c_q ?kk7c_q
            case kB7c_q => k_asm
            case kF7c_q => k_asm
            case kX7c_q => k_asm
            case kT7c_q => k_asm
            case kN7c_q => k_asm
            case ks7c_q => ((try dsimp only [List.cons_append, List.nil_append]); repeat (first | (with_reducible refine List.forall_mem_cons.mpr ⟨?_, ?_⟩; focus (show _ ∈ _; k_dflt k_mem)) | (with_reducible refine List.forall_mem_append.mpr ⟨?_, ?_⟩) | exact List.forall_mem_nil _ | (intro p hp; repeat (first | exact hp | with_reducible exact List.mem_append_left _ hp | with_reducible refine List.mem_append_right _ ?_ | with_reducible refine List.mem_cons_of_mem _ ?_))))
            case kh7c_q => exact rfl
            case kd7c_q => ktr_room
            case ku7c_q => ktr_units
            case kk7c_q =>
            intro r7 t7 tt7 oc7 h7 tk7 hr07 hr17 hc7 F7 N7

            show let GX : Prop := _; GX
            intro GX
            obtain ⟨sl, tsl, hx7, hsl7⟩ := slot_item (s1 := s1) (s2 := s2) (t1 := tS1) (t2 := tS2) hr07 hr17
            k_unfold
            clear GX
            have hb7 : r7 < 1000 := by omega
            k_sweep
            k_steps
            refine stop_out ?_
            refine' Con.useRd (c_iswM hP hS hM sl _ _) ((I, io) :: (sd, listOf (List.toArray sv) n1) :: (nt, listOf (List.toArray nv) n2) :: (c, oc7) :: (slD, listOf [Value.int s1 tS1, Value.int s2 tS2].toArray nS) :: (cl, listOf cvs.toArray ncl) :: (sm, listOf smv.toArray nsm) :: (fd, oF) :: trest) ?kBu3_q ?kFu3_q ?kXu3_q (News.perm ?kNu3_q ?ksu3_q) ?kOu3_q ?kTu3_q ?khu3_q trivial ?kdu3_q ?kuu3_q ?kku3_q
            case kBu3_q => k_asm
            case kFu3_q => k_asm
            case kXu3_q => k_asm
            case kTu3_q => k_asm
            case kNu3_q => k_asm
            case ksu3_q => ((try dsimp only [List.cons_append, List.nil_append]); repeat (first | (with_reducible refine List.forall_mem_cons.mpr ⟨?_, ?_⟩; focus (show _ ∈ _; k_dflt k_mem)) | (with_reducible refine List.forall_mem_append.mpr ⟨?_, ?_⟩) | exact List.forall_mem_nil _ | (intro p hp; repeat (first | exact hp | with_reducible exact List.mem_append_left _ hp | with_reducible refine List.mem_append_right _ ?_ | with_reducible refine List.mem_cons_of_mem _ ?_))))
            case kOu3_q => (refine hO.re ?_; (repeat (first | (apply re_cons; focus (k_dflt k_mem)) | exact List.forall_mem_nil _ | (intro p hp; refine ⟨p.2, ?_⟩; show p ∈ _; repeat (first | exact hp | refine List.mem_cons_of_mem _ ?_)))))
            case khu3_q => exact rfl
            case kdu3_q => ktr_room
            case kuu3_q => ktr_units
            case kku3_q =>
            rintro v8 h8 tk8 HV8 F8 N8
            replace N8 := news_st N8
            (try simp only [List.cons_append, List.nil_append, List.append_assoc] at N8)

            subst HV8
            k_sweep
            k_steps
            refine stop_out ?_
            refine' Con.useP (c_readC _) ?kBu4_q ?kFu4_q ?kXu4_q ?kNu4_q ?kTu4_q ?khu4_q trivial ?kdu4_q ?kuu4_q ?kku4_q
            case kBu4_q => k_asm
            case kFu4_q => k_asm
            case kXu4_q => k_asm
            case kTu4_q => k_asm
            case kNu4_q => k_asm
            case khu4_q => exact rfl
            case kdu4_q => ktr_room
            case kuu4_q => ktr_units
            case kku4_q =>
            rintro v9 h9 tk9 ⟨t9, rfl⟩ F9 N9
            k_sweep

            k_steps
            rename_i DT _ lT _ _ D2 _ F0 N0 l2 _ F10 N10
            clear F0 N0
            have hDT : AllLt DT (trest ++ P.led w C S.rfd) := lT.2.2.2.2.2.2.2.2.2.2
            have hDTn : ∀ p ∈ trest ++ P.led w C S.rfd, p.1 ≠ DT := allLt_ne hDT
            have hD2 : AllLt D2 (trest ++ P.led w C S.rfd) := l2.2.2.2.2.2.2.2.2.2.2.2
            refine stop_out ?_
            refine' Con.useSt (c_warm hP hS sl _ _ hsl7 (by omega)) ((DT, tupII (readC (!decide (sl ∈ (walked σ st).come))) t9 0 tk9) :: (D2, stepO (sl, none) tsl tsl) :: (I, io) :: (sd, listOf (List.toArray (sv ++ [Value.ref D2])) (n1 + 1)) :: (nt, listOf (List.toArray nv) n2) :: (c, oc7) :: (slD, listOf [Value.int s1 tS1, Value.int s2 tS2].toArray nS) :: (cl, listOf cvs.toArray ncl) :: (sm, listOf smv.toArray nsm) :: (fd, oF) :: trest) ?kBx5_q ?kFx5_q ?kXx5_q (News.perm ?kNx5_q ?ksx5_q) ?kOx5_q ?kTx5_q ?khx5_q trivial ?kdx5_q ?kux5_q ?kkx5_q
            case kBx5_q => k_asm
            case kFx5_q => k_asm
            case kXx5_q => k_asm
            case kTx5_q => k_asm
            case kNx5_q => k_asm
            case ksx5_q => ((try dsimp only [List.cons_append, List.nil_append]); repeat (first | (with_reducible refine List.forall_mem_cons.mpr ⟨?_, ?_⟩; focus (show _ ∈ _; k_dflt k_mem)) | (with_reducible refine List.forall_mem_append.mpr ⟨?_, ?_⟩) | exact List.forall_mem_nil _ | (intro p hp; repeat (first | exact hp | with_reducible exact List.mem_append_left _ hp | with_reducible refine List.mem_append_right _ ?_ | with_reducible refine List.mem_cons_of_mem _ ?_))))
            case kOx5_q => (refine OffL.cons (fun q hq => allLt_ne hDT q (List.mem_append_right _ hq)) (OffL.cons (fun q hq => allLt_ne hD2 q (List.mem_append_right _ hq)) (hO.re ?_)); (repeat (first | (apply re_cons; focus (k_dflt k_mem)) | exact List.forall_mem_nil _ | (intro p hp; refine ⟨p.2, ?_⟩; show p ∈ _; repeat (first | exact hp | refine List.mem_cons_of_mem _ ?_)))))
            case khx5_q => exact rfl
            case kdx5_q => ktr_room
            case kux5_q => ktr_units
            case kkx5_q =>
            intro v11 h11 tk11 C11 hv11 hS11 F11 N11 O11
            replace N11 := news_st N11
            (try simp only [List.cons_append, List.nil_append, List.append_assoc] at N11)

            subst hv11
            k_sweep
            k_steps
            have hJl : (Js ++ if S.wrm sl then [] else [JR.warm sl]).length ≤ 4 * (i + 1) := by
              rw [List.length_append]
              split <;> simp <;> omega
            have hO7 : OffL ((sd, listOf (List.toArray (sv ++ [Value.ref D2])) (n1 + 1)) :: (nt, listOf (List.toArray nv) n2) :: (c, oc7) :: (slD, listOf [Value.int s1 tS1, Value.int s2 tS2].toArray nS) :: (cl, listOf cvs.toArray ncl) :: (sm, listOf smv.toArray nsm) :: (fd, oF) :: ((D2, stepO (sl, none) tsl tsl) :: trest)) (P.led w C11 (SS.mk S.sto S.tch (setB S.wrm sl true) S.rfd).rfd) := by
              refine O11.re ?_
              (repeat (first | (apply re_cons; focus (k_dflt k_mem)) | exact List.forall_mem_nil _ | (intro p hp; refine ⟨p.2, ?_⟩; show p ∈ _; repeat (first | exact hp | refine List.mem_cons_of_mem _ ?_))))
            have hot2 : OwnOff ((D2, stepO (sl, none) tsl tsl) :: trest) [sd, nt, c, slD, cl, sm, fd] := off_cons (by (repeat (first | (refine List.forall_mem_cons.mpr ⟨?_, ?_⟩; focus ((try dsimp only); (first | exact Ne'.o (by with_reducible assumption) | exact Ne'.s (by with_reducible assumption) | (show @Ne Nat _ _; first | k_extra "ne" | omega)))) | exact List.forall_mem_nil _))) hot
            have hsv2 : ObjsIn stepR ((D2, stepO (sl, none) tsl tsl) :: trest) (sv ++ [Value.ref D2]) (st ++ [(sl, none)]) := (hsv.mono fun _ hp => .tail _ hp).snoc (.head _) ⟨_, _, rfl⟩
            have hsl2 : ∀ p ∈ (st ++ [(sl, none)]), p.1 = s1 ∨ p.1 = s2 := List.forall_mem_append.mpr ⟨hsl, List.forall_mem_cons.mpr ⟨hsl7, List.forall_mem_nil _⟩⟩
            have hle2 : (st ++ [(sl, none)]).length ≤ i + 1 := by rw [List.length_append, List.length_singleton]; omega
            have hoff2 : OwnOff ((D2, stepO (sl, none) tsl tsl) :: trest) [fd, sd] := fun p hp x hx => hot2 p hp x (by simp at hx; rcases hx with rfl | rfl <;> simp)
            have hT2 : OffL ((DT, tupII (readC (!decide (sl ∈ (walked σ st).come))) t9 0 tk9) :: (I, io) :: (nt, listOf (List.toArray nv) n2) :: (c, oc7) :: (slD, listOf [Value.int s1 tS1, Value.int s2 tS2].toArray nS) :: (cl, listOf cvs.toArray ncl) :: [(sm, listOf smv.toArray nsm)]) ((D2, stepO (sl, none) tsl tsl) :: trest) := OffL.cons (List.forall_mem_cons.mpr ⟨(by (first | exact Ne'.o (by with_reducible assumption) | exact Ne'.s (by with_reducible assumption) | (show @Ne Nat _ _; first | k_extra "ne" | omega))), fun q hq => hDTn q (List.mem_append_left _ hq)⟩) (OffL.cons (List.forall_mem_cons.mpr ⟨(by (first | exact Ne'.o (by with_reducible assumption) | exact Ne'.s (by with_reducible assumption) | (show @Ne Nat _ _; first | k_extra "ne" | omega))), hnT1⟩) (OffL.cons (fun q hq => hot2 q hq _ (by simp)) (OffL.cons (fun q hq => hot2 q hq _ (by simp)) (OffL.cons (fun q hq => hot2 q hq _ (by simp)) (OffL.cons (fun q hq => hot2 q hq _ (by simp)) (OffL.cons (fun q hq => hot2 q hq _ (by simp)) OffL.nil))))))
            have hT6 : OffL ((I, io) :: (nt, listOf (List.toArray nv) n2) :: (c, oc7) :: (slD, listOf [Value.int s1 tS1, Value.int s2 tS2].toArray nS) :: (cl, listOf cvs.toArray ncl) :: [(sm, listOf smv.toArray nsm)]) ((D2, stepO (sl, none) tsl tsl) :: trest) := hT2.sub fun p hp => .tail _ hp
            have hnT4 : ∀ p ∈ P.led w C11 (SS.mk S.sto S.tch (setB S.wrm sl true) S.rfd).rfd, p.1 ≠ I := O11.mem (by repeat (first | exact List.Mem.head _ | refine List.Mem.tail _ ?_))
            refine stop_out ?_
            refine' Con.useG (c_walked hF ⟨tf1, tf2, rfl⟩ loF hsv2 hsl2 (by omega) (Int.ne_of_lt h12) (Ne'.s n_sd_fd) hoff2) (((DT, tupII (readC (!decide (sl ∈ (walked σ st).come))) t9 0 tk9) :: (I, io) :: (nt, listOf (List.toArray nv) n2) :: (c, oc7) :: (slD, listOf [Value.int s1 tS1, Value.int s2 tS2].toArray nS) :: (cl, listOf cvs.toArray ncl) :: [(sm, listOf smv.toArray nsm)]) ++ P.led w C11 (SS.mk S.sto S.tch (setB S.wrm sl true) S.rfd).rfd) ?kBwc_q ?kFwc_q ?kXwc_q (News.perm ?kNwc_q ?kswc_q) (offWalked (by (repeat (first | (with_reducible refine List.forall_mem_cons.mpr ⟨?_, ?_⟩; focus ((try dsimp only); (first | exact Ne'.o (by with_reducible assumption) | exact Ne'.s (by with_reducible assumption) | (show @Ne Nat _ _; first | k_extra "ne" | omega)))) | (with_reducible refine List.forall_mem_append.mpr ⟨?_, ?_⟩) | (with_reducible assumption) | exact List.forall_mem_nil _ | (refine OwnOff.ne (by assumption) ?_; focus (simp; done)) | exact allLt_ne (by assumption)))) (by (repeat (first | (with_reducible refine List.forall_mem_cons.mpr ⟨?_, ?_⟩; focus ((try dsimp only); (first | exact Ne'.o (by with_reducible assumption) | exact Ne'.s (by with_reducible assumption) | (show @Ne Nat _ _; first | k_extra "ne" | omega)))) | (with_reducible refine List.forall_mem_append.mpr ⟨?_, ?_⟩) | (with_reducible assumption) | exact List.forall_mem_nil _ | (refine OwnOff.ne (by assumption) ?_; focus (simp; done)) | exact allLt_ne (by assumption)))) hT2 (off7' (own7 hO7).1 (own7 hO7).2)) ?kTwc_q ?khwc_q trivial ?kdwc_q ?kuwc_q ?kkwc_q
            case kBwc_q => k_asm
            case kFwc_q => k_asm
            case kXwc_q => k_asm
            case kTwc_q => k_asm
            case kNwc_q => k_asm
            case kswc_q => ((try dsimp only [List.cons_append, List.nil_append]); repeat (first | (with_reducible refine List.forall_mem_cons.mpr ⟨?_, ?_⟩; focus (show _ ∈ _; k_dflt k_mem)) | (with_reducible refine List.forall_mem_append.mpr ⟨?_, ?_⟩) | exact List.forall_mem_nil _ | (intro p hp; repeat (first | exact hp | with_reducible exact List.mem_append_left _ hp | with_reducible refine List.mem_append_right _ ?_ | with_reducible refine List.mem_cons_of_mem _ ?_))))
            case khwc_q => exact rfl
            case kdwc_q => ktr_room
            case kuwc_q => ktr_units
            case kkwc_q =>
            rintro vw hw tkw ⟨led5, ⟨q, hd5', oH, kvH, pl, pv, np, cl5, cv, nc, rfl, mq, mh, mp, mc, hDH, loH, hRH, hpv, hcv⟩, hsat5, hgr5, hsatF⟩ Fw Nw kw
            obtain ⟨n5, -⟩ := kw _ hsat5 hgr5
            obtain ⟨nF, -⟩ := kw _ hsatF (fun p hp => .inl (List.mem_map_of_mem hp))
            rw [walked_snoc, wstep_pairs, pair_read] at hpv
            show let GX : Prop := _; GX
            intro GX
            obtain ⟨aL, oL, us, epv, maL, ⟨tL, uL, eoL⟩, -⟩ := hpv.last
            k_unfold
            clear GX
            subst epv eoL
            have hlast : (us ++ [Value.ref aL]).getLast? = some (.ref aL) := by simp
            replace Nw := news_walked Nw nF
            replace Nw := news_one2 (n5 _ mq) (news_one2 (n5 _ mp) (news_one2 (n5 _ maL) Nw))
            clear n5 nF kw hsat5 hgr5 hsatF hDH hRH hcv mc mh mq mp
            (try simp only [List.cons_append, List.nil_append, List.append_assoc] at Nw)
            k_sweep
            k_steps
            refine stop_out ?_
            k_dflt (refine' ne_pair (a := aL) (b := DT) ?N8c_q ?m8c_q ?e8c_q ?u8c_q ?q8c_q; (case N8c_q => k_asm); (case m8c_q => k_mem); (case e8c_q => k_mem); (case u8c_q => ktr_units); k_whole)
            k_steps
            refine stop_out ?_
            refine' Con.useG (c_alike hP hS11 hF ⟨tf1, tf2, rfl⟩ loF hsv2 hsl2 (by omega) (Int.ne_of_lt h12) (Ne'.s n_sd_fd) (fun p hp x hx => hot2 p hp x (by simp at hx; rcases hx with rfl | rfl <;> simp)) (off7' (own7 hO7).1 (own7 hO7).2) hM.read hU.read th) ((I, io) :: (nt, listOf (List.toArray nv) n2) :: (c, oc7) :: (slD, listOf [Value.int s1 tS1, Value.int s2 tS2].toArray nS) :: (cl, listOf cvs.toArray ncl) :: [(sm, listOf smv.toArray nsm)]) ?kB5c_q ?kF5c_q ?kX5c_q (News.perm ?kN5c_q ?ks5c_q) ?offo5c_q ?kT5c_q ?kh5c_q trivial ?kd5c_q ?ku5c_q ?kk5c_q
            case kB5c_q => k_asm
            case kF5c_q => k_asm
            case kX5c_q => k_asm
            case kT5c_q => k_asm
            case kN5c_q => k_asm
            case offo5c_q => (refine offAlike (O11.re ?_) ?_ ?_ hT6; (focus (repeat (first | (apply re_cons; focus (k_dflt k_mem)) | exact List.forall_mem_nil _ | (intro p hp; refine ⟨p.2, ?_⟩; show p ∈ _; repeat (first | exact hp | refine List.mem_cons_of_mem _ ?_))))); (focus (repeat (first | (with_reducible refine List.forall_mem_cons.mpr ⟨?_, ?_⟩; focus ((try dsimp only); (first | exact Ne'.o (by with_reducible assumption) | exact Ne'.s (by with_reducible assumption) | (show @Ne Nat _ _; first | k_extra "ne" | omega)))) | (with_reducible refine List.forall_mem_append.mpr ⟨?_, ?_⟩) | (with_reducible assumption) | exact List.forall_mem_nil _ | (refine OwnOff.ne (by assumption) ?_; focus (simp; done)) | exact allLt_ne (by assumption)))); (repeat (first | (with_reducible refine List.forall_mem_cons.mpr ⟨?_, ?_⟩; focus ((try dsimp only); (first | exact Ne'.o (by with_reducible assumption) | exact Ne'.s (by with_reducible assumption) | (show @Ne Nat _ _; first | k_extra "ne" | omega)))) | (with_reducible refine List.forall_mem_append.mpr ⟨?_, ?_⟩) | (with_reducible assumption) | exact List.forall_mem_nil _ | (refine OwnOff.ne (by assumption) ?_; focus (simp; done)) | exact allLt_ne (by assumption))))
            case ks5c_q => ((try dsimp only [List.cons_append, List.nil_append]); repeat (first | (with_reducible refine List.forall_mem_cons.mpr ⟨?_, ?_⟩; focus (show _ ∈ _; k_dflt k_mem)) | (with_reducible refine List.forall_mem_append.mpr ⟨?_, ?_⟩) | exact List.forall_mem_nil _ | (intro p hp; repeat (first | exact hp | with_reducible exact List.mem_append_left _ hp | with_reducible refine List.mem_append_right _ ?_ | with_reducible refine List.mem_cons_of_mem _ ?_))))
            case kh5c_q => exact rfl
            case kd5c_q => ktr_room
            case ku5c_q => ktr_units
            case kk5c_q =>
            rintro v5c h5c tk5c ⟨rfl, sat5c⟩ F5c N5c k5c
            obtain ⟨nn5c, -⟩ := k5c _ sat5c (fun p hp => .inl (List.mem_map_of_mem hp))
            replace N5c := news_alike N5c nn5c
            clear nn5c k5c sat5c
            (try simp only [List.cons_append, List.nil_append, List.append_assoc] at N5c)

            k_sweep
            k_steps
            refine' LPost.mk ((sd, listOf (List.toArray (sv ++ [Value.ref D2])) (n1 + 1)) :: (nt, listOf (List.toArray nv) n2) :: (c, oc7) :: (slD, listOf [Value.int s1 tS1, Value.int s2 tS2].toArray nS) :: (cl, listOf cvs.toArray ncl) :: (sm, listOf smv.toArray nsm) :: (fd, oF) :: (((D2, stepO (sl, none) tsl tsl) :: trest) ++ P.led w C11 (SS.mk S.sto S.tch (setB S.wrm sl true) S.rfd).rfd)) ?eF6c_q ?eN6c_q ?eI6c_q ?eS6c_q ?eO6c_q ?eJ6c_q
            case eF6c_q => k_asm
            case eN6c_q => k_asm
            case eI6c_q => k_dflt k_mem
            case eS6c_q => ((try dsimp only [List.cons_append, List.nil_append]); repeat (first | (with_reducible refine List.forall_mem_cons.mpr ⟨?_, ?_⟩; focus (show _ ∈ _; k_dflt k_mem)) | (with_reducible refine List.forall_mem_append.mpr ⟨?_, ?_⟩) | exact List.forall_mem_nil _ | (intro p hp; repeat (first | exact hp | with_reducible exact List.mem_append_left _ hp | with_reducible refine List.mem_append_right _ ?_ | with_reducible refine List.mem_cons_of_mem _ ?_))))
            case eO6c_q => (repeat (first | (with_reducible refine List.forall_mem_cons.mpr ⟨?_, ?_⟩; focus ((try dsimp only); (first | exact Ne'.o (by with_reducible assumption) | exact Ne'.s (by with_reducible assumption) | (show @Ne Nat _ _; first | k_extra "ne" | omega)))) | (with_reducible refine List.forall_mem_append.mpr ⟨?_, ?_⟩) | (with_reducible assumption) | exact List.forall_mem_nil _ | (refine OwnOff.ne (by assumption) ?_; focus (simp; done)) | exact allLt_ne (by assumption)))
            case eJ6c_q => exact ⟨sd, n1 + 1, n2, C11, (SS.mk S.sto S.tch (setB S.wrm sl true) S.rfd), (Js ++ if S.wrm sl then [] else [JR.warm sl]), W, (st ++ [(sl, none)]), notes, (sv ++ [Value.ref D2]), nv, ((D2, stepO (sl, none) tsl tsl) :: trest), oc7, turn + 1 + 1, _, rfl, ⟨hS11, hM.read, (hN.step fun _ _ u => undone_warm u), hU.read, hsv2, hnv.mono fun _ hp => .tail _ hp, hsl2, hle2, hJl, by omega, hc7, by omega, hap0, hot2, (own7 hO7).1, (own7 hO7).2⟩, rfl, by repeat (first | exact Agree.refl | refine Agree.set (by decide) ?_)⟩
          · have hd3 : (r2 == 3) = false := by simpa using h3
            k_steps
            refine stop_out ?_
            refine' useDip (many := 2) (ncl := ncl) (cvs := cvs) (cns := cns) ((P.st, instObj 399 P.dst) :: (P.dst, sObj w P.kS P.acc P.jl P.tch P.des P.wo P.ws P.org P.lg S.rfd C.tr) :: (I, io) :: (sd, listOf (List.toArray sv) n1) :: (nt, listOf (List.toArray nv) n2) :: (slD, listOf [Value.int s1 tS1, Value.int s2 tS2].toArray nS) :: (cl, listOf cvs.toArray ncl) :: (sm, listOf smv.toArray nsm) :: (fd, oF) :: (trest ++ P.led w C S.rfd)) hc2 hci hcl (by omega) (by decide) (by repeat (first | exact .head _ | refine .tail _ ?_)) (by (repeat (first | (with_reducible refine List.forall_mem_cons.mpr ⟨?_, ?_⟩; focus ((try dsimp only); first | exact Ne'.o (by with_reducible assumption) | exact Ne'.s (by with_reducible assumption) | (show @Ne Nat _ _; first | k_extra "ne" | omega))) | (with_reducible refine List.forall_mem_append.mpr ⟨?_, ?_⟩) | exact List.forall_mem_nil _ | (refine OwnOff.ne (by assumption) ?_; focus (simp; done)) | exact allLt_ne (by assumption)))) ?kB7d_q ?kF7d_q ?kX7d_q (News.perm ?kN7d_q ?ks7d_q) ?kT7d_q ?kh7d_q ?kd7d_q ?ku7d_q ?kk7d_q
            case kB7d_q => k_asm
            case kF7d_q => k_asm
            case kX7d_q => k_asm
            case kT7d_q => k_asm
            case kN7d_q => k_asm
            case ks7d_q => ((try dsimp only [List.cons_append, List.nil_append]); repeat (first | (with_reducible refine List.forall_mem_cons.mpr ⟨?_, ?_⟩; focus (show _ ∈ _; k_dflt k_mem)) | (with_reducible refine List.forall_mem_append.mpr ⟨?_, ?_⟩) | exact List.forall_mem_nil _ | (intro p hp; repeat (first | exact hp | with_reducible exact List.mem_append_left _ hp | with_reducible refine List.mem_append_right _ ?_ | with_reducible refine List.mem_cons_of_mem _ ?_))))
            case kh7d_q => exact rfl
            case kd7d_q => ktr_room
            case ku7d_q => ktr_units
            case kk7d_q =>
            intro r7 t7 tt7 oc7 h7 tk7 hr07 hr17 hc7 F7 N7

            show let GX : Prop := _; GX
            intro GX
            obtain ⟨sl, tsl, hx7, hsl7⟩ := slot_item (s1 := s1) (s2 := s2) (t1 := tS1) (t2 := tS2) hr07 hr17
            k_unfold
            clear GX
            have hb7 : r7 < 1000 := by omega
            k_sweep
            k_steps
            refine stop_out ?_
            refine' Con.useRd (c_iswM hP hS hM sl _ _) ((I, io) :: (sd, listOf (List.toArray sv) n1) :: (nt, listOf (List.toArray nv) n2) :: (c, oc7) :: (slD, listOf [Value.int s1 tS1, Value.int s2 tS2].toArray nS) :: (cl, listOf cvs.toArray ncl) :: (sm, listOf smv.toArray nsm) :: (fd, oF) :: trest) ?kBu6_q ?kFu6_q ?kXu6_q (News.perm ?kNu6_q ?ksu6_q) ?kOu6_q ?kTu6_q ?khu6_q trivial ?kdu6_q ?kuu6_q ?kku6_q
            case kBu6_q => k_asm
            case kFu6_q => k_asm
            case kXu6_q => k_asm
            case kTu6_q => k_asm
            case kNu6_q => k_asm
            case ksu6_q => ((try dsimp only [List.cons_append, List.nil_append]); repeat (first | (with_reducible refine List.forall_mem_cons.mpr ⟨?_, ?_⟩; focus (show _ ∈ _; k_dflt k_mem)) | (with_reducible refine List.forall_mem_append.mpr ⟨?_, ?_⟩) | exact List.forall_mem_nil _ | (intro p hp; repeat (first | exact hp | with_reducible exact List.mem_append_left _ hp | with_reducible refine List.mem_append_right _ ?_ | with_reducible refine List.mem_cons_of_mem _ ?_))))
            case kOu6_q => (refine hO.re ?_; (repeat (first | (apply re_cons; focus (k_dflt k_mem)) | exact List.forall_mem_nil _ | (intro p hp; refine ⟨p.2, ?_⟩; show p ∈ _; repeat (first | exact hp | refine List.mem_cons_of_mem _ ?_)))))
            case khu6_q => exact rfl
            case kdu6_q => ktr_room
            case kuu6_q => ktr_units
            case kku6_q =>
            rintro v8 h8 tk8 HV8 F8 N8
            replace N8 := news_st N8
            (try simp only [List.cons_append, List.nil_append, List.append_assoc] at N8)

            subst HV8
            k_sweep
            k_steps
            refine stop_out ?_
            refine' useDip (many := 4) (ncl := ncl) (cvs := cvs) (cns := cns) ((P.st, instObj 399 P.dst) :: (P.dst, sObj w P.kS P.acc P.jl P.tch P.des P.wo P.ws P.org P.lg S.rfd C.tr) :: (I, io) :: (sd, listOf (List.toArray sv) n1) :: (nt, listOf (List.toArray nv) n2) :: (slD, listOf [Value.int s1 tS1, Value.int s2 tS2].toArray nS) :: (cl, listOf cvs.toArray ncl) :: (sm, listOf smv.toArray nsm) :: (fd, oF) :: (trest ++ P.led w C S.rfd)) hc7 hci hcl (by omega) (by decide) (by repeat (first | exact .head _ | refine .tail _ ?_)) (by (repeat (first | (with_reducible refine List.forall_mem_cons.mpr ⟨?_, ?_⟩; focus ((try dsimp only); first | exact Ne'.o (by with_reducible assumption) | exact Ne'.s (by with_reducible assumption) | (show @Ne Nat _ _; first | k_extra "ne" | omega))) | (with_reducible refine List.forall_mem_append.mpr ⟨?_, ?_⟩) | exact List.forall_mem_nil _ | (refine OwnOff.ne (by assumption) ?_; focus (simp; done)) | exact allLt_ne (by assumption)))) ?kB20_q ?kF20_q ?kX20_q (News.perm ?kN20_q ?ks20_q) ?kT20_q ?kh20_q ?kd20_q ?ku20_q ?kk20_q
            case kB20_q => k_asm
            case kF20_q => k_asm
            case kX20_q => k_asm
            case kT20_q => k_asm
            case kN20_q => k_asm
            case ks20_q => ((try dsimp only [List.cons_append, List.nil_append]); repeat (first | (with_reducible refine List.forall_mem_cons.mpr ⟨?_, ?_⟩; focus (show _ ∈ _; k_dflt k_mem)) | (with_reducible refine List.forall_mem_append.mpr ⟨?_, ?_⟩) | exact List.forall_mem_nil _ | (intro p hp; repeat (first | exact hp | with_reducible exact List.mem_append_left _ hp | with_reducible refine List.mem_append_right _ ?_ | with_reducible refine List.mem_cons_of_mem _ ?_))))
            case kh20_q => exact rfl
            case kd20_q => ktr_room
            case ku20_q => ktr_units
            case kk20_q =>
            intro r20 t20 tt20 oc20 h20 tk20 hr020 hr120 hc20 F20 N20

            obtain ⟨f, tf, hx20⟩ := some_item hsi hsm4 hr020 hr120
            have hb20 : r20 < 1000 := by omega
            k_sweep
            k_steps
            refine stop_out ?_
            refine' Con.useRd (c_orgM hP hS hM hU sl _ _) ((I, io) :: (sd, listOf (List.toArray sv) n1) :: (nt, listOf (List.toArray nv) n2) :: (c, oc20) :: (slD, listOf [Value.int s1 tS1, Value.int s2 tS2].toArray nS) :: (cl, listOf cvs.toArray ncl) :: (sm, listOf smv.toArray nsm) :: (fd, oF) :: trest) ?kBu7_q ?kFu7_q ?kXu7_q (News.perm ?kNu7_q ?ksu7_q) ?kOu7_q ?kTu7_q ?khu7_q trivial ?kdu7_q ?kuu7_q ?kku7_q
            case kBu7_q => k_asm
            case kFu7_q => k_asm
            case kXu7_q => k_asm
            case kTu7_q => k_asm
            case kNu7_q => k_asm
            case ksu7_q => ((try dsimp only [List.cons_append, List.nil_append]); repeat (first | (with_reducible refine List.forall_mem_cons.mpr ⟨?_, ?_⟩; focus (show _ ∈ _; k_dflt k_mem)) | (with_reducible refine List.forall_mem_append.mpr ⟨?_, ?_⟩) | exact List.forall_mem_nil _ | (intro p hp; repeat (first | exact hp | with_reducible exact List.mem_append_left _ hp | with_reducible refine List.mem_append_right _ ?_ | with_reducible refine List.mem_cons_of_mem _ ?_))))
            case kOu7_q => (refine hO.re ?_; (repeat (first | (apply re_cons; focus (k_dflt k_mem)) | exact List.forall_mem_nil _ | (intro p hp; refine ⟨p.2, ?_⟩; show p ∈ _; repeat (first | exact hp | refine List.mem_cons_of_mem _ ?_)))))
            case khu7_q => exact rfl
            case kdu7_q => ktr_room
            case kuu7_q => ktr_units
            case kku7_q =>
            rintro v21 h21 tk21 HV21 F21 N21
            replace N21 := news_st N21
            (try simp only [List.cons_append, List.nil_append, List.append_assoc] at N21)

            obtain ⟨t21, rfl⟩ := HV21
            k_sweep
            k_steps
            refine stop_out ?_
            refine' Con.useRd (c_slotM hP hS hM sl _ _) ((I, io) :: (sd, listOf (List.toArray sv) n1) :: (nt, listOf (List.toArray nv) n2) :: (c, oc20) :: (slD, listOf [Value.int s1 tS1, Value.int s2 tS2].toArray nS) :: (cl, listOf cvs.toArray ncl) :: (sm, listOf smv.toArray nsm) :: (fd, oF) :: trest) ?kBu8_q ?kFu8_q ?kXu8_q (News.perm ?kNu8_q ?ksu8_q) ?kOu8_q ?kTu8_q ?khu8_q trivial ?kdu8_q ?kuu8_q ?kku8_q
            case kBu8_q => k_asm
            case kFu8_q => k_asm
            case kXu8_q => k_asm
            case kTu8_q => k_asm
            case kNu8_q => k_asm
            case ksu8_q => ((try dsimp only [List.cons_append, List.nil_append]); repeat (first | (with_reducible refine List.forall_mem_cons.mpr ⟨?_, ?_⟩; focus (show _ ∈ _; k_dflt k_mem)) | (with_reducible refine List.forall_mem_append.mpr ⟨?_, ?_⟩) | exact List.forall_mem_nil _ | (intro p hp; repeat (first | exact hp | with_reducible exact List.mem_append_left _ hp | with_reducible refine List.mem_append_right _ ?_ | with_reducible refine List.mem_cons_of_mem _ ?_))))
            case kOu8_q => (refine hO.re ?_; (repeat (first | (apply re_cons; focus (k_dflt k_mem)) | exact List.forall_mem_nil _ | (intro p hp; refine ⟨p.2, ?_⟩; show p ∈ _; repeat (first | exact hp | refine List.mem_cons_of_mem _ ?_)))))
            case khu8_q => exact rfl
            case kdu8_q => ktr_room
            case kuu8_q => ktr_units
            case kku8_q =>
            rintro v22 h22 tk22 HV22 F22 N22
            replace N22 := news_st N22
            (try simp only [List.cons_append, List.nil_append, List.append_assoc] at N22)

            obtain ⟨t22, rfl⟩ := HV22
            k_sweep
            k_steps
            refine stop_out ?_
            refine' Con.useT (c_cost (σ sl) ((walked σ st).held sl) f _ _ _ (!decide (sl ∈ (walked σ st).come))) ?kB23_q ?kF23_q ?kX23_q ?kN23_q ?kT23_q ?kh23_q trivial ?kd23_q ?ku23_q ?kk23_q
            case kB23_q => k_asm
            case kF23_q => k_asm
            case kX23_q => k_asm
            case kT23_q => k_asm
            case kN23_q => k_asm
            case kh23_q => exact rfl
            case kd23_q => ktr_room
            case ku23_q => ktr_units
            case kk23_q =>
            intro DT tq uq h23 tk23 F23 N23 hq23
            have n_DT_st : Ne' P.st DT := hq23 _ (.head _)
            have n_DT_dst : Ne' P.dst DT := hq23 _ (.tail _ (.head _))
            have n_DT_I : Ne' I DT := hq23 (I, io) (by k_dflt k_mem)
            have n_DT_sd : Ne' sd DT := hq23 (sd, listOf (List.toArray sv) n1) (by k_dflt k_mem)
            have n_DT_nt : Ne' nt DT := hq23 (nt, listOf (List.toArray nv) n2) (by k_dflt k_mem)
            have n_DT_c : Ne' c DT := hq23 (c, oc20) (by k_dflt k_mem)
            have n_DT_sl : Ne' slD DT := hq23 (slD, listOf [Value.int s1 tS1, Value.int s2 tS2].toArray nS) (by k_dflt k_mem)
            have n_DT_cl : Ne' cl DT := hq23 (cl, listOf cvs.toArray ncl) (by k_dflt k_mem)
            have n_DT_sm : Ne' sm DT := hq23 (sm, listOf smv.toArray nsm) (by k_dflt k_mem)
            have n_DT_fd : Ne' fd DT := hq23 (fd, oF) (by k_dflt k_mem)
            have hDTn : ∀ p ∈ trest ++ P.led w C S.rfd, p.1 ≠ DT := fun p hp => hq23 p (by repeat (first | exact hp | refine List.mem_cons_of_mem _ ?_))
            clear hq23
            have hWf : W sl = false → S.sto sl = σ sl := fun h => by rw [hM.hsto]; exact hU.held h
            have hJ24 : (Js ++ (if S.tch then [] else [JR.touched]) ++ [JR.slot sl (S.sto sl)]).length ≤ Js.length + 2 := by
              rw [List.length_append, List.length_append]
              split <;> simp
            k_sweep
            k_steps
            refine stop_out ?_
            refine' Con.useSt (c_set hP hS sl f _ _ _ hsl7 hWf (by omega)) ((DT, tupII (dueCost (σ sl) ((walked σ st).held sl) f (!decide (sl ∈ (walked σ st).come))) tq (refundOf (σ sl) ((walked σ st).held sl) f) uq) :: (I, io) :: (sd, listOf (List.toArray sv) n1) :: (nt, listOf (List.toArray nv) n2) :: (c, oc20) :: (slD, listOf [Value.int s1 tS1, Value.int s2 tS2].toArray nS) :: (cl, listOf cvs.toArray ncl) :: (sm, listOf smv.toArray nsm) :: (fd, oF) :: trest) ?kBx9_q ?kFx9_q ?kXx9_q (News.perm ?kNx9_q ?ksx9_q) ?kOx9_q ?kTx9_q ?khx9_q trivial ?kdx9_q ?kux9_q ?kkx9_q
            case kBx9_q => k_asm
            case kFx9_q => k_asm
            case kXx9_q => k_asm
            case kTx9_q => k_asm
            case kNx9_q => k_asm
            case ksx9_q => ((try dsimp only [List.cons_append, List.nil_append]); repeat (first | (with_reducible refine List.forall_mem_cons.mpr ⟨?_, ?_⟩; focus (show _ ∈ _; k_dflt k_mem)) | (with_reducible refine List.forall_mem_append.mpr ⟨?_, ?_⟩) | exact List.forall_mem_nil _ | (intro p hp; repeat (first | exact hp | with_reducible exact List.mem_append_left _ hp | with_reducible refine List.mem_append_right _ ?_ | with_reducible refine List.mem_cons_of_mem _ ?_))))
            case kOx9_q => (refine OffL.cons (fun q hq => hDTn q (List.mem_append_right _ hq)) (hO.re ?_); (repeat (first | (apply re_cons; focus (k_dflt k_mem)) | exact List.forall_mem_nil _ | (intro p hp; refine ⟨p.2, ?_⟩; show p ∈ _; repeat (first | exact hp | refine List.mem_cons_of_mem _ ?_)))))
            case khx9_q => exact rfl
            case kdx9_q => ktr_room
            case kux9_q => ktr_units
            case kkx9_q =>
            intro v24 h24 tk24 C24 hv24 hS24 F24 N24 O24
            replace N24 := news_st N24
            (try simp only [List.cons_append, List.nil_append, List.append_assoc] at N24)

            subst hv24
            k_sweep
            k_steps
            refine stop_out ?_
            refine' Con.useSt (c_addref hP hS24 _ _ (Nat.le_trans hJ24 (by omega))) ((DT, tupII (dueCost (σ sl) ((walked σ st).held sl) f (!decide (sl ∈ (walked σ st).come))) tq (refundOf (σ sl) ((walked σ st).held sl) f) uq) :: (I, io) :: (sd, listOf (List.toArray sv) n1) :: (nt, listOf (List.toArray nv) n2) :: (c, oc20) :: (slD, listOf [Value.int s1 tS1, Value.int s2 tS2].toArray nS) :: (cl, listOf cvs.toArray ncl) :: (sm, listOf smv.toArray nsm) :: (fd, oF) :: trest) ?kBx10_q ?kFx10_q ?kXx10_q (News.perm ?kNx10_q ?ksx10_q) ?kOx10_q ?kTx10_q ?khx10_q trivial ?kdx10_q ?kux10_q ?kkx10_q
            case kBx10_q => k_asm
            case kFx10_q => k_asm
            case kXx10_q => k_asm
            case kTx10_q => k_asm
            case kNx10_q => k_asm
            case ksx10_q => ((try dsimp only [List.cons_append, List.nil_append]); repeat (first | (with_reducible refine List.forall_mem_cons.mpr ⟨?_, ?_⟩; focus (show _ ∈ _; k_dflt k_mem)) | (with_reducible refine List.forall_mem_append.mpr ⟨?_, ?_⟩) | exact List.forall_mem_nil _ | (intro p hp; repeat (first | exact hp | with_reducible exact List.mem_append_left _ hp | with_reducible refine List.mem_append_right _ ?_ | with_reducible refine List.mem_cons_of_mem _ ?_))))
            case kOx10_q => exact O24
            case khx10_q => exact rfl
            case kdx10_q => ktr_room
            case kux10_q => ktr_units
            case kkx10_q =>
            intro v25 h25 tk25 C25 hv25 hS25 F25 N25 O25
            replace N25 := news_st N25
            (try simp only [List.cons_append, List.nil_append, List.append_assoc] at N25)

            subst hv25
            have hJ25 : ((Js ++ (if S.tch then [] else [JR.touched]) ++ [JR.slot sl (S.sto sl)]) ++ [JR.refund S.rfd]).length ≤ Js.length + 3 := by
              rw [List.length_append, List.length_singleton]; omega
            have n_st_sd2 : Ne' P.st sd := n_st_sd
            have hO5 : OffL ((sd, listOf (List.toArray sv) n1) :: (nt, listOf (List.toArray nv) n2) :: (c, oc20) :: (slD, listOf [Value.int s1 tS1, Value.int s2 tS2].toArray nS) :: (cl, listOf cvs.toArray ncl) :: (sm, listOf smv.toArray nsm) :: (fd, oF) :: trest) (P.led w C25 (S.rfd + refundOf (σ sl) ((walked σ st).held sl) f)) := by
              refine O25.re ?_
              (repeat (first | (apply re_cons; focus (k_dflt k_mem)) | exact List.forall_mem_nil _ | (intro p hp; refine ⟨p.2, ?_⟩; show p ∈ _; repeat (first | exact hp | refine List.mem_cons_of_mem _ ?_))))
            have hotP5 : OwnOff (trest ++ P.led w C25 (S.rfd + refundOf (σ sl) ((walked σ st).held sl) f)) [sd, nt, c] := fun p hp x hx => (List.mem_append.mp hp).elim (fun hp => hot p hp x (by simp at hx; rcases hx with rfl | rfl | rfl <;> simp)) (fun hp => (own7 hO5).1 p hp x (by simp at hx; rcases hx with rfl | rfl | rfl <;> simp))
            k_sweep
            k_steps
            rename_i D2 _ F0 N0 l2 _ F10 N10
            clear F0 N0
            have hD2 : AllLt D2 (trest ++ P.led w C25 (S.rfd + refundOf (σ sl) ((walked σ st).held sl) f)) := l2.2.2.2.2.2.2.2.2.2.2.2
            refine stop_out ?_
            refine' Con.useSt (c_warm hP hS25 sl _ _ hsl7 (Nat.le_trans hJ25 (by omega))) ((DT, tupII (dueCost (σ sl) ((walked σ st).held sl) f (!decide (sl ∈ (walked σ st).come))) tq (refundOf (σ sl) ((walked σ st).held sl) f) uq) :: (D2, stepO (sl, some f) tsl tf) :: (I, io) :: (sd, listOf (List.toArray (sv ++ [Value.ref D2])) (n1 + 1)) :: (nt, listOf (List.toArray nv) n2) :: (c, oc20) :: (slD, listOf [Value.int s1 tS1, Value.int s2 tS2].toArray nS) :: (cl, listOf cvs.toArray ncl) :: (sm, listOf smv.toArray nsm) :: (fd, oF) :: trest) ?kBx11_q ?kFx11_q ?kXx11_q (News.perm ?kNx11_q ?ksx11_q) ?kOx11_q ?kTx11_q ?khx11_q trivial ?kdx11_q ?kux11_q ?kkx11_q
            case kBx11_q => k_asm
            case kFx11_q => k_asm
            case kXx11_q => k_asm
            case kTx11_q => k_asm
            case kNx11_q => k_asm
            case ksx11_q => ((try dsimp only [List.cons_append, List.nil_append]); repeat (first | (with_reducible refine List.forall_mem_cons.mpr ⟨?_, ?_⟩; focus (show _ ∈ _; k_dflt k_mem)) | (with_reducible refine List.forall_mem_append.mpr ⟨?_, ?_⟩) | exact List.forall_mem_nil _ | (intro p hp; repeat (first | exact hp | with_reducible exact List.mem_append_left _ hp | with_reducible refine List.mem_append_right _ ?_ | with_reducible refine List.mem_cons_of_mem _ ?_))))
            case kOx11_q => (refine OffL.cons (O25.mem (.head _)) (OffL.cons (fun q hq => allLt_ne hD2 q (List.mem_append_right _ hq)) (O25.re ?_)); (repeat (first | (apply re_cons; focus (k_dflt k_mem)) | exact List.forall_mem_nil _ | (intro p hp; refine ⟨p.2, ?_⟩; show p ∈ _; repeat (first | exact hp | refine List.mem_cons_of_mem _ ?_)))))
            case khx11_q => exact rfl
            case kdx11_q => ktr_room
            case kux11_q => ktr_units
            case kkx11_q =>
            intro v26 h26 tk26 C26 hv26 hS26 F26 N26 O26
            replace N26 := news_st N26
            (try simp only [List.cons_append, List.nil_append, List.append_assoc] at N26)

            subst hv26
            k_sweep
            k_steps
            have hJl : (((Js ++ (if S.tch then [] else [JR.touched]) ++ [JR.slot sl (S.sto sl)]) ++ [JR.refund S.rfd]) ++ if S.wrm sl then [] else [JR.warm sl]).length ≤ 4 * (i + 1) := by
              have hw1 : (if S.wrm sl then ([] : List JR) else [JR.warm sl]).length ≤ 1 := by split <;> simp
              rw [List.length_append]
              omega
            have hN26 : NotesOK s1 s2 σ notes (st ++ [(sl, some f)]) (((Js ++ (if S.tch then [] else [JR.touched]) ++ [JR.slot sl (S.sto sl)]) ++ [JR.refund S.rfd]) ++ if S.wrm sl then [] else [JR.warm sl]) (SS.mk (upd S.sto sl f) true (setB S.wrm sl true) (S.rfd + refundOf (σ sl) ((walked σ st).held sl) f)) := hN.step fun _ _ u => undone_warm (undone_refund (undone_set hsl7 u))
            have hO7 : OffL ((sd, listOf (List.toArray (sv ++ [Value.ref D2])) (n1 + 1)) :: (nt, listOf (List.toArray nv) n2) :: (c, oc20) :: (slD, listOf [Value.int s1 tS1, Value.int s2 tS2].toArray nS) :: (cl, listOf cvs.toArray ncl) :: (sm, listOf smv.toArray nsm) :: (fd, oF) :: ((D2, stepO (sl, (some f)) tsl tf) :: trest)) (P.led w C26 (SS.mk (upd S.sto sl f) true (setB S.wrm sl true) (S.rfd + refundOf (σ sl) ((walked σ st).held sl) f)).rfd) := by
              refine O26.re ?_
              (repeat (first | (apply re_cons; focus (k_dflt k_mem)) | exact List.forall_mem_nil _ | (intro p hp; refine ⟨p.2, ?_⟩; show p ∈ _; repeat (first | exact hp | refine List.mem_cons_of_mem _ ?_))))
            have hot2 : OwnOff ((D2, stepO (sl, (some f)) tsl tf) :: trest) [sd, nt, c, slD, cl, sm, fd] := off_cons (by (repeat (first | (refine List.forall_mem_cons.mpr ⟨?_, ?_⟩; focus ((try dsimp only); (first | exact Ne'.o (by with_reducible assumption) | exact Ne'.s (by with_reducible assumption) | (show @Ne Nat _ _; first | k_extra "ne" | omega)))) | exact List.forall_mem_nil _))) hot
            have hsv2 : ObjsIn stepR ((D2, stepO (sl, (some f)) tsl tf) :: trest) (sv ++ [Value.ref D2]) (st ++ [(sl, (some f))]) := (hsv.mono fun _ hp => .tail _ hp).snoc (.head _) ⟨_, _, rfl⟩
            have hsl2 : ∀ p ∈ (st ++ [(sl, (some f))]), p.1 = s1 ∨ p.1 = s2 := List.forall_mem_append.mpr ⟨hsl, List.forall_mem_cons.mpr ⟨hsl7, List.forall_mem_nil _⟩⟩
            have hle2 : (st ++ [(sl, (some f))]).length ≤ i + 1 := by rw [List.length_append, List.length_singleton]; omega
            have hoff2 : OwnOff ((D2, stepO (sl, (some f)) tsl tf) :: trest) [fd, sd] := fun p hp x hx => hot2 p hp x (by simp at hx; rcases hx with rfl | rfl <;> simp)
            have hT2 : OffL ((DT, tupII (dueCost (σ sl) ((walked σ st).held sl) f (!decide (sl ∈ (walked σ st).come))) tq (refundOf (σ sl) ((walked σ st).held sl) f) uq) :: (I, io) :: (nt, listOf (List.toArray nv) n2) :: (c, oc20) :: (slD, listOf [Value.int s1 tS1, Value.int s2 tS2].toArray nS) :: (cl, listOf cvs.toArray ncl) :: [(sm, listOf smv.toArray nsm)]) ((D2, stepO (sl, (some f)) tsl tf) :: trest) := OffL.cons (List.forall_mem_cons.mpr ⟨(by (first | exact Ne'.o (by with_reducible assumption) | exact Ne'.s (by with_reducible assumption) | (show @Ne Nat _ _; first | k_extra "ne" | omega))), fun q hq => hDTn q (List.mem_append_left _ hq)⟩) (OffL.cons (List.forall_mem_cons.mpr ⟨(by (first | exact Ne'.o (by with_reducible assumption) | exact Ne'.s (by with_reducible assumption) | (show @Ne Nat _ _; first | k_extra "ne" | omega))), hnT1⟩) (OffL.cons (fun q hq => hot2 q hq _ (by simp)) (OffL.cons (fun q hq => hot2 q hq _ (by simp)) (OffL.cons (fun q hq => hot2 q hq _ (by simp)) (OffL.cons (fun q hq => hot2 q hq _ (by simp)) (OffL.cons (fun q hq => hot2 q hq _ (by simp)) OffL.nil))))))
            have hT6 : OffL ((I, io) :: (nt, listOf (List.toArray nv) n2) :: (c, oc20) :: (slD, listOf [Value.int s1 tS1, Value.int s2 tS2].toArray nS) :: (cl, listOf cvs.toArray ncl) :: [(sm, listOf smv.toArray nsm)]) ((D2, stepO (sl, (some f)) tsl tf) :: trest) := hT2.sub fun p hp => .tail _ hp
            have hnT4 : ∀ p ∈ P.led w C26 (SS.mk (upd S.sto sl f) true (setB S.wrm sl true) (S.rfd + refundOf (σ sl) ((walked σ st).held sl) f)).rfd, p.1 ≠ I := O26.mem (by repeat (first | exact List.Mem.head _ | refine List.Mem.tail _ ?_))
            refine stop_out ?_
            refine' Con.useG (c_walked hF ⟨tf1, tf2, rfl⟩ loF hsv2 hsl2 (by omega) (Int.ne_of_lt h12) (Ne'.s n_sd_fd) hoff2) (((DT, tupII (dueCost (σ sl) ((walked σ st).held sl) f (!decide (sl ∈ (walked σ st).come))) tq (refundOf (σ sl) ((walked σ st).held sl) f) uq) :: (I, io) :: (nt, listOf (List.toArray nv) n2) :: (c, oc20) :: (slD, listOf [Value.int s1 tS1, Value.int s2 tS2].toArray nS) :: (cl, listOf cvs.toArray ncl) :: [(sm, listOf smv.toArray nsm)]) ++ P.led w C26 (SS.mk (upd S.sto sl f) true (setB S.wrm sl true) (S.rfd + refundOf (σ sl) ((walked σ st).held sl) f)).rfd) ?kBwd_q ?kFwd_q ?kXwd_q (News.perm ?kNwd_q ?kswd_q) (offWalked (by (repeat (first | (with_reducible refine List.forall_mem_cons.mpr ⟨?_, ?_⟩; focus ((try dsimp only); (first | exact Ne'.o (by with_reducible assumption) | exact Ne'.s (by with_reducible assumption) | (show @Ne Nat _ _; first | k_extra "ne" | omega)))) | (with_reducible refine List.forall_mem_append.mpr ⟨?_, ?_⟩) | (with_reducible assumption) | exact List.forall_mem_nil _ | (refine OwnOff.ne (by assumption) ?_; focus (simp; done)) | exact allLt_ne (by assumption)))) (by (repeat (first | (with_reducible refine List.forall_mem_cons.mpr ⟨?_, ?_⟩; focus ((try dsimp only); (first | exact Ne'.o (by with_reducible assumption) | exact Ne'.s (by with_reducible assumption) | (show @Ne Nat _ _; first | k_extra "ne" | omega)))) | (with_reducible refine List.forall_mem_append.mpr ⟨?_, ?_⟩) | (with_reducible assumption) | exact List.forall_mem_nil _ | (refine OwnOff.ne (by assumption) ?_; focus (simp; done)) | exact allLt_ne (by assumption)))) hT2 (off7' (own7 hO7).1 (own7 hO7).2)) ?kTwd_q ?khwd_q trivial ?kdwd_q ?kuwd_q ?kkwd_q
            case kBwd_q => k_asm
            case kFwd_q => k_asm
            case kXwd_q => k_asm
            case kTwd_q => k_asm
            case kNwd_q => k_asm
            case kswd_q => ((try dsimp only [List.cons_append, List.nil_append]); repeat (first | (with_reducible refine List.forall_mem_cons.mpr ⟨?_, ?_⟩; focus (show _ ∈ _; k_dflt k_mem)) | (with_reducible refine List.forall_mem_append.mpr ⟨?_, ?_⟩) | exact List.forall_mem_nil _ | (intro p hp; repeat (first | exact hp | with_reducible exact List.mem_append_left _ hp | with_reducible refine List.mem_append_right _ ?_ | with_reducible refine List.mem_cons_of_mem _ ?_))))
            case khwd_q => exact rfl
            case kdwd_q => ktr_room
            case kuwd_q => ktr_units
            case kkwd_q =>
            rintro vw hw tkw ⟨led5, ⟨q, hd5', oH, kvH, pl, pv, np, cl5, cv, nc, rfl, mq, mh, mp, mc, hDH, loH, hRH, hpv, hcv⟩, hsat5, hgr5, hsatF⟩ Fw Nw kw
            obtain ⟨n5, -⟩ := kw _ hsat5 hgr5
            obtain ⟨nF, -⟩ := kw _ hsatF (fun p hp => .inl (List.mem_map_of_mem hp))
            rw [walked_snoc, wstep_pairs, pair_set] at hpv
            show let GX : Prop := _; GX
            intro GX
            obtain ⟨aL, oL, us, epv, maL, ⟨tL, uL, eoL⟩, -⟩ := hpv.last
            k_unfold
            clear GX
            subst epv eoL
            have hlast : (us ++ [Value.ref aL]).getLast? = some (.ref aL) := by simp
            replace Nw := news_walked Nw nF
            replace Nw := news_one2 (n5 _ mq) (news_one2 (n5 _ mp) (news_one2 (n5 _ maL) Nw))
            clear n5 nF kw hsat5 hgr5 hsatF hDH hRH hcv mc mh mq mp
            (try simp only [List.cons_append, List.nil_append, List.append_assoc] at Nw)
            k_sweep
            k_steps
            refine stop_out ?_
            k_dflt (refine' ne_pair (a := aL) (b := DT) ?N8d_q ?m8d_q ?e8d_q ?u8d_q ?q8d_q; (case N8d_q => k_asm); (case m8d_q => k_mem); (case e8d_q => k_mem); (case u8d_q => ktr_units); k_whole)
            k_steps
            refine stop_out ?_
            refine' Con.useG (c_alike hP hS26 hF ⟨tf1, tf2, rfl⟩ loF hsv2 hsl2 (by omega) (Int.ne_of_lt h12) (Ne'.s n_sd_fd) (fun p hp x hx => hot2 p hp x (by simp at hx; rcases hx with rfl | rfl <;> simp)) (off7' (own7 hO7).1 (own7 hO7).2) hM.put2 hU.put th) ((I, io) :: (nt, listOf (List.toArray nv) n2) :: (c, oc20) :: (slD, listOf [Value.int s1 tS1, Value.int s2 tS2].toArray nS) :: (cl, listOf cvs.toArray ncl) :: [(sm, listOf smv.toArray nsm)]) ?kB5d_q ?kF5d_q ?kX5d_q (News.perm ?kN5d_q ?ks5d_q) ?offo5d_q ?kT5d_q ?kh5d_q trivial ?kd5d_q ?ku5d_q ?kk5d_q
            case kB5d_q => k_asm
            case kF5d_q => k_asm
            case kX5d_q => k_asm
            case kT5d_q => k_asm
            case kN5d_q => k_asm
            case offo5d_q => (refine offAlike (O26.re ?_) ?_ ?_ hT6; (focus (repeat (first | (apply re_cons; focus (k_dflt k_mem)) | exact List.forall_mem_nil _ | (intro p hp; refine ⟨p.2, ?_⟩; show p ∈ _; repeat (first | exact hp | refine List.mem_cons_of_mem _ ?_))))); (focus (repeat (first | (with_reducible refine List.forall_mem_cons.mpr ⟨?_, ?_⟩; focus ((try dsimp only); (first | exact Ne'.o (by with_reducible assumption) | exact Ne'.s (by with_reducible assumption) | (show @Ne Nat _ _; first | k_extra "ne" | omega)))) | (with_reducible refine List.forall_mem_append.mpr ⟨?_, ?_⟩) | (with_reducible assumption) | exact List.forall_mem_nil _ | (refine OwnOff.ne (by assumption) ?_; focus (simp; done)) | exact allLt_ne (by assumption)))); (repeat (first | (with_reducible refine List.forall_mem_cons.mpr ⟨?_, ?_⟩; focus ((try dsimp only); (first | exact Ne'.o (by with_reducible assumption) | exact Ne'.s (by with_reducible assumption) | (show @Ne Nat _ _; first | k_extra "ne" | omega)))) | (with_reducible refine List.forall_mem_append.mpr ⟨?_, ?_⟩) | (with_reducible assumption) | exact List.forall_mem_nil _ | (refine OwnOff.ne (by assumption) ?_; focus (simp; done)) | exact allLt_ne (by assumption))))
            case ks5d_q => ((try dsimp only [List.cons_append, List.nil_append]); repeat (first | (with_reducible refine List.forall_mem_cons.mpr ⟨?_, ?_⟩; focus (show _ ∈ _; k_dflt k_mem)) | (with_reducible refine List.forall_mem_append.mpr ⟨?_, ?_⟩) | exact List.forall_mem_nil _ | (intro p hp; repeat (first | exact hp | with_reducible exact List.mem_append_left _ hp | with_reducible refine List.mem_append_right _ ?_ | with_reducible refine List.mem_cons_of_mem _ ?_))))
            case kh5d_q => exact rfl
            case kd5d_q => ktr_room
            case ku5d_q => ktr_units
            case kk5d_q =>
            rintro v5d h5d tk5d ⟨rfl, sat5d⟩ F5d N5d k5d
            obtain ⟨nn5d, -⟩ := k5d _ sat5d (fun p hp => .inl (List.mem_map_of_mem hp))
            replace N5d := news_alike N5d nn5d
            clear nn5d k5d sat5d
            (try simp only [List.cons_append, List.nil_append, List.append_assoc] at N5d)

            k_sweep
            k_steps
            refine' LPost.mk ((sd, listOf (List.toArray (sv ++ [Value.ref D2])) (n1 + 1)) :: (nt, listOf (List.toArray nv) n2) :: (c, oc20) :: (slD, listOf [Value.int s1 tS1, Value.int s2 tS2].toArray nS) :: (cl, listOf cvs.toArray ncl) :: (sm, listOf smv.toArray nsm) :: (fd, oF) :: (((D2, stepO (sl, (some f)) tsl tf) :: trest) ++ P.led w C26 (SS.mk (upd S.sto sl f) true (setB S.wrm sl true) (S.rfd + refundOf (σ sl) ((walked σ st).held sl) f)).rfd)) ?eF6d_q ?eN6d_q ?eI6d_q ?eS6d_q ?eO6d_q ?eJ6d_q
            case eF6d_q => k_asm
            case eN6d_q => k_asm
            case eI6d_q => k_dflt k_mem
            case eS6d_q => ((try dsimp only [List.cons_append, List.nil_append]); repeat (first | (with_reducible refine List.forall_mem_cons.mpr ⟨?_, ?_⟩; focus (show _ ∈ _; k_dflt k_mem)) | (with_reducible refine List.forall_mem_append.mpr ⟨?_, ?_⟩) | exact List.forall_mem_nil _ | (intro p hp; repeat (first | exact hp | with_reducible exact List.mem_append_left _ hp | with_reducible refine List.mem_append_right _ ?_ | with_reducible refine List.mem_cons_of_mem _ ?_))))
            case eO6d_q => (repeat (first | (with_reducible refine List.forall_mem_cons.mpr ⟨?_, ?_⟩; focus ((try dsimp only); (first | exact Ne'.o (by with_reducible assumption) | exact Ne'.s (by with_reducible assumption) | (show @Ne Nat _ _; first | k_extra "ne" | omega)))) | (with_reducible refine List.forall_mem_append.mpr ⟨?_, ?_⟩) | (with_reducible assumption) | exact List.forall_mem_nil _ | (refine OwnOff.ne (by assumption) ?_; focus (simp; done)) | exact allLt_ne (by assumption)))
            case eJ6d_q => exact ⟨sd, n1 + 1, n2, C26, (SS.mk (upd S.sto sl f) true (setB S.wrm sl true) (S.rfd + refundOf (σ sl) ((walked σ st).held sl) f)), (((Js ++ (if S.tch then [] else [JR.touched]) ++ [JR.slot sl (S.sto sl)]) ++ [JR.refund S.rfd]) ++ if S.wrm sl then [] else [JR.warm sl]), (setB W sl true), (st ++ [(sl, (some f))]), notes, (sv ++ [Value.ref D2]), nv, ((D2, stepO (sl, (some f)) tsl tf) :: trest), oc20, turn + 1 + 1 + 1, _, rfl, ⟨hS26, hM.put2, hN26, hU.put, hsv2, hnv.mono fun _ hp => .tail _ hp, hsl2, hle2, hJl, by omega, hc20, by omega, hap0, hot2, (own7 hO7).1, (own7 hO7).2⟩, rfl, by repeat (first | exact Agree.refl | refine Agree.set (by decide) ?_)⟩

end Mine
end
section
open PySem PySem.W PyProof.Rows PySem.Calls
namespace Mine
theorem fresh_M29 : True := by
  w_top off
  trivial
theorem lines_M29_0 : True := by
  k_with_none
  (k_with "g_ktr_room" => (first | exact Nat.le_of_ble_eq_true rfl | exact roomF 0 (by assumption) rfl rfl | exact roomF 1 (by assumption) rfl rfl | exact roomF 2 (by assumption) rfl rfl | exact roomF 3 (by assumption) rfl rfl | exact roomF 4 (by assumption) rfl rfl))
  (k_with "g_ktr_units" => (first | exact Nat.le_of_ble_eq_true rfl | exact unitF 3 (by assumption) rfl rfl | exact unitG 3 (by assumption) rfl rfl | exact unitG 6 (by assumption) rfl rfl | exact unitF 6 (by assumption) rfl rfl | exact unitF 7 (by assumption) rfl rfl | exact unitF 4 (by assumption) rfl rfl | exact unitF 5 (by assumption) rfl rfl | exact unitF 8 (by assumption) rfl rfl | exact unitF 9 (by assumption) rfl rfl | exact unitF 10 (by assumption) rfl rfl | exact unitF 11 (by assumption) rfl rfl | exact unitF 12 (by assumption) rfl rfl | exact unitF 13 (by assumption) rfl rfl | exact unitF 14 (by assumption) rfl rfl | exact unitF 15 (by assumption) rfl rfl | exact unitF 0 (by assumption) rfl rfl | exact unitF 1 (by assumption) rfl rfl | exact unitF 2 (by assumption) rfl rfl))
  (k_with "g_k_ne" => ((refine neN ?_; (try dsimp only); first | exact Ne'.o (by with_reducible assumption) | exact Ne'.s (by with_reducible assumption) | k_extra "ne")))
  (k_with "g_k_all" => (first | exact OwnOff.ne (by with_reducible assumption) (by k_mem) | exact allLt_ne (by assumption)))
  (k_with "g_size_fits" => ((simp only [List.size_toArray, List.length_map, List.length_append, List.length_cons, List.length_nil, Array.size_push]; (first | done | (rw [sizeLine_eq]; omega)))))
  (k_with "g_ent" => (apply code_defF; (case hA => exact rfl); (case hf => exact rfl); (case hke => exact rfl); (case B => k_asm); (case F => k_asm); (case X₀ => k_asm); (case N => k_asm); (case T => k_asm); (case ho => k_is); (case hcd => k_is); (case hroom => k_room); (case hbind => first | exact BindsTo.of_eq rfl | exact binds_K (by k_in) rfl (by k_is) rfl rfl rfl | fail "no rule for these arguments"); (case hcell => decide); (case hloc => exact locs rfl); (case hco => exact rfl); (case hgen => exact rfl); (case hk => exact rfl); k_whole; intro _ _ _ evX AX mmX _ _ _ _ _ _; (try dsimp only); (try k_fold)))
  (k_with "call ref" => (k_here; k_dflt (first
    | (apply call_cls0; (case F => k_asm); (case X₀ => k_asm); (case N => k_asm); (case hm => k_is); (case hi => k_is); k_whole; intro x' d' h' F' N' l1 l2; (try k_lt l1); (try k_lt2 l2); (try k_sweep); (revert x' d' h' F' N' l1 l2; intros))
    | (apply call_cls; (case F => k_asm); (case X₀ => k_asm); (case N => k_asm); (case hm => k_is); (case hi => k_is); (case hf => k_is); k_whole; intro x' d' h' F' N' l1 l2; (try k_lt l1); (try k_lt2 l2); (try k_sweep); (revert x' d' h' F' N' l1 l2; intros); k_extra "g_ent")
    | (apply call_meth; (case N => k_asm); (case hq => k_mem); k_whole; k_extra "g_ent")
    | (refine wpAny_call ?_; k_extra "g_ent"))))
  (k_with "call ref" => (k_here; (with_reducible show wpAny _ _ (call (Value.ref 154) [_, _, _, _] _) _ _ _); k_dflt (apply row_call; (case B => k_asm); (case F => k_asm); (case X => k_asm); (case N => k_asm); (case T => k_asm); (case hk => exact rfl); (case hd => ktr_room); k_whole); intro x' d' h' tk' k0' k1' k2' k3' F' N' l1 l2; (try k_lt l1); (try k_lt2 l2); (try k_sweep); (revert x' d' h' tk' k0' k1' k2' k3' F' N' l1 l2; intros)))
  (k_with "storeName" => (k_here; k_dflt (apply stXF; (case F => k_asm); (case N => k_asm); (case hk => rfl); (case hx => rfl); k_whole); intro mmX; intro _ _ _; (try k_sweep)))
  (k_with "execs cons" => (k_here; (try dsimp only); (refine execsF ?_); intro qkX))
  (k_with "execs cons" => (k_here; (try dsimp only); (with_reducible show wpAny _ _ _ _ _ (Shared.mk _ _ _ (_ + _) _)); (refine toksF ?_); intro tkX; (refine execsF ?_); intro qkX))
  (k_with "lt" => (first | with_reducible assumption | (apply And.left; first | with_reducible assumption | (apply And.right; first | with_reducible assumption | (apply And.right; first | with_reducible assumption | (apply And.right; first | with_reducible assumption | (apply And.right; first | with_reducible assumption | (apply And.right; first | with_reducible assumption | (apply And.right; first | with_reducible assumption | (apply And.right; first | with_reducible assumption | (apply And.right; first | with_reducible assumption | (apply And.right; first | with_reducible assumption | (apply And.right; first | with_reducible assumption | (apply And.right; first | with_reducible assumption | (apply And.right; first | with_reducible assumption | (apply And.right; first | with_reducible assumption | (apply And.right; first | with_reducible assumption | (apply And.right; with_reducible assumption))))))))))))))))))
  (k_with "ne" => (first | (refine Nat.ne_of_gt ?_; k_extra "lt") | (refine Nat.ne_of_lt ?_; k_extra "lt") | (refine Nat.ne_of_gt ?_; apply Nat.lt_trans; rotate_left; (with_reducible assumption); k_extra "lt") | (refine Nat.ne_of_lt ?_; apply Nat.lt_trans; rotate_left; (with_reducible assumption); k_extra "lt")))
  trivial
theorem va_one {k : Int} {v : Value} : valueAt [(k, v)] k = some v := by simp [valueAt]
theorem lines_M29_1 : True := by
  (k_with "subscriptTail" => (k_here; (with_reducible show wpAny _ _ (subscriptTail _ _ (Value.ref _) (Value.int _ _)) _ _ _); k_dflt (apply d_item (knd := intKind _ _) (hkey := (int_key _ _)); (case N => k_asm); (case hm => k_mem); (case hD => assumption); (case hv => first | assumption | exact va_one | exact va_same); (case hs => with_unfolding_all rfl); k_whole)))
  (k_with "subscriptTail" => (k_here; (with_reducible show wpAny _ _ (subscriptTail _ _ (Value.ref _) (Value.str _ _)) _ _ _); k_dflt (apply d_item (knd := strKind _ _) (hkey := (str_key _ _)); (case N => k_asm); (case hm => k_mem); (case hD => assumption); (case hv => first | assumption | exact rfl | exact va_one | exact va_same); (case hs => with_unfolding_all rfl); k_whole)))
  (k_with "subscriptTail" => (k_here; (with_reducible show wpAny _ _ (subscriptTail _ _ (Value.ref _) (Value.int _ _)) _ _ _); k_dflt (apply d_item (knd := intKind _ _) (hkey := (int_key _ _)); (case N => k_asm); (case hm => k_mem); (case hD => assumption); (case hv => first | assumption | exact rfl | exact va_one | exact va_same); (case hs => with_unfolding_all rfl); k_whole)))
  (k_with "compareOp In" => (k_here; (with_reducible show wpAny _ _ (compareOp CmpOp.In (Value.int _ _) (Value.ref _)) _ _ _); k_dflt (apply d_inB (knd := intKind _ _) (hkey := (int_key _ _)); (case N => k_asm); (case hm => k_mem); (case hD => assumption); (case lo => assumption); (case hb => first | assumption | exact rfl | exact va_one | exact va_same); k_whole)))
  (k_with "compareOp NotIn" => (k_here; (with_reducible show wpAny _ _ (compareOp CmpOp.NotIn (Value.int _ _) (Value.ref _)) _ _ _); k_dflt (apply d_notIn (knd := intKind _ _) (hkey := (int_key _ _)); (case N => k_asm); (case hm => k_mem); (case hD => assumption); (case lo => assumption); (case hb => first | assumption | exact rfl | exact va_one | exact va_same); k_whole)))
  (k_with "call builtin:dict.get" => (k_here; (with_reducible show wpAny _ _ (call (Value.builtin _) [Value.ref _, Value.int _ _, _]) _ _ _); k_dflt (apply d_get2B (knd := intKind _ _) (hkey := (int_key _ _)); (case N => k_asm); (case hm => k_mem); (case hD => assumption); (case lo => assumption); (case hv => first | assumption | exact rfl | exact va_one | exact va_same); k_whole)))
  (k_with "setItem" => (k_here; (with_reducible show wpAny _ _ (setItem (Value.ref _) (Value.str _ _) _) _ _ _); k_dflt (apply d_set (knd := strKind _ _) (hkey := (str_key _ _)); (case F => k_asm); (case N => k_asm); (case U => k_updF); (case hD => assumption); (case hz => first | assumption | decide | (simp; done)); k_whole); intro h' o' F' N' D'; (try dsimp only at N'); (try simp (decide := true) [stored] at D'); (try k_sweep); (revert h' o' F' N' D'; intros)))
  (k_with "setItem" => (k_here; (with_reducible show wpAny _ _ (setItem (Value.ref _) (Value.int _ _) _) _ _ _); k_dflt (apply d_set (knd := intKind _ _) (hkey := (int_key _ _)); (case F => k_asm); (case N => k_asm); (case U => k_updF); (case hD => assumption); (case hz => first | assumption | decide | (simp; done)); k_whole); intro h' o' F' N' D'; (try dsimp only at N'); (try k_sweep); (revert h' o' F' N' D'; intros)))
  (k_with "delItem" => (k_here; (with_reducible show wpAny _ _ (delItem (Value.ref _) (Value.int _ _)) _ _ _); k_dflt (apply d_del (knd := intKind _ _) (hkey := (int_key _ _)); (case F => k_asm); (case N => k_asm); (case U => k_updF); (case hD => assumption); (case hl => assumption); (case hz => first | assumption | decide | (simp; done)); k_whole); intro h' o' F' N' D'; (try dsimp only at N'); (try k_sweep); (revert h' o' F' N' D'; intros)))
  (k_with "getMethod ref" => (k_here; (with_reducible show wpAny _ _ (getMethod (Value.ref _) (PySem.Str.ofString "get") _) _ _ _); k_dflt (apply t_getMethod; (case N => k_asm); (case hm => k_mem); (case hD => assumption); k_whole)))
  (k_with "call builtin:len" => (k_here; (with_reducible show wpAny _ _ (call (Value.builtin "len") [Value.ref _]) _ _ _); k_dflt (apply l_len; (case N => k_asm); (case hm => k_mem); (case hz => (simp only [List.size_toArray, List.length_map]; omega)); k_whole)))
  (k_with "compareOp In" => (k_here; (with_reducible show wpAny _ _ (compareOp CmpOp.In (Value.ref _) (Value.ref _)) _ _ _); k_dflt (apply t_in; (case N => k_asm); (case hm => k_mem); (case hD => assumption); (case hK => exact KeysIn.mono (by assumption) (by intro p hp; repeat (first | exact hp | refine List.Mem.tail _ ?_))); (case hq => k_mem); (case ht => exact tupO2); (case hu => ktr_units); (case lo => assumption); (case hb => assumption); k_whole)))
  (k_with "compareOp NotIn" => (k_here; (with_reducible show wpAny _ _ (compareOp CmpOp.NotIn (Value.ref _) (Value.ref _)) _ _ _); k_dflt (apply t_notIn; (case N => k_asm); (case hm => k_mem); (case hD => assumption); (case hK => exact KeysIn.mono (by assumption) (by intro p hp; repeat (first | exact hp | refine List.Mem.tail _ ?_))); (case hq => k_mem); (case ht => exact tupO2); (case hu => ktr_units); (case lo => assumption); (case hb => assumption); k_whole)))
  (k_with "call builtin:dict.get" => (k_here; (with_reducible show wpAny _ _ (call (Value.builtin _) [Value.ref _, Value.ref _, _]) _ _ _); k_dflt (apply t_get2; (case N => k_asm); (case hm => k_mem); (case hD => assumption); (case hK => exact KeysIn.mono (by assumption) (by intro p hp; repeat (first | exact hp | refine List.Mem.tail _ ?_))); (case hq => k_mem); (case ht => exact tupO2); (case hu => ktr_units); (case lo => assumption); (case hv => first | assumption | exact rfl); k_whole)))
  (k_with "setItem" => (k_here; (with_reducible show wpAny _ _ (setItem (Value.ref _) (Value.ref _) _) _ _ _); k_dflt (apply t_set; (case F => k_asm); (case N => k_asm); (case U => k_updF); (case hD => assumption); (case hK => exact KeysIn.mono (by assumption) (by intro p hp; repeat (first | exact hp | refine List.Mem.tail _ ?_))); (case hq => k_mem); (case ht => exact tupO2); (case hu => ktr_units); (case hz => assumption); k_whole); intro h' o' F' N' D'; (try dsimp only at N'); (try k_sweep); (revert h' o' F' N' D'; intros)))
  (k_with "delItem" => (k_here; (with_reducible show wpAny _ _ (delItem (Value.ref _) (Value.ref _)) _ _ _); k_dflt (apply t_del; (case F => k_asm); (case N => k_asm); (case U => k_updF); (case hD => assumption); (case hK => exact KeysIn.mono (by assumption) (by intro p hp; repeat (first | exact hp | refine List.Mem.tail _ ?_))); (case hq => k_mem); (case ht => exact tupO2); (case hu => ktr_units); (case hl => assumption); (case hz => assumption); k_whole); intro h' o' F' N' D'; (try dsimp only at N'); (try k_sweep); (revert h' o' F' N' D'; intros)))
  (k_with "eval Dict" => (k_here; k_dflt (refine' kdn_str ?q ?F ?N ?b ?a ?l ?e ?n ?_; (case q => rfl); (case F => k_asm); (case N => first | k_asm | exact News.nil); (case b => exact Top.nolimit (by k_asm)); (case a => rfl); (case l => rfl); (case e => exact List.cons_ne_nil _ _); (case n => exact Nat.le_of_ble_eq_true rfl)); intro d' h' o' F' N' l1 lo' hd'; (try k_lt l1); (revert d' h' o' F' N' l1 lo' hd'; intros)))
  (k_with "eval Call" => (k_here; (with_reducible show wpAny _ _ (eval (Expr.Call (Expr.Name _ _) _ [] _) _) _ _ _); k_dflt (refine Call_ ?_)))
  trivial
theorem nonce_post {w : World} {h g h' : Heap} {L' : Addr} {st dst acc jl tch des wo ws org lg ac dac sto : Addr} {oacc otch odes oacc' otch' osto : Obj} {kS : Nat → Tok} {tr k0 k1 k2 k3 tn tb tc : Tok} {n : Nat} {home : Int} {news : List (Addr × Obj)} (hg : g = hideAll h (([(st, instObj 399 dst), (dst, sObj w kS acc jl tch des wo ws org lg 0 tr), (acc, oacc), (jl, listOf (List.toArray []) n), (tch, otch), (des, odes)] : List (Addr × Obj)).map (·.1))) (N : News g L' h' news)
    (m1 : (st, instObj 399 dst) ∈ news) (m2 : (dst, sObj w kS acc jl tch des wo ws org lg 0 tr) ∈ news) (m3 : (acc, oacc') ∈ news) (m4 : (ac, instObj 112 dac) ∈ news) (m5 : (dac, dictOf [ent w "nonce" k0 (.int 1 tn), ent w "balance" k1 (.int 0 tb), ent w "code" k2 (.bytes #[] tc), ent w "storage" k3 (.ref sto)] 4) ∈ news)
    (m6 : (sto, osto) ∈ news) (m7 : (tch, otch') ∈ news) (m8 : (des, odes) ∈ news) (h1 : oacc'.IsDictOf (intKind PP w) [(home, .ref ac)]) (h2 : otch'.IsDictOf (intKind PP w) (stored [] home (.bool true))) (h3 : osto.IsDictOf (intKind PP w) []) (lo2 : (sto == sysModules) = false) (nd : Apart [st, dst, acc, ac, dac, sto, tch, des]) : ((fun (h : Heap) (v : Value) (h' : Heap) => v = .none ∧ ∃ ac dac sto oacc' otch' osto kA tn tb tc, Apart [st, dst, acc, ac, dac, sto, tch, des] ∧ (sto == sysModules) = false ∧ oacc'.IsDictOf (intKind PP w) [(home, .ref ac)] ∧ otch'.IsDictOf (intKind PP w) [(home, .bool true)] ∧ osto.IsDictOf (intKind PP w) [] ∧ Sat h' [(st, instObj 399 dst), (dst, sObj w kS acc jl tch des wo ws org lg 0 tr), (acc, oacc'), (ac, instObj 112 dac), (dac, aObj w kA sto tn tb tc), (sto, osto), (tch, otch'), (des, odes)] ∧ Grows h [(st, instObj 399 dst), (dst, sObj w kS acc jl tch des wo ws org lg 0 tr), (acc, oacc), (jl, listOf (List.toArray []) n), (tch, otch), (des, odes)] [(st, instObj 399 dst), (dst, sObj w kS acc jl tch des wo ws org lg 0 tr), (acc, oacc'), (ac, instObj 112 dac), (dac, aObj w kA sto tn tb tc), (sto, osto), (tch, otch'), (des, odes)])) h Value.none h' := by
  refine ⟨rfl, ac, dac, sto, oacc', otch', osto, fun i => [k0, k1, k2, k3].getD i 0, tn, tb, tc, nd, lo2, h1, h2, h3, ?_, ?_⟩
  · exact sat_sub N (List.forall_mem_cons.mpr ⟨m1, List.forall_mem_cons.mpr ⟨m2, List.forall_mem_cons.mpr ⟨m3, List.forall_mem_cons.mpr ⟨m4, List.forall_mem_cons.mpr ⟨m5, List.forall_mem_cons.mpr ⟨m6, List.forall_mem_cons.mpr ⟨m7, List.forall_mem_cons.mpr ⟨m8, List.forall_mem_nil _⟩⟩⟩⟩⟩⟩⟩⟩)
  · exact grows_of hg N (List.forall_mem_cons.mpr ⟨m1, List.forall_mem_cons.mpr ⟨m2, List.forall_mem_cons.mpr ⟨m3, List.forall_mem_cons.mpr ⟨m4, List.forall_mem_cons.mpr ⟨m5, List.forall_mem_cons.mpr ⟨m6, List.forall_mem_cons.mpr ⟨m7, List.forall_mem_cons.mpr ⟨m8, List.forall_mem_nil _⟩⟩⟩⟩⟩⟩⟩⟩)
theorem c_nonce {w : World} {mean : ExcName → Option Value} {mg mb : Str → Option Value} {st dst acc jl tch des wo ws org lg : Addr} {oacc otch odes : Obj} {kS : Nat → Tok} {tr : Tok} {n : Nat} {home : Int} (nd : Apart [st, dst, acc, jl, tch, des]) (lo1 : (acc == sysModules) = false) (lo3 : (tch == sysModules) = false) (hacc : oacc.IsDictOf (intKind PP w) []) (htch : otch.IsDictOf (intKind PP w) []) (t1 t2 : Tok) :
    Con w mean mg mb 270 [.ref st, .int home t1, .int 1 t2] 6 [(st, instObj 399 dst), (dst, sObj w kS acc jl tch des wo ws org lg 0 tr), (acc, oacc), (jl, listOf (List.toArray []) n), (tch, otch), (des, odes)] (fun _ => True) (fun h v h' => v = .none ∧ ∃ ac dac sto oacc' otch' osto kA tn tb tc, Apart [st, dst, acc, ac, dac, sto, tch, des] ∧ (sto == sysModules) = false ∧ oacc'.IsDictOf (intKind PP w) [(home, .ref ac)] ∧ otch'.IsDictOf (intKind PP w) [(home, .bool true)] ∧ osto.IsDictOf (intKind PP w) [] ∧ Sat h' [(st, instObj 399 dst), (dst, sObj w kS acc jl tch des wo ws org lg 0 tr), (acc, oacc'), (ac, instObj 112 dac), (dac, aObj w kA sto tn tb tc), (sto, osto), (tch, otch'), (des, odes)] ∧ Grows h [(st, instObj 399 dst), (dst, sObj w kS acc jl tch des wo ws org lg 0 tr), (acc, oacc), (jl, listOf (List.toArray []) n), (tch, otch), (des, odes)] [(st, instObj 399 dst), (dst, sObj w kS acc jl tch des wo ws org lg 0 tr), (acc, oacc'), (ac, instObj 112 dac), (dac, aObj w kA sto tn tb tc), (sto, osto), (tch, otch'), (des, odes)]) := by
  unfold Con
  k_fill
  intro dp un gd cn cs a ccd cells outer A₀ base h₀ L m s Q E B F X N T hk hpre hd hu hret
  refine wpAny_call ?_
  k_dflt (refine' enterHF ?k1_q ?k2_q ?k3_q ?k4_q ?k5_q ?kA_q ?kF_q ?kK_q ?k6_q ?k7_q ?k8_q ?k9_q ?kB_q ?_ ?c2_q ?c3_q ?c4_q ?c5_q; (case kA_q => exact rfl); (case kF_q => exact rfl); (case kK_q => assumption); (case k1_q => k_asm); (case k2_q => k_asm); (case k3_q => k_asm); (case k4_q => k_asm); (case k5_q => k_asm); (case k6_q => k_is); (case k7_q => k_is); (case k8_q => ktr_room); (case k9_q => exact BindsTo.of_eq rfl); (case c5_q => decide); (case kB_q => exact locs rfl); (case c2_q => exact rfl); (case c3_q => exact rfl); (case c4_q => exact rfl); k_whole; intro g' L' h' evX AX mmX gSX dSX oSX FG' F' N' B' X' T' hg' hL'; (try dsimp only); (try k_fold))
  refine apart6 nd fun n_st_dst n_st_acc n_st_jl n_st_tch n_st_des n_dst_acc n_dst_jl n_dst_tch n_dst_des n_acc_jl n_acc_tch n_acc_des n_jl_tch n_jl_des n_tch_des => ?_
  have e0 : (valueAt ([] : List (Int × Value)) home).isSome = false := rfl
  k_steps
  refine' hret _ _ _ ?F9_q (keeps_end hg' ?N9_q) (nonce_post hg' ?N9b_q ?m1_q ?m2_q ?m3_q ?m4_q ?m5_q ?m6_q ?m7_q ?m8_q ?h1_q ?h2_q ?h3_q ?lo_q ?nd_q)
  case F9_q => k_asm
  case N9_q => k_asm
  case N9b_q => k_asm
  case m1_q => k_dflt k_mem
  case m2_q => k_dflt k_mem
  case m3_q => k_dflt k_mem
  case h1_q => assumption
  case m4_q => k_dflt k_mem
  case m5_q => k_dflt k_mem
  case m6_q => k_dflt k_mem
  case m7_q => k_dflt k_mem
  case m8_q => k_dflt k_mem
  case h2_q => assumption
  case h3_q => assumption
  case lo_q => assumption
  case nd_q =>
    simp only [Apart, AllNe]
    refine ⟨⟨?_, ?_, ?_, ?_, ?_, ?_, ?_, trivial⟩, ⟨?_, ?_, ?_, ?_, ?_, ?_, trivial⟩, ⟨?_, ?_, ?_, ?_, ?_, trivial⟩, ⟨?_, ?_, ?_, ?_, trivial⟩, ⟨?_, ?_, ?_, trivial⟩, ⟨?_, ?_, trivial⟩, ⟨?_, trivial⟩, trivial, trivial⟩ <;>
      first | (with_reducible assumption) | (show @Ne Nat _ _; first | k_extra "ne" | omega)

end Mine
end
section
open PySem PySem.W PyProof.Rows PySem.Calls PyProof.V PySem.Spec
namespace Mine
/-- the eight objects of the state that a stage needs -/
noncomputable def foot8 (w : World) (P : StA) (C : StC) (r : Int) : List (Addr × Obj) :=
  [(P.st, instObj 399 P.dst), (P.dst, sObj w P.kS P.acc P.jl P.tch P.des P.wo P.ws P.org P.lg r C.tr), (P.acc, P.oacc), (P.ac, instObj 112 P.dac), (P.dac, aObj w P.kA P.sto P.tn P.tb P.tc), (P.sto, C.osto), (P.tch, C.otch), (P.des, P.odes)]
structure StIn (w : World) (home s1 s2 : Int) (σ : Int → Int) (P : StA) (C : StC) (b : Bool) : Prop where
  nd : Apart [P.st, P.dst, P.acc, P.ac, P.dac, P.sto, P.tch, P.des]
  lo1 : (P.acc == sysModules) = false
  lo2 : (P.sto == sysModules) = false
  lo3 : (P.tch == sysModules) = false
  lo4 : (P.des == sysModules) = false
  hacc : P.oacc.IsDictOf (intKind PP w) [(home, .ref P.ac)]
  hdes : P.odes.IsDictOf (intKind PP w) []
  hsto : C.osto.IsDictOf (intKind PP w) C.kvs
  hkv : StoRep C.kvs σ
  hkn : ∀ p ∈ C.kvs, p.1 = s1 ∨ p.1 = s2
  htch : C.otch.IsDictOf (intKind PP w) (if b then [(home, .bool true)] else [])
/-- the world that a fact speaks of -/
noncomputable def worldOf {w : World} {home s1 s2 : Int} {σ : Int → Int} {P : StA} {C : StC} {b : Bool} (_ : StIn w home s1 s2 σ P C b) : World := w
/-- what holds between the stages -/
noncomputable def LawJ (w : World) (home s1 s2 : Int) (st c cl sm : Addr) (clO smO : Obj) (m0 : Str → Option Value) (_ : Nat) (m : Str → Option Value) (nw : List (Addr × Obj)) : Prop :=
  ∃ fd oF kvF σ oc turn tt P C r b, nw = (fd, oF) :: (c, oc) :: (cl, clO) :: (sm, smO) :: foot8 w P C r ∧ P.st = st ∧ StIn w home s1 s2 σ P C b ∧ oF.IsDictOf (intKind PP w) kvF ∧ HeldRep s1 s2 kvF σ ∧ (fd == sysModules) = false ∧ caskIs w oc cl turn tt ∧ 0 ≤ turn ∧
    Apart [c, cl, sm, fd] ∧ OffL [(c, oc), (cl, clO), (sm, smO), (fd, oF)] (foot8 w P C r) ∧ m (Str.ofString "first") = some (.ref fd) ∧ Agree [Str.ofString "stage", Str.ofString "first"] m m0
theorem stIn_clean {w : World} {home s1 s2 : Int} {fst σ : Int → Int} {P : StA} {C : StC} {r : Int} {J : List JR} {W : Int → Bool} {wr : Int → Bool} (hP : StAOK w home P) (hC : StCOK w home s1 s2 fst P C ⟨σ, false, wr, r⟩ J W) : StIn w home s1 s2 σ P C false :=
  ⟨hP.nd8, hP.lo1, hP.lo2, hP.lo3, hP.lo4, hP.hacc, hP.hdes, hC.hsto, hC.hkv, hC.hkn, hC.htch⟩
theorem foot8_led {w : World} {P : StA} {C : StC} {r : Int} : ∀ p ∈ foot8 w P C r, p ∈ P.led w C r := StA.led8
theorem apart_rot {a b c d : Addr} (h : Apart [a, b, c, d]) : Apart [b, c, d, a] := by
  simp only [Apart, AllNe] at h ⊢
  exact ⟨⟨h.2.1.1, h.2.1.2.1, Ne'.s h.1.1, trivial⟩, ⟨h.2.2.1.1, Ne'.s h.1.2.1, trivial⟩, ⟨Ne'.s h.1.2.2.1, trivial⟩, trivial, trivial⟩
theorem offL_rot {a b c d : Addr} {oa ob oc od : Obj} {l l' : List (Addr × Obj)} (h : OffL [(a, oa), (b, ob), (c, oc), (d, od)] l) (hs : ∀ p ∈ l', p ∈ l) : OffL [(b, ob), (c, oc), (d, od), (a, oa)] l' := by
  refine (h.sub ?_).subr hs
  intro p hp
  simp only [List.mem_cons, List.not_mem_nil, or_false] at hp ⊢
  rcases hp with rfl | rfl | rfl | rfl <;> simp
theorem sto_nil {σ : Int → Int} (h : ∀ x, σ x = 0) : StoRep [] σ := fun s => ⟨fun _ => rfl, fun k => absurd (h s) k⟩
end Mine
end
section
open PySem PySem.W PyProof.Rows PySem.Calls
namespace Mine
/-- what is asked of an own class under Exception -/
noncomputable def under0 (C : Addr) (bm : List Value) : Bool := (Value.ref C :: bm).contains (.type "Exception") && !(Value.ref C :: bm).contains (.type "AttributeError") && !(Value.ref C :: bm).contains (.type "NameError") && (Value.ref C :: bm).contains (.ref C)

section
variable {prog : Program} {w : World} {A : Around} {E : Value → Shared → Prop} {R : Result → Shared → Prop} {h : Heap} {g : Array GenState} {d : Drawn} {t : Nat} {os : OsState}
variable {nm q : Str} {C N : Addr} {bs bm : List Value} {hdct : Bool} {sn : List Str} {sub : List Value} {ab : Bool} {col : Option Bool} {dd : Option Addr} {k0 k1 k2 k3 k5 : Option Value}

noncomputable abbrev tupOf (rest : List Value) : Obj := { cls := .type "tuple", data := .seq rest.toArray }
noncomputable abbrev excOf (C t0 : Addr) : Obj := { cls := .ref C, data := .fields #[.ref t0, .none, .none, .none, .bool false, .none] }

theorem exc_check {M : Model} (hu : under0 C bm = true) {rest : List Value} {Q : Unit → Shared → Prop} (hC : h.get? C = some (excClassObj nm q C N bs bm hdct sn sub ab col dd k0 k1 k2 k3 k5 "Exception.__new__"))
    (hq : Q () ⟨h, g, d, t, os⟩) : wpAny M A (checkBuiltinCall "Exception.__new__" ⟨.ref C :: rest, []⟩) Q E ⟨h, g, d, t, os⟩ := by
  have Fn := PySem.F.excBase_Exception
  simp only [under0, Bool.and_eq_true, Bool.not_eq_true'] at hu
  obtain ⟨⟨⟨hcB, hcA⟩, hcN⟩, hcC⟩ := hu
  have hstar := Fn.noStar
  simp only [checkBuiltinCall, Fn.newKind, Fn.newSplit, Fn.newRow]
  repeat (first | refine wpAny_loadPart_at hC ?_ | (refine wpAny_isSubtype_exc hC ?_; rw [hcB]) | refine wpAny_staticBase_exc hC ?_ | refine wpAny_madeBy_exc hC ?_ | simp only [bne_self_eq_false, Bool.false_eq_true, if_false] | wp_step)
  exact hq

theorem exc_born (hu : under0 C bm = true) {rest : List Value} (hC : h.get? C = some (excClassObj nm q C N bs bm hdct sn sub ab col dd k0 k1 k2 k3 k5 "Exception.__new__")) (hrest : rest.length ≤ sizeLine)
    (hq : R (.ok (.ret (.ref (h.objs.size + 1)))) ⟨(h.push (tupOf rest)).push (excOf C h.objs.size), g, d, t, os⟩) :
    codeAny (model prog w) A (.builtin "Exception.__new__" ⟨.ref C :: rest, []⟩) R ⟨h, g, d, t, os⟩ := by
  have Fn := PySem.F.excBase_Exception
  simp only [under0, Bool.and_eq_true, Bool.not_eq_true'] at hu
  obtain ⟨⟨⟨hcB, hcA⟩, hcN⟩, hcC⟩ := hu
  have hends := Fn.ends
  refine codeAny_builtinAt Fn.entry ?_
  unfold Builtin.«BaseException.__new__»
  refine PySem.wpAt_bind ?_
  show PySem.wpAt _ _ _ (stack >>= _) _ _ _
  refine PySem.wpAt_bind (PySem.wpAt_stack fun p below => wpAt_of_wpAny ?_)
  wp_walk
  refine PySem.wpAt_of_wpAny ?_
  rw [Fn.owner]
  repeat (first | with_reducible refine wpAny_madeHere_exc Fn.canon hC ?_ | with_reducible refine wpAny_loadPart_at hC ?_ | (with_reducible refine wpAny_isSubtype_exc hC ?_; first | rw [hcB] | rw [hcA] | rw [hcN]) | wp_step)
  show R _ _
  rw [Heap.size_push]
  exact hq

theorem exc_make (hu : under0 C bm = true) {rest : List Value} {fI : Addr} (hC : h.get? C = some (excClassObj nm q C N bs bm hdct sn sub ab col dd k0 k1 k2 k3 k5 "Exception.__new__")) (hrest : rest.length ≤ sizeLine)
    (hi : Looks (model prog w) h (typeLookup (.ref C) "__init__") (some (.ref fI))) (hb : ∀ self, Looks (model prog w) h (bindSpecial (.ref fI) self) (.ref fI, [self]))
    (hq : codeAny (model prog w) (A.under (.builtin "type.__call__" ⟨.ref C :: rest, []⟩)) (.call (.ref fI) ⟨.ref (h.objs.size + 1) :: rest, []⟩) (InitBack (h.objs.size + 1) R) ⟨(h.push (tupOf rest)).push (excOf C h.objs.size), g, d, t, os⟩) :
    codeAny (model prog w) A (.call (.ref C) ⟨rest, []⟩) R ⟨h, g, d, t, os⟩ := by
  have Fn := PySem.F.excBase_Exception
  have hu' := hu
  simp only [under0, Bool.and_eq_true, Bool.not_eq_true'] at hu
  obtain ⟨⟨⟨hcB, hcA⟩, hcN⟩, hcC⟩ := hu
  have f1 := tc_lookup
  have f2 := tc_bind (.ref C)
  have hT : (⟨h, g, d, t, os⟩ : Shared).TypeIs (.ref C) "type" := ⟨_, hC, rfl⟩
  refine codeAny_of_tree ?_
  show wpAny _ _ (callAny (.ref C) _) _ _ _
  repeat (any_goals (first | assumption | with_reducible refine wpAny_loadPart_at hC ?_ | wp_step))
  refine ⟨rfl, ?_⟩
  refine codeAny_call_builtin_at (Code.quiet_builtin _ (by decide +kernel)) entry_typeCall (wpAny_check_type_call_sub hC ?_)
  repeat (first | with_reducible refine wpAny_loadPart_at hC ?_ | with_reducible refine wpAny_madeBy_exc hC ?_ | wp_step)
  refine codeAny_call_builtin_code (Code.quiet_builtin _ Fn.quiet) (exc_check hu' hC ?_)
  refine exc_born hu' hC hrest ?_
  show wpAny _ _ _ _ _ _
  simp only [show [Value.ref C] ++ rest = .ref C :: rest from rfl, show ([] : List Value).append rest = rest from rfl]
  have k : ∀ b o, h.get? b = some o → ((h.push (tupOf rest)).push (excOf C h.objs.size)).get? b = some o := fun b o e => Heap.get?_push_of_some _ (Heap.get?_push_of_some _ e)
  have hx : ((h.push (tupOf rest)).push (excOf C h.objs.size)).get? (h.objs.size + 1) = some (excOf C h.objs.size) := by heap_get
  have t1 : Looks (model prog w) ((h.push (tupOf rest)).push (excOf C h.objs.size)) (typeOf (.ref (h.objs.size + 1))) (.ref C) := (Looks.ld hx).andThen .now
  have s1 : Looks (model prog w) ((h.push (tupOf rest)).push (excOf C h.objs.size)) (isSubtype (.ref C) (.ref C)) true := fun A Q E s k' z => by
    obtain ⟨hp, g, d, t, os⟩ := s
    exact wpAny_isSubtype_exc (k' _ _ (k _ _ hC)) (by rw [hcC]; exact z)
  have i1 := hi.keeps k
  have b1 := (hb (.ref (h.objs.size + 1))).keeps k
  unfold isInstance callSpecial? specialOf
  repeat (first | with_reducible refine wpAny_call ?_ | lk)
  refine codeAny_mono hq fun r s' z => ?_
  rcases r with e | (v | _ | _ | _) <;> first | exact z | exact z.elim | skip
  obtain ⟨rfl, z⟩ := z
  exact wpAny_pure (wpAny_pure z)
end

section
variable {prog : Program} {w : World} {A : Around} {E : Value → Shared → Prop} {s : Shared} {K : Frag} {C L : Addr} {h₀ : Heap} {m : Str → Option Value} {news : List (Addr × Obj)} {Q : Value → Shared → Prop}
variable {nm q : Str} {N0 : Addr} {bs bm : List Value} {hdct : Bool} {sn : List Str} {sub : List Value} {ab : Bool} {col : Option Bool} {dd : Option Addr} {k0 k1 k2 k3 k5 : Option Value}
theorem call_excK {pos : List Value} {fI : Addr} (F : Fr h₀ L s.heap m) (X₀ : K.In h₀) (N : News h₀ L s.heap news) (hc : K.lookup C = some (excClassObj nm q C N0 bs bm hdct sn sub ab col dd k0 k1 k2 k3 k5 "Exception.__new__")) (hu : under0 C bm = true)
    (hi : findIn K (.ref C) "__init__" = some (some (.ref fI))) (hf : isFn K (.ref fI) = true) (hz : pos.length ≤ sizeLine)
    (h : ∀ x t0 h', Fr h₀ L h' m → News h₀ L h' ((x, excOf C t0) :: news) → (∀ p ∈ news, p.1 < x) →
      codeAny (model prog w) (A.under (.builtin "type.__call__" ⟨.ref C :: pos, []⟩)) (.call (.ref fI) ⟨.ref x :: pos, []⟩) (InitBack x fun r s' => match r with | .ok (.ret v) => Q v s' | .ok _ => False | .error e => E e s') { s with heap := h' }) :
    wpAny (model prog w) A (call (.ref C) pos []) Q E s := by
  have X := X₀.keeps F.keep
  obtain ⟨hh, g, d, t, os⟩ := s
  have N' := (N.push F (tupOf pos)).push (F.push _) (excOf C hh.objs.size)
  rw [Heap.size_push] at N'
  exact wpAny_call (exc_make hu (X _ _ hc) hz (looks_findIn X hi) (fun self => bind_fn X self (beq_iff_eq.mp hf)) (h _ hh.objs.size _ ((F.push _).push _) (fun p hp => N' p ((List.mem_cons.mp hp).elim (fun e => e ▸ .head _) fun q => .tail _ (.tail _ q))) (fun p hp => Nat.lt_succ_of_lt (Heap.lt_size (N p hp).1))))
end
end Mine
end
section
open PySem PySem.W PyProof.Rows PySem.Calls
namespace Mine
section
variable {prog : Program} {w : World} {A : Around} {E : Value → Shared → Prop} {s : Shared} {K : Frag} {C L x : Addr} {h₀ : Heap} {m : Str → Option Value} {news : List (Addr × Obj)} {Q : Value → Shared → Prop}
variable {nm q : Str} {N0 : Addr} {bs bm : List Value} {hdct : Bool} {sn : List Str} {sub : List Value} {ab : Bool} {col : Option Bool} {dd : Option Addr} {k0 k1 k2 k3 k5 : Option Value}

/-- Exception.__init__ on an own exception: its args are a new tuple -/
theorem exc_init {t0 : Addr} {rest : List Value} (F : Fr h₀ L s.heap m) (X₀ : K.In h₀) (N : News h₀ L s.heap ((x, excOf C t0) :: news)) (h2 : ∀ p ∈ news, p.1 ≠ x)
    (hc : K.lookup C = some (excClassObj nm q C N0 bs bm hdct sn sub ab col dd k0 k1 k2 k3 k5 "Exception.__new__")) (hu : under0 C bm = true) (hz : rest.length ≤ sizeLine)
    (h : ∀ t1 h', Fr h₀ L h' m → News h₀ L h' ((x, excOf C t1) :: news) → Q .none { s with heap := h' }) :
    wpAny (model prog w) A (call (.builtin "Exception.__init__") (.ref x :: rest)) Q E s := by
  have FX := PySem.F.excBase_Exception
  have X := X₀.keeps F.keep
  obtain ⟨hh, g, d, t, os⟩ := s
  have hC := X _ _ hc
  simp only [under0, Bool.and_eq_true, Bool.not_eq_true'] at hu
  obtain ⟨⟨⟨hcB, hcA⟩, hcN⟩, hcC⟩ := hu
  have he := (N _ (.head _)).1
  dsimp only at he hC F N h
  refine wpAny_call (codeAny_call_builtin FX.init.plain FX.initEntry ?_)
  simp only [checkBuiltinCall, FX.initKind, FX.initSplit, FX.initRow]
  have hshort := FX.noStar
  repeat (first | with_reducible refine wpAny_loadPart_at he ?_ | with_reducible refine wpAny_loadPart_at hC ?_ | (with_reducible refine wpAny_isSubtype_exc hC ?_; rw [hcB]) | wp_step)
  refine wpAny_onRaise ?_
  rw [show ∀ (a b : String) (n : Nat), Bind.check ⟨.positional, "*", "Exception", .self, [⟨"args", .varPos, false⟩]⟩ a b n (List.map (fun x => x.fst) ({ pos := Value.ref x :: rest } : Args).kw) = pure () from
    fun a b n => check_star_args _ _ _ _ _ _]
  refine wpAny_pure ?_
  unfold Builtin.«BaseException.__init__»
  dsimp only
  rw [if_neg (by simp)]
  unfold newTuple Builtin.BaseException.bexcPut
  have he₁ := Heap.get?_push_of_some (h := hh) (tupOf rest) he
  have hdt : (excOf C t0).data = .fields #[.ref t0, .none, .none, .none, .bool false, .none] := rfl
  have hsz : 0 < (#[.ref t0, .none, .none, .none, .bool false, .none] : Array Value).size := Nat.succ_pos _
  have h0 : (#[.ref t0, .none, .none, .none, .bool false, .none] : Array Value)[0]? = some (.ref t0) := rfl
  obtain ⟨F1, N1⟩ := news_upd (pre := []) (f := Obj.mapFields (·.setIfInBounds 0 (.ref hh.objs.size))) (o' := excOf C hh.objs.size) (F.push (tupOf rest)) (fun p hp => (N.push F (tupOf rest)) p (List.Mem.tail _ hp)) (fun p hp => by cases hp) h2 rfl rfl
  refine wpAny_bind (wpAny_newObj_type ?_ (by show rest.toArray.size ≤ sizeLine; rw [List.size_toArray]; exact hz))
  refine wpAny_bind (wpAny_bind (wpAny_field he₁ hdt h0 ?_))
  refine wpAny_bind (wpAny_setField he₁ hdt hsz ?_)
  exact wpAny_letGo (wpAny_pure (h _ _ F1 N1))

/-- the first field that an own exception stores: its dict is made -/
theorem exc_osa {R : Result → Shared → Prop} {cd : ClassData} {vs : Array Value} {sl : Array (Option Value)} {name : Str} {tk : Tok} {v : Value} (F : Fr h₀ L s.heap m) (X₀ : K.In h₀) (N : News h₀ L s.heap ((x, ⟨.ref C, none, .fields vs, sl⟩) :: news)) (h2 : ∀ p ∈ news, p.1 ≠ x)
    (hc : clsIn K C = some cd) (hr : ∀ self, refuseLoop self "__setattr__" cd.mro = pure ()) (ho : mroIn K C (.type "object") = some true) (hd : cd.hasDict = true)
    (ht : takerIn K C name = some none)
    (h : ∀ D od h', Fr h₀ L h' m → News h₀ L h' ((D, od) :: (x, ⟨.ref C, some D, .fields vs, sl⟩) :: news) → D ≠ x → (∀ ws, od.data ≠ .fields ws) → (∀ sl', lookIn name { od with slots := sl' } = some (some v)) → R (.ok (.ret .none)) { s with heap := h', toks := s.toks + 1 }) :
    codeAny (model prog w) A (.call (.builtin "object.__setattr__") ⟨[.ref x, .str name tk, v], []⟩) R s := by
  have SF := PySem.F.store_object
  have X := X₀.keeps F.keep
  have hx := (N _ (.head _)).1
  have I : W.InstAt s.heap x ⟨.ref C, none, .fields vs, sl⟩ C none := ⟨hx, rfl, rfl, trivial⟩
  have sub : Looks (model prog w) s.heap (isInstance (.ref x) (.type "object")) true := I.type.andThen (looks_mroIn X ho)
  refine codeAny_call_builtin SF.slot.plain SF.entry (@check_slot (model prog w) _ _ s "object.__setattr__" "object" "__setattr__" (.ref x) [.str name tk, v] [] _ SF.kind SF.split sub (SF.args (.ref x) (.str name tk) v) ?_)
  obtain ⟨attr, ha, hr'⟩ := Option.bind_eq_some_iff.mp ht
  have hm : Looks (model prog w) s.heap (mroOf (.ref C)) cd.mro := (looks_clsIn X hc).andThen .now
  have L3 : Looks (model prog w) s.heap (Builtin.ObjectAttr.storeTaker? attr) none := by
    cases attr with
    | none => exact .now
    | some a =>
      obtain ⟨b, hb, e⟩ := Option.map_eq_some_iff.mp hr'
      refine (looks_takesIn X hb).andThen ?_
      cases b <;> first | exact .now | cases e
  rw [osa_eq, refuse_eq]
  refine wpAny_bind (wpAny_bind (I.type.here (wpAny_bind (hm.here ?_))))
  rw [hr]
  refine wpAny_pure (wpAny_bind (I.type.here (wpAny_bind ((looks_findIn X ha).here (wpAny_bind (L3.here ?_))))))
  dsimp only
  refine wpAny_bind (wpAny_pure (wpAny_bind (wpAny_bind (wpAny_loadPart hx (wpAny_bind ((looks_clsIn X hc).here ?_))))))
  rw [hd]
  show wpAny _ _ (alloc emptyDict >>= _) _ _ _
  refine wpAny_bind (wpAny_alloc (wpAny_bind ?_))
  have N1 := N.push F emptyDict
  have F1 := F.push emptyDict
  have hxn : s.heap.objs.size ≠ x := Nat.ne_of_gt (Heap.lt_size hx)
  have hx1 := (N1 _ (.tail _ (.head _))).1
  refine wpAny_update hx1 ?_
  obtain ⟨F2, N2⟩ := news_upd (pre := [(s.heap.objs.size, emptyDict)]) (f := fun o => { o with dict := some s.heap.objs.size }) (o' := ⟨.ref C, some s.heap.objs.size, .fields vs, sl⟩) F1 N1 (fun p hp => by rw [List.mem_singleton.mp hp]; exact hxn) h2 rfl rfl
  refine wpAny_pure ?_
  show wpAny _ _ (Builtin.ObjectAttr.storeInDict s.heap.objs.size (.str name tk) name v) _ _ _
  refine wpAny_bind (wpAny_pure (wpAny_bind ?_))
  have D := (N2 (s.heap.objs.size, emptyDict) (.head _)).1
  have h3 : ∀ p ∈ ((x, ⟨.ref C, some s.heap.objs.size, .fields vs, sl⟩) :: news : List (Addr × Obj)), p.1 ≠ s.heap.objs.size := fun p hp => by
    rcases List.mem_cons.mp hp with rfl | hp
    · exact Ne.symm hxn
    · exact Nat.ne_of_lt (Heap.lt_size (N p (.tail _ hp)).1)
  obtain ⟨F3, N3⟩ := news_upd (pre := []) (f := Obj.putName name (PyData.keyHash w.params name) (.str name s.toks) v) (o' := dictOf [⟨PyData.keyHash w.params name, .str name s.toks, v⟩] 1) F2 N2 (fun p hp => by cases hp) h3 rfl rfl
  have D3 := (N3 _ (.head _)).1
  unfold nsSet
  refine wpAny_bind (wpAny_bind (wpAny_askSetting (wpAny_pure (wpAny_bind (wpAny_mkText (wpAny_bind (wpAny_loadPart D ?_)))))))
  dsimp only
  have c : (!(#[] : Array DictEntry).any (·.key.isStr name) && (#[] : Array DictEntry).any (·.refKey)) = false := by simp
  rw [aRefKeyMayBeTheName_at, c]
  refine wpAny_updatePart D ?_
  refine wpAny_bind (wpAny_lookBehind D3 (pastItsLine_dict (by rw [sizeLine_eq]; exact Nat.le_of_ble_eq_true rfl)) ?_)
  refine wpAny_pure (h _ _ _ F3 N3 hxn (fun ws q => by cases q) fun sl' => ?_)
  simp [lookIn, Value.isStr]

theorem exc_store {E : Value → Shared → Prop} {Q : Unit → Shared → Prop} {cd : ClassData} {vs : Array Value} {sl : Array (Option Value)} {name : Str} {v : Value} (F : Fr h₀ L s.heap m) (X₀ : K.In h₀) (N : News h₀ L s.heap ((x, ⟨.ref C, none, .fields vs, sl⟩) :: news)) (h2 : ∀ p ∈ news, p.1 ≠ x)
    (hc : clsIn K C = some cd) (hs : findIn K (.ref C) "__setattr__" = some (some (.builtin "object.__setattr__"))) (hr : ∀ self, refuseLoop self "__setattr__" cd.mro = pure ()) (ho : mroIn K C (.type "object") = some true) (hd : cd.hasDict = true)
    (ht : takerIn K C name = some none)
    (h : ∀ D od h', Fr h₀ L h' m → News h₀ L h' ((D, od) :: (x, ⟨.ref C, some D, .fields vs, sl⟩) :: news) → D ≠ x → (∀ ws, od.data ≠ .fields ws) → (∀ sl', lookIn name { od with slots := sl' } = some (some v)) → Q () { s with heap := h', toks := s.toks + 2 }) :
    wpAny (model prog w) A (setAttr (.ref x) name v) Q E s :=
  set_plain (X₀.keeps F.keep) (od := none) ⟨(N _ (.head _)).1, rfl, rfl, trivial⟩ hs (exc_osa (s := { s with toks := s.toks + 1 }) F X₀ N h2 hc hr ho hd ht fun D od h' F' N' a b c => h D od h' F' N' a b c)
theorem exc_passes (self : Value) : refuseLoop self "__setattr__" [.ref 51, .ref 38, .type "Exception", .type "BaseException", .type "object"] = pure () := by
  rw [refuseLoop_ref, refuseLoop_ref]
  exact PySem.F.store_Exception.passes self
end
end Mine
end
section
open PySem PySem.W PyProof.Rows PySem.Calls
namespace Mine
/-- what an own exception, with fields of its own, must be to be raised -/
noncomputable def RaisX (C : Addr) (E : Value → Shared → Prop) (v : Value) (s : Shared) : Prop :=
  ∃ a dd vs sl, v = .ref a ∧ s.heap.get? a = some ⟨.ref C, dd, .fields vs, sl⟩ ∧ vs[1]? = some .none ∧ (∀ M, Looks M s.heap (isSubtype (.ref C) (.type "BaseException")) true) ∧ (∀ M, Looks M s.heap (typeOf (.ref C)) (.type "type")) ∧ E (.ref a) s

section
variable {M : Model} {A : Around} {E : Value → Shared → Prop} {s : Shared} {env : Env} {K : Frag} {h₀ : Heap} {L C : Addr} {m : Str → Option Value} {news : List (Addr × Obj)}
theorem raisX_of {a : Addr} {dd : Option Addr} {vs : Array Value} {sl : Array (Option Value)} (F : Fr h₀ L s.heap m) (X₀ : K.In h₀) (N : News h₀ L s.heap news) (hm : (a, (⟨.ref C, dd, .fields vs, sl⟩ : Obj)) ∈ news) (h1 : vs[1]? = some .none)
    (hb : mroIn K C (.type "BaseException") = some true) (ht : typeIn K (.ref C) = some (.type "type")) (h : E (.ref a) s) : RaisX C E (.ref a) s :=
  ⟨a, dd, vs, sl, rfl, (N _ hm).1, h1, fun _ => looks_mroIn (X₀.keeps F.keep) hb, fun _ => looks_typeIn (X₀.keeps F.keep) ht, h⟩

theorem raise_X {e : Expr} {pos : Pos} {Q : Flow → Shared → Prop} (hh : A.handled = none) (h : wpAny M A (eval e env) (RaisX C E) E s) : wpAny M A (exec (.Raise (some e) none pos) env) Q E s := by
  show wpAny M A (do standAt pos; raiseStmt env (some (do let v ← eval e env; standAt pos; pure v)) none) Q E s
  refine wpAny_bind (wpAny_standAt ?_)
  unfold raiseStmt
  dsimp only
  refine wpAny_bind (wpAny_bind (wpAny_mono h (fun v s₁ h₁ => wpAny_bind (wpAny_standAt (wpAny_pure ?_))) fun _ _ x => x))
  obtain ⟨a, dd, vs, sl, rfl, ha, h1, hb, ht, hE⟩ := h₁
  have hT : Looks M s₁.heap (typeOf (.ref a)) (.ref C) := (Looks.ld ha).andThen .now
  have hI : Looks M s₁.heap (isInstance (.ref a) (.type "BaseException")) true := hT.andThen (hb M)
  have hnt : ∀ {Q' : Bool → Shared → Prop}, Q' false s₁ → wpAny M A (isType (.ref a)) Q' E s₁ := by
    intro Q' hq
    simp only [isType, loadHead]
    exact wpAny_bind (wpAny_loadPart ha (wpAny_pure hq))
  refine wpAny_bind (wpAny_pure ?_)
  dsimp only
  refine wpAny_bind (wpAny_holding ?_)
  unfold excFromValue isExcClass
  refine wpAny_bind (wpAny_bind (hnt ?_))
  simp only [Bool.false_eq_true, if_false]
  refine wpAny_pure ?_
  simp only [Bool.false_eq_true, if_false]
  refine wpAny_bind (hI.here ?_)
  simp only [if_true]
  refine wpAny_pure ?_
  refine wpAny_bind (hnt ?_)
  simp only [Bool.false_eq_true, if_false]
  unfold raisedInstance
  refine wpAny_bind (wpAny_bind (hT.here (wpAny_bind ((ht M).here ?_))))
  rw [if_pos (by rfl)]
  refine wpAny_pure ?_
  unfold setFlight raiseNew
  refine wpAny_bind (wpAny_bind (wpAny_field ha rfl h1 ?_))
  rw [if_neg (by decide)]
  refine wpAny_pure (wpAny_bind (wpAny_handled ?_))
  rw [hh]
  first
    | exact wpAny_throw hE
    | exact wpAny_bind (wpAny_pure (wpAny_throw hE))
end

/-- an own exception in flight: its record, its dict and its traceback's head -/
noncomputable def RecX (h base : Heap) (e C D : Addr) (fl : Value) : Prop :=
  ∃ sl vs T oT ts, h.get? e = some ⟨.ref C, some D, .fields vs, sl⟩ ∧ vs[1]? = some (.ref T) ∧ base.get? T = none ∧ T ≠ e ∧ h.get? T = some oT ∧ oT.data = .fields ts ∧ ts[3]? = some fl
noncomputable def NoteX (base : Heap) (l : List Env) (e C D : Addr) (fl : Value) (h h' : Heap) : Prop :=
  base.StaysIn h' ∧ h'.FunFrames base l ∧ RecX h' base e C D fl ∧ h.UpToSlots h'

section
variable {M : Model} {A : Around} {E : Value → Shared → Prop} {s : Shared} {base : Heap} {env : Env} {outer : List Env} {L e C D : Addr} {vs : Array Value} {sl : Array (Option Value)} {Q : Unit → Shared → Prop}

theorem entryX {head : Value} {hadNext : Bool} (hfr : A.frames = some (env :: outer)) (hl : s.heap.FunFrames base (env :: outer)) (hf : env.frame = some L) (he : s.heap.get? e = some ⟨.ref C, some D, .fields vs, sl⟩)
    (hkb : base.StaysIn s.heap) (hen : base.get? e = none) (hsz : 1 < vs.size) (h : ∀ h', NoteX base (env :: outer) e C D (rawInt L) s.heap h' → Q () { s with heap := h' }) :
    wpAny M A (do let a ← frameOf env; let pl ← entryPlaceOf L hadNext; let b ← EntryCells.newEntry head a .none (rawInt L) .none pl; setField (.ref e) 1 b) Q E s := by
  have hne : e ∉ (env :: outer).filterMap (·.frame) := fun hm => by
    obtain ⟨_, o, ho, hnf⟩ := hl.mem hm
    rw [he] at ho; cases ho; exact hnf vs rfl
  refine wpAny_bind (wpAny_frameOf_fun hfr hl hf fun h₁ hs₁ => wpAny_bind (wpAny_entryPlaceOf fun pl hpl => ?_))
  unfold EntryCells.newEntry newFields
  refine wpAny_bind (wpAny_newObj_type ?_ (hpl.sizeOk5 _ _ _ _ _))
  generalize hts : ([head, .ref L, .none, rawInt L, .none] ++ (if pl.isEmpty then List.replicate 6 Value.none else pl)).toArray = ts
  have h3 : ts[3]? = some (rawInt L) := by rw [← hts]; rfl
  have he1 : h₁.get? e = some ⟨.ref C, some D, .fields vs, sl⟩ := (hs₁.2.1 e hne).trans he
  have hT : h₁.objs.size ≠ e := Nat.ne_of_gt (Heap.lt_size he1)
  have kb : base.StaysIn h₁ := fun b o q => (hs₁.2.1 b fun hm => by rw [(hl.mem hm).1] at q; cases q).trans (hkb b o q)
  have he2 := Heap.get?_push_of_some (h := h₁) (⟨.type "traceback", none, .fields ts, #[]⟩ : Obj) he1
  refine wpAny_setField he2 rfl hsz (h _ ?_)
  have kp : ∀ b o, b ≠ e → h₁.get? b = some o → ((h₁.push ⟨.type "traceback", none, .fields ts, #[]⟩).update e (Obj.mapFields (·.setIfInBounds 1 (Value.ref h₁.objs.size)))).get? b = some o := fun b o hb q => by
    rw [Heap.get?_update_other _ _ (Ne.symm hb)]; exact Heap.get?_push_of_some _ q
  have nr : ∀ b o, s.heap.get? b = some o → (∀ vs, o.data ≠ .fields vs) → b ≠ e := fun b o q hn z => by
    rw [z, he] at q; cases q; exact hn vs rfl
  refine ⟨fun b o q => kp b o (fun z => by rw [z, hen] at q; cases q) (kb b o q), hl.of_keeps fun b o q hn => ?_, ⟨sl, vs.setIfInBounds 1 (.ref h₁.objs.size), h₁.objs.size, ⟨.type "traceback", none, .fields ts, #[]⟩, ts, ?_, by simp [hsz], kb.fresh, hT, ?_, rfl, h3⟩, fun b o q hn => ?_⟩
  · obtain ⟨z, hz⟩ := hs₁.2.2 b o q
    exact ⟨_, kp b _ (nr b o q hn) hz, rfl⟩
  · exact Heap.get?_update_self _ he2 rfl
  · rw [Heap.get?_update_other _ _ (Ne.symm hT)]; exact Heap.get?_push_size h₁ rfl
  · obtain ⟨z, hz⟩ := hs₁.2.2 b o q
    exact ⟨z, kp b _ (nr b o q hn) hz⟩

theorem flightX {fl : Value} {l : List Env} (hkb : base.StaysIn s.heap) (hl : s.heap.FunFrames base l) (R : RecX s.heap base e C D fl) (h : ∀ h', NoteX base l e C D .none s.heap h' → Q () { s with heap := h' }) :
    wpAny M A (setFlight (.ref e) none) Q E s := by
  obtain ⟨sl, vs, T, oT, ts, he, h1, hnT, hTe, hT, hdT, h3⟩ := R
  have hz : 3 < ts.size := (Array.getElem?_eq_some_iff.mp h3).1
  have other : ∀ b, b ≠ T → (s.heap.update T (Obj.mapFields (·.setIfInBounds 3 Value.none))).get? b = s.heap.get? b := fun b hb => Heap.get?_update_other _ _ (Ne.symm hb)
  have nr : ∀ b o, s.heap.get? b = some o → (∀ vs, o.data ≠ .fields vs) → b ≠ T := fun b o q hn z => by
    rw [z, hT] at q; cases q; exact hn ts hdT
  have hdU := Obj.data_mapFields hdT (·.setIfInBounds 3 Value.none)
  unfold setFlight
  refine wpAny_bind (wpAny_field he rfl h1 ?_)
  rw [if_pos (show (Value.ref T != Value.none) = true from by simp)]
  exact wpAny_setField hT hdT hz (h _ ⟨fun b o q => (other b fun z => by rw [z, hnT] at q; cases q).trans (hkb b o q), hl.of_keeps fun b o q hn => ⟨o, (other b (nr b o q hn)).trans q, rfl⟩,
    ⟨sl, vs, T, _, _, (other e (Ne.symm hTe)).trans he, h1, hnT, hTe, Heap.get?_update_self _ hT (Obj.isFreed_of_fields hdU), hdU, by simp [hz]⟩, fun b o q hn => ⟨o.slots, (other b (nr b o q hn)).trans q⟩⟩)

theorem noteX_first (hfr : A.frames = some (env :: outer)) (hl : s.heap.FunFrames base (env :: outer)) (hf : env.frame = some L) (he : s.heap.get? e = some ⟨.ref C, some D, .fields vs, sl⟩) (h1 : vs[1]? = some .none)
    (hkb : base.StaysIn s.heap) (hen : base.get? e = none) (h : ∀ h', NoteX base (env :: outer) e C D (rawInt L) s.heap h' → Q () { s with heap := h' }) : wpAny M A (noteFrame (.ref e) env) Q E s := by
  unfold noteFrame
  simp only [hf]
  refine wpAny_bind (wpAny_field he rfl h1 ?_)
  rw [if_neg (by decide)]
  exact entryX hfr hl hf he hkb hen (Array.getElem?_eq_some_iff.mp h1).1 h

theorem noteX_next (hfr : A.frames = some (env :: outer)) (hl : s.heap.FunFrames base (env :: outer)) (hf : env.frame = some L) (R : RecX s.heap base e C D .none)
    (hkb : base.StaysIn s.heap) (hen : base.get? e = none) (h : ∀ h', NoteX base (env :: outer) e C D (rawInt L) s.heap h' → Q () { s with heap := h' }) : wpAny M A (noteFrame (.ref e) env) Q E s := by
  obtain ⟨sl, vs, T, oT, ts, he, h1, hnT, hTe, hT, hdT, h3⟩ := R
  have hz : 3 < ts.size := (Array.getElem?_eq_some_iff.mp h3).1
  have other : ∀ b, b ≠ T → (s.heap.update T (Obj.mapFields (·.setIfInBounds 3 Value.none))).get? b = s.heap.get? b := fun b hb => Heap.get?_update_other _ _ (Ne.symm hb)
  have nr : ∀ b o, s.heap.get? b = some o → (∀ vs, o.data ≠ .fields vs) → b ≠ T := fun b o q hn z => by
    rw [z, hT] at q; cases q; exact hn ts hdT
  unfold noteFrame
  simp only [hf]
  refine wpAny_bind (wpAny_field he rfl h1 ?_)
  rw [if_pos (show (Value.ref T != Value.none) = true from by simp)]
  refine wpAny_bind (wpAny_field hT hdT h3 ?_)
  rw [if_neg (show ¬ ((Value.none == rawInt L) = true) from by simp [rawInt])]
  refine wpAny_bind (wpAny_setField hT hdT hz ?_)
  exact entryX hfr (hl.of_keeps fun b o q hn => ⟨o, (other b (nr b o q hn)).trans q, rfl⟩) hf ((other e (Ne.symm hTe)).trans he) (fun b o q => (other b fun z => by rw [z, hnT] at q; cases q).trans (hkb b o q)) hen (Array.getElem?_eq_some_iff.mp h1).1
    fun h' ⟨x1, x2, x3, x4⟩ => h h' ⟨x1, x2, x3, fun b o q hn => x4 b o ((other b (nr b o q hn)).trans q) hn⟩
end
end Mine
end
section
open PySem PySem.W PyProof.Rows PySem.Calls
namespace Mine
noncomputable def FlyX (base : Heap) (l : List Env) (e C D : Addr) (od : Obj) (h : Heap) : Prop :=
  base.StaysIn h ∧ base.get? e = none ∧ h.FunFrames base l ∧ RecX h base e C D .none ∧ base.get? D = none ∧ D ∉ l.filterMap (·.frame) ∧ (∀ ws, od.data ≠ .fields ws) ∧ ∃ sl, h.get? D = some { od with slots := sl }

section
variable {M : Model} {A : Around} {E : Value → Shared → Prop} {s' : Shared} {base g : Heap} {outer : List Env} {L a e C D : Addr} {m : Str → Option Value} {name : Str} {scope : Scope} {cd : Value} {Q : Unit → Shared → Prop} {od : Obj} {vs : Array Value} {sl : Array (Option Value)}
theorem leave_X (K : Below A base outer g) (F : Fr g L s'.heap m) (N : News g L s'.heap [(D, od), (e, ⟨.ref C, some D, .fields vs, sl⟩)]) (h1 : vs[1]? = some .none) (hod : ∀ ws, od.data ≠ .fields ws)
    (hQ : ∀ h', FlyX base outer e C D od h' → g.UpToSlots h' → Q () { s' with heap := h' }) (hk : scope.kind = .function := by rfl) :
    wpAny M (A.deeper (envOf name scope L a cd)) (leaving (envOf name scope L a cd) (.ref e)) Q E s' := by
  have K' := K.push (name := name) (a := a) (cd := cd) F hk
  have nD := N _ (.head _)
  have ne := N _ (.tail _ (.head _))
  have hen := fresh_of_stays K.stays ne.2.2
  unfold leaving
  refine wpAny_bind (noteX_first K'.stack K'.frames rfl ne.1 h1 K'.stays hen fun h₁ n₁ => ?_)
  obtain ⟨a1, a2, a3, a4⟩ := n₁
  refine flightX a1 a2 a3 fun h₂ n₂ => ?_
  obtain ⟨b1, ⟨_, _, b2⟩, b3, b4⟩ := n₂
  have up := a4.trans b4
  refine hQ h₂ ⟨b1, hen, b2, b3, fresh_of_stays K.stays nD.2.2, fun hm => ?_, hod, up _ _ nD.1 hod⟩ ((Heap.UpToSlots.of_keeps F.keep).trans up)
  obtain ⟨o, ho, _⟩ := (K.frames.mem hm).2
  rw [nD.2.2] at ho; cases ho
end

section
variable {prog : Program} {w : World} {A₀ : Around} {E : Value → Shared → Prop} {s' : Shared} {h₀ h : Heap} {outer : List Env} {L a e C D : Addr} {m : Str → Option Value} {name : Str} {scope : Scope} {cd : Value} {od : Obj}
  {n : Str} {b₀ : Stmt} {suite : List Stmt} {pos np : Pos} {rest : List ExceptHandler} {Q : Flow → Shared → Prop} {KF : Frag} {p : Program} {loose : List Str} {mg mb : Str → Option Value} {x : Str}
variable {nm q : Str} {N0 : Addr} {bs bm : List Value} {hdct : Bool} {sn : List Str} {sub : List Value} {ab : Bool} {col : Option Bool} {dd : Option Addr} {k0 k1 k2 k3 k5 : Option Value} {newId : String}

theorem bga_kind : builtinKind "BaseException.__getattribute__" = some .slot := by decide +kernel
theorem bga_split : splitId "BaseException.__getattribute__" = some ("BaseException", "__getattribute__") := by decide +kernel
theorem bga_not : (Value.builtin "BaseException.__getattribute__" == Value.builtin "object.__getattribute__") = false := by decide +kernel

theorem get_X {K : Frag} {A : Around} {s : Shared} {news : List (Addr × Obj)} {v : Value} {attr : Option Value} {vs : Array Value} {sl : Array (Option Value)} {y : Str} {expr : Bool} {Q : Value → Shared → Prop} (F : Fr h₀ L s.heap m) (X₀ : K.In h₀) (N : News h₀ L s.heap ((D, od) :: (e, ⟨.ref C, some D, .fields vs, sl⟩) :: news))
    (hg1 : findIn K (.ref C) "__getattribute__" = some (some (.builtin "BaseException.__getattribute__"))) (hg2 : findIn K (.ref C) "__getattr__" = some none) (hb : mroIn K C (.type "BaseException") = some true)
    (hh : hasDictIn K C = true) (ha : findIn K (.ref C) y = some attr) (hn : noGet K attr = true) (hl : lookIn y od = some (some v)) (hv : handedIn v = true) (h : Q v { s with toks := s.toks + 1 }) :
    wpAny (model prog w) A (getAttr (.ref e) y expr) Q E s := by
  have FX := PySem.F.attr_Exception
  have X := X₀.keeps F.keep
  have I : W.InstAt s.heap e ⟨.ref C, some D, .fields vs, sl⟩ C (some od) := ⟨(N _ (.tail _ (.head _))).1, rfl, rfl, (N _ (.head _)).1⟩
  obtain ⟨hh', g, d, t, os⟩ := s
  have L0 := I.type (M := model prog w)
  have L1 := looks_findIn (M := model prog w) X hg1
  have L2 := looks_findIn (M := model prog w) X hg2
  have L3 : Looks (model prog w) hh' (isInstance (.ref e) (.type "BaseException")) true := L0.andThen (looks_mroIn X hb)
  have L4 := looks_find (M := model prog w) X I (findObj_own hh ha hn hl)
  have f3 := FX.ga.bind (.ref e)
  have hx0 : (expr && onTheHeap (Value.builtin "BaseException.__getattribute__")) = false := by cases expr <;> rfl
  have hx1 : (onTheHeap (Value.ref C) && Value.builtin "BaseException.__getattribute__" == Value.builtin "object.__getattribute__") = false := by rw [bga_not]; rfl
  have fin : ∀ (A' : Around) (R : Result → Shared → Prop), R (.ok (.ret v)) ⟨hh', g, d, t + 1, os⟩ → codeAny (model prog w) A' (.call (.builtin "BaseException.__getattribute__") ⟨[.ref e, .str y t], []⟩) R ⟨hh', g, d, t + 1, os⟩ := fun A' R q => by
    refine codeAny_call_builtin FX.ga.plain PySem.F.entry_bexc_ga ?_
    refine @check_slot (model prog w) _ _ ⟨hh', g, d, t + 1, os⟩ "BaseException.__getattribute__" "BaseException" "__getattribute__" (.ref e) [.str y t] [] _ bga_kind bga_split L3 (PySem.F.args_bexc_ga (.ref e) (.str y t)) ?_
    unfold Builtin.«object.__getattribute__»
    refine wpAny_bind (wpAny_pure (wpAny_bind (wpAny_pure (wpAny_bind (L0.at (wpAny_bind (L4.at ?_)))))))
    exact wpAny_pure q
  unfold getAttr getAttrBy
  refine wpAny_bind (wpAny_mkText (wpAny_holding (wpAny_bind (L0.at (wpAny_bind (L1.at ?_))))))
  dsimp only
  rw [hx1]
  unfold getAttrByItsOwn
  refine wpAny_bind (m := typeLookup (.ref C) "__getattr__") (L2.at ?_)
  unfold callGetattribute boundAndCalled
  rw [hx0, f3]
  repeat (any_goals (first | assumption | wp_step))
  refine fin _ _ ?_
  show wpAny _ _ (handedOut v) _ _ _
  rw [handedOut_of hv]
  exact wpAny_pure h
end
end Mine
end
section
open PySem PySem.W PyProof.Rows PySem.Calls
namespace Mine
/-- a def entered from the law's own frame L: the ground g holds all; B holds all but L -/
structure GroundL (h₀ g B : Heap) (L L' : Addr) (m : Str → Option Value) : Prop where
  none : B.get? L = none
  most : ∀ b o, b ≠ L → g.get? b = some o → B.get? b = some o
  less : ∀ b o, B.get? b = some o → g.get? b = some o
  from0 : h₀.StaysIn B
  size : B.objs.size ≤ L'
  ne : L ≠ L'
  ns : g.Ns L m

theorem enterL {prog : Program} {w : World} {A : Around} {s : Shared} {K : Frag} {L : Addr} {h₀ : Heap} {m mg mb : Str → Option Value} {p : Program} {loose : List Str} {mean : ExcName → Option Value}
    {env : Env} {R : Result → Shared → Prop} {name qual : Str} {params : Arguments} {body : List Stmt} {scope : Scope} {dV kV doc pm cdv ct oc : Value} {an od : Option Addr} {osl : Array (Option Value)} {f : Addr} {args : Args} {binds : List (Str × Value)}
    (F : Fr h₀ L s.heap m) (X₀ : K.In h₀) (T : Top p loose mean mg mb h₀) (hA : A.frames = some [env]) (hf : env.frame = some L) (hke : env.scope.kind = .function)
    (ho : K.lookup f = some ⟨oc, od, .func (fnOf name qual params body scope dV kV doc pm an cdv ct), osl⟩) (hcd : codeIn K cdv qual = true) (hroom : A.depth < recursionLimit)
    (hbind : BindsTo s (fnOf name qual params body scope dV kV doc pm an cdv ct) args binds) (hloc : ∀ y ∈ binds, scope.names.lookup y.1 = some .local)
    (h : ∀ g B L' h₁, g = s.heap → Fr g L' h₁ (fun y => binds.reverse.lookup y) → News g L' h₁ [] → Below A B [env] g → K.In g → Top p loose mean mg mb g → K.In B → Top p loose mean mg mb B → GroundL h₀ g B L L' m →
      wpAny (model prog w) (A.deeper (envOf qual scope L' f cdv)) (execs body (envOf qual scope L' f cdv))
        (fun fl s' => R (.ok (.ret (match fl with | .ret v => v | _ => .none))) s')
        (fun e s' => wpAny (model prog w) (A.deeper (envOf qual scope L' f cdv)) (leaving (envOf qual scope L' f cdv) e) (fun _ s'' => R (.error e) s'') (fun e' s'' => R (.error e') s'') s')
        { s with heap := h₁, toks := s.toks + binds.length })
    (hco : scope.isCoroutine = false) (hgen : scope.isGenerator = false) (hk : scope.kind = .function)
    (hcell : ∀ x ∈ scope.names, x.2 ≠ .cell) : codeAny (model prog w) A (.call (.ref f) args) R s := by
  refine codeAny_call_def (fd := fnOf name qual params body scope dV kV doc pm an cdv ct) (body := body) (binds := binds) hroom ((X₀.keeps F.keep) _ _ ho) rfl (T.nolimit.keeps F.keep) (codeRec_of (X₀.keeps F.keep) hcd) rfl hbind hcell hloc (fun h₁ hns hk₁ => ?_) hco hgen hk
  have nL : h₀.get? L = none := by
    cases q : h₀.get? L with
    | none => rfl
    | some o => exact absurd (Nat.lt_of_lt_of_le (Heap.lt_size q) F.above) (Nat.lt_irrefl _)
  obtain ⟨oL, es, ep, hL, hLd, hLk, hLf⟩ := F.ns
  have st : h₀.StaysIn (s.heap.hide L) := fun b o e => (Heap.hide_ne s.heap fun (z : b = L) => by rw [z, nL] at e; cases e).trans (F.keep b o e)
  have lt : L ≠ s.heap.objs.size := Nat.ne_of_lt (Heap.lt_size hL)
  refine h s.heap (s.heap.hide L) s.heap.objs.size h₁ rfl ⟨hns, hk₁, Nat.le_refl _⟩ (fun p hp => nomatch hp) ⟨hA, fun b o e => Heap.of_hide e, ?_⟩ (X₀.keeps F.keep) (T.keeps F.keep) (X₀.keeps st) (T.keeps st)
    ⟨Heap.hide_self _ _, fun b o n e => (Heap.hide_ne s.heap n).trans e, fun b o e => Heap.of_hide e, st, Nat.le_of_eq (Heap.hide_size _ _), lt, F.ns⟩
  exact ⟨by rw [hke]; decide, ⟨L, oL, hf, Heap.hide_self _ _, hL, fun vs q => by rw [hLd] at q; cases q⟩, trivial⟩

section
variable {h₀ g B h h' : Heap} {L L' : Addr} {m m' : Str → Option Value} {news ns : List (Addr × Obj)} {oL : Obj}
theorem GroundL.fin0 (G : GroundL h₀ h B L L' m) (F : Fr h₀ L h m) (N : News h₀ L h news) (F' : Fr h L' h' m') : Fr h₀ L h' m ∧ News h₀ L h' news := by
  obtain ⟨o, es, ep, e, r⟩ := F.ns
  exact ⟨⟨⟨o, es, ep, F'.keep _ _ e, r⟩, fun b o q => F'.keep _ _ (F.keep b o q), F.above⟩, fun p hp => ⟨F'.keep _ _ (N p hp).1, (N p hp).2⟩⟩
theorem GroundL.fin (G : GroundL h₀ h B L L' m) (F : Fr h₀ L h m) (N : News h₀ L h news) (F' : Fr B L' h' m') (N' : News B L' h' ns) (hm : (L, oL) ∈ ns) (hn : ∀ hh : Heap, hh.get? L = some oL → hh.Ns L m) : Fr h₀ L h' m ∧ News h₀ L h' news :=
  ⟨⟨hn _ (N' _ hm).1, fun b o q => F'.keep _ _ (G.from0 b o q), F.above⟩, fun p hp => ⟨F'.keep _ _ (G.most _ _ (N p hp).2.1 (N p hp).1), (N p hp).2⟩⟩
end

section
variable {prog : Program} {w : World} {A₀ : Around} {E : Value → Shared → Prop} {s' : Shared} {h₀ base g h : Heap} {outer : List Env} {L L1 a e C D : Addr} {m m1 : Str → Option Value} {name : Str} {scope : Scope} {cd : Value} {od : Obj}
  {n : Str} {b₀ : Stmt} {suite : List Stmt} {pos np : Pos} {rest : List ExceptHandler} {Q : Flow → Shared → Prop} {KF : Frag} {p : Program} {loose : List Str} {mg mb : Str → Option Value} {x : Str}
variable {nm q : Str} {N0 : Addr} {bs bm : List Value} {hdct : Bool} {sn : List Str} {sub : List Value} {ab : Bool} {col : Option Bool} {dd : Option Addr} {k0 k1 k2 k3 k5 : Option Value} {newId : String}

theorem catch_L (K : Below A₀ base outer g) (F : Fr g L h m) (hsm : h.UpToSlots s'.heap) (R : FlyX base (envOf name scope L a cd :: outer) e C D od s'.heap) (G : GroundL h₀ g base L1 L m1)
    (X : KF.In base) (T : TopRead p loose mg mb base) (ex : nsIn KF mainGlobals x = some (some (.ref C))) (hc : KF.lookup C = some (excClassObj nm q C N0 bs bm hdct sn sub ab col dd k0 k1 k2 k3 k5 newId)) (hb : bm.contains (.type "BaseException") = true)
    (k : ∀ h' tk vs sl sl2 oL, Fr base L h' (fun y => if y = n then some (.ref e) else m y) → News base L h' [(D, { od with slots := sl2 }), (e, ⟨.ref C, some D, .fields vs, sl⟩), (L1, oL)] → (∀ hh : Heap, hh.get? L1 = some oL → hh.Ns L1 m1) →
      wpAny (model prog w) ((A₀.deeper (envOf name scope L a cd)).mark (some (.ref e))) (execs (b₀ :: suite) (envOf name scope L a cd))
        (fun f s₄ => wpAny (model prog w) (A₀.deeper (envOf name scope L a cd)) (do bindName (envOf name scope L a cd) n .none; unbindBehindTheSuite (envOf name scope L a cd) n pos) (fun _ s₅ => Q f s₅) E s₄)
        (AsSuiteRaised (model prog w) ((A₀.deeper (envOf name scope L a cd)).mark (some (.ref e))) (envOf name scope L a cd) n pos (notedBy (model prog w) ((A₀.deeper (envOf name scope L a cd)).mark (some (.ref e))) (envOf name scope L a cd) (cameBackBy (model prog w) (A₀.deeper (envOf name scope L a cd)) (envOf name scope L a cd) E)))
        { s' with heap := h', toks := tk })
    (hk : scope.kind = .function := by rfl) (hlo : (envOf name scope L a cd).kindOf n = some .local := by rfl) (hx : (envOf name scope L a cd).kindOf x = some .globalImplicit := by rfl) (hd : (x == ("__debug__" : Str)) = false := by decide) :
    wpAny (model prog w) (A₀.deeper (envOf name scope L a cd)) (noteFrame (.ref e) (envOf name scope L a cd))
      (fun _ s₂ => wpAny (model prog w) (A₀.deeper (envOf name scope L a cd)) (setFlight (.ref e) none) (fun _ s₃ =>
        wpAny (model prog w) (A₀.deeper (envOf name scope L a cd)) (handleBy (.ref e) (envOf name scope L a cd) (.ExceptHandler (some (.Name x np)) (some n) (b₀ :: suite) pos :: rest)) Q E s₃) E s₂) E s' := by
  obtain ⟨f1, f2, f3, f4, f5, f6, hod, slD, f7⟩ := R
  refine noteX_next (Around.frames_deeper K.stack) f3 rfl f4 f1 f2 fun h₄ n₄ => ?_
  obtain ⟨a1, a2, a3, a4⟩ := n₄
  refine flightX a1 a2 a3 fun h₅ n₅ => ?_
  obtain ⟨b1, b2, b3, b4⟩ := n₅
  have F₅ : Fr base L h₅ m := ⟨(hsm.trans (a4.trans b4)).ns F.ns, b1, G.size⟩
  have b3' := b3
  obtain ⟨sl5, vs5, _, _, _, he5, _⟩ := b3'
  refine wpAny_handleBy_cons (codeAny_handlers_test (name_K F₅ X T ex ?_ hk hx hd)) (by intro q; cases q)
  refine wpAny_excMatches_sub_self ((X.keeps F₅.keep) _ _ hc) he5 rfl hb (codeAny_handlers_suite_as ?_)
  refine flightX b1 b2 b3 fun h₆ n₆ => ?_
  obtain ⟨c1, c2, c3, c4⟩ := n₆
  have up := a4.trans (b4.trans c4)
  have F₆ : Fr base L h₆ m := ⟨(hsm.trans up).ns F.ns, c1, G.size⟩
  obtain ⟨sl6, vs6, T6, _, _, he6, _⟩ := c3
  obtain ⟨sl7, hD⟩ := up _ _ f7 hod
  have heL : e ≠ L := fun z => by
    obtain ⟨_, ⟨L', o, hf, _, ho, hn⟩, _⟩ := c2
    obtain rfl : L = L' := Option.some.inj hf
    rw [← z, he6] at ho; cases ho; exact hn _ rfl
  have hDL : D ≠ L := fun z => f6 (by rw [z]; exact List.mem_cons_self ..)
  obtain ⟨o1, es1, ep1, e1, r1⟩ := G.ns
  obtain ⟨oL, es2, ep2, e2, r2⟩ := (hsm.trans up).ns (m := m1) (a := L1) ⟨o1, es1, ep1, F.keep _ _ e1, r1⟩
  have N₆ : News base L h₆ [(D, { od with slots := sl7 }), (e, ⟨.ref C, some D, .fields vs6, sl6⟩), (L1, oL)] := fun p hp => by
    rcases List.mem_cons.mp hp with rfl | hp
    · exact ⟨hD, hDL, f5⟩
    rcases List.mem_cons.mp hp with rfl | hp
    · exact ⟨he6, heL, f2⟩
    · rw [List.mem_singleton.mp hp]; exact ⟨e2, G.ne, G.none⟩
  exact stN F₆ N₆ (fun h₇ F₇ N₇ => k h₇ _ _ _ _ oL F₇ N₇ fun hh q => ⟨oL, es2, ep2, q, r2⟩) hk hlo
end
end Mine
end
section
open PySem PySem.W PyProof.Rows PySem.Calls
namespace Mine
theorem fresh_M26 : True := by
  w_top off
  trivial
theorem lines_M26_0 : True := by
  k_with_none
  (k_with "g_ktr_room" => (first | exact Nat.le_of_ble_eq_true rfl | exact roomF 0 (by assumption) rfl rfl | exact roomF 1 (by assumption) rfl rfl | exact roomF 2 (by assumption) rfl rfl | exact roomF 3 (by assumption) rfl rfl | exact roomF 4 (by assumption) rfl rfl))
  (k_with "g_ktr_units" => (first | exact Nat.le_of_ble_eq_true rfl | exact unitF 3 (by assumption) rfl rfl | exact unitG 3 (by assumption) rfl rfl | exact unitG 6 (by assumption) rfl rfl | exact unitF 6 (by assumption) rfl rfl | exact unitF 7 (by assumption) rfl rfl | exact unitF 4 (by assumption) rfl rfl | exact unitF 5 (by assumption) rfl rfl | exact unitF 8 (by assumption) rfl rfl | exact unitF 9 (by assumption) rfl rfl | exact unitF 10 (by assumption) rfl rfl | exact unitF 11 (by assumption) rfl rfl | exact unitF 12 (by assumption) rfl rfl | exact unitF 13 (by assumption) rfl rfl | exact unitF 14 (by assumption) rfl rfl | exact unitF 15 (by assumption) rfl rfl | exact unitF 0 (by assumption) rfl rfl | exact unitF 1 (by assumption) rfl rfl | exact unitF 2 (by assumption) rfl rfl))
  (k_with "g_k_ne" => ((refine neN ?_; (try dsimp only); first | exact Ne'.o (by with_reducible assumption) | exact Ne'.s (by with_reducible assumption) | k_extra "ne")))
  (k_with "g_k_all" => (first | exact OwnOff.ne (by with_reducible assumption) (by k_mem) | exact allLt_ne (by assumption)))
  (k_with "g_size_fits" => ((simp only [List.size_toArray, List.length_map, List.length_append, List.length_cons, List.length_nil, Array.size_push]; (first | done | (rw [sizeLine_eq]; omega)))))
  (k_with "g_ent" => (apply code_defF; (case hA => exact rfl); (case hf => exact rfl); (case hke => exact rfl); (case B => k_asm); (case F => k_asm); (case X₀ => k_asm); (case N => k_asm); (case T => k_asm); (case ho => k_is); (case hcd => k_is); (case hroom => k_room); (case hbind => first | exact BindsTo.of_eq rfl | exact binds_K (by k_in) rfl (by k_is) rfl rfl rfl | fail "no rule for these arguments"); (case hcell => decide); (case hloc => exact locs rfl); (case hco => exact rfl); (case hgen => exact rfl); (case hk => exact rfl); k_whole; intro _ _ _ evX AX mmX _ _ _ _ _ _; (try dsimp only); (try k_fold)))
  (k_with "call ref" => (k_here; k_dflt (first
    | (apply call_cls0; (case F => k_asm); (case X₀ => k_asm); (case N => k_asm); (case hm => k_is); (case hi => k_is); k_whole; intro x' d' h' F' N' l1 l2; (try k_lt l1); (try k_lt2 l2); (try k_sweep); (revert x' d' h' F' N' l1 l2; intros))
    | (apply call_cls; (case F => k_asm); (case X₀ => k_asm); (case N => k_asm); (case hm => k_is); (case hi => k_is); (case hf => k_is); k_whole; intro x' d' h' F' N' l1 l2; (try k_lt l1); (try k_lt2 l2); (try k_sweep); (revert x' d' h' F' N' l1 l2; intros); k_extra "g_ent")
    | (apply call_meth; (case N => k_asm); (case hq => k_mem); k_whole; k_extra "g_ent")
    | (refine wpAny_call ?_; k_extra "g_ent"))))
  (k_with "call ref" => (k_here; (with_reducible show wpAny _ _ (call (Value.ref 154) [_, _, _, _] _) _ _ _); k_dflt (apply row_call; (case B => k_asm); (case F => k_asm); (case X => k_asm); (case N => k_asm); (case T => k_asm); (case hk => exact rfl); (case hd => ktr_room); k_whole); intro x' d' h' tk' k0' k1' k2' k3' F' N' l1 l2; (try k_lt l1); (try k_lt2 l2); (try k_sweep); (revert x' d' h' tk' k0' k1' k2' k3' F' N' l1 l2; intros)))
  (k_with "storeName" => (k_here; k_dflt (apply stXF; (case F => k_asm); (case N => k_asm); (case hk => rfl); (case hx => rfl); k_whole); intro mmX; intro _ _ _; (try k_sweep)))
  (k_with "execs cons" => (k_here; (try dsimp only); (refine execsF ?_); intro qkX))
  (k_with "execs cons" => (k_here; (try dsimp only); (with_reducible show wpAny _ _ _ _ _ (Shared.mk _ _ _ (_ + _) _)); (refine toksF ?_); intro tkX; (refine execsF ?_); intro qkX))
  (k_with "lt" => (first | with_reducible assumption | (apply And.left; first | with_reducible assumption | (apply And.right; first | with_reducible assumption | (apply And.right; first | with_reducible assumption | (apply And.right; first | with_reducible assumption | (apply And.right; first | with_reducible assumption | (apply And.right; first | with_reducible assumption | (apply And.right; first | with_reducible assumption | (apply And.right; first | with_reducible assumption | (apply And.right; first | with_reducible assumption | (apply And.right; first | with_reducible assumption | (apply And.right; first | with_reducible assumption | (apply And.right; first | with_reducible assumption | (apply And.right; first | with_reducible assumption | (apply And.right; first | with_reducible assumption | (apply And.right; first | with_reducible assumption | (apply And.right; with_reducible assumption))))))))))))))))))
  (k_with "ne" => (first | (refine Nat.ne_of_gt ?_; k_extra "lt") | (refine Nat.ne_of_lt ?_; k_extra "lt") | (refine Nat.ne_of_gt ?_; apply Nat.lt_trans; rotate_left; (with_reducible assumption); k_extra "lt") | (refine Nat.ne_of_lt ?_; apply Nat.lt_trans; rotate_left; (with_reducible assumption); k_extra "lt")))
  (k_with "eval Call" => (k_here; (with_reducible show wpAny _ _ (eval (Expr.Call (Expr.Name _ _) _ [] _) _) _ _ _); k_dflt (refine Call_ ?_)))
  (k_with "call ref" => (k_here; (with_reducible show wpAny _ _ (call (Value.ref 51) _ _) _ _ _); k_dflt (refine' call_excK ?k1 ?k2 ?k3 ?k4 ?k5 ?k6 ?k7 ?k8 ?_; (case k1 => k_asm); (case k2 => k_asm); (case k3 => k_asm); (case k4 => exact rfl); (case k5 => decide +kernel); (case k6 => k_is); (case k7 => k_is); (case k8 => exact Nat.le_of_ble_eq_true rfl); k_whole; intro x' d' h' F' N' l1; (try k_lt l1); (try k_sweep); k_enter)))
  (k_with "getMethod type:Exception" => (k_here; refine' method_type ?F ?X ?m (by decide +kernel) ?e ?h ?_; (case F => k_asm); (case X => k_asm); (case m => exact rfl); (case e => k_dflt k_is); (case h => k_handed)))
  (k_with "call builtin:Exception.__init__" => (k_here; (with_reducible show wpAny _ _ (call (Value.builtin _) (Value.ref _ :: _)) _ _ _); k_dflt (refine' exc_init ?k1 ?k2 ?k3 ?k4 ?k5 ?k6 ?k7 ?_; (case k1 => k_asm); (case k2 => k_asm); (case k3 => k_asm); (case k4 => (intro p hp; cases hp)); (case k5 => exact rfl); (case k6 => decide +kernel); (case k7 => exact Nat.le_of_ble_eq_true rfl); k_whole); intro t1' h' F' N'; (try k_sweep); (revert t1' h' F' N'; intros)))
  (k_with "setAttr ref" => (k_here; k_dflt (refine' exc_store ?k1 ?k2 ?k3 ?k4 ?k5 ?k6 ?k7 ?k8 ?k9 ?k10 ?_; (case k1 => k_asm); (case k2 => k_asm); (case k3 => k_asm); (case k4 => (intro p hp; cases hp)); (case k5 => exact rfl); (case k6 => k_is); (case k7 => exact exc_passes); (case k8 => k_is); (case k9 => exact rfl); (case k10 => k_is); k_whole); intro D' od' h' F' N' n1' n2' n3'; (try k_sweep); (revert D' od' h' F' N' n1' n2' n3'; intros)))
  (k_with "exec Raise some none" => (k_here; k_dflt (refine raise_X (C := 51) rfl ?_)))
  (k_with "leaving ref" => (k_here; (refine' leave_X ?k1 ?k2 ?k3 ?k4 ?k5 ?_; (case k1 => assumption); (case k2 => assumption); (case k3 => assumption); (case k4 => rfl); (case k5 => assumption); k_whole; intro h' R' U'; (try dsimp only at R' U' ⊢); (revert h' R' U'; intros))))
  (k_with "noteFrame ref" => (k_here; k_dflt (refine' catch_L ?k1 ?k2 ?k3 ?k4 ?kG ?k5 ?k6 ?k7 ?k8 ?k9 ?_; (case k4 => assumption); (case kG => assumption); (case k1 => assumption); (case k2 => assumption); (case k3 => assumption); (case k5 => assumption); (case k6 => k_asm); (case k7 => k_is); (case k8 => exact rfl); (case k9 => decide +kernel); k_whole); intro h' tk' vs' sl' sl2' oL' F' N' nL'; (try k_sweep); (revert h' tk' vs' sl' sl2' oL' F' N' nL'; intros)))
  trivial
theorem c_halts {w : World} {mean : ExcName → Option Value} {mg mb : Str → Option Value} (l : Int) (t : Tok)
    {dp un : Nat} {gd : Option (List Code)} {cn : Str} {cs : Scope} {a : Addr} {ccd : Value} {cells : List (Str × Addr)} {h₀ : Heap} {L : Addr} {m : Str → Option Value} {s : Shared} {Q E : Value → Shared → Prop} {news : List (Addr × Obj)} :
    Fr h₀ L s.heap m → (hd.heap_39 w.params).In h₀ → News h₀ L s.heap news → Top hd.view_39 (looseW hd.view_39 []) mean mg mb h₀ → cs.kind = .function → dp + 6 < recursionLimit → un + 48 < cLine →
    (∀ v h' tk', v = .bool (decide (l ≤ 2300)) → Fr h₀ L h' m → News h₀ L h' news → Q v { s with heap := h', toks := tk' }) →
    wpAny (model PySem.Challenge.rw_pq0405_01.row.prog w) (ktrTop dp un gd cn cs L a ccd cells []) (call (.ref 460) [.int l t]) Q E s := by
  k_fill
  intro F X N T hk hd hu hret
  refine wpAny_call ?_
  k_dflt (refine' enterL ?k2_q ?k3_q ?k5_q ?kA_q ?kF_q ?kK_q ?k6_q ?k7_q ?k8_q ?k9_q ?kB_q ?_ ?c2_q ?c3_q ?c4_q ?c5_q; (case kA_q => exact rfl); (case kF_q => exact rfl); (case kK_q => assumption); (case k2_q => k_asm); (case k3_q => k_asm); (case k5_q => k_asm); (case k6_q => k_is); (case k7_q => k_is); (case k8_q => ktr_room); (case k9_q => exact BindsTo.of_eq rfl); (case c5_q => decide); (case kB_q => exact locs rfl); (case c2_q => exact rfl); (case c3_q => exact rfl); (case c4_q => exact rfl); k_whole; intro g' B1' L' h' hg' F' N' B' X' T' XB' TB' GL'; (try dsimp only); (try k_lift B'); (try k_fold))
  by_cases hl : l ≤ 2300
  · k_steps
    k_dflt (refine raisX_of (by k_asm) (by k_asm) (by k_asm) (by k_mem) rfl (by k_is) (by k_is) ?_)
    k_steps
    rename ∀ _, lookIn _ _ = _ => lkX
    k_dflt (refine' get_X ?k1_q ?k2_q ?k3_q ?k4_q ?k4b_q ?k4c_q ?k5_q ?k6_q ?k7_q ?k8_q ?k9_q ?_; (case k1_q => k_asm); (case k2_q => k_asm); (case k3_q => k_asm); (case k4_q => k_is); (case k4b_q => k_is); (case k4c_q => k_is); (case k5_q => k_is); (case k6_q => k_is); (case k7_q => k_is); (case k8_q => exact lkX _); (case k9_q => k_handed); k_whole)
    k_steps
    obtain ⟨f1, f2⟩ := GroundL.fin (hg' ▸ GL') F N (by assumption) (by assumption) (List.Mem.tail _ (List.Mem.tail _ (List.Mem.head _))) (by assumption)
    exact hret _ _ _ (by rw [decide_eq_true hl]; rfl) f1 f2
  · k_steps
    change Q _ _
    subst hg'
    obtain ⟨f1, f2⟩ := GroundL.fin0 GL' F N (by assumption)
    exact hret _ _ _ (by rw [decide_eq_false hl]) f1 f2
end Mine
end
section
open PySem PySem.W PyProof.Rows PySem.Calls
namespace Mine
theorem fresh_M30 : True := by
  w_top off
  trivial
theorem lines_M30_0 : True := by
  k_with_none
  (k_with "g_ktr_room" => (first | exact Nat.le_of_ble_eq_true rfl | exact roomF 0 (by assumption) rfl rfl | exact roomF 1 (by assumption) rfl rfl | exact roomF 2 (by assumption) rfl rfl | exact roomF 3 (by assumption) rfl rfl | exact roomF 4 (by assumption) rfl rfl))
  (k_with "g_ktr_units" => (first | exact Nat.le_of_ble_eq_true rfl | exact unitF 3 (by assumption) rfl rfl | exact unitG 3 (by assumption) rfl rfl | exact unitG 6 (by assumption) rfl rfl | exact unitF 6 (by assumption) rfl rfl | exact unitF 7 (by assumption) rfl rfl | exact unitF 4 (by assumption) rfl rfl | exact unitF 5 (by assumption) rfl rfl | exact unitF 8 (by assumption) rfl rfl | exact unitF 9 (by assumption) rfl rfl | exact unitF 10 (by assumption) rfl rfl | exact unitF 11 (by assumption) rfl rfl | exact unitF 12 (by assumption) rfl rfl | exact unitF 13 (by assumption) rfl rfl | exact unitF 14 (by assumption) rfl rfl | exact unitF 15 (by assumption) rfl rfl | exact unitF 0 (by assumption) rfl rfl | exact unitF 1 (by assumption) rfl rfl | exact unitF 2 (by assumption) rfl rfl))
  (k_with "g_k_ne" => ((refine neN ?_; (try dsimp only); first | exact Ne'.o (by with_reducible assumption) | exact Ne'.s (by with_reducible assumption) | k_extra "ne")))
  (k_with "g_k_all" => (first | exact OwnOff.ne (by with_reducible assumption) (by k_mem) | exact allLt_ne (by assumption)))
  (k_with "g_size_fits" => ((simp only [List.size_toArray, List.length_map, List.length_append, List.length_cons, List.length_nil, Array.size_push]; (first | done | (rw [sizeLine_eq]; omega)))))
  (k_with "g_ent" => (apply code_defF; (case hA => exact rfl); (case hf => exact rfl); (case hke => exact rfl); (case B => k_asm); (case F => k_asm); (case X₀ => k_asm); (case N => k_asm); (case T => k_asm); (case ho => k_is); (case hcd => k_is); (case hroom => k_room); (case hbind => first | exact BindsTo.of_eq rfl | exact binds_K (by k_in) rfl (by k_is) rfl rfl rfl | fail "no rule for these arguments"); (case hcell => decide); (case hloc => exact locs rfl); (case hco => exact rfl); (case hgen => exact rfl); (case hk => exact rfl); k_whole; intro _ _ _ evX AX mmX _ _ _ _ _ _; (try dsimp only); (try k_fold)))
  (k_with "call ref" => (k_here; k_dflt (first
    | (apply call_cls0; (case F => k_asm); (case X₀ => k_asm); (case N => k_asm); (case hm => k_is); (case hi => k_is); k_whole; intro x' d' h' F' N' l1 l2; (try k_lt l1); (try k_lt2 l2); (try k_sweep); (revert x' d' h' F' N' l1 l2; intros))
    | (apply call_cls; (case F => k_asm); (case X₀ => k_asm); (case N => k_asm); (case hm => k_is); (case hi => k_is); (case hf => k_is); k_whole; intro x' d' h' F' N' l1 l2; (try k_lt l1); (try k_lt2 l2); (try k_sweep); (revert x' d' h' F' N' l1 l2; intros); k_extra "g_ent")
    | (apply call_meth; (case N => k_asm); (case hq => k_mem); k_whole; k_extra "g_ent")
    | (refine wpAny_call ?_; k_extra "g_ent"))))
  (k_with "call ref" => (k_here; (with_reducible show wpAny _ _ (call (Value.ref 154) [_, _, _, _] _) _ _ _); k_dflt (apply row_call; (case B => k_asm); (case F => k_asm); (case X => k_asm); (case N => k_asm); (case T => k_asm); (case hk => exact rfl); (case hd => ktr_room); k_whole); intro x' d' h' tk' k0' k1' k2' k3' F' N' l1 l2; (try k_lt l1); (try k_lt2 l2); (try k_sweep); (revert x' d' h' tk' k0' k1' k2' k3' F' N' l1 l2; intros)))
  (k_with "storeName" => (k_here; k_dflt (apply stXF; (case F => k_asm); (case N => k_asm); (case hk => rfl); (case hx => rfl); k_whole); intro mmX; intro _ _ _; (try k_sweep)))
  (k_with "execs cons" => (k_here; (try dsimp only); (refine execsF ?_); intro qkX))
  (k_with "execs cons" => (k_here; (try dsimp only); (with_reducible show wpAny _ _ _ _ _ (Shared.mk _ _ _ (_ + _) _)); (refine toksF ?_); intro tkX; (refine execsF ?_); intro qkX))
  (k_with "lt" => (first | with_reducible assumption | (apply And.left; first | with_reducible assumption | (apply And.right; first | with_reducible assumption | (apply And.right; first | with_reducible assumption | (apply And.right; first | with_reducible assumption | (apply And.right; first | with_reducible assumption | (apply And.right; first | with_reducible assumption | (apply And.right; first | with_reducible assumption | (apply And.right; first | with_reducible assumption | (apply And.right; first | with_reducible assumption | (apply And.right; first | with_reducible assumption | (apply And.right; first | with_reducible assumption | (apply And.right; first | with_reducible assumption | (apply And.right; first | with_reducible assumption | (apply And.right; first | with_reducible assumption | (apply And.right; first | with_reducible assumption | (apply And.right; with_reducible assumption))))))))))))))))))
  (k_with "ne" => (first | (refine Nat.ne_of_gt ?_; k_extra "lt") | (refine Nat.ne_of_lt ?_; k_extra "lt") | (refine Nat.ne_of_gt ?_; apply Nat.lt_trans; rotate_left; (with_reducible assumption); k_extra "lt") | (refine Nat.ne_of_lt ?_; apply Nat.lt_trans; rotate_left; (with_reducible assumption); k_extra "lt")))
  (k_with "exec Assign" => (k_here; (with_reducible show wpAny _ _ (exec (Stmt.Assign [Expr.Tuple _ _ _] _ _) _) _ _ _); k_dflt (first | refine Assign_Tuple ?_ (hs := by kernel_rfl!) (hw := by kernel_rfl!) | refine Assign_Tuple_swapped (names := [Str.ofString "state", Str.ofString "home"]) ?_ (hs := by kernel_rfl!) (hw := by kernel_rfl!))))
  (k_with "subscriptTail" => (k_here; (with_reducible show wpAny _ _ (subscriptTail _ _ (Value.ref _) (Value.str _ _)) _ _ _); k_dflt (apply d_item (knd := strKind _ _) (hkey := (str_key _ _)); (case N => k_asm); (case hm => k_mem); (case hD => assumption); (case hv => first | assumption | exact rfl); (case hs => with_unfolding_all rfl); k_whole)))
  (k_with "subscriptTail" => (k_here; (with_reducible show wpAny _ _ (subscriptTail _ _ (Value.ref _) (Value.int _ _)) _ _ _); k_dflt (apply d_item (knd := intKind _ _) (hkey := (int_key _ _)); (case N => k_asm); (case hm => k_mem); (case hD => assumption); (case hv => first | assumption | exact rfl); (case hs => with_unfolding_all rfl); k_whole)))
  (k_with "compareOp In" => (k_here; (with_reducible show wpAny _ _ (compareOp CmpOp.In (Value.int _ _) (Value.ref _)) _ _ _); k_dflt (apply d_inB (knd := intKind _ _) (hkey := (int_key _ _)); (case N => k_asm); (case hm => k_mem); (case hD => assumption); (case lo => assumption); (case hb => first | assumption | exact rfl); k_whole)))
  (k_with "compareOp NotIn" => (k_here; (with_reducible show wpAny _ _ (compareOp CmpOp.NotIn (Value.int _ _) (Value.ref _)) _ _ _); k_dflt (apply d_notIn (knd := intKind _ _) (hkey := (int_key _ _)); (case N => k_asm); (case hm => k_mem); (case hD => assumption); (case lo => assumption); (case hb => first | assumption | exact rfl); k_whole)))
  (k_with "call builtin:dict.get" => (k_here; (with_reducible show wpAny _ _ (call (Value.builtin _) [Value.ref _, Value.int _ _, _]) _ _ _); k_dflt (apply d_get2B (knd := intKind _ _) (hkey := (int_key _ _)); (case N => k_asm); (case hm => k_mem); (case hD => assumption); (case lo => assumption); (case hv => first | assumption | exact rfl); k_whole)))
  (k_with "setItem" => (k_here; (with_reducible show wpAny _ _ (setItem (Value.ref _) (Value.str _ _) _) _ _ _); k_dflt (apply d_set (knd := strKind _ _) (hkey := (str_key _ _)); (case F => k_asm); (case N => k_asm); (case U => k_updF); (case hD => assumption); (case hz => first | assumption | decide | (simp; done)); k_whole); intro h' o' F' N' D'; (try dsimp only at N'); (try simp (decide := true) [stored] at D'); (try k_sweep); (revert h' o' F' N' D'; intros)))
  (k_with "setItem" => (k_here; (with_reducible show wpAny _ _ (setItem (Value.ref _) (Value.int _ _) _) _ _ _); k_dflt (apply d_set (knd := intKind _ _) (hkey := (int_key _ _)); (case F => k_asm); (case N => k_asm); (case U => k_updF); (case hD => assumption); (case hz => first | assumption | decide | (simp; done)); k_whole); intro h' o' F' N' D'; (try dsimp only at N'); (try k_sweep); (revert h' o' F' N' D'; intros)))
  (k_with "delItem" => (k_here; (with_reducible show wpAny _ _ (delItem (Value.ref _) (Value.int _ _)) _ _ _); k_dflt (apply d_del (knd := intKind _ _) (hkey := (int_key _ _)); (case F => k_asm); (case N => k_asm); (case U => k_updF); (case hD => assumption); (case hl => assumption); (case hz => first | assumption | decide | (simp; done)); k_whole); intro h' o' F' N' D'; (try dsimp only at N'); (try k_sweep); (revert h' o' F' N' D'; intros)))
  (k_with "getMethod ref" => (k_here; (with_reducible show wpAny _ _ (getMethod (Value.ref _) (PySem.Str.ofString "get") _) _ _ _); k_dflt (apply t_getMethod; (case N => k_asm); (case hm => k_mem); (case hD => assumption); k_whole)))
  (k_with "call builtin:len" => (k_here; (with_reducible show wpAny _ _ (call (Value.builtin "len") [Value.ref _]) _ _ _); k_dflt (apply l_len; (case N => k_asm); (case hm => k_mem); (case hz => (simp only [List.size_toArray, List.length_map]; omega)); k_whole)))
  (k_with "compareOp In" => (k_here; (with_reducible show wpAny _ _ (compareOp CmpOp.In (Value.ref _) (Value.ref _)) _ _ _); k_dflt (apply t_in; (case N => k_asm); (case hm => k_mem); (case hD => assumption); (case hK => exact KeysIn.mono (by assumption) (by intro p hp; repeat (first | exact hp | refine List.Mem.tail _ ?_))); (case hq => k_mem); (case ht => exact tupO2); (case hu => ktr_units); (case lo => assumption); (case hb => assumption); k_whole)))
  (k_with "compareOp NotIn" => (k_here; (with_reducible show wpAny _ _ (compareOp CmpOp.NotIn (Value.ref _) (Value.ref _)) _ _ _); k_dflt (apply t_notIn; (case N => k_asm); (case hm => k_mem); (case hD => assumption); (case hK => exact KeysIn.mono (by assumption) (by intro p hp; repeat (first | exact hp | refine List.Mem.tail _ ?_))); (case hq => k_mem); (case ht => exact tupO2); (case hu => ktr_units); (case lo => assumption); (case hb => assumption); k_whole)))
  (k_with "call builtin:dict.get" => (k_here; (with_reducible show wpAny _ _ (call (Value.builtin _) [Value.ref _, Value.ref _, _]) _ _ _); k_dflt (apply t_get2; (case N => k_asm); (case hm => k_mem); (case hD => assumption); (case hK => exact KeysIn.mono (by assumption) (by intro p hp; repeat (first | exact hp | refine List.Mem.tail _ ?_))); (case hq => k_mem); (case ht => exact tupO2); (case hu => ktr_units); (case lo => assumption); (case hv => first | assumption | exact rfl); k_whole)))
  (k_with "setItem" => (k_here; (with_reducible show wpAny _ _ (setItem (Value.ref _) (Value.ref _) _) _ _ _); k_dflt (apply t_set; (case F => k_asm); (case N => k_asm); (case U => k_updF); (case hD => assumption); (case hK => exact KeysIn.mono (by assumption) (by intro p hp; repeat (first | exact hp | refine List.Mem.tail _ ?_))); (case hq => k_mem); (case ht => exact tupO2); (case hu => ktr_units); (case hz => assumption); k_whole); intro h' o' F' N' D'; (try dsimp only at N'); (try k_sweep); (revert h' o' F' N' D'; intros)))
  (k_with "delItem" => (k_here; (with_reducible show wpAny _ _ (delItem (Value.ref _) (Value.ref _)) _ _ _); k_dflt (apply t_del; (case F => k_asm); (case N => k_asm); (case U => k_updF); (case hD => assumption); (case hK => exact KeysIn.mono (by assumption) (by intro p hp; repeat (first | exact hp | refine List.Mem.tail _ ?_))); (case hq => k_mem); (case ht => exact tupO2); (case hu => ktr_units); (case hl => assumption); (case hz => assumption); k_whole); intro h' o' F' N' D'; (try dsimp only at N'); (try k_sweep); (revert h' o' F' N' D'; intros)))
  (k_with "eval Dict" => (k_here; k_dflt (refine' kdn_str ?q ?F ?N ?b ?a ?l ?e ?n ?_; (case q => rfl); (case F => k_asm); (case N => first | k_asm | exact News.nil); (case b => exact Top.nolimit (by k_asm)); (case a => rfl); (case l => rfl); (case e => exact List.cons_ne_nil _ _); (case n => exact Nat.le_of_ble_eq_true rfl)); intro d' h' o' F' N' l1 lo' hd'; (try k_lt l1); (revert d' h' o' F' N' l1 lo' hd'; intros)))
  (k_with "compareOp NotIn" => (k_here; (with_reducible show wpAny _ _ (compareOp CmpOp.NotIn (Value.int _ _) (Value.ref _)) _ _ _); k_dflt (apply li_notIn; (case N => k_asm); (case hm => k_mem); (case hi => assumption); (case hb => first | assumption | exact rfl); k_whole)))
  (k_with "compareOp In" => (k_here; (with_reducible show wpAny _ _ (compareOp CmpOp.In (Value.int _ _) (Value.ref _)) _ _ _); k_dflt (apply li_in; (case N => k_asm); (case hm => k_mem); (case hi => assumption); (case hb => first | assumption | exact rfl); k_whole)))
  (k_with "call builtin:list.append" => (k_here; (with_reducible show wpAny _ _ (call (Value.builtin _) [Value.ref _, _]) _ _ _); k_dflt (apply l_append; (case F => k_asm); (case N => k_asm); (case U => k_updF); (case hz => first | assumption | omega); k_whole); intro h' F' N'; (try dsimp only at N'); (revert h' F' N'; intros)))
  (k_with "call type:dict" => (k_here; (with_reducible show wpAny _ _ (call (Value.type "dict") [Value.ref _]) _ _ _); k_dflt (apply dict_copy2; (case F => k_asm); (case N => k_asm); (case hbig => exact Top.nolimit (by k_asm)); (case hm => k_mem); (case hD => assumption); (case hR => assumption); (case lo => assumption); k_whole); intro d' h' o' kvs' F' N' l1 lo' hd' hr'; (try k_lt l1); (revert d' h' o' kvs' F' N' l1 lo' hd' hr'; intros)))
  (k_with "compareOp NotIn int ref" => (k_here; (with_reducible show wpAny _ _ (compareOp CmpOp.NotIn (Value.int _ _) (Value.ref _)) _ _ _); k_dflt (apply li_notIn; (case N => k_asm); (case hm => k_mem); (case hi => assumption); (case hb => first | assumption | exact rfl); k_whole)))
  (k_with "compareOp In int ref" => (k_here; (with_reducible show wpAny _ _ (compareOp CmpOp.In (Value.int _ _) (Value.ref _)) _ _ _); k_dflt (apply li_in; (case N => k_asm); (case hm => k_mem); (case hi => assumption); (case hb => first | assumption | exact rfl); k_whole)))
  (k_with "eval Call" => (k_here; (with_reducible show wpAny _ _ (eval (Expr.Call (Expr.Name _ _) _ [] _) _) _ _ _); k_dflt (refine Call_ ?_)))
  (k_with "eval Name" => (k_here; (with_reducible show wpAny _ _ (eval (Expr.Name _ _) (compEnvC _ _ _ _)) _ _ _); k_dflt (first
  | (apply ldVarK; (case hd => decide); (case hk => rfl); (case hl => rfl); (case F => assumption); (case hv => assumption); k_whole)
  | (apply lcf_free; (case hb => decide); (case hn => decide); (case hk => rfl); (case hx => rfl); (case N => k_asm); (case hc => rfl); (case hm => k_mem); (case hd => k_asm); k_whole))))
  (k_with "eval Dict" => (k_here; (with_reducible show wpAny _ _ (eval (Expr.Dict [some (Expr.Call _ _ _ _), _] _ _) _) _ _ _); (with_reducible refine stop_mk ?_)))
  (k_with "call ref" => (k_here; (with_reducible show wpAny _ _ (call (Value.ref 417) _ _) _ _ _); (with_reducible refine stop_mk ?_)))
  (k_with "call ref" => (k_here; (with_reducible show wpAny _ _ (call (Value.ref 88) _ _) _ _ _); (with_reducible refine stop_mk ?_)))
  (k_with "call ref" => (k_here; (with_reducible show wpAny _ _ (call (Value.ref 424) _ _) _ _ _); (with_reducible refine stop_mk ?_)))
  (k_with "call ref" => (k_here; (with_reducible show wpAny _ _ (call (Value.ref 95) _ _) _ _ _); (with_reducible refine stop_mk ?_)))
  (k_with "call ref" => (k_here; (with_reducible show wpAny _ _ (call (Value.ref 460) _ _) _ _ _); (with_reducible refine stop_mk ?_)))
  (k_with "call ref" => (k_here; (with_reducible show wpAny _ _ (call (Value.ref 270) _ _) _ _ _); (with_reducible refine stop_mk ?_)))
  (k_with "call ref" => (k_here; (with_reducible show wpAny _ _ (call (Value.ref 453) _ _) _ _ _); (with_reducible refine stop_mk ?_)))
  (k_with "call type:range" => (k_here; (with_reducible refine stop_mk ?_)))
  (k_with "exec For Name Name cons nil" => (k_here; (with_reducible refine stop_mk ?_)))
  (k_with "exec For Name Tuple cons nil" => (k_here; (with_reducible refine stop_mk ?_)))
  (k_with "exec For Name Call cons nil" => (k_here; (with_reducible refine stop_mk ?_)))
  (k_with "pyIter ref" => (k_here; (with_reducible refine stop_mk ?_)))
  (k_with "compareOp NotEq ref ref" => (k_here; (with_reducible refine stop_mk ?_)))
  trivial
theorem perm_fd {a b c d : Addr × Obj} {l : List (Addr × Obj)} : ∀ q ∈ b :: c :: d :: a :: l, q ∈ a :: b :: c :: d :: l := fun q hq => by
  simp only [List.mem_cons] at hq ⊢
  rcases hq with h | h | h | h | h <;> simp [h]
theorem For_invF {prog : Program} {w : World} {A : Around} {s : Shared} {env : Env} {E : Value → Shared → Prop} {Q : Flow → Shared → Prop} {x : Str} {px pos : Pos} {iter : PySem.Expr} {body : List Stmt} {h₀ : Heap} {m : Str → Option Value} (_F : Fr h₀ env.locals s.heap m) (hx : env.kindOf x = some .local)
    (hp : (env.scope.kind == .class || (env.scope.kind == .module && env.locals != env.globals)) = false)
    (h : wpAny (model prog w) A (eval iter env) (fun xv s₁ => wpAny (model prog w) A (pyIter xv) (fun it s₂ => LoopAtV prog w A h₀ env x body Q E it s₂) E s₁) E s)
    (hs : ∀ x, foldedSetIterable iter env x = pure x) (hE : PassesOwn (model prog w) A env E) :
    wpAny (model prog w) A (exec (.For (.Name x px) iter body [] pos) env) Q E s := For_invV h₀ hx hp h hs hE
theorem sIn {w : World} {dst acc jl tch des wo ws org lg : Addr} {k0 k1 k2 k3 k4 k5 k6 k7 k8 k9 tr : Tok} {led : List (Addr × Obj)} {g h : Heap} {L : Addr} (N : News g L h led) (hm : (dst, dictOf [ent w "setting" k0 .none, ent w "accounts" k1 (.ref acc), ent w "journal" k2 (.ref jl), ent w "touched" k3 (.ref tch), ent w "destroyed" k4 (.ref des), ent w "warm_ones" k5 (.ref wo), ent w "warm_slots" k6 (.ref ws), ent w "originals" k7 (.ref org), ent w "refund" k8 (.int 0 tr), ent w "logs" k9 (.ref lg)] 10) ∈ led) :
    ∃ kS tr, News g L h ((dst, sObj w kS acc jl tch des wo ws org lg 0 tr) :: led) := ⟨fun i => [k0, k1, k2, k3, k4, k5, k6, k7, k8, k9].getD i 0, tr, news_one N hm⟩
theorem news_tup {h₀ h : Heap} {L a : Addr} {vs ws : List Value} {n : Nat} {r : List (Addr × Obj)} (e : vs = ws) (N : News h₀ L h ((a, { cls := .type "tuple", data := .seq vs.toArray n }) :: r)) : News h₀ L h ((a, { cls := .type "tuple", data := .seq ws.toArray n }) :: r) := e ▸ N
theorem cap_le (x : Int) : 5 * x.fdiv 5 ≤ x ∧ x < 5 * x.fdiv 5 + 5 := by
  have : x.fdiv 5 = x / 5 := Int.fdiv_eq_ediv_of_nonneg x (by decide)
  rw [this]; omega
theorem news_ren {h₀ h : Heap} {L a : Addr} {vs ws : List Value} {n : Nat} {r : List (Addr × Obj)} (e : vs = ws) (N : News h₀ L h ((a, listOf vs.toArray n) :: r)) : News h₀ L h ((a, listOf ws.toArray n) :: r) := e ▸ N
theorem ints_item {vs : List Value} {ns : List Int} {i : Nat} {v : Value} (h : IntsAre vs ns) (hv : vs[i]? = some v) : ∃ x t, v = .int x t := by
  have hi : i < ns.length := by rw [← h.length]; exact (List.getElem?_eq_some_iff.mp hv).1
  obtain ⟨t, e⟩ := IntsAre.get h i ns[i] (by simp [hi])
  rw [hv] at e
  exact ⟨_, t, Option.some.inj e⟩

/-- the written heap, told to the walk -/
theorem fill_K : ∃ K : Params → Frag, K = hd.heap_39 ∧ PySem.Challenge.rw_pq0405_01 = PySem.Challenge.rw_pq0405_01 := by
  k_fill
  exact ⟨_, rfl, rfl⟩
theorem law_holds : PySem.Challenge.rw_pq0405_01.Holds := by
  w_on
  refine holds_law said_ok fun said0 => ?_
  clear said0
  refine holds_open (q := hd.view_39) (loose := []) (Xt := fun s => xlAt hd.view_39 [] s && recOk (RowW.records PySem.Challenge.rw_pq0405_01.row.toRowW) s) (XP := XL hd.view_39 []) (Yf := Hook.obs hookK) (Ya := Hook.val hookK) (YP := Hook.says hookK) (N := 3000) ?hl_q (Hook.of hookK) (Hook.keeps hookK) (fun s e => xl_of s (Bool.and_eq_true_iff.mp e).1) XL.keeps (by rfl) (by rfl) (by rfl) (fun s e => recFacts_of (Bool.and_eq_true_iff.mp e).2) (by rfl) (by first | assumption | decide +kernel) (by decide +kernel) ⟨rfl, rfl, rfl, rfl, rfl, by decide +kernel⟩ ?hw_q ?hc_q
  case hl_q => exact left_all
  case hw_q => w_witness2
  k_fill
  intro w0 s0 s1 mg mb G9 Y9 fa o9 pm9 cd9 doc9 dV9 kV9 ho9 hd9 hcd9 hD9 hmg9 hg9 args9 vals9 as9 hpre9 hlay9 hrd9 hwl9 hlo9
  have KX9 := kIn_of Y9
  refine Ground.open G9 ?_
  intro T9 B9 DD9 TE9 TW9
  clear B9 TE9 TW9 G9
  refine guard_noD DD9 (by decide +kernel) ?_
  clear DD9
  show let GX : Prop := _; GX
  intro GX
  obtain ⟨_, _, he9, B0⟩ := based_of_top T9 rfl hmg9 ho9 hd9
  k_unfold
  clear GX
  have he9 : cd9 = _ := he9
  subst he9
  clear hmg9
  wrow_args hpre9 hlay9 hrd9 hwl9 hlo9
  refine enter_call ?_
  w_top on
  refine codeAny_mono ?_ (fun _ _ g => GoodW.toG g)
  have K09 := below_caller (Top.heap T9)
  w_call any ho9 hd9 hcd9 hD9 T9 F09
  clear hd9
  k_drop
  try clear hD9
  try clear hcd9
  all_goals try k_fold
  replace K09 : Below callerA s1.heap [] s1.heap := K09
  refine foldAE ?_
  intro evL AL
  refine foldG ?_
  intro gSX dSX oSX
  k_fold
  k_steps
  rename_i c _ _ _ _ _ Dsl ws _ _ _ _ _ _ _ _ hci _ cl _ _ o1 _ oc hdc _ F5 N5
  obtain ⟨cns, hci, hcl⟩ : ∃ cns, IntsAre ys cns ∧ cns.length ≤ 63 := ⟨_, hci, by rw [List.length_map, List.length_take]; omega⟩
  have n_c_cl : Ne' c cl := o1.2
  obtain ⟨tt0, hc⟩ : ∃ tt0, caskIs _ oc cl 0 tt0 := ⟨_, hdc⟩
  clear hdc o1
  have N6 : News _ _ _ [(c, oc), (cl, listOf ys.toArray ys.length)] := News.perm N5 (by ((try dsimp only [List.cons_append, List.nil_append]); repeat (first | (with_reducible refine List.forall_mem_cons.mpr ⟨?_, ?_⟩; focus (show _ ∈ _; k_dflt k_mem)) | (with_reducible refine List.forall_mem_append.mpr ⟨?_, ?_⟩) | exact List.forall_mem_nil _ | (intro p hp; repeat (first | exact hp | with_reducible exact List.mem_append_left _ hp | with_reducible refine List.mem_append_right _ ?_ | with_reducible refine List.mem_cons_of_mem _ ?_)))))
  clear N5
  k_sweep
  refine stop_out ?_
  refine' useDip (c := c) (cl := cl) (many := 1000) (ncl := ys.length) (cvs := ys) (cns := cns) [(cl, listOf ys.toArray ys.length)] hc hci hcl (by omega) (by decide) (by repeat (first | exact .head _ | refine .tail _ ?_)) (by (repeat (first | (with_reducible refine List.forall_mem_cons.mpr ⟨?_, ?_⟩; focus ((try dsimp only); (first | exact Ne'.o (by with_reducible assumption) | exact Ne'.s (by with_reducible assumption) | (show @Ne Nat _ _; first | k_extra "ne" | omega)))) | (with_reducible refine List.forall_mem_append.mpr ⟨?_, ?_⟩) | (with_reducible assumption) | exact List.forall_mem_nil _ | (refine OwnOff.ne (by assumption) ?_; focus (simp; done)) | exact allLt_ne (by assumption)))) ?kB1_q ?kF1_q ?kX1_q (News.perm ?kN1_q ?ks1_q) ?kT1_q ?kh1_q ?kd1_q ?ku1_q ?kk1_q
  case kB1_q => k_asm
  case kF1_q => k_asm
  case kX1_q => k_asm
  case kT1_q => k_asm
  case kN1_q => k_asm
  case ks1_q => ((try dsimp only [List.cons_append, List.nil_append]); repeat (first | (with_reducible refine List.forall_mem_cons.mpr ⟨?_, ?_⟩; focus (show _ ∈ _; k_dflt k_mem)) | (with_reducible refine List.forall_mem_append.mpr ⟨?_, ?_⟩) | exact List.forall_mem_nil _ | (intro p hp; repeat (first | exact hp | with_reducible exact List.mem_append_left _ hp | with_reducible refine List.mem_append_right _ ?_ | with_reducible refine List.mem_cons_of_mem _ ?_))))
  case kh1_q => exact rfl
  case kd1_q => ktr_room
  case ku1_q => ktr_units
  case kk1_q =>
  intro r1 t1 tt1 oc1 h1 tk1 hr01 hr11 hc1 F1 N1
  k_sweep
  k_steps
  refine stop_out ?_
  refine' useDip (c := c) (cl := cl) (many := 1000) (ncl := ys.length) (cvs := ys) (cns := cns) [(cl, listOf ys.toArray ys.length)] hc1 hci hcl (by omega) (by decide) (by repeat (first | exact .head _ | refine .tail _ ?_)) (by (repeat (first | (with_reducible refine List.forall_mem_cons.mpr ⟨?_, ?_⟩; focus ((try dsimp only); (first | exact Ne'.o (by with_reducible assumption) | exact Ne'.s (by with_reducible assumption) | (show @Ne Nat _ _; first | k_extra "ne" | omega)))) | (with_reducible refine List.forall_mem_append.mpr ⟨?_, ?_⟩) | (with_reducible assumption) | exact List.forall_mem_nil _ | (refine OwnOff.ne (by assumption) ?_; focus (simp; done)) | exact allLt_ne (by assumption)))) ?kB2_q ?kF2_q ?kX2_q (News.perm ?kN2_q ?ks2_q) ?kT2_q ?kh2_q ?kd2_q ?ku2_q ?kk2_q
  case kB2_q => k_asm
  case kF2_q => k_asm
  case kX2_q => k_asm
  case kT2_q => k_asm
  case kN2_q => k_asm
  case ks2_q => ((try dsimp only [List.cons_append, List.nil_append]); repeat (first | (with_reducible refine List.forall_mem_cons.mpr ⟨?_, ?_⟩; focus (show _ ∈ _; k_dflt k_mem)) | (with_reducible refine List.forall_mem_append.mpr ⟨?_, ?_⟩) | exact List.forall_mem_nil _ | (intro p hp; repeat (first | exact hp | with_reducible exact List.mem_append_left _ hp | with_reducible refine List.mem_append_right _ ?_ | with_reducible refine List.mem_cons_of_mem _ ?_))))
  case kh2_q => exact rfl
  case kd2_q => ktr_room
  case ku2_q => ktr_units
  case kk2_q =>
  intro r2 t2 tt2 oc2 h2 tk2 hr02 hr12 hc2 F2 N2
  k_sweep
  k_steps
  refine stop_out ?_
  refine' useDip (c := c) (cl := cl) (many := 1000) (ncl := ys.length) (cvs := ys) (cns := cns) [(cl, listOf ys.toArray ys.length)] hc2 hci hcl (by omega) (by decide) (by repeat (first | exact .head _ | refine .tail _ ?_)) (by (repeat (first | (with_reducible refine List.forall_mem_cons.mpr ⟨?_, ?_⟩; focus ((try dsimp only); (first | exact Ne'.o (by with_reducible assumption) | exact Ne'.s (by with_reducible assumption) | (show @Ne Nat _ _; first | k_extra "ne" | omega)))) | (with_reducible refine List.forall_mem_append.mpr ⟨?_, ?_⟩) | (with_reducible assumption) | exact List.forall_mem_nil _ | (refine OwnOff.ne (by assumption) ?_; focus (simp; done)) | exact allLt_ne (by assumption)))) ?kB3_q ?kF3_q ?kX3_q (News.perm ?kN3_q ?ks3_q) ?kT3_q ?kh3_q ?kd3_q ?ku3_q ?kk3_q
  case kB3_q => k_asm
  case kF3_q => k_asm
  case kX3_q => k_asm
  case kT3_q => k_asm
  case kN3_q => k_asm
  case ks3_q => ((try dsimp only [List.cons_append, List.nil_append]); repeat (first | (with_reducible refine List.forall_mem_cons.mpr ⟨?_, ?_⟩; focus (show _ ∈ _; k_dflt k_mem)) | (with_reducible refine List.forall_mem_append.mpr ⟨?_, ?_⟩) | exact List.forall_mem_nil _ | (intro p hp; repeat (first | exact hp | with_reducible exact List.mem_append_left _ hp | with_reducible refine List.mem_append_right _ ?_ | with_reducible refine List.mem_cons_of_mem _ ?_))))
  case kh3_q => exact rfl
  case kd3_q => ktr_room
  case ku3_q => ktr_units
  case kk3_q =>
  intro r3 t3 tt3 oc3 h3 tk3 hr03 hr13 hc3 F3 N3
  k_sweep
  k_steps
  rename_i sm _ l1 _ F7 N7
  have n_c_sm : Ne' c sm := Nat.ne_of_lt l1.1
  have n_cl_sm : Ne' cl sm := Nat.ne_of_lt l1.2.1
  clear l1
  obtain ⟨smv, smn, e4, hsi, hsm4⟩ : ∃ smv smn, [Value.int 0 _, Value.int (1 + r1) _, Value.int (2 ^ Int.toNat 255 + r2) _, Value.int (2 ^ Int.toNat 256 - 1 - r3) _] = smv ∧ IntsAre smv smn ∧ smn.length = 4 := ⟨_, _, rfl, .cons _ _ (.cons _ _ (.cons _ _ (.cons _ _ .nil))), rfl⟩
  have N8 := news_ren e4 N7
  clear N7 e4
  k_sweep
  k_steps
  refine stop_out ?_
  refine' For_turns ?F1o_q ?G1o_q ?S1o_q ?E1o_q
  case F1o_q => k_asm
  case E1o_q => passes_own
  case S1o_q => intro _; rfl
  case G1o_q =>
  k_steps
  k_steps
  refine stop_out ?_
  refine' lp_list (vs := smv) (n := 0) (ax := sm) (J := fun m0 i m nw => nw = [(sm, listOf smv.toArray 0), (c, oc3), (cl, listOf ys.toArray ys.length)] ∧ Agree [Str.ofString "old", Str.ofString "now", Str.ofString "fresh", Str.ofString "is_cold"] m m0) ?hha_q ?Fa_q ?Na_q ?Ja_q ?Ka_q ?stepa_q ?donea_q
  case hha_q => rfl
  case Fa_q => k_asm
  case Ja_q => exact ⟨rfl, Agree.refl⟩
  case Na_q => exact News.perm (by k_asm) (by ((try dsimp only [List.cons_append, List.nil_append]); repeat (first | (with_reducible refine List.forall_mem_cons.mpr ⟨?_, ?_⟩; focus (show _ ∈ _; k_dflt k_mem)) | (with_reducible refine List.forall_mem_append.mpr ⟨?_, ?_⟩) | exact List.forall_mem_nil _ | (intro p hp; repeat (first | exact hp | with_reducible exact List.mem_append_left _ hp | with_reducible refine List.mem_append_right _ ?_ | with_reducible refine List.mem_cons_of_mem _ ?_)))))
  case Ka_q => rintro i m nw ⟨rfl, _⟩; exact .head _
  case stepa_q =>
    rintro Ia i v m1 nw h1 tk1 ioa hv ⟨rfl, hA⟩ hna F1 N1
    obtain ⟨xa, ta, rfl⟩ := ints_item hsi hv
    have e9 : m1 = fun y => ovr m1 _ [Str.ofString "old", Str.ofString "now", Str.ofString "fresh", Str.ofString "is_cold"] y := hA.eta
    simp only [ovr] at e9
    clear hA
    generalize m1 (Str.ofString "old") = u1 at e9
    generalize m1 (Str.ofString "now") = u2 at e9
    generalize m1 (Str.ofString "fresh") = u3 at e9
    generalize m1 (Str.ofString "is_cold") = u4 at e9
    subst e9
    k_sweep
    k_steps
    refine stop_out ?_
    refine' For_turns ?F1b_q ?G1b_q ?S1b_q ?E1b_q
    case F1b_q => k_asm
    case E1b_q => passes_own
    case S1b_q => intro _; rfl
    case G1b_q =>
    k_steps
    refine stop_out ?_
    refine' lp_list (vs := smv) (n := 0) (ax := sm) (J := fun m0 i m nw => nw = ((Ia, ioa) :: [(sm, listOf smv.toArray 0), (c, oc3), (cl, listOf ys.toArray ys.length)]) ∧ Agree [Str.ofString "now", Str.ofString "fresh", Str.ofString "is_cold"] m m0) ?hhb_q ?Fb_q ?Nb_q ?Jb_q ?Kb_q ?stepb_q ?doneb_q
    case hhb_q => rfl
    case Fb_q => k_asm
    case Jb_q => exact ⟨rfl, Agree.refl⟩
    case Nb_q => exact News.perm (by k_asm) (by ((try dsimp only [List.cons_append, List.nil_append]); repeat (first | (with_reducible refine List.forall_mem_cons.mpr ⟨?_, ?_⟩; focus (show _ ∈ _; k_dflt k_mem)) | (with_reducible refine List.forall_mem_append.mpr ⟨?_, ?_⟩) | exact List.forall_mem_nil _ | (intro p hp; repeat (first | exact hp | with_reducible exact List.mem_append_left _ hp | with_reducible refine List.mem_append_right _ ?_ | with_reducible refine List.mem_cons_of_mem _ ?_)))))
    case Kb_q => rintro i m nw ⟨rfl, _⟩; exact .tail _ (.head _)
    case stepb_q =>
      rintro Ib i v m1 nw h1 tk1 iob hv ⟨rfl, hA⟩ hnb F1 N1
      obtain ⟨xb, tb, rfl⟩ := ints_item hsi hv
      have e9 : m1 = fun y => ovr m1 _ [Str.ofString "now", Str.ofString "fresh", Str.ofString "is_cold"] y := hA.eta
      simp only [ovr] at e9
      clear hA
      generalize m1 (Str.ofString "now") = u1 at e9
      generalize m1 (Str.ofString "fresh") = u2 at e9
      generalize m1 (Str.ofString "is_cold") = u3 at e9
      subst e9
      k_sweep
      k_steps
      refine stop_out ?_
      refine' For_turns ?F1c_q ?G1c_q ?S1c_q ?E1c_q
      case F1c_q => k_asm
      case E1c_q => passes_own
      case S1c_q => intro _; rfl
      case G1c_q =>
      k_steps
      refine stop_out ?_
      refine' lp_list (vs := smv) (n := 0) (ax := sm) (J := fun m0 i m nw => nw = ((Ib, iob) :: (Ia, ioa) :: [(sm, listOf smv.toArray 0), (c, oc3), (cl, listOf ys.toArray ys.length)]) ∧ Agree [Str.ofString "fresh", Str.ofString "is_cold"] m m0) ?hhc_q ?Fc_q ?Nc_q ?Jc_q ?Kc_q ?stepc_q ?donec_q
      case hhc_q => rfl
      case Fc_q => k_asm
      case Jc_q => exact ⟨rfl, Agree.refl⟩
      case Nc_q => exact News.perm (by k_asm) (by ((try dsimp only [List.cons_append, List.nil_append]); repeat (first | (with_reducible refine List.forall_mem_cons.mpr ⟨?_, ?_⟩; focus (show _ ∈ _; k_dflt k_mem)) | (with_reducible refine List.forall_mem_append.mpr ⟨?_, ?_⟩) | exact List.forall_mem_nil _ | (intro p hp; repeat (first | exact hp | with_reducible exact List.mem_append_left _ hp | with_reducible refine List.mem_append_right _ ?_ | with_reducible refine List.mem_cons_of_mem _ ?_)))))
      case Kc_q => rintro i m nw ⟨rfl, _⟩; exact .tail _ (.tail _ (.head _))
      case stepc_q =>
        rintro Ic i v m1 nw h1 tk1 ioc hv ⟨rfl, hA⟩ hnc F1 N1
        obtain ⟨xc, tc, rfl⟩ := ints_item hsi hv
        have e9 : m1 = fun y => ovr m1 _ [Str.ofString "fresh", Str.ofString "is_cold"] y := hA.eta
        simp only [ovr] at e9
        clear hA
        generalize m1 (Str.ofString "fresh") = u1 at e9
        generalize m1 (Str.ofString "is_cold") = u2 at e9
        subst e9
        k_sweep
        k_steps
        refine stop_out ?_
        refine' For_turns ?F1d_q ?G1d_q ?S1d_q ?E1d_q
        case F1d_q => k_asm
        case E1d_q => passes_own
        case S1d_q => intro _; rfl
        case G1d_q =>
        k_steps
        rename_i tp _ _ N4 l4
        have N5 : News _ _ _ ((tp, ({ cls := .type "tuple", data := .seq [Value.bool false, Value.bool true].toArray } : Obj)) :: (Ic, ioc) :: (Ib, iob) :: (Ia, ioa) :: [(sm, listOf smv.toArray 0), (c, oc3), (cl, listOf ys.toArray ys.length)]) := N4
        clear N4
        refine stop_out ?_
        refine' lp_tup (vs := [Value.bool false, Value.bool true]) (n := 0) (dd := none) (sl := #[]) (ax := tp) (J := fun m0 i m nw => nw = ((tp, ({ cls := .type "tuple", data := .seq [Value.bool false, Value.bool true].toArray } : Obj)) :: (Ic, ioc) :: (Ib, iob) :: (Ia, ioa) :: [(sm, listOf smv.toArray 0), (c, oc3), (cl, listOf ys.toArray ys.length)]) ∧ Agree [Str.ofString "is_cold"] m m0) ?hhd_q ?Fd_q ?Nd_q ?Jd_q ?Kd_q ?stepd_q ?doned_q
        case hhd_q => rfl
        case Fd_q => k_asm
        case Jd_q => exact ⟨rfl, Agree.refl⟩
        case Nd_q => exact News.perm (by k_asm) (by ((try dsimp only [List.cons_append, List.nil_append]); repeat (first | (with_reducible refine List.forall_mem_cons.mpr ⟨?_, ?_⟩; focus (show _ ∈ _; k_dflt k_mem)) | (with_reducible refine List.forall_mem_append.mpr ⟨?_, ?_⟩) | exact List.forall_mem_nil _ | (intro p hp; repeat (first | exact hp | with_reducible exact List.mem_append_left _ hp | with_reducible refine List.mem_append_right _ ?_ | with_reducible refine List.mem_cons_of_mem _ ?_)))))
        case Kd_q => rintro i m nw ⟨rfl, _⟩; exact .head _
        case stepd_q =>
          rintro Id i v m1 nw h1 tk1 iod hv ⟨rfl, hA⟩ hnd F1 N1
          obtain ⟨xd, td, rfl⟩ : ∃ (x : Bool) (_ : Unit), v = .bool x := by
            match i, hv with
            | 0, hv => simp at hv; exact ⟨_, (), hv.symm⟩
            | 1, hv => simp at hv; exact ⟨_, (), hv.symm⟩
          have e9 : m1 = fun y => ovr m1 _ [Str.ofString "is_cold"] y := hA.eta
          simp only [ovr] at e9
          clear hA
          generalize m1 (Str.ofString "is_cold") = u1 at e9
          subst e9
          k_sweep
          k_steps
          refine stop_out ?_
          refine' Con.useT (c_cost _ _ _ _ _ _ _) ?kB88_q ?kF88_q ?kX88_q ?kN88_q ?kT88_q ?kh88_q trivial ?kd88_q ?ku88_q ?kk88_q
          case kB88_q => k_asm
          case kF88_q => k_asm
          case kX88_q => k_asm
          case kT88_q => k_asm
          case kN88_q => k_asm
          case kh88_q => exact rfl
          case kd88_q => ktr_room
          case ku88_q => ktr_units
          case kk88_q =>
          intro qa tq88 uq88 h88 tk88 F88 N88 hq88
          k_sweep
          k_steps
          refine stop_out ?_
          refine' Con.useT (c_due _ _ _ _ _ _ _) ?kB99_q ?kF99_q ?kX99_q ?kN99_q ?kT99_q ?kh99_q trivial ?kd99_q ?ku99_q ?kk99_q
          case kB99_q => k_asm
          case kF99_q => k_asm
          case kX99_q => k_asm
          case kT99_q => k_asm
          case kN99_q => k_asm
          case kh99_q => exact rfl
          case kd99_q => ktr_room
          case ku99_q => ktr_units
          case kk99_q =>
          intro qb tq99 uq99 h99 tk99 F99 N99 hq99
          k_sweep
          k_steps
          refine stop_out ?_
          k_dflt (refine' ne_pair (a := qa) (b := qb) ?N8_q ?m8_q ?e8_q ?u8_q ?q8_q; (case N8_q => k_asm); (case m8_q => k_mem); (case e8_q => k_mem); (case u8_q => ktr_units); k_whole)
          k_steps
          exact LPost.mk ((tp, ({ cls := .type "tuple", data := .seq [Value.bool false, Value.bool true].toArray } : Obj)) :: (Ic, ioc) :: (Ib, iob) :: (Ia, ioa) :: [(sm, listOf smv.toArray 0), (c, oc3), (cl, listOf ys.toArray ys.length)]) (by assumption) (by assumption) (by k_dflt k_mem) (by ((try dsimp only [List.cons_append, List.nil_append]); repeat (first | (with_reducible refine List.forall_mem_cons.mpr ⟨?_, ?_⟩; focus (show _ ∈ _; k_dflt k_mem)) | (with_reducible refine List.forall_mem_append.mpr ⟨?_, ?_⟩) | exact List.forall_mem_nil _ | (intro p hp; repeat (first | exact hp | with_reducible exact List.mem_append_left _ hp | with_reducible refine List.mem_append_right _ ?_ | with_reducible refine List.mem_cons_of_mem _ ?_))))) hnd ⟨rfl, by repeat (first | exact Agree.refl | refine Agree.set (by decide) ?_)⟩
        case doned_q =>
          rintro h1 tk1 m1 nw F1 N1 ⟨rfl, hA⟩
          have e9 : m1 = fun y => ovr m1 _ [Str.ofString "is_cold"] y := hA.eta
          simp only [ovr] at e9
          clear hA
          generalize m1 (Str.ofString "is_cold") = u1 at e9
          subst e9
          k_sweep
          k_steps
          exact LPost.mk ((Ib, iob) :: (Ia, ioa) :: [(sm, listOf smv.toArray 0), (c, oc3), (cl, listOf ys.toArray ys.length)]) (by assumption) (by assumption) (by k_dflt k_mem) (by ((try dsimp only [List.cons_append, List.nil_append]); repeat (first | (with_reducible refine List.forall_mem_cons.mpr ⟨?_, ?_⟩; focus (show _ ∈ _; k_dflt k_mem)) | (with_reducible refine List.forall_mem_append.mpr ⟨?_, ?_⟩) | exact List.forall_mem_nil _ | (intro p hp; repeat (first | exact hp | with_reducible exact List.mem_append_left _ hp | with_reducible refine List.mem_append_right _ ?_ | with_reducible refine List.mem_cons_of_mem _ ?_))))) hnc ⟨rfl, by repeat (first | exact Agree.refl | refine Agree.set (by decide) ?_)⟩
      case donec_q =>
        rintro h1 tk1 m1 nw F1 N1 ⟨rfl, hA⟩
        have e9 : m1 = fun y => ovr m1 _ [Str.ofString "fresh", Str.ofString "is_cold"] y := hA.eta
        simp only [ovr] at e9
        clear hA
        generalize m1 (Str.ofString "fresh") = u1 at e9
        generalize m1 (Str.ofString "is_cold") = u2 at e9
        subst e9
        k_sweep
        k_steps
        exact LPost.mk ((Ia, ioa) :: [(sm, listOf smv.toArray 0), (c, oc3), (cl, listOf ys.toArray ys.length)]) (by assumption) (by assumption) (by k_dflt k_mem) (by ((try dsimp only [List.cons_append, List.nil_append]); repeat (first | (with_reducible refine List.forall_mem_cons.mpr ⟨?_, ?_⟩; focus (show _ ∈ _; k_dflt k_mem)) | (with_reducible refine List.forall_mem_append.mpr ⟨?_, ?_⟩) | exact List.forall_mem_nil _ | (intro p hp; repeat (first | exact hp | with_reducible exact List.mem_append_left _ hp | with_reducible refine List.mem_append_right _ ?_ | with_reducible refine List.mem_cons_of_mem _ ?_))))) hnb ⟨rfl, by repeat (first | exact Agree.refl | refine Agree.set (by decide) ?_)⟩
    case doneb_q =>
      rintro h1 tk1 m1 nw F1 N1 ⟨rfl, hA⟩
      have e9 : m1 = fun y => ovr m1 _ [Str.ofString "now", Str.ofString "fresh", Str.ofString "is_cold"] y := hA.eta
      simp only [ovr] at e9
      clear hA
      generalize m1 (Str.ofString "now") = u1 at e9
      generalize m1 (Str.ofString "fresh") = u2 at e9
      generalize m1 (Str.ofString "is_cold") = u3 at e9
      subst e9
      k_sweep
      k_steps
      exact LPost.mk [(sm, listOf smv.toArray 0), (c, oc3), (cl, listOf ys.toArray ys.length)] (by assumption) (by assumption) (by k_dflt k_mem) (by ((try dsimp only [List.cons_append, List.nil_append]); repeat (first | (with_reducible refine List.forall_mem_cons.mpr ⟨?_, ?_⟩; focus (show _ ∈ _; k_dflt k_mem)) | (with_reducible refine List.forall_mem_append.mpr ⟨?_, ?_⟩) | exact List.forall_mem_nil _ | (intro p hp; repeat (first | exact hp | with_reducible exact List.mem_append_left _ hp | with_reducible refine List.mem_append_right _ ?_ | with_reducible refine List.mem_cons_of_mem _ ?_))))) hna ⟨rfl, by repeat (first | exact Agree.refl | refine Agree.set (by decide) ?_)⟩
  case donea_q =>
    rintro h1 tk1 m1 nw F1 N1 ⟨rfl, hA⟩
    have e9 : m1 = fun y => ovr m1 _ [Str.ofString "old", Str.ofString "now", Str.ofString "fresh", Str.ofString "is_cold"] y := hA.eta
    simp only [ovr] at e9
    clear hA
    generalize m1 (Str.ofString "old") = u1 at e9
    generalize m1 (Str.ofString "now") = u2 at e9
    generalize m1 (Str.ofString "fresh") = u3 at e9
    generalize m1 (Str.ofString "is_cold") = u4 at e9
    subst e9
    k_sweep
    k_steps
    refine stop_out ?_
    refine' For_turns ?F1e_q ?G1e_q ?S1e_q ?E1e_q
    case F1e_q => k_asm
    case E1e_q => passes_own
    case S1e_q => intro _; rfl
    case G1e_q =>
    k_steps
    refine stop_out ?_
    refine' useDip (c := c) (cl := cl) (many := 100000) (ncl := ys.length) (cvs := ys) (cns := cns) [(sm, listOf smv.toArray 0), (cl, listOf ys.toArray ys.length)] hc3 hci hcl (by omega) (by decide) (by repeat (first | exact .head _ | refine .tail _ ?_)) (by (repeat (first | (with_reducible refine List.forall_mem_cons.mpr ⟨?_, ?_⟩; focus ((try dsimp only); (first | exact Ne'.o (by with_reducible assumption) | exact Ne'.s (by with_reducible assumption) | (show @Ne Nat _ _; first | k_extra "ne" | omega)))) | (with_reducible refine List.forall_mem_append.mpr ⟨?_, ?_⟩) | (with_reducible assumption) | exact List.forall_mem_nil _ | (refine OwnOff.ne (by assumption) ?_; focus (simp; done)) | exact allLt_ne (by assumption)))) ?kB5_q ?kF5_q ?kX5_q (News.perm ?kN5_q ?ks5_q) ?kT5_q ?kh5_q ?kd5_q ?ku5_q ?kk5_q
    case kB5_q => k_asm
    case kF5_q => k_asm
    case kX5_q => k_asm
    case kT5_q => k_asm
    case kN5_q => k_asm
    case ks5_q => ((try dsimp only [List.cons_append, List.nil_append]); repeat (first | (with_reducible refine List.forall_mem_cons.mpr ⟨?_, ?_⟩; focus (show _ ∈ _; k_dflt k_mem)) | (with_reducible refine List.forall_mem_append.mpr ⟨?_, ?_⟩) | exact List.forall_mem_nil _ | (intro p hp; repeat (first | exact hp | with_reducible exact List.mem_append_left _ hp | with_reducible refine List.mem_append_right _ ?_ | with_reducible refine List.mem_cons_of_mem _ ?_))))
    case kh5_q => exact rfl
    case kd5_q => ktr_room
    case ku5_q => ktr_units
    case kk5_q =>
    intro r5 t5 tt5 oc5 h5 tk5 hr05 hr15 hc5 F5 N5
    k_sweep
    k_steps
    rename_i tp _ _ N4 l4
    have n_tp_c : Ne' c tp := (show @Ne Nat _ _ by omega)
    have n_tp_cl : Ne' cl tp := (show @Ne Nat _ _ by omega)
    have n_tp_sm : Ne' sm tp := (show @Ne Nat _ _ by omega)
    obtain ⟨tvs, tns, e4, hti⟩ : ∃ tvs tns, [Value.int 0 _, Value.int 2299 _, Value.int 2300 _, Value.int 2301 _, Value.int (2302 + r5) _] = tvs ∧ IntsAre tvs tns := ⟨_, _, rfl, (.cons _ _ (.cons _ _ (.cons _ _ (.cons _ _ (.cons _ _ .nil)))))⟩
    have N5 := news_tup e4 N4
    replace N5 : News _ _ _ ((tp, ({ cls := .type "tuple", data := .seq tvs.toArray } : Obj)) :: [(sm, listOf smv.toArray 0), (c, oc5), (cl, listOf ys.toArray ys.length)]) := News.perm N5 (by ((try dsimp only [List.cons_append, List.nil_append]); repeat (first | (with_reducible refine List.forall_mem_cons.mpr ⟨?_, ?_⟩; focus (show _ ∈ _; k_dflt k_mem)) | (with_reducible refine List.forall_mem_append.mpr ⟨?_, ?_⟩) | exact List.forall_mem_nil _ | (intro p hp; repeat (first | exact hp | with_reducible exact List.mem_append_left _ hp | with_reducible refine List.mem_append_right _ ?_ | with_reducible refine List.mem_cons_of_mem _ ?_)))))
    clear N4 e4
    refine stop_out ?_
    refine' lp_tup (vs := tvs) (n := 0) (dd := none) (sl := #[]) (ax := tp) (J := fun m0 i m nw => nw = ((tp, ({ cls := .type "tuple", data := .seq tvs.toArray } : Obj)) :: [(sm, listOf smv.toArray 0), (c, oc5), (cl, listOf ys.toArray ys.length)]) ∧ Agree [Str.ofString "old", Str.ofString "now", Str.ofString "fresh", Str.ofString "is_cold", Str.ofString "left"] m m0) ?hhe_q ?Fe_q ?Ne_q ?Je_q ?Ke_q ?stepe_q ?donee_q
    case hhe_q => rfl
    case Fe_q => k_asm
    case Je_q => exact ⟨rfl, Agree.refl⟩
    case Ne_q => exact News.perm (by k_asm) (by ((try dsimp only [List.cons_append, List.nil_append]); repeat (first | (with_reducible refine List.forall_mem_cons.mpr ⟨?_, ?_⟩; focus (show _ ∈ _; k_dflt k_mem)) | (with_reducible refine List.forall_mem_append.mpr ⟨?_, ?_⟩) | exact List.forall_mem_nil _ | (intro p hp; repeat (first | exact hp | with_reducible exact List.mem_append_left _ hp | with_reducible refine List.mem_append_right _ ?_ | with_reducible refine List.mem_cons_of_mem _ ?_)))))
    case Ke_q => rintro i m nw ⟨rfl, _⟩; exact .head _
    case stepe_q =>
      rintro Ie i v m1 nw h1 tk1 ioe hv ⟨rfl, hA⟩ hne F1 N1
      obtain ⟨xe, te, rfl⟩ := ints_item hti hv
      have e9 : m1 = fun y => ovr m1 _ [Str.ofString "old", Str.ofString "now", Str.ofString "fresh", Str.ofString "is_cold", Str.ofString "left"] y := hA.eta
      simp only [ovr] at e9
      clear hA
      generalize m1 (Str.ofString "old") = u1 at e9
      generalize m1 (Str.ofString "now") = u2 at e9
      generalize m1 (Str.ofString "fresh") = u3 at e9
      generalize m1 (Str.ofString "is_cold") = u4 at e9
      generalize m1 (Str.ofString "left") = u5 at e9
      subst e9
      k_sweep
      k_steps
      refine stop_out ?_
      refine' c_halts _ _ ?kFu1_q ?kXu1_q ?kNu1_q ?kTu1_q ?khu1_q ?kdu1_q ?kuu1_q ?kku1_q
      case kFu1_q => k_asm
      case kXu1_q => k_asm
      case kTu1_q => k_asm
      case kNu1_q => k_asm
      case khu1_q => exact rfl
      case kdu1_q => ktr_room
      case kuu1_q => ktr_units
      case kku1_q =>
      rintro v41 h41 tk41 rfl F41 N41
      k_sweep
      have hneq : (decide (xe ≤ 2300) != decide (xe ≤ 2300)) = false := by simp
      k_steps
      exact LPost.mk ((tp, ({ cls := .type "tuple", data := .seq tvs.toArray } : Obj)) :: [(sm, listOf smv.toArray 0), (c, oc5), (cl, listOf ys.toArray ys.length)]) (by assumption) (by assumption) (by k_dflt k_mem) (by ((try dsimp only [List.cons_append, List.nil_append]); repeat (first | (with_reducible refine List.forall_mem_cons.mpr ⟨?_, ?_⟩; focus (show _ ∈ _; k_dflt k_mem)) | (with_reducible refine List.forall_mem_append.mpr ⟨?_, ?_⟩) | exact List.forall_mem_nil _ | (intro p hp; repeat (first | exact hp | with_reducible exact List.mem_append_left _ hp | with_reducible refine List.mem_append_right _ ?_ | with_reducible refine List.mem_cons_of_mem _ ?_))))) hne ⟨rfl, by repeat (first | exact Agree.refl | refine Agree.set (by decide) ?_)⟩
    case donee_q =>
      rintro h1 tk1 m1 nw F1 N1 ⟨rfl, hA⟩
      have e9 : m1 = fun y => ovr m1 _ [Str.ofString "old", Str.ofString "now", Str.ofString "fresh", Str.ofString "is_cold", Str.ofString "left"] y := hA.eta
      simp only [ovr] at e9
      clear hA
      generalize m1 (Str.ofString "old") = u1 at e9
      generalize m1 (Str.ofString "now") = u2 at e9
      generalize m1 (Str.ofString "fresh") = u3 at e9
      generalize m1 (Str.ofString "is_cold") = u4 at e9
      generalize m1 (Str.ofString "left") = u5 at e9
      subst e9
      k_sweep
      k_steps
      refine stop_out ?_
      refine' For_turns ?F1f_q ?G1f_q ?S1f_q ?E1f_q
      case F1f_q => k_asm
      case E1f_q => passes_own
      case S1f_q => intro _; rfl
      case G1f_q =>
      k_steps
      refine stop_out ?_
      refine' useDip (c := c) (cl := cl) (many := 100000) (ncl := ys.length) (cvs := ys) (cns := cns) [(sm, listOf smv.toArray 0), (cl, listOf ys.toArray ys.length)] hc5 hci hcl (by omega) (by decide) (by repeat (first | exact .head _ | refine .tail _ ?_)) (by (repeat (first | (with_reducible refine List.forall_mem_cons.mpr ⟨?_, ?_⟩; focus ((try dsimp only); (first | exact Ne'.o (by with_reducible assumption) | exact Ne'.s (by with_reducible assumption) | (show @Ne Nat _ _; first | k_extra "ne" | omega)))) | (with_reducible refine List.forall_mem_append.mpr ⟨?_, ?_⟩) | (with_reducible assumption) | exact List.forall_mem_nil _ | (refine OwnOff.ne (by assumption) ?_; focus (simp; done)) | exact allLt_ne (by assumption)))) ?kB6_q ?kF6_q ?kX6_q (News.perm ?kN6_q ?ks6_q) ?kT6_q ?kh6_q ?kd6_q ?ku6_q ?kk6_q
      case kB6_q => k_asm
      case kF6_q => k_asm
      case kX6_q => k_asm
      case kT6_q => k_asm
      case kN6_q => k_asm
      case ks6_q => ((try dsimp only [List.cons_append, List.nil_append]); repeat (first | (with_reducible refine List.forall_mem_cons.mpr ⟨?_, ?_⟩; focus (show _ ∈ _; k_dflt k_mem)) | (with_reducible refine List.forall_mem_append.mpr ⟨?_, ?_⟩) | exact List.forall_mem_nil _ | (intro p hp; repeat (first | exact hp | with_reducible exact List.mem_append_left _ hp | with_reducible refine List.mem_append_right _ ?_ | with_reducible refine List.mem_cons_of_mem _ ?_))))
      case kh6_q => exact rfl
      case kd6_q => ktr_room
      case ku6_q => ktr_units
      case kk6_q =>
      intro r6 t6 tt6 oc6 h6 tk6 hr06 hr16 hc6 F6 N6
      k_sweep
      k_steps
      rename_i tp _ _ N4 l4
      have n_tp_c : Ne' c tp := (show @Ne Nat _ _ by omega)
      have n_tp_cl : Ne' cl tp := (show @Ne Nat _ _ by omega)
      have n_tp_sm : Ne' sm tp := (show @Ne Nat _ _ by omega)
      obtain ⟨tvs, tns, e4, hti⟩ : ∃ tvs tns, [Value.int 0 _, Value.int 4 _, Value.int 5 _, Value.int (21000 + r6) _] = tvs ∧ IntsAre tvs tns := ⟨_, _, rfl, (.cons _ _ (.cons _ _ (.cons _ _ (.cons _ _ .nil))))⟩
      have N5 := news_tup e4 N4
      replace N5 : News _ _ _ ((tp, ({ cls := .type "tuple", data := .seq tvs.toArray } : Obj)) :: [(sm, listOf smv.toArray 0), (c, oc6), (cl, listOf ys.toArray ys.length)]) := News.perm N5 (by ((try dsimp only [List.cons_append, List.nil_append]); repeat (first | (with_reducible refine List.forall_mem_cons.mpr ⟨?_, ?_⟩; focus (show _ ∈ _; k_dflt k_mem)) | (with_reducible refine List.forall_mem_append.mpr ⟨?_, ?_⟩) | exact List.forall_mem_nil _ | (intro p hp; repeat (first | exact hp | with_reducible exact List.mem_append_left _ hp | with_reducible refine List.mem_append_right _ ?_ | with_reducible refine List.mem_cons_of_mem _ ?_)))))
      clear N4 e4
      refine stop_out ?_
      refine' lp_tup (vs := tvs) (n := 0) (dd := none) (sl := #[]) (ax := tp) (J := fun m0 i m nw => nw = ((tp, ({ cls := .type "tuple", data := .seq tvs.toArray } : Obj)) :: [(sm, listOf smv.toArray 0), (c, oc6), (cl, listOf ys.toArray ys.length)]) ∧ Agree [Str.ofString "old", Str.ofString "now", Str.ofString "fresh", Str.ofString "is_cold", Str.ofString "left", Str.ofString "used"] m m0) ?hhf_q ?Ff_q ?Nf_q ?Jf_q ?Kf_q ?stepf_q ?donef_q
      case hhf_q => rfl
      case Ff_q => k_asm
      case Jf_q => exact ⟨rfl, Agree.refl⟩
      case Nf_q => exact News.perm (by k_asm) (by ((try dsimp only [List.cons_append, List.nil_append]); repeat (first | (with_reducible refine List.forall_mem_cons.mpr ⟨?_, ?_⟩; focus (show _ ∈ _; k_dflt k_mem)) | (with_reducible refine List.forall_mem_append.mpr ⟨?_, ?_⟩) | exact List.forall_mem_nil _ | (intro p hp; repeat (first | exact hp | with_reducible exact List.mem_append_left _ hp | with_reducible refine List.mem_append_right _ ?_ | with_reducible refine List.mem_cons_of_mem _ ?_)))))
      case Kf_q => rintro i m nw ⟨rfl, _⟩; exact .head _
      case stepf_q =>
        rintro If i v m1 nw h1 tk1 iof hv ⟨rfl, hA⟩ hnf F1 N1
        obtain ⟨xf, tf, rfl⟩ := ints_item hti hv
        have e9 : m1 = fun y => ovr m1 _ [Str.ofString "old", Str.ofString "now", Str.ofString "fresh", Str.ofString "is_cold", Str.ofString "left", Str.ofString "used"] y := hA.eta
        simp only [ovr] at e9
        clear hA
        generalize m1 (Str.ofString "old") = u1 at e9
        generalize m1 (Str.ofString "now") = u2 at e9
        generalize m1 (Str.ofString "fresh") = u3 at e9
        generalize m1 (Str.ofString "is_cold") = u4 at e9
        generalize m1 (Str.ofString "left") = u5 at e9
        generalize m1 (Str.ofString "used") = u6 at e9
        subst e9
        k_sweep
        k_steps
        refine stop_out ?_
        refine' Con.useP (c_cap _ _) ?kBu2_q ?kFu2_q ?kXu2_q ?kNu2_q ?kTu2_q ?khu2_q trivial ?kdu2_q ?kuu2_q ?kku2_q
        case kBu2_q => k_asm
        case kFu2_q => k_asm
        case kXu2_q => k_asm
        case kTu2_q => k_asm
        case kNu2_q => k_asm
        case khu2_q => exact rfl
        case kdu2_q => ktr_room
        case kuu2_q => ktr_units
        case kku2_q =>
        rintro v42 h42 tk42 ⟨t42, rfl⟩ F42 N42
        k_sweep
        k_steps
        refine stop_out ?_
        refine' Con.useP (c_cap _ _) ?kBu3_q ?kFu3_q ?kXu3_q ?kNu3_q ?kTu3_q ?khu3_q trivial ?kdu3_q ?kuu3_q ?kku3_q
        case kBu3_q => k_asm
        case kFu3_q => k_asm
        case kXu3_q => k_asm
        case kTu3_q => k_asm
        case kNu3_q => k_asm
        case khu3_q => exact rfl
        case kdu3_q => ktr_room
        case kuu3_q => ktr_units
        case kku3_q =>
        rintro v43 h43 tk43 ⟨t43, rfl⟩ F43 N43
        k_sweep
        k_steps
        exact LPost.mk ((tp, ({ cls := .type "tuple", data := .seq tvs.toArray } : Obj)) :: [(sm, listOf smv.toArray 0), (c, oc6), (cl, listOf ys.toArray ys.length)]) (by assumption) (by assumption) (by k_dflt k_mem) (by ((try dsimp only [List.cons_append, List.nil_append]); repeat (first | (with_reducible refine List.forall_mem_cons.mpr ⟨?_, ?_⟩; focus (show _ ∈ _; k_dflt k_mem)) | (with_reducible refine List.forall_mem_append.mpr ⟨?_, ?_⟩) | exact List.forall_mem_nil _ | (intro p hp; repeat (first | exact hp | with_reducible exact List.mem_append_left _ hp | with_reducible refine List.mem_append_right _ ?_ | with_reducible refine List.mem_cons_of_mem _ ?_))))) hnf ⟨rfl, by repeat (first | exact Agree.refl | refine Agree.set (by decide) ?_)⟩
      case donef_q =>
        rintro h1 tk1 m1 nw F1 N1 ⟨rfl, hA⟩
        have e9 : m1 = fun y => ovr m1 _ [Str.ofString "old", Str.ofString "now", Str.ofString "fresh", Str.ofString "is_cold", Str.ofString "left", Str.ofString "used"] y := hA.eta
        simp only [ovr] at e9
        clear hA
        generalize m1 (Str.ofString "old") = u1 at e9
        generalize m1 (Str.ofString "now") = u2 at e9
        generalize m1 (Str.ofString "fresh") = u3 at e9
        generalize m1 (Str.ofString "is_cold") = u4 at e9
        generalize m1 (Str.ofString "left") = u5 at e9
        generalize m1 (Str.ofString "used") = u6 at e9
        subst e9
        k_sweep
        k_steps
        rename_i st dst _ _ _ lst ldst _ _ _ _ _ _ _ _ _ _ _ _ acc _ oacc lo1 _ _ hacc _ lA _ _ _ jl _ lB _ _ _ tch _ otch lo3 _ _ htch _ lC _ _ _ des _ odes lo4 _ _ hdes _ lD _ _ _ wo _ _ _ _ _ _ _ _ _ _ _ ws _ _ _ _ _ _ _ _ _ _ _ org _ _ _ _ _ _ _ _ _ _ _ _ lg _ _ _ _ _ F50 N50 _ _
        obtain ⟨kS, tr0, N51⟩ := sIn (dst := dst) N50 (by k_dflt k_mem)
        replace N51 : News _ _ _ ((c, oc6) :: (sm, listOf smv.toArray 0) :: (cl, listOf ys.toArray ys.length) :: ((st, instObj 399 dst) :: (dst, sObj _ kS acc jl tch des wo ws org lg 0 tr0) :: (acc, oacc) :: (jl, listOf (List.toArray []) 0) :: (tch, otch) :: [(des, odes)])) := News.perm N51 (by ((try dsimp only [List.cons_append, List.nil_append]); repeat (first | (with_reducible refine List.forall_mem_cons.mpr ⟨?_, ?_⟩; focus (show _ ∈ _; k_dflt k_mem)) | (with_reducible refine List.forall_mem_append.mpr ⟨?_, ?_⟩) | exact List.forall_mem_nil _ | (intro p hp; repeat (first | exact hp | with_reducible exact List.mem_append_left _ hp | with_reducible refine List.mem_append_right _ ?_ | with_reducible refine List.mem_cons_of_mem _ ?_)))))
        clear N50
        have n_st_sm : Ne' st sm := (show @Ne Nat _ _ by omega)
        have n_dst_sm : Ne' dst sm := (show @Ne Nat _ _ by omega)
        have n_acc_sm : Ne' acc sm := (show @Ne Nat _ _ by omega)
        have n_jl_sm : Ne' jl sm := (show @Ne Nat _ _ by omega)
        have n_tch_sm : Ne' tch sm := (show @Ne Nat _ _ by omega)
        have n_des_sm : Ne' des sm := (show @Ne Nat _ _ by omega)
        have n_st_c : Ne' st c := (show @Ne Nat _ _ by omega)
        have n_dst_c : Ne' dst c := (show @Ne Nat _ _ by omega)
        have n_acc_c : Ne' acc c := (show @Ne Nat _ _ by omega)
        have n_jl_c : Ne' jl c := (show @Ne Nat _ _ by omega)
        have n_tch_c : Ne' tch c := (show @Ne Nat _ _ by omega)
        have n_des_c : Ne' des c := (show @Ne Nat _ _ by omega)
        have n_st_cl : Ne' st cl := (show @Ne Nat _ _ by omega)
        have n_dst_cl : Ne' dst cl := (show @Ne Nat _ _ by omega)
        have n_acc_cl : Ne' acc cl := (show @Ne Nat _ _ by omega)
        have n_jl_cl : Ne' jl cl := (show @Ne Nat _ _ by omega)
        have n_tch_cl : Ne' tch cl := (show @Ne Nat _ _ by omega)
        have n_des_cl : Ne' des cl := (show @Ne Nat _ _ by omega)
        have nd6 : Apart [st, dst, acc, jl, tch, des] := by
          simp only [Apart, AllNe]
          refine ⟨⟨?_, ?_, ?_, ?_, ?_, trivial⟩, ⟨?_, ?_, ?_, ?_, trivial⟩, ⟨?_, ?_, ?_, trivial⟩, ⟨?_, ?_, trivial⟩, ⟨?_, trivial⟩, trivial, trivial⟩ <;> (show @Ne Nat _ _; first | k_extra "ne" | omega)
        clear lst ldst lA lB lC lD
        k_sweep
        refine stop_out ?_
        refine' useDip (c := c) (cl := cl) (many := 100) (ncl := ys.length) (cvs := ys) (cns := cns) ((sm, listOf smv.toArray 0) :: (cl, listOf ys.toArray ys.length) :: ((st, instObj 399 dst) :: (dst, sObj _ kS acc jl tch des wo ws org lg 0 tr0) :: (acc, oacc) :: (jl, listOf (List.toArray []) 0) :: (tch, otch) :: [(des, odes)])) hc6 hci hcl (by omega) (by decide) (by repeat (first | exact .head _ | refine .tail _ ?_)) (by (repeat (first | (with_reducible refine List.forall_mem_cons.mpr ⟨?_, ?_⟩; focus ((try dsimp only); (first | exact Ne'.o (by with_reducible assumption) | exact Ne'.s (by with_reducible assumption) | (show @Ne Nat _ _; first | k_extra "ne" | omega)))) | (with_reducible refine List.forall_mem_append.mpr ⟨?_, ?_⟩) | (with_reducible assumption) | exact List.forall_mem_nil _ | (refine OwnOff.ne (by assumption) ?_; focus (simp; done)) | exact allLt_ne (by assumption)))) ?kB7_q ?kF7_q ?kX7_q (News.perm ?kN7_q ?ks7_q) ?kT7_q ?kh7_q ?kd7_q ?ku7_q ?kk7_q
        case kB7_q => k_asm
        case kF7_q => k_asm
        case kX7_q => k_asm
        case kT7_q => k_asm
        case kN7_q => k_asm
        case ks7_q => ((try dsimp only [List.cons_append, List.nil_append]); repeat (first | (with_reducible refine List.forall_mem_cons.mpr ⟨?_, ?_⟩; focus (show _ ∈ _; k_dflt k_mem)) | (with_reducible refine List.forall_mem_append.mpr ⟨?_, ?_⟩) | exact List.forall_mem_nil _ | (intro p hp; repeat (first | exact hp | with_reducible exact List.mem_append_left _ hp | with_reducible refine List.mem_append_right _ ?_ | with_reducible refine List.mem_cons_of_mem _ ?_))))
        case kh7_q => exact rfl
        case kd7_q => ktr_room
        case ku7_q => ktr_units
        case kk7_q =>
        intro r7 t7 tt7 oc7 h7 tk7 hr07 hr17 hc7 F7 N7
        k_sweep
        k_steps
        refine stop_out ?_
        refine' Con.useG (c_nonce (home := 7 + r7) (wo := wo) (ws := ws) (org := org) (lg := lg) (kS := kS) (tr := tr0) (odes := odes) (n := 0) nd6 lo1 lo3 hacc htch _ _) ((sm, listOf smv.toArray 0) :: (c, oc7) :: [(cl, listOf ys.toArray ys.length)]) ?kBn_q ?kFn_q ?kXn_q (News.perm ?kNn_q ?ksn_q) ?kOn_q ?kTn_q ?khn_q trivial ?kdn_q ?kun_q ?kkn_q
        case kBn_q => k_asm
        case kFn_q => k_asm
        case kXn_q => k_asm
        case kTn_q => k_asm
        case kNn_q => k_asm
        case ksn_q => ((try dsimp only [List.cons_append, List.nil_append]); repeat (first | (with_reducible refine List.forall_mem_cons.mpr ⟨?_, ?_⟩; focus (show _ ∈ _; k_dflt k_mem)) | (with_reducible refine List.forall_mem_append.mpr ⟨?_, ?_⟩) | exact List.forall_mem_nil _ | (intro p hp; repeat (first | exact hp | with_reducible exact List.mem_append_left _ hp | with_reducible refine List.mem_append_right _ ?_ | with_reducible refine List.mem_cons_of_mem _ ?_))))
        case kOn_q => (refine OffL.cons ?_ (OffL.cons ?_ (OffL.cons ?_ OffL.nil)); (focus (repeat (first | (with_reducible refine List.forall_mem_cons.mpr ⟨?_, ?_⟩; focus ((try dsimp only); (first | exact Ne'.o (by with_reducible assumption) | exact Ne'.s (by with_reducible assumption) | (show @Ne Nat _ _; first | k_extra "ne" | omega)))) | (with_reducible refine List.forall_mem_append.mpr ⟨?_, ?_⟩) | (with_reducible assumption) | exact List.forall_mem_nil _ | (refine OwnOff.ne (by assumption) ?_; focus (simp; done)) | exact allLt_ne (by assumption)))); (focus (repeat (first | (with_reducible refine List.forall_mem_cons.mpr ⟨?_, ?_⟩; focus ((try dsimp only); (first | exact Ne'.o (by with_reducible assumption) | exact Ne'.s (by with_reducible assumption) | (show @Ne Nat _ _; first | k_extra "ne" | omega)))) | (with_reducible refine List.forall_mem_append.mpr ⟨?_, ?_⟩) | (with_reducible assumption) | exact List.forall_mem_nil _ | (refine OwnOff.ne (by assumption) ?_; focus (simp; done)) | exact allLt_ne (by assumption)))); (repeat (first | (with_reducible refine List.forall_mem_cons.mpr ⟨?_, ?_⟩; focus ((try dsimp only); (first | exact Ne'.o (by with_reducible assumption) | exact Ne'.s (by with_reducible assumption) | (show @Ne Nat _ _; first | k_extra "ne" | omega)))) | (with_reducible refine List.forall_mem_append.mpr ⟨?_, ?_⟩) | (with_reducible assumption) | exact List.forall_mem_nil _ | (refine OwnOff.ne (by assumption) ?_; focus (simp; done)) | exact allLt_ne (by assumption))))
        case khn_q => exact rfl
        case kdn_q => ktr_room
        case kun_q => ktr_units
        case kkn_q =>
        rintro v8 h8 tk8 ⟨rfl, ac, dac, sto, oacc', otch', osto, kA, tn, tb, tc, nd8, lo2, hacc', htch', hsto', sat8, gr8⟩ F8 N8 k8
        obtain ⟨n8, o8⟩ := k8 _ sat8 gr8
        have N9 := N8.append n8
        clear N8 n8 k8 sat8 gr8
        have oc8 : ∀ q ∈ [(st, instObj 399 dst), (dst, sObj _ kS acc jl tch des wo ws org lg 0 tr0), (acc, oacc'), (ac, instObj 112 dac), (dac, aObj _ kA sto tn tb tc), (sto, osto), (tch, otch'), (des, odes)], q.1 ≠ c := o8 (c, oc7) (.tail _ (.head _))
        have n_ac_c : Ne' ac c := oc8 (ac, instObj 112 dac) (by k_dflt k_mem)
        have n_dac_c : Ne' dac c := oc8 (dac, _) (.tail _ (.tail _ (.tail _ (.tail _ (.head _)))))
        have n_sto_c : Ne' sto c := oc8 (sto, osto) (by k_dflt k_mem)
        (try simp only [List.cons_append, List.nil_append] at N9)
        k_sweep
        k_steps
        refine stop_out ?_
        k_dflt (refine' kdn_eval (knd := intKind PP _) ?kdF_q ?kdN_q ?kdb_q ?kda_q ?kdl_q ?kde_q ?kdn_q ?_; (case kdF_q => k_asm); (case kdN_q => k_asm); (case kdb_q => exact Top.nolimit (by k_asm)); (case kda_q => rfl); (case kdl_q => rfl); (case kde_q => exact List.cons_ne_nil _ _); (case kdn_q => exact Nat.le_of_ble_eq_true rfl))
        intro fd h9 oF0 F9 N9 l9 loF hdF
        k_lt l9
        have n_fd_c : Ne' fd c := (show @Ne Nat _ _ by omega)
        k_sweep
        k_steps
        refine stop_out ?_
        refine' useDip (c := c) (cl := cl) (many := 3) (ncl := ys.length) (cvs := ys) (cns := cns) ((fd, oF0) :: (sm, listOf smv.toArray 0) :: (cl, listOf ys.toArray ys.length) :: [(st, instObj 399 dst), (dst, sObj _ kS acc jl tch des wo ws org lg 0 tr0), (acc, oacc'), (ac, instObj 112 dac), (dac, aObj _ kA sto tn tb tc), (sto, osto), (tch, otch'), (des, odes)]) hc7 hci hcl (by omega) (by decide) (by repeat (first | exact .head _ | refine .tail _ ?_)) (by (repeat (first | (with_reducible refine List.forall_mem_cons.mpr ⟨?_, ?_⟩; focus ((try dsimp only); (first | exact Ne'.o (by with_reducible assumption) | exact Ne'.s (by with_reducible assumption) | (show @Ne Nat _ _; first | k_extra "ne" | omega)))) | (with_reducible refine List.forall_mem_append.mpr ⟨?_, ?_⟩) | (with_reducible assumption) | exact List.forall_mem_nil _ | (refine OwnOff.ne (by assumption) ?_; focus (simp; done)) | exact allLt_ne (by assumption)))) ?kB9_q ?kF9_q ?kX9_q (News.perm ?kN9_q ?ks9_q) ?kT9_q ?kh9_q ?kd9_q ?ku9_q ?kk9_q
        case kB9_q => k_asm
        case kF9_q => k_asm
        case kX9_q => k_asm
        case kT9_q => k_asm
        case kN9_q => k_asm
        case ks9_q => ((try dsimp only [List.cons_append, List.nil_append]); repeat (first | (with_reducible refine List.forall_mem_cons.mpr ⟨?_, ?_⟩; focus (show _ ∈ _; k_dflt k_mem)) | (with_reducible refine List.forall_mem_append.mpr ⟨?_, ?_⟩) | exact List.forall_mem_nil _ | (intro p hp; repeat (first | exact hp | with_reducible exact List.mem_append_left _ hp | with_reducible refine List.mem_append_right _ ?_ | with_reducible refine List.mem_cons_of_mem _ ?_))))
        case kh9_q => exact rfl
        case kd9_q => ktr_room
        case ku9_q => ktr_units
        case kk9_q =>
        intro r9 t9 tt9 oc9 h9 tk9 hr09 hr19 hc9 F9 N9
        k_sweep
        k_steps
        refine stop_out ?_
        refine' useDip (c := c) (cl := cl) (many := 1000) (ncl := ys.length) (cvs := ys) (cns := cns) ((fd, oF0) :: (sm, listOf smv.toArray 0) :: (cl, listOf ys.toArray ys.length) :: [(st, instObj 399 dst), (dst, sObj _ kS acc jl tch des wo ws org lg 0 tr0), (acc, oacc'), (ac, instObj 112 dac), (dac, aObj _ kA sto tn tb tc), (sto, osto), (tch, otch'), (des, odes)]) hc9 hci hcl (by omega) (by decide) (by repeat (first | exact .head _ | refine .tail _ ?_)) (by (repeat (first | (with_reducible refine List.forall_mem_cons.mpr ⟨?_, ?_⟩; focus ((try dsimp only); (first | exact Ne'.o (by with_reducible assumption) | exact Ne'.s (by with_reducible assumption) | (show @Ne Nat _ _; first | k_extra "ne" | omega)))) | (with_reducible refine List.forall_mem_append.mpr ⟨?_, ?_⟩) | (with_reducible assumption) | exact List.forall_mem_nil _ | (refine OwnOff.ne (by assumption) ?_; focus (simp; done)) | exact allLt_ne (by assumption)))) ?kB10_q ?kF10_q ?kX10_q (News.perm ?kN10_q ?ks10_q) ?kT10_q ?kh10_q ?kd10_q ?ku10_q ?kk10_q
        case kB10_q => k_asm
        case kF10_q => k_asm
        case kX10_q => k_asm
        case kT10_q => k_asm
        case kN10_q => k_asm
        case ks10_q => ((try dsimp only [List.cons_append, List.nil_append]); repeat (first | (with_reducible refine List.forall_mem_cons.mpr ⟨?_, ?_⟩; focus (show _ ∈ _; k_dflt k_mem)) | (with_reducible refine List.forall_mem_append.mpr ⟨?_, ?_⟩) | exact List.forall_mem_nil _ | (intro p hp; repeat (first | exact hp | with_reducible exact List.mem_append_left _ hp | with_reducible refine List.mem_append_right _ ?_ | with_reducible refine List.mem_cons_of_mem _ ?_))))
        case kh10_q => exact rfl
        case kd10_q => ktr_room
        case ku10_q => ktr_units
        case kk10_q =>
        intro r10 t10 tt10 oc10 h10 tk10 hr010 hr110 hc10 F10 N10
        k_sweep
        k_steps
        refine' kdn_made_int F10 N10 ?kU_q hdF ?khk_q ?khn_q ?kh_q
        case kU_q => k_updF
        case khk_q => rfl
        case khn_q =>
          show [r9, 3 + r10].Nodup
          simp; omega
        case kh_q =>
        intro h11 oF F11 N11 hdF
        obtain ⟨kvF, hdF2, hR⟩ : ∃ kvF, oF.IsDictOf (intKind PP _) kvF ∧ HeldRep r9 (3 + r10) kvF (fun _ => 0) := ⟨_, hdF, _, _, rfl⟩
        try dsimp only at N11
        clear hdF
        k_sweep
        k_steps
        refine stop_out ?_
        rename_i F12 N12
        refine' For_invF F12 ?hx1_q ?hp1_q ?G1_q ?S1_q ?E1_q
        case hx1_q => rfl
        case hp1_q => rfl
        case S1_q => intro _; rfl
        case E1_q => passes_own
        case G1_q =>
        k_steps
        refine stop_out ?_
        refine call_range_1 ?_
        have hSt : StIn _ (7 + r7) r9 (3 + r10) (fun _ => 0) ⟨st, dst, acc, ac, dac, sto, jl, tch, des, ws, org, wo, lg, oacc', odes, kS, kA, tn, tb, tc⟩ ⟨osto, otch', otch', otch', tr0, 0, #[], [], [], [], [], []⟩ true := ⟨nd8, lo1, lo2, lo3, lo4, hacc', hdes, hsto', sto_nil (fun _ => rfl), (fun _ h => nomatch h), htch'⟩
        have hOs : OffL [(c, oc10), (cl, listOf ys.toArray ys.length), (sm, listOf smv.toArray 0), (fd, oF)] (foot8 _ ⟨st, dst, acc, ac, dac, sto, jl, tch, des, ws, org, wo, lg, oacc', odes, kS, kA, tn, tb, tc⟩ ⟨osto, otch', otch', otch', tr0, 0, #[], [], [], [], [], []⟩ 0) :=
          OffL.cons oc8 (OffL.cons (o8 (cl, listOf ys.toArray ys.length) (.tail _ (.tail _ (.head _)))) (OffL.cons (o8 (sm, listOf smv.toArray 0) (.head _)) (OffL.cons (by unfold foot8; (repeat (first | (with_reducible refine List.forall_mem_cons.mpr ⟨?_, ?_⟩; focus ((try dsimp only); (first | exact Ne'.o (by with_reducible assumption) | exact Ne'.s (by with_reducible assumption) | (show @Ne Nat _ _; first | k_extra "ne" | omega)))) | (with_reducible refine List.forall_mem_append.mpr ⟨?_, ?_⟩) | (with_reducible assumption) | exact List.forall_mem_nil _ | (refine OwnOff.ne (by assumption) ?_; focus (simp; done)) | exact allLt_ne (by assumption)))) OffL.nil)))
        have hap4 : Apart [c, cl, sm, fd] := ⟨⟨n_c_cl, n_c_sm, (by show @Ne Nat _ _; omega), trivial⟩, ⟨n_cl_sm, (by show @Ne Nat _ _; omega), trivial⟩, ⟨(by show @Ne Nat _ _; omega), trivial⟩, trivial, trivial⟩
        k_steps
        refine stop_out ?_
        refine' lp_range (n := 2) ?hhr_q (IsRange.new ..) ?smallr_q ?rsr_q (F12.push _) (News.perm (news_push N12) ?ksr_q) (LawJ _ (7 + r7) r9 (3 + r10) st c cl sm (listOf ys.toArray ys.length) (listOf smv.toArray 0)) ⟨fd, oF, kvF, fun _ => 0, oc10, _, tt10, _, _, 0, true, rfl, rfl, hSt, hdF2, hR, loF, hc10, by omega, hap4, hOs, rfl, Agree.refl⟩ ?stepr_q ?doner_q
        case hhr_q => rfl
        case smallr_q => exact small_one (by omega) (by omega) (by omega) (by omega)
        case rsr_q => rw [rangeSize_nat]; rfl
        case ksr_q => unfold foot8; ((try dsimp only [List.cons_append, List.nil_append]); repeat (first | (with_reducible refine List.forall_mem_cons.mpr ⟨?_, ?_⟩; focus (show _ ∈ _; k_dflt k_mem)) | (with_reducible refine List.forall_mem_append.mpr ⟨?_, ?_⟩) | exact List.forall_mem_nil _ | (intro p hp; repeat (first | exact hp | with_reducible exact List.mem_append_left _ hp | with_reducible refine List.mem_append_right _ ?_ | with_reducible refine List.mem_cons_of_mem _ ?_))))
        case stepr_q =>
          clear hSt hOs hap4 hR hdF2 hc10 nd8 hacc' htch' hsto' hdes N12 F12
          rintro I i tI m1 nw h1 tk1 io hi ⟨fd, oF, kvF, σ, oc, turn, tt, P, C, r, b, rfl, hst, hSt, hF, hR, loF, hc, h0, hap, hO, hfd, hA⟩ hn F1 N1
          subst hst
          have e9 : m1 = fun y => ovr m1 _ [Str.ofString "stage", Str.ofString "first"] y := hA.eta
          simp only [ovr] at e9
          rw [hfd] at e9
          clear hA hfd
          generalize m1 (Str.ofString "stage") = u1 at e9
          subst e9
          unfold foot8 at N1
          k_sweep
          k_steps
          refine stop_out ?_
          refine' Con.useG (c_stage hSt.nd hSt.lo1 hSt.lo2 hSt.lo3 hSt.lo4 hSt.hacc hSt.hdes hSt.hsto hSt.hkv hSt.hkn b hSt.htch hF hR loF (by omega) hc h0 hci hcl hsi hsm4 hap hO _) [(I, io)] ?kBs_q ?kFs_q ?kXs_q (News.perm ?kNs_q ?kss_q) (OffL.cons (fun q hq => hn q (perm_fd q hq)) OffL.nil) ?kTs_q ?khs_q trivial ?kds_q ?kus_q ?kks_q
          case kBs_q => k_asm
          case kFs_q => k_asm
          case kXs_q => k_asm
          case kTs_q => k_asm
          case kNs_q => k_asm
          case kss_q => ((try dsimp only [List.cons_append, List.nil_append]); repeat (first | (with_reducible refine List.forall_mem_cons.mpr ⟨?_, ?_⟩; focus (show _ ∈ _; k_dflt k_mem)) | (with_reducible refine List.forall_mem_append.mpr ⟨?_, ?_⟩) | exact List.forall_mem_nil _ | (intro p hp; repeat (first | exact hp | with_reducible exact List.mem_append_left _ hp | with_reducible refine List.mem_append_right _ ?_ | with_reducible refine List.mem_cons_of_mem _ ?_))))
          case khs_q => exact rfl
          case kds_q => ktr_room
          case kus_q => ktr_units
          case kks_q =>
          rintro v9 h9 tk9 ⟨hd9, oH, kvH, oc9, turn9, tt9, σ9, P9, C9, r9', rfl, hDH, hRH, loH, hc9', h09, hst9, hP9, hC9, sat9, gr9, off9, ap9⟩ F9 N9 k9
          obtain ⟨n9, o9⟩ := k9 _ sat9 gr9
          have N10 := N9.append n9
          clear N9 n9 k9 sat9 gr9
          (try simp only [List.cons_append, List.nil_append, List.append_assoc] at N10)
          k_sweep
          k_steps
          refine' LPost.mk ((hd9, oH) :: (c, oc9) :: (cl, listOf ys.toArray ys.length) :: (sm, listOf smv.toArray 0) :: foot8 (worldOf hSt) P9 C9 r9') ?eF_q ?eN_q ?eI_q ?eS_q ?eO_q ?eJ_q
          case eF_q => k_asm
          case eJ_q => exact ⟨hd9, oH, kvH, σ9, oc9, turn9, tt9, P9, C9, r9', false, rfl, hst9, stIn_clean hP9 hC9, hDH, hRH, loH, hc9', h09, apart_rot ap9, offL_rot off9 foot8_led, rfl, by repeat (first | exact Agree.refl | refine Agree.set (by decide) ?_)⟩
          case eN_q => k_asm
          case eI_q => k_dflt k_mem
          case eS_q => exact fun p hp => .tail _ (by
            rcases List.mem_cons.mp hp with rfl | hp
            · exact .head _
            rcases List.mem_cons.mp hp with rfl | hp
            · exact .tail _ (.head _)
            rcases List.mem_cons.mp hp with rfl | hp
            · exact .tail _ (.tail _ (.head _))
            rcases List.mem_cons.mp hp with rfl | hp
            · exact .tail _ (.tail _ (.tail _ (.head _)))
            exact .tail _ (.tail _ (.tail _ (.tail _ (foot8_led p hp)))))
          case eO_q => exact fun p hp => o9 (I, io) (.head _) p (by
            rcases List.mem_cons.mp hp with rfl | hp
            · exact .head _
            rcases List.mem_cons.mp hp with rfl | hp
            · exact .tail _ (.head _)
            rcases List.mem_cons.mp hp with rfl | hp
            · exact .tail _ (.tail _ (.head _))
            rcases List.mem_cons.mp hp with rfl | hp
            · exact .tail _ (.tail _ (.tail _ (.head _)))
            exact .tail _ (.tail _ (.tail _ (.tail _ (foot8_led p hp)))))
        case doner_q =>
          clear hSt hOs hap4 hR hdF2 hc10 nd8 hacc' htch' hsto' hdes N12 F12
          rintro h1 tk1 m1 nw F1 N1 ⟨fd, oF, kvF, σ, oc, turn, tt, P, C, r, b, rfl, hst, hSt, hF, hR, loF, hc, h0, hap, hO, hfd, hA⟩
          have e9 : m1 = fun y => ovr m1 _ [Str.ofString "stage", Str.ofString "first"] y := hA.eta
          simp only [ovr] at e9
          rw [hfd] at e9
          clear hA hfd
          generalize m1 (Str.ofString "stage") = u1 at e9
          subst e9
          k_sweep
          k_steps

end Mine
end
theorem PySem.Challenge.cw_pq0405_01_holds : PySem.Challenge.rw_pq0405_01.Holds :=
  Mine.law_holds
