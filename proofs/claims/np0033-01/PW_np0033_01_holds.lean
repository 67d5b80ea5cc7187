import PyProof.Rows.All
import Wide.All
import OpenK.AllK
import Wide.FinOn
import PySem.Challenge.RW_np0033_01
open PySem PySem.W PySem.Calls PySem.Spec PyProof.Rows
set_option Elab.async false
set_option maxRecDepth 100000
set_option maxHeartbeats 16000000
set_option linter.unusedSimpArgs false
set_option linter.unusedVariables false
set_option linter.unusedSectionVars false
namespace Mine
-- Hd
noncomputable abbrev P0 : PySem.Program := PySem.Challenge.pw_np0033_01
noncomputable def nthS (l : List PySem.Stmt) (i : Nat) : PySem.Stmt := match l, i with
  | s :: _, 0 => s
  | _ :: r, i + 1 => nthS r i
  | [], _ => .Pass { line := 0, col := 0, endLine := 0, endCol := 0 }
noncomputable def sAt (i : Nat) : PySem.Stmt := nthS P0.main.body i
noncomputable def mAt (i j : Nat) : PySem.Stmt := match sAt i with
  | .ClassDef _ _ _ b .. => nthS b j
  | s => s
noncomputable def hd.heap_39 : Params → Frag := (fun (n1 : PySem.Str) (fp_1 : PySem.Arguments) (fb_1 : List PySem.Stmt) (d1 : List PySem.Expr) (r1 : Option PySem.Expr) (t1 : List PySem.TypeParam) (fs_1 : PySem.Scope) (u1 : Option PySem.Scope) (b1 : PySem.Str) (q1 : PySem.Pos) (n2 : PySem.Str) (fp_2 : PySem.Arguments) (fb_2 : List PySem.Stmt) (d2 : List PySem.Expr) (r2 : Option PySem.Expr) (t2 : List PySem.TypeParam) (fs_2 : PySem.Scope) (u2 : Option PySem.Scope) (b2 : PySem.Str) (q2 : PySem.Pos) (n3 : PySem.Str) (fp_3 : PySem.Arguments) (fb_3 : List PySem.Stmt) (d3 : List PySem.Expr) (r3 : Option PySem.Expr) (t3 : List PySem.TypeParam) (fs_3 : PySem.Scope) (u3 : Option PySem.Scope) (b3 : PySem.Str) (q3 : PySem.Pos) (n6 : PySem.Str) (fp_6 : PySem.Arguments) (fb_6 : List PySem.Stmt) (d6 : List PySem.Expr) (r6 : Option PySem.Expr) (t6 : List PySem.TypeParam) (fs_6 : PySem.Scope) (u6 : Option PySem.Scope) (b6 : PySem.Str) (q6 : PySem.Pos) (n7 : PySem.Str) (fp_7 : PySem.Arguments) (fb_7 : List PySem.Stmt) (d7 : List PySem.Expr) (r7 : Option PySem.Expr) (t7 : List PySem.TypeParam) (fs_7 : PySem.Scope) (u7 : Option PySem.Scope) (b7 : PySem.Str) (q7 : PySem.Pos) (n8 : PySem.Str) (fp_8 : PySem.Arguments) (fb_8 : List PySem.Stmt) (d8 : List PySem.Expr) (r8 : Option PySem.Expr) (t8 : List PySem.TypeParam) (fs_8 : PySem.Scope) (u8 : Option PySem.Scope) (b8 : PySem.Str) (q8 : PySem.Pos) (n9 : PySem.Str) (fp_9 : PySem.Arguments) (fb_9 : List PySem.Stmt) (d9 : List PySem.Expr) (r9 : Option PySem.Expr) (t9 : List PySem.TypeParam) (fs_9 : PySem.Scope) (u9 : Option PySem.Scope) (b9 : PySem.Str) (q9 : PySem.Pos) (n12 : PySem.Str) (fp_12 : PySem.Arguments) (fb_12 : List PySem.Stmt) (d12 : List PySem.Expr) (r12 : Option PySem.Expr) (t12 : List PySem.TypeParam) (fs_12 : PySem.Scope) (u12 : Option PySem.Scope) (b12 : PySem.Str) (q12 : PySem.Pos) (n13 : PySem.Str) (fp_13 : PySem.Arguments) (fb_13 : List PySem.Stmt) (d13 : List PySem.Expr) (r13 : Option PySem.Expr) (t13 : List PySem.TypeParam) (fs_13 : PySem.Scope) (u13 : Option PySem.Scope) (b13 : PySem.Str) (q13 : PySem.Pos) (n14 : PySem.Str) (fp_14 : PySem.Arguments) (fb_14 : List PySem.Stmt) (d14 : List PySem.Expr) (r14 : Option PySem.Expr) (t14 : List PySem.TypeParam) (fs_14 : PySem.Scope) (u14 : Option PySem.Scope) (b14 : PySem.Str) (q14 : PySem.Pos) (n15 : PySem.Str) (fp_15 : PySem.Arguments) (fb_15 : List PySem.Stmt) (d15 : List PySem.Expr) (r15 : Option PySem.Expr) (t15 : List PySem.TypeParam) (fs_15 : PySem.Scope) (u15 : Option PySem.Scope) (b15 : PySem.Str) (q15 : PySem.Pos) (n16 : PySem.Str) (fp_16 : PySem.Arguments) (fb_16 : List PySem.Stmt) (d16 : List PySem.Expr) (r16 : Option PySem.Expr) (t16 : List PySem.TypeParam) (fs_16 : PySem.Scope) (u16 : Option PySem.Scope) (b16 : PySem.Str) (q16 : PySem.Pos) (n17 : PySem.Str) (fp_17 : PySem.Arguments) (fb_17 : List PySem.Stmt) (d17 : List PySem.Expr) (r17 : Option PySem.Expr) (t17 : List PySem.TypeParam) (fs_17 : PySem.Scope) (u17 : Option PySem.Scope) (b17 : PySem.Str) (q17 : PySem.Pos) (n18 : PySem.Str) (fp_18 : PySem.Arguments) (fb_18 : List PySem.Stmt) (d18 : List PySem.Expr) (r18 : Option PySem.Expr) (t18 : List PySem.TypeParam) (fs_18 : PySem.Scope) (u18 : Option PySem.Scope) (b18 : PySem.Str) (q18 : PySem.Pos) (n23 : PySem.Str) (fp_23 : PySem.Arguments) (fb_23 : List PySem.Stmt) (d23 : List PySem.Expr) (r23 : Option PySem.Expr) (t23 : List PySem.TypeParam) (fs_23 : PySem.Scope) (u23 : Option PySem.Scope) (b23 : PySem.Str) (q23 : PySem.Pos) (n24 : PySem.Str) (fp_24 : PySem.Arguments) (fb_24 : List PySem.Stmt) (d24 : List PySem.Expr) (r24 : Option PySem.Expr) (t24 : List PySem.TypeParam) (fs_24 : PySem.Scope) (u24 : Option PySem.Scope) (b24 : PySem.Str) (q24 : PySem.Pos) (n25 : PySem.Str) (fp_25 : PySem.Arguments) (fb_25 : List PySem.Stmt) (d25 : List PySem.Expr) (r25 : Option PySem.Expr) (t25 : List PySem.TypeParam) (fs_25 : PySem.Scope) (u25 : Option PySem.Scope) (b25 : PySem.Str) (q25 : PySem.Pos) (n26 : PySem.Str) (fp_26 : PySem.Arguments) (fb_26 : List PySem.Stmt) (d26 : List PySem.Expr) (r26 : Option PySem.Expr) (t26 : List PySem.TypeParam) (fs_26 : PySem.Scope) (u26 : Option PySem.Scope) (b26 : PySem.Str) (q26 : PySem.Pos) (n27 : PySem.Str) (fp_27 : PySem.Arguments) (fb_27 : List PySem.Stmt) (d27 : List PySem.Expr) (r27 : Option PySem.Expr) (t27 : List PySem.TypeParam) (fs_27 : PySem.Scope) (u27 : Option PySem.Scope) (b27 : PySem.Str) (q27 : PySem.Pos) (n28 : PySem.Str) (fp_28 : PySem.Arguments) (fb_28 : List PySem.Stmt) (d28 : List PySem.Expr) (r28 : Option PySem.Expr) (t28 : List PySem.TypeParam) (fs_28 : PySem.Scope) (u28 : Option PySem.Scope) (b28 : PySem.Str) (q28 : PySem.Pos) (n5_0 : PySem.Str) (fp_5_0 : PySem.Arguments) (fb_5_0 : List PySem.Stmt) (d5_0 : List PySem.Expr) (r5_0 : Option PySem.Expr) (t5_0 : List PySem.TypeParam) (fs_5_0 : PySem.Scope) (u5_0 : Option PySem.Scope) (b5_0 : PySem.Str) (q5_0 : PySem.Pos) (n5_1 : PySem.Str) (fp_5_1 : PySem.Arguments) (fb_5_1 : List PySem.Stmt) (d5_1 : List PySem.Expr) (r5_1 : Option PySem.Expr) (t5_1 : List PySem.TypeParam) (fs_5_1 : PySem.Scope) (u5_1 : Option PySem.Scope) (b5_1 : PySem.Str) (q5_1 : PySem.Pos) (n11_0 : PySem.Str) (fp_11_0 : PySem.Arguments) (fb_11_0 : List PySem.Stmt) (d11_0 : List PySem.Expr) (r11_0 : Option PySem.Expr) (t11_0 : List PySem.TypeParam) (fs_11_0 : PySem.Scope) (u11_0 : Option PySem.Scope) (b11_0 : PySem.Str) (q11_0 : PySem.Pos) (n21_0 : PySem.Str) (fp_21_0 : PySem.Arguments) (fb_21_0 : List PySem.Stmt) (d21_0 : List PySem.Expr) (r21_0 : Option PySem.Expr) (t21_0 : List PySem.TypeParam) (fs_21_0 : PySem.Scope) (u21_0 : Option PySem.Scope) (b21_0 : PySem.Str) (q21_0 : PySem.Pos) (n21_1 : PySem.Str) (fp_21_1 : PySem.Arguments) (fb_21_1 : List PySem.Stmt) (d21_1 : List PySem.Expr) (r21_1 : Option PySem.Expr) (t21_1 : List PySem.TypeParam) (fs_21_1 : PySem.Scope) (u21_1 : Option PySem.Scope) (b21_1 : PySem.Str) (q21_1 : PySem.Pos) (n21_2 : PySem.Str) (fp_21_2 : PySem.Arguments) (fb_21_2 : List PySem.Stmt) (d21_2 : List PySem.Expr) (r21_2 : Option PySem.Expr) (t21_2 : List PySem.TypeParam) (fs_21_2 : PySem.Scope) (u21_2 : Option PySem.Scope) (b21_2 : PySem.Str) (q21_2 : PySem.Pos) (n21_3 : PySem.Str) (fp_21_3 : PySem.Arguments) (fb_21_3 : List PySem.Stmt) (d21_3 : List PySem.Expr) (r21_3 : Option PySem.Expr) (t21_3 : List PySem.TypeParam) (fs_21_3 : PySem.Scope) (u21_3 : Option PySem.Scope) (b21_3 : PySem.Str) (q21_3 : PySem.Pos) (n21_4 : PySem.Str) (fp_21_4 : PySem.Arguments) (fb_21_4 : List PySem.Stmt) (d21_4 : List PySem.Expr) (r21_4 : Option PySem.Expr) (t21_4 : List PySem.TypeParam) (fs_21_4 : PySem.Scope) (u21_4 : Option PySem.Scope) (b21_4 : PySem.Str) (q21_4 : PySem.Pos) (n21_5 : PySem.Str) (fp_21_5 : PySem.Arguments) (fb_21_5 : List PySem.Stmt) (d21_5 : List PySem.Expr) (r21_5 : Option PySem.Expr) (t21_5 : List PySem.TypeParam) (fs_21_5 : PySem.Scope) (u21_5 : Option PySem.Scope) (b21_5 : PySem.Str) (q21_5 : PySem.Pos) (n21_6 : PySem.Str) (fp_21_6 : PySem.Arguments) (fb_21_6 : List PySem.Stmt) (d21_6 : List PySem.Expr) (r21_6 : Option PySem.Expr) (t21_6 : List PySem.TypeParam) (fs_21_6 : PySem.Scope) (u21_6 : Option PySem.Scope) (b21_6 : PySem.Str) (q21_6 : PySem.Pos) (n21_7 : PySem.Str) (fp_21_7 : PySem.Arguments) (fb_21_7 : List PySem.Stmt) (d21_7 : List PySem.Expr) (r21_7 : Option PySem.Expr) (t21_7 : List PySem.TypeParam) (fs_21_7 : PySem.Scope) (u21_7 : Option PySem.Scope) (b21_7 : PySem.Str) (q21_7 : PySem.Pos)
    (_ : PySem.Stmt.FunctionDef n1 fp_1 fb_1 d1 r1 t1 fs_1 u1 b1 q1 = sAt 1) (_ : PySem.Stmt.FunctionDef n2 fp_2 fb_2 d2 r2 t2 fs_2 u2 b2 q2 = sAt 2) (_ : PySem.Stmt.FunctionDef n3 fp_3 fb_3 d3 r3 t3 fs_3 u3 b3 q3 = sAt 3) (_ : PySem.Stmt.FunctionDef n6 fp_6 fb_6 d6 r6 t6 fs_6 u6 b6 q6 = sAt 6) (_ : PySem.Stmt.FunctionDef n7 fp_7 fb_7 d7 r7 t7 fs_7 u7 b7 q7 = sAt 7) (_ : PySem.Stmt.FunctionDef n8 fp_8 fb_8 d8 r8 t8 fs_8 u8 b8 q8 = sAt 8) (_ : PySem.Stmt.FunctionDef n9 fp_9 fb_9 d9 r9 t9 fs_9 u9 b9 q9 = sAt 9) (_ : PySem.Stmt.FunctionDef n12 fp_12 fb_12 d12 r12 t12 fs_12 u12 b12 q12 = sAt 12) (_ : PySem.Stmt.FunctionDef n13 fp_13 fb_13 d13 r13 t13 fs_13 u13 b13 q13 = sAt 13) (_ : PySem.Stmt.FunctionDef n14 fp_14 fb_14 d14 r14 t14 fs_14 u14 b14 q14 = sAt 14) (_ : PySem.Stmt.FunctionDef n15 fp_15 fb_15 d15 r15 t15 fs_15 u15 b15 q15 = sAt 15) (_ : PySem.Stmt.FunctionDef n16 fp_16 fb_16 d16 r16 t16 fs_16 u16 b16 q16 = sAt 16) (_ : PySem.Stmt.FunctionDef n17 fp_17 fb_17 d17 r17 t17 fs_17 u17 b17 q17 = sAt 17) (_ : PySem.Stmt.FunctionDef n18 fp_18 fb_18 d18 r18 t18 fs_18 u18 b18 q18 = sAt 18) (_ : PySem.Stmt.FunctionDef n23 fp_23 fb_23 d23 r23 t23 fs_23 u23 b23 q23 = sAt 23) (_ : PySem.Stmt.FunctionDef n24 fp_24 fb_24 d24 r24 t24 fs_24 u24 b24 q24 = sAt 24) (_ : PySem.Stmt.FunctionDef n25 fp_25 fb_25 d25 r25 t25 fs_25 u25 b25 q25 = sAt 25) (_ : PySem.Stmt.FunctionDef n26 fp_26 fb_26 d26 r26 t26 fs_26 u26 b26 q26 = sAt 26) (_ : PySem.Stmt.FunctionDef n27 fp_27 fb_27 d27 r27 t27 fs_27 u27 b27 q27 = sAt 27) (_ : PySem.Stmt.FunctionDef n28 fp_28 fb_28 d28 r28 t28 fs_28 u28 b28 q28 = sAt 28) (_ : PySem.Stmt.FunctionDef n5_0 fp_5_0 fb_5_0 d5_0 r5_0 t5_0 fs_5_0 u5_0 b5_0 q5_0 = mAt 5 0) (_ : PySem.Stmt.FunctionDef n5_1 fp_5_1 fb_5_1 d5_1 r5_1 t5_1 fs_5_1 u5_1 b5_1 q5_1 = mAt 5 1) (_ : PySem.Stmt.FunctionDef n11_0 fp_11_0 fb_11_0 d11_0 r11_0 t11_0 fs_11_0 u11_0 b11_0 q11_0 = mAt 11 0) (_ : PySem.Stmt.FunctionDef n21_0 fp_21_0 fb_21_0 d21_0 r21_0 t21_0 fs_21_0 u21_0 b21_0 q21_0 = mAt 21 0) (_ : PySem.Stmt.FunctionDef n21_1 fp_21_1 fb_21_1 d21_1 r21_1 t21_1 fs_21_1 u21_1 b21_1 q21_1 = mAt 21 1) (_ : PySem.Stmt.FunctionDef n21_2 fp_21_2 fb_21_2 d21_2 r21_2 t21_2 fs_21_2 u21_2 b21_2 q21_2 = mAt 21 2) (_ : PySem.Stmt.FunctionDef n21_3 fp_21_3 fb_21_3 d21_3 r21_3 t21_3 fs_21_3 u21_3 b21_3 q21_3 = mAt 21 3) (_ : PySem.Stmt.FunctionDef n21_4 fp_21_4 fb_21_4 d21_4 r21_4 t21_4 fs_21_4 u21_4 b21_4 q21_4 = mAt 21 4) (_ : PySem.Stmt.FunctionDef n21_5 fp_21_5 fb_21_5 d21_5 r21_5 t21_5 fs_21_5 u21_5 b21_5 q21_5 = mAt 21 5) (_ : PySem.Stmt.FunctionDef n21_6 fp_21_6 fb_21_6 d21_6 r21_6 t21_6 fs_21_6 u21_6 b21_6 q21_6 = mAt 21 6) (_ : PySem.Stmt.FunctionDef n21_7 fp_21_7 fb_21_7 d21_7 r21_7 t21_7 fs_21_7 u21_7 b21_7 q21_7 = mAt 21 7) =>
fun P =>
  (nat_lit 2, { cls := PySem.Value.none, data := PySem.Data.dict #[] }) ::
    (nat_lit 3,
      { cls := PySem.Value.type "dict",
        data :=
          PySem.Data.dict
            #[{ hash := PySem.PyData.keyHash P (PySem.Str.ofString "__name__"), key := PySem.Value.str (PySem.Str.ofString "__name__") 165,
                val := PySem.Value.str (PySem.Str.ofString "law_np0033_01") 497 },
              { hash := PySem.PyData.keyHash P (PySem.Str.ofString "__doc__"), key := PySem.Value.str (PySem.Str.ofString "__doc__") 166,
                val := PySem.Value.none },
              { hash := PySem.PyData.keyHash P (PySem.Str.ofString "__package__"), key := PySem.Value.str (PySem.Str.ofString "__package__") 167,
                val := PySem.Value.none },
              { hash := PySem.PyData.keyHash P (PySem.Str.ofString "__loader__"), key := PySem.Value.str (PySem.Str.ofString "__loader__") 168,
                val := PySem.Value.builtin "__main__.__loader__#opaque" },
              { hash := PySem.PyData.keyHash P (PySem.Str.ofString "__spec__"), key := PySem.Value.str (PySem.Str.ofString "__spec__") 169,
                val := PySem.Value.none },
              { hash := PySem.PyData.keyHash P (PySem.Str.ofString "__annotations__"), key := PySem.Value.str (PySem.Str.ofString "__annotations__") 170,
                val := PySem.Value.ref 6 },
              { hash := PySem.PyData.keyHash P (PySem.Str.ofString "__builtins__"), key := PySem.Value.str (PySem.Str.ofString "__builtins__") 171,
                val := PySem.Value.ref 4 },
              { hash := PySem.PyData.keyHash P (PySem.Str.ofString "__file__"), key := PySem.Value.str (PySem.Str.ofString "__file__") 173,
                val := PySem.Value.str (PySem.Str.ofString "/claim/cut.py") 172 },
              { hash := PySem.PyData.keyHash P (PySem.Str.ofString "__cached__"), key := PySem.Value.str (PySem.Str.ofString "__cached__") 174,
                val := PySem.Value.none },
              { hash := PySem.PyData.keyHash P (PySem.Str.ofString "eq"), key := PySem.Value.str (PySem.Str.ofString "eq") 196, val := PySem.Value.ref 21 },
              { hash := PySem.PyData.keyHash P (PySem.Str.ofString "plist_find"), key := PySem.Value.str (PySem.Str.ofString "plist_find") 205,
                val := PySem.Value.ref 28 },
              { hash := PySem.PyData.keyHash P (PySem.Str.ofString "plist_get"), key := PySem.Value.str (PySem.Str.ofString "plist_get") 214,
                val := PySem.Value.ref 35 },
              { hash := PySem.PyData.keyHash P (PySem.Str.ofString "PropRules"), key := PySem.Value.str (PySem.Str.ofString "PropRules") 261,
                val := PySem.Value.ref 59 },
              { hash := PySem.PyData.keyHash P (PySem.Str.ofString "value_in"), key := PySem.Value.str (PySem.Str.ofString "value_in") 272,
                val := PySem.Value.ref 70 },
              { hash := PySem.PyData.keyHash P (PySem.Str.ofString "is_member"), key := PySem.Value.str (PySem.Str.ofString "is_member") 278,
                val := PySem.Value.ref 75 },
              { hash := PySem.PyData.keyHash P (PySem.Str.ofString "is_loose"), key := PySem.Value.str (PySem.Str.ofString "is_loose") 286,
                val := PySem.Value.ref 82 },
              { hash := PySem.PyData.keyHash P (PySem.Str.ofString "is_tight"), key := PySem.Value.str (PySem.Str.ofString "is_tight") 294,
                val := PySem.Value.ref 89 },
              { hash := PySem.PyData.keyHash P (PySem.Str.ofString "Sides"), key := PySem.Value.str (PySem.Str.ofString "Sides") 336,
                val := PySem.Value.ref 106 },
              { hash := PySem.PyData.keyHash P (PySem.Str.ofString "is_kept"), key := PySem.Value.str (PySem.Str.ofString "is_kept") 344,
                val := PySem.Value.ref 117 },
              { hash := PySem.PyData.keyHash P (PySem.Str.ofString "is_caught"), key := PySem.Value.str (PySem.Str.ofString "is_caught") 352,
                val := PySem.Value.ref 124 },
              { hash := PySem.PyData.keyHash P (PySem.Str.ofString "take_left"), key := PySem.Value.str (PySem.Str.ofString "take_left") 361,
                val := PySem.Value.ref 131 },
              { hash := PySem.PyData.keyHash P (PySem.Str.ofString "take_right"), key := PySem.Value.str (PySem.Str.ofString "take_right") 370,
                val := PySem.Value.ref 138 },
              { hash := PySem.PyData.keyHash P (PySem.Str.ofString "take_both"), key := PySem.Value.str (PySem.Str.ofString "take_both") 382,
                val := PySem.Value.ref 145 },
              { hash := PySem.PyData.keyHash P (PySem.Str.ofString "take_one"), key := PySem.Value.str (PySem.Str.ofString "take_one") 391,
                val := PySem.Value.ref 152 },
              { hash := PySem.PyData.keyHash P (PySem.Str.ofString "inherited"), key := PySem.Value.str (PySem.Str.ofString "inherited") 397,
                val := PySem.Value.ref 157 },
              { hash := PySem.PyData.keyHash P (PySem.Str.ofString "NAMES"), key := PySem.Value.str (PySem.Str.ofString "NAMES") 405,
                val := PySem.Value.ref 158 },
              { hash := PySem.PyData.keyHash P (PySem.Str.ofString "PlainLisp"), key := PySem.Value.str (PySem.Str.ofString "PlainLisp") 496,
                val := PySem.Value.ref 224 },
              { hash := PySem.PyData.keyHash P (PySem.Str.ofString "_law_draw"), key := PySem.Value.str (PySem.Str.ofString "_law_draw") 506,
                val := PySem.Value.ref 235 },
              { hash := PySem.PyData.keyHash P (PySem.Str.ofString "_law_side"), key := PySem.Value.str (PySem.Str.ofString "_law_side") 512,
                val := PySem.Value.ref 240 },
              { hash := PySem.PyData.keyHash P (PySem.Str.ofString "_law_held"), key := PySem.Value.str (PySem.Str.ofString "_law_held") 518,
                val := PySem.Value.ref 245 },
              { hash := PySem.PyData.keyHash P (PySem.Str.ofString "_law_sticks"), key := PySem.Value.str (PySem.Str.ofString "_law_sticks") 528,
                val := PySem.Value.ref 252 },
              { hash := PySem.PyData.keyHash P (PySem.Str.ofString "_law_due"), key := PySem.Value.str (PySem.Str.ofString "_law_due") 543,
                val := PySem.Value.ref 259 },
              { hash := PySem.PyData.keyHash P (PySem.Str.ofString "law"), key := PySem.Value.str (PySem.Str.ofString "law") 549, val := PySem.Value.ref 264 }]
            33 }) ::
    (nat_lit 15, { cls := PySem.Value.type "tuple", data := PySem.Data.seq #[] }) ::
    (nat_lit 17,
      { cls := PySem.Value.type "tuple",
        data := PySem.Data.seq #[PySem.Value.str (PySem.Str.ofString "one") 192, PySem.Value.str (PySem.Str.ofString "other") 193] }) ::
    (nat_lit 18, { cls := PySem.Value.type "tuple", data := PySem.Data.seq #[] }) ::
    (nat_lit 20,
      { cls := PySem.Value.type "code",
        data :=
          PySem.Data.fields
            #[PySem.Value.str (PySem.Str.ofString "eq") 189, PySem.Value.str (PySem.Str.ofString "eq") 190,
              PySem.Value.str (PySem.Str.ofString "/claim/cut.py") 191, PySem.Value.int 2 0, PySem.Value.int 2 0, PySem.Value.int 0 0, PySem.Value.int 0 0,
              PySem.Value.int 3 0, PySem.Value.ref 15, PySem.Value.bool true, PySem.Value.int 181 0, PySem.Value.ref 16, PySem.Value.none, PySem.Value.ref 17,
              PySem.Value.ref 18, PySem.Value.ref 19, PySem.Value.int 194 0, PySem.Value.int 2 0, PySem.Value.str (PySem.Str.ofString "/claim/cut.py") 195] }) ::
    (nat_lit 21,
      { cls := PySem.Value.type "function",
        data :=
          PySem.Data.func
            { name := PySem.Str.ofString "eq", qualname := PySem.Str.ofString "eq", params := fp_1, body := PySem.FuncBody.stmts fb_1, scope := fs_1,
              globals := 3, closure := [], defaults := PySem.Value.none, kwdefaults := PySem.Value.none,
              pyModule := PySem.Value.str (PySem.Str.ofString "emacs.plists") 187, code := PySem.Value.ref 20 } }) ::
    (nat_lit 22, { cls := PySem.Value.type "tuple", data := PySem.Data.seq #[] }) ::
    (nat_lit 24,
      { cls := PySem.Value.type "tuple",
        data :=
          PySem.Data.seq
            #[PySem.Value.str (PySem.Str.ofString "plist") 200, PySem.Value.str (PySem.Str.ofString "number") 201,
              PySem.Value.str (PySem.Str.ofString "at") 202] }) ::
    (nat_lit 25, { cls := PySem.Value.type "tuple", data := PySem.Data.seq #[] }) ::
    (nat_lit 27,
      { cls := PySem.Value.type "code",
        data :=
          PySem.Data.fields
            #[PySem.Value.str (PySem.Str.ofString "plist_find") 197, PySem.Value.str (PySem.Str.ofString "plist_find") 198,
              PySem.Value.str (PySem.Str.ofString "/claim/cut.py") 199, PySem.Value.int 6 0, PySem.Value.int 2 0, PySem.Value.int 0 0, PySem.Value.int 0 0,
              PySem.Value.int 3 0, PySem.Value.ref 22, PySem.Value.bool true, PySem.Value.int 181 0, PySem.Value.ref 23, PySem.Value.none, PySem.Value.ref 24,
              PySem.Value.ref 25, PySem.Value.ref 26, PySem.Value.int 203 0, PySem.Value.int 6 0, PySem.Value.str (PySem.Str.ofString "/claim/cut.py") 204] }) ::
    (nat_lit 28,
      { cls := PySem.Value.type "function",
        data :=
          PySem.Data.func
            { name := PySem.Str.ofString "plist_find", qualname := PySem.Str.ofString "plist_find", params := fp_2, body := PySem.FuncBody.stmts fb_2,
              scope := fs_2, globals := 3, closure := [], defaults := PySem.Value.none, kwdefaults := PySem.Value.none,
              pyModule := PySem.Value.str (PySem.Str.ofString "emacs.plists") 187, code := PySem.Value.ref 27 } }) ::
    (nat_lit 29, { cls := PySem.Value.type "tuple", data := PySem.Data.seq #[] }) ::
    (nat_lit 31,
      { cls := PySem.Value.type "tuple",
        data :=
          PySem.Data.seq
            #[PySem.Value.str (PySem.Str.ofString "plist") 209, PySem.Value.str (PySem.Str.ofString "number") 210,
              PySem.Value.str (PySem.Str.ofString "at") 211] }) ::
    (nat_lit 32, { cls := PySem.Value.type "tuple", data := PySem.Data.seq #[] }) ::
    (nat_lit 34,
      { cls := PySem.Value.type "code",
        data :=
          PySem.Data.fields
            #[PySem.Value.str (PySem.Str.ofString "plist_get") 206, PySem.Value.str (PySem.Str.ofString "plist_get") 207,
              PySem.Value.str (PySem.Str.ofString "/claim/cut.py") 208, PySem.Value.int 11 0, PySem.Value.int 2 0, PySem.Value.int 0 0, PySem.Value.int 0 0,
              PySem.Value.int 3 0, PySem.Value.ref 29, PySem.Value.bool true, PySem.Value.int 181 0, PySem.Value.ref 30, PySem.Value.none, PySem.Value.ref 31,
              PySem.Value.ref 32, PySem.Value.ref 33, PySem.Value.int 212 0, PySem.Value.int 11 0, PySem.Value.str (PySem.Str.ofString "/claim/cut.py") 213] }) ::
    (nat_lit 35,
      { cls := PySem.Value.type "function",
        data :=
          PySem.Data.func
            { name := PySem.Str.ofString "plist_get", qualname := PySem.Str.ofString "plist_get", params := fp_3, body := PySem.FuncBody.stmts fb_3,
              scope := fs_3, globals := 3, closure := [], defaults := PySem.Value.none, kwdefaults := PySem.Value.none,
              pyModule := PySem.Value.str (PySem.Str.ofString "emacs.plists") 187, code := PySem.Value.ref 34 } }) ::
    (nat_lit 43, { cls := PySem.Value.type "tuple", data := PySem.Data.seq #[] }) ::
    (nat_lit 45,
      { cls := PySem.Value.type "tuple",
        data := PySem.Data.seq #[PySem.Value.str (PySem.Str.ofString "self") 232, PySem.Value.str (PySem.Str.ofString "lisp") 233] }) ::
    (nat_lit 46, { cls := PySem.Value.type "tuple", data := PySem.Data.seq #[] }) ::
    (nat_lit 48,
      { cls := PySem.Value.type "code",
        data :=
          PySem.Data.fields
            #[PySem.Value.str (PySem.Str.ofString "__init__") 229, PySem.Value.str (PySem.Str.ofString "PropRules.__init__") 230,
              PySem.Value.str (PySem.Str.ofString "/claim/cut.py") 231, PySem.Value.int 17 0, PySem.Value.int 2 0, PySem.Value.int 0 0, PySem.Value.int 0 0,
              PySem.Value.int 3 0, PySem.Value.ref 43, PySem.Value.bool true, PySem.Value.int 181 0, PySem.Value.ref 44, PySem.Value.none, PySem.Value.ref 45,
              PySem.Value.ref 46, PySem.Value.ref 47, PySem.Value.int 234 0, PySem.Value.int 17 0, PySem.Value.str (PySem.Str.ofString "/claim/cut.py") 235] }) ::
    (nat_lit 49,
      { cls := PySem.Value.type "function",
        data :=
          PySem.Data.func
            { name := PySem.Str.ofString "__init__", qualname := PySem.Str.ofString "PropRules.__init__", params := fp_5_0, body := PySem.FuncBody.stmts fb_5_0,
              scope := fs_5_0, globals := 3, closure := [], defaults := PySem.Value.none, kwdefaults := PySem.Value.none,
              pyModule := PySem.Value.str (PySem.Str.ofString "emacs.proprules") 215, code := PySem.Value.ref 48 } }) ::
    (nat_lit 50, { cls := PySem.Value.type "tuple", data := PySem.Data.seq #[] }) ::
    (nat_lit 52,
      { cls := PySem.Value.type "tuple",
        data := PySem.Data.seq #[PySem.Value.str (PySem.Str.ofString "self") 240, PySem.Value.str (PySem.Str.ofString "value") 241] }) ::
    (nat_lit 53, { cls := PySem.Value.type "tuple", data := PySem.Data.seq #[] }) ::
    (nat_lit 55,
      { cls := PySem.Value.type "code",
        data :=
          PySem.Data.fields
            #[PySem.Value.str (PySem.Str.ofString "is_nil") 237, PySem.Value.str (PySem.Str.ofString "PropRules.is_nil") 238,
              PySem.Value.str (PySem.Str.ofString "/claim/cut.py") 239, PySem.Value.int 28 0, PySem.Value.int 2 0, PySem.Value.int 0 0, PySem.Value.int 0 0,
              PySem.Value.int 3 0, PySem.Value.ref 50, PySem.Value.bool true, PySem.Value.int 181 0, PySem.Value.ref 51, PySem.Value.none, PySem.Value.ref 52,
              PySem.Value.ref 53, PySem.Value.ref 54, PySem.Value.int 242 0, PySem.Value.int 28 0, PySem.Value.str (PySem.Str.ofString "/claim/cut.py") 243] }) ::
    (nat_lit 56,
      { cls := PySem.Value.type "function",
        data :=
          PySem.Data.func
            { name := PySem.Str.ofString "is_nil", qualname := PySem.Str.ofString "PropRules.is_nil", params := fp_5_1, body := PySem.FuncBody.stmts fb_5_1,
              scope := fs_5_1, globals := 3, closure := [], defaults := PySem.Value.none, kwdefaults := PySem.Value.none,
              pyModule := PySem.Value.str (PySem.Str.ofString "emacs.proprules") 215, code := PySem.Value.ref 55 } }) ::
    (nat_lit 57,
      { cls := PySem.Value.type "tuple",
        data :=
          PySem.Data.seq
            #[PySem.Value.str (PySem.Str.ofString "category") 245, PySem.Value.str (PySem.Str.ofString "defaults") 246,
              PySem.Value.str (PySem.Str.ofString "evaporate") 247, PySem.Value.str (PySem.Str.ofString "front_sticky") 248,
              PySem.Value.str (PySem.Str.ofString "lisp") 249, PySem.Value.str (PySem.Str.ofString "nil") 250,
              PySem.Value.str (PySem.Str.ofString "priority") 251, PySem.Value.str (PySem.Str.ofString "rear_nonsticky") 252,
              PySem.Value.str (PySem.Str.ofString "true") 253] }) ::
    (nat_lit 58,
      { cls := PySem.Value.type "dict",
        data :=
          PySem.Data.dict
            #[{ hash := PySem.PyData.keyHash P (PySem.Str.ofString "__module__"), key := PySem.Value.str (PySem.Str.ofString "__module__") 224,
                val := PySem.Value.str (PySem.Str.ofString "emacs.proprules") 215 },
              { hash := PySem.PyData.keyHash P (PySem.Str.ofString "__firstlineno__"), key := PySem.Value.str (PySem.Str.ofString "__firstlineno__") 228,
                val := PySem.Value.int 15 227 },
              { hash := PySem.PyData.keyHash P (PySem.Str.ofString "__init__"), key := PySem.Value.str (PySem.Str.ofString "__init__") 236,
                val := PySem.Value.ref 49 },
              { hash := PySem.PyData.keyHash P (PySem.Str.ofString "is_nil"), key := PySem.Value.str (PySem.Str.ofString "is_nil") 244,
                val := PySem.Value.ref 56 },
              { hash := PySem.PyData.keyHash P (PySem.Str.ofString "__static_attributes__"),
                key := PySem.Value.str (PySem.Str.ofString "__static_attributes__") 254, val := PySem.Value.ref 57 },
              { hash := PySem.PyData.keyHash P (PySem.Str.ofString "__dict__"), key := PySem.Value.str (PySem.Str.ofString "__dict__") 256,
                val := PySem.Value.ref 60 },
              { hash := PySem.PyData.keyHash P (PySem.Str.ofString "__weakref__"), key := PySem.Value.str (PySem.Str.ofString "__weakref__") 258,
                val := PySem.Value.ref 61 },
              { hash := PySem.PyData.keyHash P (PySem.Str.ofString "__doc__"), key := PySem.Value.str (PySem.Str.ofString "__doc__") 259,
                val := PySem.Value.none }]
            4 }) ::
    (nat_lit 59,
      { cls := PySem.Value.type "type",
        data :=
          PySem.Data.cls
            { name := PySem.Str.ofString "PropRules", bases := [PySem.Value.type "object"], mro := [PySem.Value.ref 59, PySem.Value.type "object"], ns := 58,
              qualname := PySem.Str.ofString "PropRules" },
        slots :=
          #[none, none, some (PySem.Value.str (PySem.Str.ofString "PropRules") 217), some (PySem.Value.str (PySem.Str.ofString "PropRules") 225),
            some (PySem.Value.builtin "object.__new__"), some (PySem.Value.bool true)] }) ::
    (nat_lit 60,
      { cls := PySem.Value.type "getset_descriptor",
        data :=
          PySem.Data.fields
            #[PySem.Value.str (PySem.Str.ofString "__dict__") 255, PySem.Value.ref 59, PySem.Value.builtin "function.__dict__",
              PySem.Value.builtin "function.__dict__#set"] }) ::
    (nat_lit 61,
      { cls := PySem.Value.type "getset_descriptor",
        data :=
          PySem.Data.fields
            #[PySem.Value.str (PySem.Str.ofString "__weakref__") 257, PySem.Value.ref 59, PySem.Value.builtin "ExceptionGroup.__weakref__",
              PySem.Value.none] }) ::
    (nat_lit 64, { cls := PySem.Value.type "tuple", data := PySem.Data.seq #[] }) ::
    (nat_lit 66,
      { cls := PySem.Value.type "tuple",
        data :=
          PySem.Data.seq
            #[PySem.Value.str (PySem.Str.ofString "rules") 265, PySem.Value.str (PySem.Str.ofString "plist") 266,
              PySem.Value.str (PySem.Str.ofString "number") 267, PySem.Value.str (PySem.Str.ofString "found") 268,
              PySem.Value.str (PySem.Str.ofString "category") 269] }) ::
    (nat_lit 67, { cls := PySem.Value.type "tuple", data := PySem.Data.seq #[] }) ::
    (nat_lit 69,
      { cls := PySem.Value.type "code",
        data :=
          PySem.Data.fields
            #[PySem.Value.str (PySem.Str.ofString "value_in") 262, PySem.Value.str (PySem.Str.ofString "value_in") 263,
              PySem.Value.str (PySem.Str.ofString "/claim/cut.py") 264, PySem.Value.int 30 0, PySem.Value.int 3 0, PySem.Value.int 0 0, PySem.Value.int 0 0,
              PySem.Value.int 3 0, PySem.Value.ref 64, PySem.Value.bool true, PySem.Value.int 181 0, PySem.Value.ref 65, PySem.Value.none, PySem.Value.ref 66,
              PySem.Value.ref 67, PySem.Value.ref 68, PySem.Value.int 270 0, PySem.Value.int 30 0, PySem.Value.str (PySem.Str.ofString "/claim/cut.py") 271] }) ::
    (nat_lit 70,
      { cls := PySem.Value.type "function",
        data :=
          PySem.Data.func
            { name := PySem.Str.ofString "value_in", qualname := PySem.Str.ofString "value_in", params := fp_6, body := PySem.FuncBody.stmts fb_6,
              scope := fs_6, globals := 3, closure := [], defaults := PySem.Value.none, kwdefaults := PySem.Value.none,
              pyModule := PySem.Value.str (PySem.Str.ofString "emacs.proprules") 215, code := PySem.Value.ref 69 } }) ::
    (nat_lit 71, { cls := PySem.Value.type "tuple", data := PySem.Data.seq #[] }) ::
    (nat_lit 74,
      { cls := PySem.Value.type "code",
        data :=
          PySem.Data.fields
            #[PySem.Value.str (PySem.Str.ofString "is_member") 273, PySem.Value.str (PySem.Str.ofString "is_member") 274,
              PySem.Value.str (PySem.Str.ofString "/claim/cut.py") 275, PySem.Value.int 37 0, PySem.Value.int 3 0, PySem.Value.int 0 0, PySem.Value.int 0 0,
              PySem.Value.int 3 0, PySem.Value.ref 71, PySem.Value.bool true, PySem.Value.int 181 0, PySem.Value.ref 72, PySem.Value.none, PySem.Value.none,
              PySem.Value.none, PySem.Value.ref 73, PySem.Value.int 276 0, PySem.Value.int 37 0, PySem.Value.str (PySem.Str.ofString "/claim/cut.py") 277] }) ::
    (nat_lit 75,
      { cls := PySem.Value.type "function",
        data :=
          PySem.Data.func
            { name := PySem.Str.ofString "is_member", qualname := PySem.Str.ofString "is_member", params := fp_7, body := PySem.FuncBody.stmts fb_7,
              scope := fs_7, globals := 3, closure := [], defaults := PySem.Value.none, kwdefaults := PySem.Value.none,
              pyModule := PySem.Value.str (PySem.Str.ofString "emacs.proprules") 215, code := PySem.Value.ref 74 } }) ::
    (nat_lit 76, { cls := PySem.Value.type "tuple", data := PySem.Data.seq #[] }) ::
    (nat_lit 78,
      { cls := PySem.Value.type "tuple",
        data := PySem.Data.seq #[PySem.Value.str (PySem.Str.ofString "rules") 282, PySem.Value.str (PySem.Str.ofString "number") 283] }) ::
    (nat_lit 79, { cls := PySem.Value.type "tuple", data := PySem.Data.seq #[] }) ::
    (nat_lit 81,
      { cls := PySem.Value.type "code",
        data :=
          PySem.Data.fields
            #[PySem.Value.str (PySem.Str.ofString "is_loose") 279, PySem.Value.str (PySem.Str.ofString "is_loose") 280,
              PySem.Value.str (PySem.Str.ofString "/claim/cut.py") 281, PySem.Value.int 44 0, PySem.Value.int 2 0, PySem.Value.int 0 0, PySem.Value.int 0 0,
              PySem.Value.int 3 0, PySem.Value.ref 76, PySem.Value.bool true, PySem.Value.int 181 0, PySem.Value.ref 77, PySem.Value.none, PySem.Value.ref 78,
              PySem.Value.ref 79, PySem.Value.ref 80, PySem.Value.int 284 0, PySem.Value.int 44 0, PySem.Value.str (PySem.Str.ofString "/claim/cut.py") 285] }) ::
    (nat_lit 82,
      { cls := PySem.Value.type "function",
        data :=
          PySem.Data.func
            { name := PySem.Str.ofString "is_loose", qualname := PySem.Str.ofString "is_loose", params := fp_8, body := PySem.FuncBody.stmts fb_8,
              scope := fs_8, globals := 3, closure := [], defaults := PySem.Value.none, kwdefaults := PySem.Value.none,
              pyModule := PySem.Value.str (PySem.Str.ofString "emacs.proprules") 215, code := PySem.Value.ref 81 } }) ::
    (nat_lit 83, { cls := PySem.Value.type "tuple", data := PySem.Data.seq #[] }) ::
    (nat_lit 85,
      { cls := PySem.Value.type "tuple",
        data := PySem.Data.seq #[PySem.Value.str (PySem.Str.ofString "rules") 290, PySem.Value.str (PySem.Str.ofString "number") 291] }) ::
    (nat_lit 86, { cls := PySem.Value.type "tuple", data := PySem.Data.seq #[] }) ::
    (nat_lit 88,
      { cls := PySem.Value.type "code",
        data :=
          PySem.Data.fields
            #[PySem.Value.str (PySem.Str.ofString "is_tight") 287, PySem.Value.str (PySem.Str.ofString "is_tight") 288,
              PySem.Value.str (PySem.Str.ofString "/claim/cut.py") 289, PySem.Value.int 46 0, PySem.Value.int 2 0, PySem.Value.int 0 0, PySem.Value.int 0 0,
              PySem.Value.int 3 0, PySem.Value.ref 83, PySem.Value.bool true, PySem.Value.int 181 0, PySem.Value.ref 84, PySem.Value.none, PySem.Value.ref 85,
              PySem.Value.ref 86, PySem.Value.ref 87, PySem.Value.int 292 0, PySem.Value.int 46 0, PySem.Value.str (PySem.Str.ofString "/claim/cut.py") 293] }) ::
    (nat_lit 89,
      { cls := PySem.Value.type "function",
        data :=
          PySem.Data.func
            { name := PySem.Str.ofString "is_tight", qualname := PySem.Str.ofString "is_tight", params := fp_9, body := PySem.FuncBody.stmts fb_9,
              scope := fs_8, globals := 3, closure := [], defaults := PySem.Value.none, kwdefaults := PySem.Value.none,
              pyModule := PySem.Value.str (PySem.Str.ofString "emacs.proprules") 215, code := PySem.Value.ref 88 } }) ::
    (nat_lit 97, { cls := PySem.Value.type "tuple", data := PySem.Data.seq #[] }) ::
    (nat_lit 99,
      { cls := PySem.Value.type "tuple",
        data :=
          PySem.Data.seq
            #[PySem.Value.str (PySem.Str.ofString "self") 312, PySem.Value.str (PySem.Str.ofString "rules") 313,
              PySem.Value.str (PySem.Str.ofString "left") 314, PySem.Value.str (PySem.Str.ofString "right") 315] }) ::
    (nat_lit 100, { cls := PySem.Value.type "tuple", data := PySem.Data.seq #[] }) ::
    (nat_lit 102,
      { cls := PySem.Value.type "code",
        data :=
          PySem.Data.fields
            #[PySem.Value.str (PySem.Str.ofString "__init__") 309, PySem.Value.str (PySem.Str.ofString "Sides.__init__") 310,
              PySem.Value.str (PySem.Str.ofString "/claim/cut.py") 311, PySem.Value.int 51 0, PySem.Value.int 4 0, PySem.Value.int 0 0, PySem.Value.int 0 0,
              PySem.Value.int 3 0, PySem.Value.ref 97, PySem.Value.bool true, PySem.Value.int 181 0, PySem.Value.ref 98, PySem.Value.none, PySem.Value.ref 99,
              PySem.Value.ref 100, PySem.Value.ref 101, PySem.Value.int 316 0, PySem.Value.int 51 0,
              PySem.Value.str (PySem.Str.ofString "/claim/cut.py") 317] }) ::
    (nat_lit 103,
      { cls := PySem.Value.type "function",
        data :=
          PySem.Data.func
            { name := PySem.Str.ofString "__init__", qualname := PySem.Str.ofString "Sides.__init__", params := fp_11_0, body := PySem.FuncBody.stmts fb_11_0,
              scope := fs_11_0, globals := 3, closure := [], defaults := PySem.Value.none, kwdefaults := PySem.Value.none,
              pyModule := PySem.Value.str (PySem.Str.ofString "emacs.stickiness") 295, code := PySem.Value.ref 102 } }) ::
    (nat_lit 104,
      { cls := PySem.Value.type "tuple",
        data :=
          PySem.Data.seq
            #[PySem.Value.str (PySem.Str.ofString "found") 319, PySem.Value.str (PySem.Str.ofString "front") 320,
              PySem.Value.str (PySem.Str.ofString "left") 321, PySem.Value.str (PySem.Str.ofString "left_front") 322,
              PySem.Value.str (PySem.Str.ofString "left_rear") 323, PySem.Value.str (PySem.Str.ofString "rear") 324,
              PySem.Value.str (PySem.Str.ofString "right") 325, PySem.Value.str (PySem.Str.ofString "right_front") 326,
              PySem.Value.str (PySem.Str.ofString "right_rear") 327, PySem.Value.str (PySem.Str.ofString "rules") 328] }) ::
    (nat_lit 105,
      { cls := PySem.Value.type "dict",
        data :=
          PySem.Data.dict
            #[{ hash := PySem.PyData.keyHash P (PySem.Str.ofString "__module__"), key := PySem.Value.str (PySem.Str.ofString "__module__") 304,
                val := PySem.Value.str (PySem.Str.ofString "emacs.stickiness") 295 },
              { hash := PySem.PyData.keyHash P (PySem.Str.ofString "__firstlineno__"), key := PySem.Value.str (PySem.Str.ofString "__firstlineno__") 308,
                val := PySem.Value.int 49 307 },
              { hash := PySem.PyData.keyHash P (PySem.Str.ofString "__init__"), key := PySem.Value.str (PySem.Str.ofString "__init__") 318,
                val := PySem.Value.ref 103 },
              { hash := PySem.PyData.keyHash P (PySem.Str.ofString "__static_attributes__"),
                key := PySem.Value.str (PySem.Str.ofString "__static_attributes__") 329, val := PySem.Value.ref 104 },
              { hash := PySem.PyData.keyHash P (PySem.Str.ofString "__dict__"), key := PySem.Value.str (PySem.Str.ofString "__dict__") 331,
                val := PySem.Value.ref 107 },
              { hash := PySem.PyData.keyHash P (PySem.Str.ofString "__weakref__"), key := PySem.Value.str (PySem.Str.ofString "__weakref__") 333,
                val := PySem.Value.ref 108 },
              { hash := PySem.PyData.keyHash P (PySem.Str.ofString "__doc__"), key := PySem.Value.str (PySem.Str.ofString "__doc__") 334,
                val := PySem.Value.none }]
            4 }) ::
    (nat_lit 106,
      { cls := PySem.Value.type "type",
        data :=
          PySem.Data.cls
            { name := PySem.Str.ofString "Sides", bases := [PySem.Value.type "object"], mro := [PySem.Value.ref 106, PySem.Value.type "object"], ns := 105,
              qualname := PySem.Str.ofString "Sides" },
        slots :=
          #[none, none, some (PySem.Value.str (PySem.Str.ofString "Sides") 297), some (PySem.Value.str (PySem.Str.ofString "Sides") 305),
            some (PySem.Value.builtin "object.__new__"), some (PySem.Value.bool true)] }) ::
    (nat_lit 107,
      { cls := PySem.Value.type "getset_descriptor",
        data :=
          PySem.Data.fields
            #[PySem.Value.str (PySem.Str.ofString "__dict__") 330, PySem.Value.ref 106, PySem.Value.builtin "function.__dict__",
              PySem.Value.builtin "function.__dict__#set"] }) ::
    (nat_lit 108,
      { cls := PySem.Value.type "getset_descriptor",
        data :=
          PySem.Data.fields
            #[PySem.Value.str (PySem.Str.ofString "__weakref__") 332, PySem.Value.ref 106, PySem.Value.builtin "ExceptionGroup.__weakref__",
              PySem.Value.none] }) ::
    (nat_lit 111, { cls := PySem.Value.type "tuple", data := PySem.Data.seq #[] }) ::
    (nat_lit 113,
      { cls := PySem.Value.type "tuple",
        data := PySem.Data.seq #[PySem.Value.str (PySem.Str.ofString "sides") 340, PySem.Value.str (PySem.Str.ofString "number") 341] }) ::
    (nat_lit 114, { cls := PySem.Value.type "tuple", data := PySem.Data.seq #[] }) ::
    (nat_lit 116,
      { cls := PySem.Value.type "code",
        data :=
          PySem.Data.fields
            #[PySem.Value.str (PySem.Str.ofString "is_kept") 337, PySem.Value.str (PySem.Str.ofString "is_kept") 338,
              PySem.Value.str (PySem.Str.ofString "/claim/cut.py") 339, PySem.Value.int 62 0, PySem.Value.int 2 0, PySem.Value.int 0 0, PySem.Value.int 0 0,
              PySem.Value.int 3 0, PySem.Value.ref 111, PySem.Value.bool true, PySem.Value.int 181 0, PySem.Value.ref 112, PySem.Value.none,
              PySem.Value.ref 113, PySem.Value.ref 114, PySem.Value.ref 115, PySem.Value.int 342 0, PySem.Value.int 62 0,
              PySem.Value.str (PySem.Str.ofString "/claim/cut.py") 343] }) ::
    (nat_lit 117,
      { cls := PySem.Value.type "function",
        data :=
          PySem.Data.func
            { name := PySem.Str.ofString "is_kept", qualname := PySem.Str.ofString "is_kept", params := fp_12, body := PySem.FuncBody.stmts fb_12,
              scope := fs_12, globals := 3, closure := [], defaults := PySem.Value.none, kwdefaults := PySem.Value.none,
              pyModule := PySem.Value.str (PySem.Str.ofString "emacs.stickiness") 295, code := PySem.Value.ref 116 } }) ::
    (nat_lit 118, { cls := PySem.Value.type "tuple", data := PySem.Data.seq #[] }) ::
    (nat_lit 120,
      { cls := PySem.Value.type "tuple",
        data := PySem.Data.seq #[PySem.Value.str (PySem.Str.ofString "sides") 348, PySem.Value.str (PySem.Str.ofString "number") 349] }) ::
    (nat_lit 121, { cls := PySem.Value.type "tuple", data := PySem.Data.seq #[] }) ::
    (nat_lit 123,
      { cls := PySem.Value.type "code",
        data :=
          PySem.Data.fields
            #[PySem.Value.str (PySem.Str.ofString "is_caught") 345, PySem.Value.str (PySem.Str.ofString "is_caught") 346,
              PySem.Value.str (PySem.Str.ofString "/claim/cut.py") 347, PySem.Value.int 64 0, PySem.Value.int 2 0, PySem.Value.int 0 0, PySem.Value.int 0 0,
              PySem.Value.int 3 0, PySem.Value.ref 118, PySem.Value.bool true, PySem.Value.int 181 0, PySem.Value.ref 119, PySem.Value.none,
              PySem.Value.ref 120, PySem.Value.ref 121, PySem.Value.ref 122, PySem.Value.int 350 0, PySem.Value.int 64 0,
              PySem.Value.str (PySem.Str.ofString "/claim/cut.py") 351] }) ::
    (nat_lit 124,
      { cls := PySem.Value.type "function",
        data :=
          PySem.Data.func
            { name := PySem.Str.ofString "is_caught", qualname := PySem.Str.ofString "is_caught", params := fp_13, body := PySem.FuncBody.stmts fb_13,
              scope := fs_13, globals := 3, closure := [], defaults := PySem.Value.none, kwdefaults := PySem.Value.none,
              pyModule := PySem.Value.str (PySem.Str.ofString "emacs.stickiness") 295, code := PySem.Value.ref 123 } }) ::
    (nat_lit 125, { cls := PySem.Value.type "tuple", data := PySem.Data.seq #[] }) ::
    (nat_lit 127,
      { cls := PySem.Value.type "tuple",
        data :=
          PySem.Data.seq
            #[PySem.Value.str (PySem.Str.ofString "sides") 356, PySem.Value.str (PySem.Str.ofString "number") 357,
              PySem.Value.str (PySem.Str.ofString "value") 358] }) ::
    (nat_lit 128, { cls := PySem.Value.type "tuple", data := PySem.Data.seq #[] }) ::
    (nat_lit 130,
      { cls := PySem.Value.type "code",
        data :=
          PySem.Data.fields
            #[PySem.Value.str (PySem.Str.ofString "take_left") 353, PySem.Value.str (PySem.Str.ofString "take_left") 354,
              PySem.Value.str (PySem.Str.ofString "/claim/cut.py") 355, PySem.Value.int 66 0, PySem.Value.int 3 0, PySem.Value.int 0 0, PySem.Value.int 0 0,
              PySem.Value.int 3 0, PySem.Value.ref 125, PySem.Value.bool true, PySem.Value.int 181 0, PySem.Value.ref 126, PySem.Value.none,
              PySem.Value.ref 127, PySem.Value.ref 128, PySem.Value.ref 129, PySem.Value.int 359 0, PySem.Value.int 66 0,
              PySem.Value.str (PySem.Str.ofString "/claim/cut.py") 360] }) ::
    (nat_lit 131,
      { cls := PySem.Value.type "function",
        data :=
          PySem.Data.func
            { name := PySem.Str.ofString "take_left", qualname := PySem.Str.ofString "take_left", params := fp_14, body := PySem.FuncBody.stmts fb_14,
              scope := fs_14, globals := 3, closure := [], defaults := PySem.Value.none, kwdefaults := PySem.Value.none,
              pyModule := PySem.Value.str (PySem.Str.ofString "emacs.stickiness") 295, code := PySem.Value.ref 130 } }) ::
    (nat_lit 132, { cls := PySem.Value.type "tuple", data := PySem.Data.seq #[] }) ::
    (nat_lit 134,
      { cls := PySem.Value.type "tuple",
        data :=
          PySem.Data.seq
            #[PySem.Value.str (PySem.Str.ofString "sides") 365, PySem.Value.str (PySem.Str.ofString "number") 366,
              PySem.Value.str (PySem.Str.ofString "value") 367] }) ::
    (nat_lit 135, { cls := PySem.Value.type "tuple", data := PySem.Data.seq #[] }) ::
    (nat_lit 137,
      { cls := PySem.Value.type "code",
        data :=
          PySem.Data.fields
            #[PySem.Value.str (PySem.Str.ofString "take_right") 362, PySem.Value.str (PySem.Str.ofString "take_right") 363,
              PySem.Value.str (PySem.Str.ofString "/claim/cut.py") 364, PySem.Value.int 70 0, PySem.Value.int 3 0, PySem.Value.int 0 0, PySem.Value.int 0 0,
              PySem.Value.int 3 0, PySem.Value.ref 132, PySem.Value.bool true, PySem.Value.int 181 0, PySem.Value.ref 133, PySem.Value.none,
              PySem.Value.ref 134, PySem.Value.ref 135, PySem.Value.ref 136, PySem.Value.int 368 0, PySem.Value.int 70 0,
              PySem.Value.str (PySem.Str.ofString "/claim/cut.py") 369] }) ::
    (nat_lit 138,
      { cls := PySem.Value.type "function",
        data :=
          PySem.Data.func
            { name := PySem.Str.ofString "take_right", qualname := PySem.Str.ofString "take_right", params := fp_15, body := PySem.FuncBody.stmts fb_15,
              scope := fs_14, globals := 3, closure := [], defaults := PySem.Value.none, kwdefaults := PySem.Value.none,
              pyModule := PySem.Value.str (PySem.Str.ofString "emacs.stickiness") 295, code := PySem.Value.ref 137 } }) ::
    (nat_lit 139, { cls := PySem.Value.type "tuple", data := PySem.Data.seq #[] }) ::
    (nat_lit 141,
      { cls := PySem.Value.type "tuple",
        data :=
          PySem.Data.seq
            #[PySem.Value.str (PySem.Str.ofString "sides") 374, PySem.Value.str (PySem.Str.ofString "number") 375,
              PySem.Value.str (PySem.Str.ofString "value") 376, PySem.Value.str (PySem.Str.ofString "left") 377,
              PySem.Value.str (PySem.Str.ofString "from_left") 378, PySem.Value.str (PySem.Str.ofString "from_right") 379] }) ::
    (nat_lit 142, { cls := PySem.Value.type "tuple", data := PySem.Data.seq #[] }) ::
    (nat_lit 144,
      { cls := PySem.Value.type "code",
        data :=
          PySem.Data.fields
            #[PySem.Value.str (PySem.Str.ofString "take_both") 371, PySem.Value.str (PySem.Str.ofString "take_both") 372,
              PySem.Value.str (PySem.Str.ofString "/claim/cut.py") 373, PySem.Value.int 76 0, PySem.Value.int 3 0, PySem.Value.int 0 0, PySem.Value.int 0 0,
              PySem.Value.int 3 0, PySem.Value.ref 139, PySem.Value.bool true, PySem.Value.int 181 0, PySem.Value.ref 140, PySem.Value.none,
              PySem.Value.ref 141, PySem.Value.ref 142, PySem.Value.ref 143, PySem.Value.int 380 0, PySem.Value.int 76 0,
              PySem.Value.str (PySem.Str.ofString "/claim/cut.py") 381] }) ::
    (nat_lit 145,
      { cls := PySem.Value.type "function",
        data :=
          PySem.Data.func
            { name := PySem.Str.ofString "take_both", qualname := PySem.Str.ofString "take_both", params := fp_16, body := PySem.FuncBody.stmts fb_16,
              scope := fs_16, globals := 3, closure := [], defaults := PySem.Value.none, kwdefaults := PySem.Value.none,
              pyModule := PySem.Value.str (PySem.Str.ofString "emacs.stickiness") 295, code := PySem.Value.ref 144 } }) ::
    (nat_lit 146, { cls := PySem.Value.type "tuple", data := PySem.Data.seq #[] }) ::
    (nat_lit 148,
      { cls := PySem.Value.type "tuple",
        data :=
          PySem.Data.seq
            #[PySem.Value.str (PySem.Str.ofString "sides") 386, PySem.Value.str (PySem.Str.ofString "number") 387,
              PySem.Value.str (PySem.Str.ofString "value") 388] }) ::
    (nat_lit 149, { cls := PySem.Value.type "tuple", data := PySem.Data.seq #[] }) ::
    (nat_lit 151,
      { cls := PySem.Value.type "code",
        data :=
          PySem.Data.fields
            #[PySem.Value.str (PySem.Str.ofString "take_one") 383, PySem.Value.str (PySem.Str.ofString "take_one") 384,
              PySem.Value.str (PySem.Str.ofString "/claim/cut.py") 385, PySem.Value.int 86 0, PySem.Value.int 3 0, PySem.Value.int 0 0, PySem.Value.int 0 0,
              PySem.Value.int 3 0, PySem.Value.ref 146, PySem.Value.bool true, PySem.Value.int 181 0, PySem.Value.ref 147, PySem.Value.none,
              PySem.Value.ref 148, PySem.Value.ref 149, PySem.Value.ref 150, PySem.Value.int 389 0, PySem.Value.int 86 0,
              PySem.Value.str (PySem.Str.ofString "/claim/cut.py") 390] }) ::
    (nat_lit 152,
      { cls := PySem.Value.type "function",
        data :=
          PySem.Data.func
            { name := PySem.Str.ofString "take_one", qualname := PySem.Str.ofString "take_one", params := fp_17, body := PySem.FuncBody.stmts fb_17,
              scope := fs_17, globals := 3, closure := [], defaults := PySem.Value.none, kwdefaults := PySem.Value.none,
              pyModule := PySem.Value.str (PySem.Str.ofString "emacs.stickiness") 295, code := PySem.Value.ref 151 } }) ::
    (nat_lit 153, { cls := PySem.Value.type "tuple", data := PySem.Data.seq #[] }) ::
    (nat_lit 156,
      { cls := PySem.Value.type "code",
        data :=
          PySem.Data.fields
            #[PySem.Value.str (PySem.Str.ofString "inherited") 392, PySem.Value.str (PySem.Str.ofString "inherited") 393,
              PySem.Value.str (PySem.Str.ofString "/claim/cut.py") 394, PySem.Value.int 93 0, PySem.Value.int 3 0, PySem.Value.int 0 0, PySem.Value.int 0 0,
              PySem.Value.int 3 0, PySem.Value.ref 153, PySem.Value.bool true, PySem.Value.int 181 0, PySem.Value.ref 154, PySem.Value.none, PySem.Value.none,
              PySem.Value.none, PySem.Value.ref 155, PySem.Value.int 395 0, PySem.Value.int 93 0, PySem.Value.str (PySem.Str.ofString "/claim/cut.py") 396] }) ::
    (nat_lit 157,
      { cls := PySem.Value.type "function",
        data :=
          PySem.Data.func
            { name := PySem.Str.ofString "inherited", qualname := PySem.Str.ofString "inherited", params := fp_18, body := PySem.FuncBody.stmts fb_18,
              scope := fs_18, globals := 3, closure := [], defaults := PySem.Value.none, kwdefaults := PySem.Value.none,
              pyModule := PySem.Value.str (PySem.Str.ofString "emacs.stickiness") 295, code := PySem.Value.ref 156 } }) ::
    (nat_lit 158,
      { cls := PySem.Value.type "tuple",
        data :=
          PySem.Data.seq
            #[PySem.Value.str (PySem.Str.ofString "category") 400, PySem.Value.str (PySem.Str.ofString "front-sticky") 401,
              PySem.Value.str (PySem.Str.ofString "rear-nonsticky") 402, PySem.Value.str (PySem.Str.ofString "evaporate") 403,
              PySem.Value.str (PySem.Str.ofString "priority") 404] }) ::
    (nat_lit 166, { cls := PySem.Value.type "tuple", data := PySem.Data.seq #[] }) ::
    (nat_lit 168,
      { cls := PySem.Value.type "tuple",
        data := PySem.Data.seq #[PySem.Value.str (PySem.Str.ofString "self") 421, PySem.Value.str (PySem.Str.ofString "first") 422] }) ::
    (nat_lit 169, { cls := PySem.Value.type "tuple", data := PySem.Data.seq #[] }) ::
    (nat_lit 171,
      { cls := PySem.Value.type "code",
        data :=
          PySem.Data.fields
            #[PySem.Value.str (PySem.Str.ofString "__init__") 418, PySem.Value.str (PySem.Str.ofString "PlainLisp.__init__") 419,
              PySem.Value.str (PySem.Str.ofString "/claim/cut.py") 420, PySem.Value.int 112 0, PySem.Value.int 2 0, PySem.Value.int 0 0, PySem.Value.int 0 0,
              PySem.Value.int 3 0, PySem.Value.ref 166, PySem.Value.bool true, PySem.Value.int 181 0, PySem.Value.ref 167, PySem.Value.none,
              PySem.Value.ref 168, PySem.Value.ref 169, PySem.Value.ref 170, PySem.Value.int 423 0, PySem.Value.int 112 0,
              PySem.Value.str (PySem.Str.ofString "/claim/cut.py") 424] }) ::
    (nat_lit 172,
      { cls := PySem.Value.type "function",
        data :=
          PySem.Data.func
            { name := PySem.Str.ofString "__init__", qualname := PySem.Str.ofString "PlainLisp.__init__", params := fp_21_0,
              body := PySem.FuncBody.stmts fb_21_0, scope := fs_21_0, globals := 3, closure := [], defaults := PySem.Value.none, kwdefaults := PySem.Value.none,
              pyModule := PySem.Value.str (PySem.Str.ofString "emacs.plainlisp") 398, code := PySem.Value.ref 171 } }) ::
    (nat_lit 173, { cls := PySem.Value.type "tuple", data := PySem.Data.seq #[] }) ::
    (nat_lit 175,
      { cls := PySem.Value.type "tuple",
        data := PySem.Data.seq #[PySem.Value.str (PySem.Str.ofString "self") 429, PySem.Value.str (PySem.Str.ofString "name") 430] }) ::
    (nat_lit 176, { cls := PySem.Value.type "tuple", data := PySem.Data.seq #[] }) ::
    (nat_lit 178,
      { cls := PySem.Value.type "code",
        data :=
          PySem.Data.fields
            #[PySem.Value.str (PySem.Str.ofString "number") 426, PySem.Value.str (PySem.Str.ofString "PlainLisp.number") 427,
              PySem.Value.str (PySem.Str.ofString "/claim/cut.py") 428, PySem.Value.int 118 0, PySem.Value.int 2 0, PySem.Value.int 0 0, PySem.Value.int 0 0,
              PySem.Value.int 3 0, PySem.Value.ref 173, PySem.Value.bool true, PySem.Value.int 181 0, PySem.Value.ref 174, PySem.Value.none,
              PySem.Value.ref 175, PySem.Value.ref 176, PySem.Value.ref 177, PySem.Value.int 431 0, PySem.Value.int 118 0,
              PySem.Value.str (PySem.Str.ofString "/claim/cut.py") 432] }) ::
    (nat_lit 179,
      { cls := PySem.Value.type "function",
        data :=
          PySem.Data.func
            { name := PySem.Str.ofString "number", qualname := PySem.Str.ofString "PlainLisp.number", params := fp_21_1, body := PySem.FuncBody.stmts fb_21_1,
              scope := fs_21_1, globals := 3, closure := [], defaults := PySem.Value.none, kwdefaults := PySem.Value.none,
              pyModule := PySem.Value.str (PySem.Str.ofString "emacs.plainlisp") 398, code := PySem.Value.ref 178 } }) ::
    (nat_lit 180, { cls := PySem.Value.type "tuple", data := PySem.Data.seq #[] }) ::
    (nat_lit 182,
      { cls := PySem.Value.type "tuple",
        data := PySem.Data.seq #[PySem.Value.str (PySem.Str.ofString "self") 437, PySem.Value.str (PySem.Str.ofString "number") 438] }) ::
    (nat_lit 183, { cls := PySem.Value.type "tuple", data := PySem.Data.seq #[] }) ::
    (nat_lit 185,
      { cls := PySem.Value.type "code",
        data :=
          PySem.Data.fields
            #[PySem.Value.str (PySem.Str.ofString "symbol") 434, PySem.Value.str (PySem.Str.ofString "PlainLisp.symbol") 435,
              PySem.Value.str (PySem.Str.ofString "/claim/cut.py") 436, PySem.Value.int 121 0, PySem.Value.int 2 0, PySem.Value.int 0 0, PySem.Value.int 0 0,
              PySem.Value.int 3 0, PySem.Value.ref 180, PySem.Value.bool true, PySem.Value.int 181 0, PySem.Value.ref 181, PySem.Value.none,
              PySem.Value.ref 182, PySem.Value.ref 183, PySem.Value.ref 184, PySem.Value.int 439 0, PySem.Value.int 121 0,
              PySem.Value.str (PySem.Str.ofString "/claim/cut.py") 440] }) ::
    (nat_lit 186,
      { cls := PySem.Value.type "function",
        data :=
          PySem.Data.func
            { name := PySem.Str.ofString "symbol", qualname := PySem.Str.ofString "PlainLisp.symbol", params := fp_21_2, body := PySem.FuncBody.stmts fb_21_2,
              scope := fs_21_2, globals := 3, closure := [], defaults := PySem.Value.none, kwdefaults := PySem.Value.none,
              pyModule := PySem.Value.str (PySem.Str.ofString "emacs.plainlisp") 398, code := PySem.Value.ref 185 } }) ::
    (nat_lit 187, { cls := PySem.Value.type "tuple", data := PySem.Data.seq #[] }) ::
    (nat_lit 189,
      { cls := PySem.Value.type "tuple",
        data := PySem.Data.seq #[PySem.Value.str (PySem.Str.ofString "self") 445, PySem.Value.str (PySem.Str.ofString "value") 446] }) ::
    (nat_lit 190, { cls := PySem.Value.type "tuple", data := PySem.Data.seq #[] }) ::
    (nat_lit 192,
      { cls := PySem.Value.type "code",
        data :=
          PySem.Data.fields
            #[PySem.Value.str (PySem.Str.ofString "number_of") 442, PySem.Value.str (PySem.Str.ofString "PlainLisp.number_of") 443,
              PySem.Value.str (PySem.Str.ofString "/claim/cut.py") 444, PySem.Value.int 124 0, PySem.Value.int 2 0, PySem.Value.int 0 0, PySem.Value.int 0 0,
              PySem.Value.int 3 0, PySem.Value.ref 187, PySem.Value.bool true, PySem.Value.int 181 0, PySem.Value.ref 188, PySem.Value.none,
              PySem.Value.ref 189, PySem.Value.ref 190, PySem.Value.ref 191, PySem.Value.int 447 0, PySem.Value.int 124 0,
              PySem.Value.str (PySem.Str.ofString "/claim/cut.py") 448] }) ::
    (nat_lit 193,
      { cls := PySem.Value.type "function",
        data :=
          PySem.Data.func
            { name := PySem.Str.ofString "number_of", qualname := PySem.Str.ofString "PlainLisp.number_of", params := fp_21_3,
              body := PySem.FuncBody.stmts fb_21_3, scope := fs_21_3, globals := 3, closure := [], defaults := PySem.Value.none, kwdefaults := PySem.Value.none,
              pyModule := PySem.Value.str (PySem.Str.ofString "emacs.plainlisp") 398, code := PySem.Value.ref 192 } }) ::
    (nat_lit 194, { cls := PySem.Value.type "tuple", data := PySem.Data.seq #[] }) ::
    (nat_lit 196,
      { cls := PySem.Value.type "tuple",
        data := PySem.Data.seq #[PySem.Value.str (PySem.Str.ofString "self") 453, PySem.Value.str (PySem.Str.ofString "values") 454] }) ::
    (nat_lit 197, { cls := PySem.Value.type "tuple", data := PySem.Data.seq #[] }) ::
    (nat_lit 199,
      { cls := PySem.Value.type "code",
        data :=
          PySem.Data.fields
            #[PySem.Value.str (PySem.Str.ofString "list_of") 450, PySem.Value.str (PySem.Str.ofString "PlainLisp.list_of") 451,
              PySem.Value.str (PySem.Str.ofString "/claim/cut.py") 452, PySem.Value.int 127 0, PySem.Value.int 2 0, PySem.Value.int 0 0, PySem.Value.int 0 0,
              PySem.Value.int 3 0, PySem.Value.ref 194, PySem.Value.bool true, PySem.Value.int 181 0, PySem.Value.ref 195, PySem.Value.none,
              PySem.Value.ref 196, PySem.Value.ref 197, PySem.Value.ref 198, PySem.Value.int 455 0, PySem.Value.int 127 0,
              PySem.Value.str (PySem.Str.ofString "/claim/cut.py") 456] }) ::
    (nat_lit 200,
      { cls := PySem.Value.type "function",
        data :=
          PySem.Data.func
            { name := PySem.Str.ofString "list_of", qualname := PySem.Str.ofString "PlainLisp.list_of", params := fp_21_4, body := PySem.FuncBody.stmts fb_21_4,
              scope := fs_21_4, globals := 3, closure := [], defaults := PySem.Value.none, kwdefaults := PySem.Value.none,
              pyModule := PySem.Value.str (PySem.Str.ofString "emacs.plainlisp") 398, code := PySem.Value.ref 199 } }) ::
    (nat_lit 201, { cls := PySem.Value.type "tuple", data := PySem.Data.seq #[] }) ::
    (nat_lit 203,
      { cls := PySem.Value.type "tuple",
        data := PySem.Data.seq #[PySem.Value.str (PySem.Str.ofString "self") 461, PySem.Value.str (PySem.Str.ofString "value") 462] }) ::
    (nat_lit 204, { cls := PySem.Value.type "tuple", data := PySem.Data.seq #[] }) ::
    (nat_lit 206,
      { cls := PySem.Value.type "code",
        data :=
          PySem.Data.fields
            #[PySem.Value.str (PySem.Str.ofString "items") 458, PySem.Value.str (PySem.Str.ofString "PlainLisp.items") 459,
              PySem.Value.str (PySem.Str.ofString "/claim/cut.py") 460, PySem.Value.int 130 0, PySem.Value.int 2 0, PySem.Value.int 0 0, PySem.Value.int 0 0,
              PySem.Value.int 3 0, PySem.Value.ref 201, PySem.Value.bool true, PySem.Value.int 181 0, PySem.Value.ref 202, PySem.Value.none,
              PySem.Value.ref 203, PySem.Value.ref 204, PySem.Value.ref 205, PySem.Value.int 463 0, PySem.Value.int 130 0,
              PySem.Value.str (PySem.Str.ofString "/claim/cut.py") 464] }) ::
    (nat_lit 207,
      { cls := PySem.Value.type "function",
        data :=
          PySem.Data.func
            { name := PySem.Str.ofString "items", qualname := PySem.Str.ofString "PlainLisp.items", params := fp_21_5, body := PySem.FuncBody.stmts fb_21_5,
              scope := fs_21_5, globals := 3, closure := [], defaults := PySem.Value.none, kwdefaults := PySem.Value.none,
              pyModule := PySem.Value.str (PySem.Str.ofString "emacs.plainlisp") 398, code := PySem.Value.ref 206 } }) ::
    (nat_lit 208, { cls := PySem.Value.type "tuple", data := PySem.Data.seq #[] }) ::
    (nat_lit 210,
      { cls := PySem.Value.type "tuple",
        data := PySem.Data.seq #[PySem.Value.str (PySem.Str.ofString "self") 469, PySem.Value.str (PySem.Str.ofString "value") 470] }) ::
    (nat_lit 211, { cls := PySem.Value.type "tuple", data := PySem.Data.seq #[] }) ::
    (nat_lit 213,
      { cls := PySem.Value.type "code",
        data :=
          PySem.Data.fields
            #[PySem.Value.str (PySem.Str.ofString "pair") 466, PySem.Value.str (PySem.Str.ofString "PlainLisp.pair") 467,
              PySem.Value.str (PySem.Str.ofString "/claim/cut.py") 468, PySem.Value.int 133 0, PySem.Value.int 2 0, PySem.Value.int 0 0, PySem.Value.int 0 0,
              PySem.Value.int 3 0, PySem.Value.ref 208, PySem.Value.bool true, PySem.Value.int 181 0, PySem.Value.ref 209, PySem.Value.none,
              PySem.Value.ref 210, PySem.Value.ref 211, PySem.Value.ref 212, PySem.Value.int 471 0, PySem.Value.int 133 0,
              PySem.Value.str (PySem.Str.ofString "/claim/cut.py") 472] }) ::
    (nat_lit 214,
      { cls := PySem.Value.type "function",
        data :=
          PySem.Data.func
            { name := PySem.Str.ofString "pair", qualname := PySem.Str.ofString "PlainLisp.pair", params := fp_21_6, body := PySem.FuncBody.stmts fb_21_6,
              scope := fs_21_3, globals := 3, closure := [], defaults := PySem.Value.none, kwdefaults := PySem.Value.none,
              pyModule := PySem.Value.str (PySem.Str.ofString "emacs.plainlisp") 398, code := PySem.Value.ref 213 } }) ::
    (nat_lit 215, { cls := PySem.Value.type "tuple", data := PySem.Data.seq #[] }) ::
    (nat_lit 217,
      { cls := PySem.Value.type "tuple",
        data :=
          PySem.Data.seq
            #[PySem.Value.str (PySem.Str.ofString "self") 477, PySem.Value.str (PySem.Str.ofString "value") 478,
              PySem.Value.str (PySem.Str.ofString "number") 479, PySem.Value.str (PySem.Str.ofString "own") 480,
              PySem.Value.str (PySem.Str.ofString "held") 481] }) ::
    (nat_lit 218, { cls := PySem.Value.type "tuple", data := PySem.Data.seq #[] }) ::
    (nat_lit 220,
      { cls := PySem.Value.type "code",
        data :=
          PySem.Data.fields
            #[PySem.Value.str (PySem.Str.ofString "symbol_property") 474, PySem.Value.str (PySem.Str.ofString "PlainLisp.symbol_property") 475,
              PySem.Value.str (PySem.Str.ofString "/claim/cut.py") 476, PySem.Value.int 136 0, PySem.Value.int 3 0, PySem.Value.int 0 0, PySem.Value.int 0 0,
              PySem.Value.int 3 0, PySem.Value.ref 215, PySem.Value.bool true, PySem.Value.int 181 0, PySem.Value.ref 216, PySem.Value.none,
              PySem.Value.ref 217, PySem.Value.ref 218, PySem.Value.ref 219, PySem.Value.int 482 0, PySem.Value.int 136 0,
              PySem.Value.str (PySem.Str.ofString "/claim/cut.py") 483] }) ::
    (nat_lit 221,
      { cls := PySem.Value.type "function",
        data :=
          PySem.Data.func
            { name := PySem.Str.ofString "symbol_property", qualname := PySem.Str.ofString "PlainLisp.symbol_property", params := fp_21_7,
              body := PySem.FuncBody.stmts fb_21_7, scope := fs_21_7, globals := 3, closure := [], defaults := PySem.Value.none, kwdefaults := PySem.Value.none,
              pyModule := PySem.Value.str (PySem.Str.ofString "emacs.plainlisp") 398, code := PySem.Value.ref 220 } }) ::
    (nat_lit 222,
      { cls := PySem.Value.type "tuple",
        data :=
          PySem.Data.seq
            #[PySem.Value.str (PySem.Str.ofString "first") 485, PySem.Value.str (PySem.Str.ofString "nil") 486,
              PySem.Value.str (PySem.Str.ofString "plists") 487, PySem.Value.str (PySem.Str.ofString "true") 488] }) ::
    (nat_lit 223,
      { cls := PySem.Value.type "dict",
        data :=
          PySem.Data.dict
            #[{ hash := PySem.PyData.keyHash P (PySem.Str.ofString "__module__"), key := PySem.Value.str (PySem.Str.ofString "__module__") 413,
                val := PySem.Value.str (PySem.Str.ofString "emacs.plainlisp") 398 },
              { hash := PySem.PyData.keyHash P (PySem.Str.ofString "__firstlineno__"), key := PySem.Value.str (PySem.Str.ofString "__firstlineno__") 417,
                val := PySem.Value.int 110 416 },
              { hash := PySem.PyData.keyHash P (PySem.Str.ofString "__init__"), key := PySem.Value.str (PySem.Str.ofString "__init__") 425,
                val := PySem.Value.ref 172 },
              { hash := PySem.PyData.keyHash P (PySem.Str.ofString "number"), key := PySem.Value.str (PySem.Str.ofString "number") 433,
                val := PySem.Value.ref 179 },
              { hash := PySem.PyData.keyHash P (PySem.Str.ofString "symbol"), key := PySem.Value.str (PySem.Str.ofString "symbol") 441,
                val := PySem.Value.ref 186 },
              { hash := PySem.PyData.keyHash P (PySem.Str.ofString "number_of"), key := PySem.Value.str (PySem.Str.ofString "number_of") 449,
                val := PySem.Value.ref 193 },
              { hash := PySem.PyData.keyHash P (PySem.Str.ofString "list_of"), key := PySem.Value.str (PySem.Str.ofString "list_of") 457,
                val := PySem.Value.ref 200 },
              { hash := PySem.PyData.keyHash P (PySem.Str.ofString "items"), key := PySem.Value.str (PySem.Str.ofString "items") 465,
                val := PySem.Value.ref 207 },
              { hash := PySem.PyData.keyHash P (PySem.Str.ofString "pair"), key := PySem.Value.str (PySem.Str.ofString "pair") 473,
                val := PySem.Value.ref 214 },
              { hash := PySem.PyData.keyHash P (PySem.Str.ofString "symbol_property"), key := PySem.Value.str (PySem.Str.ofString "symbol_property") 484,
                val := PySem.Value.ref 221 },
              { hash := PySem.PyData.keyHash P (PySem.Str.ofString "__static_attributes__"),
                key := PySem.Value.str (PySem.Str.ofString "__static_attributes__") 489, val := PySem.Value.ref 222 },
              { hash := PySem.PyData.keyHash P (PySem.Str.ofString "__dict__"), key := PySem.Value.str (PySem.Str.ofString "__dict__") 491,
                val := PySem.Value.ref 225 },
              { hash := PySem.PyData.keyHash P (PySem.Str.ofString "__weakref__"), key := PySem.Value.str (PySem.Str.ofString "__weakref__") 493,
                val := PySem.Value.ref 226 },
              { hash := PySem.PyData.keyHash P (PySem.Str.ofString "__doc__"), key := PySem.Value.str (PySem.Str.ofString "__doc__") 494,
                val := PySem.Value.none }]
            4 }) ::
    (nat_lit 224,
      { cls := PySem.Value.type "type",
        data :=
          PySem.Data.cls
            { name := PySem.Str.ofString "PlainLisp", bases := [PySem.Value.type "object"], mro := [PySem.Value.ref 224, PySem.Value.type "object"], ns := 223,
              qualname := PySem.Str.ofString "PlainLisp" },
        slots :=
          #[none, none, some (PySem.Value.str (PySem.Str.ofString "PlainLisp") 406), some (PySem.Value.str (PySem.Str.ofString "PlainLisp") 414),
            some (PySem.Value.builtin "object.__new__"), some (PySem.Value.bool true)] }) ::
    (nat_lit 225,
      { cls := PySem.Value.type "getset_descriptor",
        data :=
          PySem.Data.fields
            #[PySem.Value.str (PySem.Str.ofString "__dict__") 490, PySem.Value.ref 224, PySem.Value.builtin "function.__dict__",
              PySem.Value.builtin "function.__dict__#set"] }) ::
    (nat_lit 226,
      { cls := PySem.Value.type "getset_descriptor",
        data :=
          PySem.Data.fields
            #[PySem.Value.str (PySem.Str.ofString "__weakref__") 492, PySem.Value.ref 224, PySem.Value.builtin "ExceptionGroup.__weakref__",
              PySem.Value.none] }) ::
    (nat_lit 229, { cls := PySem.Value.type "tuple", data := PySem.Data.seq #[] }) ::
    (nat_lit 231,
      { cls := PySem.Value.type "tuple",
        data := PySem.Data.seq #[PySem.Value.str (PySem.Str.ofString "deck") 502, PySem.Value.str (PySem.Str.ofString "many") 503] }) ::
    (nat_lit 232, { cls := PySem.Value.type "tuple", data := PySem.Data.seq #[] }) ::
    (nat_lit 234,
      { cls := PySem.Value.type "code",
        data :=
          PySem.Data.fields
            #[PySem.Value.str (PySem.Str.ofString "_law_draw") 499, PySem.Value.str (PySem.Str.ofString "_law_draw") 500,
              PySem.Value.str (PySem.Str.ofString "/claim/cut.py") 501, PySem.Value.int 142 0, PySem.Value.int 2 0, PySem.Value.int 0 0, PySem.Value.int 0 0,
              PySem.Value.int 3 0, PySem.Value.ref 229, PySem.Value.bool true, PySem.Value.int 181 0, PySem.Value.ref 230, PySem.Value.none,
              PySem.Value.ref 231, PySem.Value.ref 232, PySem.Value.ref 233, PySem.Value.int 504 0, PySem.Value.int 142 0,
              PySem.Value.str (PySem.Str.ofString "/claim/cut.py") 505] }) ::
    (nat_lit 235,
      { cls := PySem.Value.type "function",
        data :=
          PySem.Data.func
            { name := PySem.Str.ofString "_law_draw", qualname := PySem.Str.ofString "_law_draw", params := fp_23, body := PySem.FuncBody.stmts fb_23,
              scope := fs_23, globals := 3, closure := [], defaults := PySem.Value.none, kwdefaults := PySem.Value.none,
              pyModule := PySem.Value.str (PySem.Str.ofString "law_np0033_01") 497, code := PySem.Value.ref 234 } }) ::
    (nat_lit 236, { cls := PySem.Value.type "tuple", data := PySem.Data.seq #[] }) ::
    (nat_lit 239,
      { cls := PySem.Value.type "code",
        data :=
          PySem.Data.fields
            #[PySem.Value.str (PySem.Str.ofString "_law_side") 507, PySem.Value.str (PySem.Str.ofString "_law_side") 508,
              PySem.Value.str (PySem.Str.ofString "/claim/cut.py") 509, PySem.Value.int 147 0, PySem.Value.int 2 0, PySem.Value.int 0 0, PySem.Value.int 0 0,
              PySem.Value.int 3 0, PySem.Value.ref 236, PySem.Value.bool true, PySem.Value.int 181 0, PySem.Value.ref 237, PySem.Value.none, PySem.Value.none,
              PySem.Value.none, PySem.Value.ref 238, PySem.Value.int 510 0, PySem.Value.int 147 0, PySem.Value.str (PySem.Str.ofString "/claim/cut.py") 511] }) ::
    (nat_lit 240,
      { cls := PySem.Value.type "function",
        data :=
          PySem.Data.func
            { name := PySem.Str.ofString "_law_side", qualname := PySem.Str.ofString "_law_side", params := fp_24, body := PySem.FuncBody.stmts fb_24,
              scope := fs_24, globals := 3, closure := [], defaults := PySem.Value.none, kwdefaults := PySem.Value.none,
              pyModule := PySem.Value.str (PySem.Str.ofString "law_np0033_01") 497, code := PySem.Value.ref 239 } }) ::
    (nat_lit 241, { cls := PySem.Value.type "tuple", data := PySem.Data.seq #[] }) ::
    (nat_lit 244,
      { cls := PySem.Value.type "code",
        data :=
          PySem.Data.fields
            #[PySem.Value.str (PySem.Str.ofString "_law_held") 513, PySem.Value.str (PySem.Str.ofString "_law_held") 514,
              PySem.Value.str (PySem.Str.ofString "/claim/cut.py") 515, PySem.Value.int 161 0, PySem.Value.int 2 0, PySem.Value.int 0 0, PySem.Value.int 0 0,
              PySem.Value.int 3 0, PySem.Value.ref 241, PySem.Value.bool true, PySem.Value.int 181 0, PySem.Value.ref 242, PySem.Value.none, PySem.Value.none,
              PySem.Value.none, PySem.Value.ref 243, PySem.Value.int 516 0, PySem.Value.int 161 0, PySem.Value.str (PySem.Str.ofString "/claim/cut.py") 517] }) ::
    (nat_lit 245,
      { cls := PySem.Value.type "function",
        data :=
          PySem.Data.func
            { name := PySem.Str.ofString "_law_held", qualname := PySem.Str.ofString "_law_held", params := fp_25, body := PySem.FuncBody.stmts fb_25,
              scope := fs_25, globals := 3, closure := [], defaults := PySem.Value.none, kwdefaults := PySem.Value.none,
              pyModule := PySem.Value.str (PySem.Str.ofString "law_np0033_01") 497, code := PySem.Value.ref 244 } }) ::
    (nat_lit 246, { cls := PySem.Value.type "tuple", data := PySem.Data.seq #[] }) ::
    (nat_lit 248,
      { cls := PySem.Value.type "tuple",
        data :=
          PySem.Data.seq
            #[PySem.Value.str (PySem.Str.ofString "plist") 522, PySem.Value.str (PySem.Str.ofString "which") 523,
              PySem.Value.str (PySem.Str.ofString "number") 524, PySem.Value.str (PySem.Str.ofString "my_held") 525] }) ::
    (nat_lit 249, { cls := PySem.Value.type "tuple", data := PySem.Data.seq #[] }) ::
    (nat_lit 251,
      { cls := PySem.Value.type "code",
        data :=
          PySem.Data.fields
            #[PySem.Value.str (PySem.Str.ofString "_law_sticks") 519, PySem.Value.str (PySem.Str.ofString "_law_sticks") 520,
              PySem.Value.str (PySem.Str.ofString "/claim/cut.py") 521, PySem.Value.int 164 0, PySem.Value.int 3 0, PySem.Value.int 0 0, PySem.Value.int 0 0,
              PySem.Value.int 3 0, PySem.Value.ref 246, PySem.Value.bool true, PySem.Value.int 181 0, PySem.Value.ref 247, PySem.Value.none,
              PySem.Value.ref 248, PySem.Value.ref 249, PySem.Value.ref 250, PySem.Value.int 526 0, PySem.Value.int 164 0,
              PySem.Value.str (PySem.Str.ofString "/claim/cut.py") 527] }) ::
    (nat_lit 252,
      { cls := PySem.Value.type "function",
        data :=
          PySem.Data.func
            { name := PySem.Str.ofString "_law_sticks", qualname := PySem.Str.ofString "_law_sticks", params := fp_26, body := PySem.FuncBody.stmts fb_26,
              scope := fs_26, globals := 3, closure := [], defaults := PySem.Value.none, kwdefaults := PySem.Value.none,
              pyModule := PySem.Value.str (PySem.Str.ofString "law_np0033_01") 497, code := PySem.Value.ref 251 } }) ::
    (nat_lit 253, { cls := PySem.Value.type "tuple", data := PySem.Data.seq #[] }) ::
    (nat_lit 255,
      { cls := PySem.Value.type "tuple",
        data :=
          PySem.Data.seq
            #[PySem.Value.str (PySem.Str.ofString "left") 532, PySem.Value.str (PySem.Str.ofString "right") 533,
              PySem.Value.str (PySem.Str.ofString "defaults") 534, PySem.Value.str (PySem.Str.ofString "number") 535,
              PySem.Value.str (PySem.Str.ofString "one") 536, PySem.Value.str (PySem.Str.ofString "other") 537, PySem.Value.str (PySem.Str.ofString "kept") 538,
              PySem.Value.str (PySem.Str.ofString "caught") 539, PySem.Value.str (PySem.Str.ofString "right_too") 540] }) ::
    (nat_lit 256, { cls := PySem.Value.type "tuple", data := PySem.Data.seq #[] }) ::
    (nat_lit 258,
      { cls := PySem.Value.type "code",
        data :=
          PySem.Data.fields
            #[PySem.Value.str (PySem.Str.ofString "_law_due") 529, PySem.Value.str (PySem.Str.ofString "_law_due") 530,
              PySem.Value.str (PySem.Str.ofString "/claim/cut.py") 531, PySem.Value.int 169 0, PySem.Value.int 4 0, PySem.Value.int 0 0, PySem.Value.int 0 0,
              PySem.Value.int 3 0, PySem.Value.ref 253, PySem.Value.bool true, PySem.Value.int 181 0, PySem.Value.ref 254, PySem.Value.none,
              PySem.Value.ref 255, PySem.Value.ref 256, PySem.Value.ref 257, PySem.Value.int 541 0, PySem.Value.int 169 0,
              PySem.Value.str (PySem.Str.ofString "/claim/cut.py") 542] }) ::
    (nat_lit 259,
      { cls := PySem.Value.type "function",
        data :=
          PySem.Data.func
            { name := PySem.Str.ofString "_law_due", qualname := PySem.Str.ofString "_law_due", params := fp_27, body := PySem.FuncBody.stmts fb_27,
              scope := fs_27, globals := 3, closure := [], defaults := PySem.Value.none, kwdefaults := PySem.Value.none,
              pyModule := PySem.Value.str (PySem.Str.ofString "law_np0033_01") 497, code := PySem.Value.ref 258 } }) ::
    (nat_lit 260, { cls := PySem.Value.type "tuple", data := PySem.Data.seq #[] }) ::
    (nat_lit 263,
      { cls := PySem.Value.type "code",
        data :=
          PySem.Data.fields
            #[PySem.Value.str (PySem.Str.ofString "law") 544, PySem.Value.str (PySem.Str.ofString "law") 545,
              PySem.Value.str (PySem.Str.ofString "/claim/cut.py") 546, PySem.Value.int 181 0, PySem.Value.int 1 0, PySem.Value.int 0 0, PySem.Value.int 0 0,
              PySem.Value.int 3 0, PySem.Value.ref 260, PySem.Value.bool true, PySem.Value.int 181 0, PySem.Value.ref 261, PySem.Value.none, PySem.Value.none,
              PySem.Value.none, PySem.Value.ref 262, PySem.Value.int 547 0, PySem.Value.int 181 0, PySem.Value.str (PySem.Str.ofString "/claim/cut.py") 548] }) ::
    (nat_lit 264,
      { cls := PySem.Value.type "function",
        data :=
          PySem.Data.func
            { name := PySem.Str.ofString "law", qualname := PySem.Str.ofString "law", params := fp_28, body := PySem.FuncBody.stmts fb_28, scope := fs_28,
              globals := 3, closure := [], defaults := PySem.Value.none, kwdefaults := PySem.Value.none,
              pyModule := PySem.Value.str (PySem.Str.ofString "law_np0033_01") 497, code := PySem.Value.ref 263 } }) :: []) _ _ _ _ _ _ _ _ _ _ _ _ _ _ _ _ _ _ _ _ _ _ _ _ _ _ _ _ _ _ _ _ _ _ _ _ _ _ _ _ _ _ _ _ _ _ _ _ _ _ _ _ _ _ _ _ _ _ _ _ _ _ _ _ _ _ _ _ _ _ _ _ _ _ _ _ _ _ _ _ _ _ _ _ _ _ _ _ _ _ _ _ _ _ _ _ _ _ _ _ _ _ _ _ _ _ _ _ _ _ _ _ _ _ _ _ _ _ _ _ _ _ _ _ _ _ _ _ _ _ _ _ _ _ _ _ _ _ _ _ _ _ _ _ _ _ _ _ _ _ _ _ _ _ _ _ _ _ _ _ _ _ _ _ _ _ _ _ _ _ _ _ _ _ _ _ _ _ _ _ _ _ _ _ _ _ _ _ _ _ _ _ _ _ _ _ _ _ _ _ _ _ _ _ _ _ _ _ _ _ _ _ _ _ _ _ _ _ _ _ _ _ _ _ _ _ _ _ _ _ _ _ _ _ _ _ _ _ _ _ _ _ _ _ _ _ _ _ _ _ _ _ _ _ _ _ _ _ _ _ _ _ _ _ _ _ _ _ _ _ _ _ _ _ _ _ _ _ _ _ _ _ _ _ _ _ _ _ _ _ _ _ _ _ _ _ _ _ _ _ _ _ _ _ _ _ _ _ _ _ rfl rfl rfl rfl rfl rfl rfl rfl rfl rfl rfl rfl rfl rfl rfl rfl rfl rfl rfl rfl rfl rfl rfl rfl rfl rfl rfl rfl rfl rfl rfl
noncomputable def hd.view_39 : PySem.Program := { P0 with main := { P0.main with body := match P0.main.body with
  | [_, s1, s2, s3, _, s5, s6, s7, s8, s9, _, s11, s12, s13, s14, s15, s16, s17, s18, _, s20, s21, _, s23, s24, s25, s26, s27, s28] => [s1, s2, s3, s5, s6, s7, s8, s9, s11, s12, s13, s14, s15, s16, s17, s18, s20, s21, s23, s24, s25, s26, s27, s28]
  | _ => [] } }
-- HL
noncomputable def hAs : List Addr := [2, 3, 15, 17, 18, 20, 21, 22, 24, 25, 27, 28, 29, 31, 32, 34, 35, 43, 45, 46, 48, 49, 50, 52, 53, 55, 56, 57, 58, 59, 60, 61, 64, 66, 67, 69, 70, 71, 74, 75, 76, 78, 79, 81, 82, 83, 85, 86, 88, 89, 97, 99, 100, 102, 103, 104, 105, 106, 107, 108, 111, 113, 114, 116, 117, 118, 120, 121, 123, 124, 125, 127, 128, 130, 131, 132, 134, 135, 137, 138, 139, 141, 142, 144, 145, 146, 148, 149, 151, 152, 153, 156, 157, 158, 166, 168, 169, 171, 172, 173, 175, 176, 178, 179, 180, 182, 183, 185, 186, 187, 189, 190, 192, 193, 194, 196, 197, 199, 200, 201, 203, 204, 206, 207, 208, 210, 211, 213, 214, 215, 217, 218, 220, 221, 222, 223, 224, 225, 226, 229, 231, 232, 234, 235, 236, 239, 240, 241, 244, 245, 246, 248, 249, 251, 252, 253, 255, 256, 258, 259, 260, 263, 264]
theorem hk_ok : ∀ P, hAs = (Mine.hd.heap_39 P).map (·.1) := fun _ => by kernel_rfl
def objAt : Frag → Nat → Obj
  | [], _ => default
  | (b, o) :: r, a => match Nat.beq a b with
    | true => o
    | false => objAt r a
noncomputable def codeOf (o : Obj) : Obj := match o.data with
  | .func f => { o with cls := .none, data := .func { f with globals := 0, pyModule := .none, code := .none } }
  | _ => o
noncomputable def noFields : Obj := { cls := Value.none, data := Data.fields #[] }
noncomputable def noItems : Obj := { cls := Value.type "tuple", data := Data.seq #[] }
noncomputable def weave : Nat → Frag → Frag → List Obj
  | 0, _, _ => []
  | _ + 1, [], l => l.map (·.2)
  | _ + 1, l, [] => l.map (·.2)
  | n + 1, (a, o) :: r, (b, p) :: s => match Nat.blt a b with
    | true => o :: weave n r ((b, p) :: s)
    | false => p :: weave n ((a, o) :: r) s
noncomputable def restOver (P : Params) (fr : Frag) : Frag :=
  [(0, boot_o_0 P),
   (1, boot_o_1 P),
   (4, boot_o_4 P),
   (5, boot_o_5 P),
   (6, boot_o_6 P),
   (7, boot_o_7 P),
   (8, boot_o_8 P),
   (9, boot_o_9 P),
   (10, boot_o_10 P),
   (11, noItems),
   (12, ({ cls := Value.none, data := Data.fields #[Value.int 2 0, Value.int 0 0, Value.ref 20, Value.int 6 0, Value.int 0 0, Value.ref 27, Value.int 11 0, Value.int 0 0, Value.ref 34, Value.int 15 0, Value.int 0 0, Value.ref 41, Value.int 30 0, Value.int 0 0, Value.ref 69, Value.int 37 0, Value.int 0 0, Value.ref 74, Value.int 44 0, Value.int 0 0, Value.ref 81, Value.int 46 0, Value.int 0 0, Value.ref 88, Value.int 49 0, Value.int 0 0, Value.ref 95, Value.int 62 0, Value.int 0 0, Value.ref 116, Value.int 64 0, Value.int 0 0, Value.ref 123, Value.int 66 0, Value.int 0 0, Value.ref 130, Value.int 70 0, Value.int 0 0, Value.ref 137, Value.int 76 0, Value.int 0 0, Value.ref 144, Value.int 86 0, Value.int 0 0, Value.ref 151, Value.int 93 0, Value.int 0 0, Value.ref 156, Value.int 110 0, Value.int 0 0, Value.ref 164, Value.int 142 0, Value.int 0 0, Value.ref 234, Value.int 147 0, Value.int 0 0, Value.ref 239, Value.int 161 0, Value.int 0 0, Value.ref 244, Value.int 164 0, Value.int 0 0, Value.ref 251, Value.int 169 0, Value.int 0 0, Value.ref 258, Value.int 181 0, Value.int 0 0, Value.ref 263] } : Obj)),
   (13, ({ cls := Value.type "code", data := Data.fields #[Value.str (Str.ofString "<module>") 182, Value.str (Str.ofString "<module>") 183, Value.str (Str.ofString "/claim/cut.py") 184, Value.int 1 0, Value.int 0 0, Value.int 0 0, Value.int 0 0, Value.int 0 0, Value.ref 11, Value.bool false, Value.int 181 0, Value.ref 12, Value.none, Value.none, Value.none, Value.none, Value.int 185 0, Value.int 1 0, Value.str (Str.ofString "/claim/cut.py") 186] } : Obj)),
   (14, ({ cls := Value.type "frame", slots := #[some (Value.ref 13), some (Value.ref 3), some (Value.ref 3), none, some (Value.str (Str.ofString "__main__") 164), none, some (Value.ref 0)] } : Obj)),
   (16, noFields),
   (19, codeOf (objAt fr 21)),
   (23, noFields),
   (26, codeOf (objAt fr 28)),
   (30, noFields),
   (33, codeOf (objAt fr 35)),
   (36, noItems),
   (37, ({ cls := Value.type "builtin_function_or_method", data := Data.fields #[Value.builtin "type.__prepare__", Value.type "type"] } : Obj)),
   (38, ({ cls := Value.type "dict", data := Data.dict #[{ hash := PyData.keyHash P (Str.ofString "__module__"), key := Value.str (Str.ofString "__module__") 224, val := Value.str (Str.ofString "emacs.proprules") 215 }, { hash := PyData.keyHash P (Str.ofString "__qualname__"), key := Value.str (Str.ofString "__qualname__") 226, val := Value.str (Str.ofString "PropRules") 225 }, { hash := PyData.keyHash P (Str.ofString "__firstlineno__"), key := Value.str (Str.ofString "__firstlineno__") 228, val := Value.int 15 227 }, { hash := PyData.keyHash P (Str.ofString "__init__"), key := Value.str (Str.ofString "__init__") 236, val := Value.ref 49 }, { hash := PyData.keyHash P (Str.ofString "is_nil"), key := Value.str (Str.ofString "is_nil") 244, val := Value.ref 56 }, { hash := PyData.keyHash P (Str.ofString "__static_attributes__"), key := Value.str (Str.ofString "__static_attributes__") 254, val := Value.ref 57 }] 6 } : Obj)),
   (39, noItems),
   (40, ({ cls := Value.none, data := Data.fields #[Value.int 17 0, Value.int 4 0, Value.ref 48, Value.int 28 0, Value.int 4 0, Value.ref 55] } : Obj)),
   (41, ({ cls := Value.type "code", data := Data.fields #[Value.str (Str.ofString "PropRules") 219, Value.str (Str.ofString "PropRules") 220, Value.str (Str.ofString "/claim/cut.py") 221, Value.int 15 0, Value.int 0 0, Value.int 0 0, Value.int 0 0, Value.int 0 0, Value.ref 39, Value.bool false, Value.int 181 0, Value.ref 40, Value.none, Value.none, Value.none, Value.none, Value.int 222 0, Value.int 15 0, Value.str (Str.ofString "/claim/cut.py") 223] } : Obj)),
   (42, ({ cls := Value.type "frame", slots := #[some (Value.ref 41), some (Value.ref 3), some (Value.ref 38), none, some (Value.str (Str.ofString "emacs.proprules") 215), none, some (Value.ref 0)] } : Obj)),
   (44, noFields),
   (47, codeOf (objAt fr 49)),
   (51, noFields),
   (54, codeOf (objAt fr 56)),
   (62, ({ cls := Value.type "super", data := Data.fields #[Value.ref 59, Value.ref 59, Value.ref 59] } : Obj)),
   (63, ({ cls := Value.type "builtin_function_or_method", data := Data.fields #[Value.builtin "object.__init_subclass__", Value.ref 59] } : Obj)),
   (65, noFields),
   (68, codeOf (objAt fr 70)),
   (72, noFields),
   (73, codeOf (objAt fr 75)),
   (77, noFields),
   (80, codeOf (objAt fr 82)),
   (84, noFields),
   (87, codeOf (objAt fr 89)),
   (90, noItems),
   (91, ({ cls := Value.type "builtin_function_or_method", data := Data.fields #[Value.builtin "type.__prepare__", Value.type "type"] } : Obj)),
   (92, ({ cls := Value.type "dict", data := Data.dict #[{ hash := PyData.keyHash P (Str.ofString "__module__"), key := Value.str (Str.ofString "__module__") 304, val := Value.str (Str.ofString "emacs.stickiness") 295 }, { hash := PyData.keyHash P (Str.ofString "__qualname__"), key := Value.str (Str.ofString "__qualname__") 306, val := Value.str (Str.ofString "Sides") 305 }, { hash := PyData.keyHash P (Str.ofString "__firstlineno__"), key := Value.str (Str.ofString "__firstlineno__") 308, val := Value.int 49 307 }, { hash := PyData.keyHash P (Str.ofString "__init__"), key := Value.str (Str.ofString "__init__") 318, val := Value.ref 103 }, { hash := PyData.keyHash P (Str.ofString "__static_attributes__"), key := Value.str (Str.ofString "__static_attributes__") 329, val := Value.ref 104 }] 5 } : Obj)),
   (93, noItems),
   (94, ({ cls := Value.none, data := Data.fields #[Value.int 51 0, Value.int 4 0, Value.ref 102] } : Obj)),
   (95, ({ cls := Value.type "code", data := Data.fields #[Value.str (Str.ofString "Sides") 299, Value.str (Str.ofString "Sides") 300, Value.str (Str.ofString "/claim/cut.py") 301, Value.int 49 0, Value.int 0 0, Value.int 0 0, Value.int 0 0, Value.int 0 0, Value.ref 93, Value.bool false, Value.int 181 0, Value.ref 94, Value.none, Value.none, Value.none, Value.none, Value.int 302 0, Value.int 49 0, Value.str (Str.ofString "/claim/cut.py") 303] } : Obj)),
   (96, ({ cls := Value.type "frame", slots := #[some (Value.ref 95), some (Value.ref 3), some (Value.ref 92), none, some (Value.str (Str.ofString "emacs.stickiness") 295), none, some (Value.ref 0)] } : Obj)),
   (98, noFields),
   (101, codeOf (objAt fr 103)),
   (109, ({ cls := Value.type "super", data := Data.fields #[Value.ref 106, Value.ref 106, Value.ref 106] } : Obj)),
   (110, ({ cls := Value.type "builtin_function_or_method", data := Data.fields #[Value.builtin "object.__init_subclass__", Value.ref 106] } : Obj)),
   (112, noFields),
   (115, codeOf (objAt fr 117)),
   (119, noFields),
   (122, codeOf (objAt fr 124)),
   (126, noFields),
   (129, codeOf (objAt fr 131)),
   (133, noFields),
   (136, codeOf (objAt fr 138)),
   (140, noFields),
   (143, codeOf (objAt fr 145)),
   (147, noFields),
   (150, codeOf (objAt fr 152)),
   (154, noFields),
   (155, codeOf (objAt fr 157)),
   (159, noItems),
   (160, ({ cls := Value.type "builtin_function_or_method", data := Data.fields #[Value.builtin "type.__prepare__", Value.type "type"] } : Obj)),
   (161, ({ cls := Value.type "dict", data := Data.dict #[{ hash := PyData.keyHash P (Str.ofString "__module__"), key := Value.str (Str.ofString "__module__") 413, val := Value.str (Str.ofString "emacs.plainlisp") 398 }, { hash := PyData.keyHash P (Str.ofString "__qualname__"), key := Value.str (Str.ofString "__qualname__") 415, val := Value.str (Str.ofString "PlainLisp") 414 }, { hash := PyData.keyHash P (Str.ofString "__firstlineno__"), key := Value.str (Str.ofString "__firstlineno__") 417, val := Value.int 110 416 }, { hash := PyData.keyHash P (Str.ofString "__init__"), key := Value.str (Str.ofString "__init__") 425, val := Value.ref 172 }, { hash := PyData.keyHash P (Str.ofString "number"), key := Value.str (Str.ofString "number") 433, val := Value.ref 179 }, { hash := PyData.keyHash P (Str.ofString "symbol"), key := Value.str (Str.ofString "symbol") 441, val := Value.ref 186 }, { hash := PyData.keyHash P (Str.ofString "number_of"), key := Value.str (Str.ofString "number_of") 449, val := Value.ref 193 }, { hash := PyData.keyHash P (Str.ofString "list_of"), key := Value.str (Str.ofString "list_of") 457, val := Value.ref 200 }, { hash := PyData.keyHash P (Str.ofString "items"), key := Value.str (Str.ofString "items") 465, val := Value.ref 207 }, { hash := PyData.keyHash P (Str.ofString "pair"), key := Value.str (Str.ofString "pair") 473, val := Value.ref 214 }, { hash := PyData.keyHash P (Str.ofString "symbol_property"), key := Value.str (Str.ofString "symbol_property") 484, val := Value.ref 221 }, { hash := PyData.keyHash P (Str.ofString "__static_attributes__"), key := Value.str (Str.ofString "__static_attributes__") 489, val := Value.ref 222 }] 12 } : Obj)),
   (162, noItems),
   (163, ({ cls := Value.none, data := Data.fields #[Value.int 112 0, Value.int 4 0, Value.ref 171, Value.int 118 0, Value.int 4 0, Value.ref 178, Value.int 121 0, Value.int 4 0, Value.ref 185, Value.int 124 0, Value.int 4 0, Value.ref 192, Value.int 127 0, Value.int 4 0, Value.ref 199, Value.int 130 0, Value.int 4 0, Value.ref 206, Value.int 133 0, Value.int 4 0, Value.ref 213, Value.int 136 0, Value.int 4 0, Value.ref 220] } : Obj)),
   (164, ({ cls := Value.type "code", data := Data.fields #[Value.str (Str.ofString "PlainLisp") 408, Value.str (Str.ofString "PlainLisp") 409, Value.str (Str.ofString "/claim/cut.py") 410, Value.int 110 0, Value.int 0 0, Value.int 0 0, Value.int 0 0, Value.int 0 0, Value.ref 162, Value.bool false, Value.int 181 0, Value.ref 163, Value.none, Value.none, Value.none, Value.none, Value.int 411 0, Value.int 110 0, Value.str (Str.ofString "/claim/cut.py") 412] } : Obj)),
   (165, ({ cls := Value.type "frame", slots := #[some (Value.ref 164), some (Value.ref 3), some (Value.ref 161), none, some (Value.str (Str.ofString "emacs.plainlisp") 398), none, some (Value.ref 0)] } : Obj)),
   (167, noFields),
   (170, codeOf (objAt fr 172)),
   (174, noFields),
   (177, codeOf (objAt fr 179)),
   (181, noFields),
   (184, codeOf (objAt fr 186)),
   (188, noFields),
   (191, codeOf (objAt fr 193)),
   (195, noFields),
   (198, codeOf (objAt fr 200)),
   (202, noFields),
   (205, codeOf (objAt fr 207)),
   (209, noFields),
   (212, codeOf (objAt fr 214)),
   (216, noFields),
   (219, codeOf (objAt fr 221)),
   (227, ({ cls := Value.type "super", data := Data.fields #[Value.ref 224, Value.ref 224, Value.ref 224] } : Obj)),
   (228, ({ cls := Value.type "builtin_function_or_method", data := Data.fields #[Value.builtin "object.__init_subclass__", Value.ref 224] } : Obj)),
   (230, noFields),
   (233, codeOf (objAt fr 235)),
   (237, noFields),
   (238, codeOf (objAt fr 240)),
   (242, noFields),
   (243, codeOf (objAt fr 245)),
   (247, noFields),
   (250, codeOf (objAt fr 252)),
   (254, noFields),
   (257, codeOf (objAt fr 259)),
   (261, noFields),
   (262, codeOf (objAt fr 264))]
noncomputable def objsOver (P : Params) : List Obj := weave 300 (hd.heap_39 P) (restOver P (hd.heap_39 P))
noncomputable def takeEnts (k : Nat) (v : Value) (o : Obj) : Obj := match o.data with
  | .dict es _ => { o with data := .dict ⟨match es.toList with | e :: r => { e with val := v } :: r.take k | [] => []⟩ (k + 1) }
  | _ => o
noncomputable def takeFlds (k : Nat) (o : Obj) : Obj := match o.data with
  | .fields es => { o with data := .fields ⟨es.toList.take k⟩ }
  | _ => o
noncomputable def editAt (f : Obj → Obj) : Nat → List Obj → List Obj
  | _, [] => []
  | 0, o :: r => f o :: r
  | n + 1, o :: r => o :: editAt f n r
/-- the heap at a cut: its first n objects, the module's dict with k + 1 names, j fields of the code's -/
noncomputable def cutAt (n k j : Nat) (v : Value) (l : List Obj) : List Obj := editAt (takeEnts k v) 3 (editAt (takeFlds j) 12 (l.take n))
noncomputable def treeOf : BT → Nat → List Obj → BT
  | t, _, [] => t
  | t, i, o :: r => treeOf (t.ins i o) (i + 1) r
noncomputable def heapTop (P : Params) : Heap := ⟨⟨objsOver P⟩, {}⟩
noncomputable def treeTop (n k j : Nat) (v : Value) (P : Params) : BT := treeOf .nil 0 (cutAt n k j v (objsOver P))
noncomputable def envTop : Env := { scope := PySem.Challenge.rw_np0033_01.row.toRowW.1.main.scope, locals := mainNs, globals := mainNs, cells := [], code := .ref 13, frame := some 14 }

noncomputable abbrev pT : Program := PySem.Challenge.rw_np0033_01.row.prog
noncomputable def cTop : Code := .body (behindTheImports pT) envTop
noncomputable def stTop (n k j : Nat) (v : Value) (toks : Nat) (w : World) (os : OsState) : SharedT := ⟨treeTop n k j v w.params, n, {}, ⟨[]⟩, {}, toks, os⟩
abbrev frTop : List Frame := [topFrame ⟨0, 0, 0, 0⟩]
noncomputable def partTop (a n : Nat) : List Stmt := ((behindTheImports pT).drop a).take n
noncomputable def st0 := stTop 15 8 0 (.str "__main__" 164) 187
noncomputable def st1 := stTop 64 12 12 (.str "emacs.proprules" 215) 262
noncomputable def st2 := stTop 118 18 30 (.str "emacs.stickiness" 295) 345
noncomputable def st3 := stTop 159 25 48 (.str "emacs.plainlisp" 398) 406
noncomputable def st4 := stTop 229 26 51 (.str "emacs.plainlisp" 398) 497
noncomputable def st5 := stTop 265 32 69 (.str "law_np0033_01" 497) 550
noncomputable abbrev endTop (w : World) (os : OsState) : Shared := ⟨heapTop w.params, ⟨[]⟩, {}, 550, os⟩
theorem topPre (w : World) (os : OsState) : topGo treeTable pT w 11 (some (.ref 6)) 12 ⟨boot_heap w.params, ⟨[]⟩, boot_drawn, boot_toks, os⟩ (topStub pT) = some ((st0 w os).abs, ⟨denote treeTable cTop, cTop, ⟨0, 0, 0, 0⟩, frTop⟩) := by kernel_rfl
theorem topBlock (w : World) (os : OsState) : segRun treeTable pT w 11 (some (.ref 6)) 1 1 (st0 w os).abs (blockOf (behindTheImports pT) envTop cTop ⟨0, 0, 0, 0⟩ frTop) = some (.next, (st0 w os).abs, cTop, ⟨0, 0, 0, 0⟩) := by kernel_rfl
theorem topRun1 (w : World) (os : OsState) : segRunT treeTable pT w 11 (some (.ref 6)) 1 373 (st0 w os) (piecesOf (partTop 0 6) envTop cTop ⟨0, 0, 0, 0⟩ frTop) = some (.next, st1 w os, cTop, ⟨15, 0, 29, 34⟩) := by
  rw [Fast.te10110043849684766642, Fast.te14364793385576792824]; kernel_rfl
theorem topRun2 (w : World) (os : OsState) : segRunT treeTable pT w 11 (some (.ref 6)) 1 392 (st1 w os) (piecesOf (partTop 6 7) envTop cTop ⟨15, 0, 29, 34⟩ frTop) = some (.next, st2 w os, cTop, ⟨62, 0, 63, 102⟩) := by
  rw [Fast.te10110043849684766642, Fast.te14364793385576792824]; kernel_rfl
theorem topRun3 (w : World) (os : OsState) : segRunT treeTable pT w 11 (some (.ref 6)) 1 208 (st2 w os) (piecesOf (partTop 13 8) envTop cTop ⟨62, 0, 63, 102⟩ frTop) = some (.next, st3 w os, cTop, ⟨109, 0, 109, 5⟩) := by
  rw [Fast.te10110043849684766642, Fast.te14364793385576792824]; kernel_rfl
theorem topRun4 (w : World) (os : OsState) : segRunT treeTable pT w 11 (some (.ref 6)) 1 453 (st3 w os) (piecesOf (partTop 21 1) envTop cTop ⟨109, 0, 109, 5⟩ frTop) = some (.next, st4 w os, cTop, ⟨110, 0, 140, 19⟩) := by
  rw [Fast.te10110043849684766642, Fast.te14364793385576792824]; kernel_rfl
theorem topRun5 (w : World) (os : OsState) : segRunT treeTable pT w 11 (some (.ref 6)) 1 187 (st4 w os) (piecesOf (partTop 22 7) envTop cTop ⟨110, 0, 140, 19⟩ frTop) = some (.next, st5 w os, cTop, ⟨181, 0, 200, 90⟩) := by
  rw [Fast.te10110043849684766642, Fast.te14364793385576792824]; kernel_rfl
theorem topEnd (w : World) (os : OsState) : topRun treeTable pT w 11 (some (.ref 6)) 2 (st5 w os).abs ⟨doneF .next, cTop, ⟨181, 0, 200, 90⟩, frTop⟩ = some (endTop w os) := by kernel_rfl
theorem partsTop : behindTheImports pT = partTop 0 6 ++ (partTop 6 7 ++ (partTop 13 8 ++ (partTop 21 1 ++ (partTop 22 7 ++ [])))) := by kernel_rfl
theorem topRun_ok (w : World) (os : OsState) : topRun treeTable pT w 11 (some (.ref 6)) (12 + (1 + (373 + (392 + (208 + (453 + (187 + 2))))))) ⟨boot_heap w.params, ⟨[]⟩, boot_drawn, boot_toks, os⟩ (topStub pT) = some (endTop w os) := by
  refine go_top (topPre w os) (piece_block (topBlock w os) ?_)
  rw [partsTop]
  exact piece_app (segRun_of (topRun1 w os)) (piece_app (segRun_of (topRun2 w os)) (piece_app (segRun_of (topRun3 w os)) (piece_app (segRun_of (topRun4 w os)) (piece_app (segRun_of (topRun5 w os)) (topEnd w os)))))
theorem pair_eq {α β : Type} {a a' : α} {b b' : β} (x : a = a') (y : b = b') : (a, b) = (a', b') := by rw [x, y]
theorem hook_ok (w : World) (os : OsState) : Hook.obs (kHook Mine.hd.heap_39 hAs hk_ok) (endTop w os) = Hook.val (kHook Mine.hd.heap_39 hAs hk_ok) w := by kernel_rfl
theorem looks_ok (w : World) (os : OsState) : openSeen Mine.hd.view_39 [] (importedModules pT.main.body) (fun s => xlAt Mine.hd.view_39 [] s && recOk PySem.Challenge.rw_np0033_01.row.records s) true (endTop w os) = openGood Mine.hd.view_39 [] := by rw [Fast.te4187177175401517315]; kernel_rfl
theorem kept_ok (w : World) (os : OsState) : (staticsOk (importedModules pT.main.body) (boot_heap w.params) (heapTop w.params) && namesBound pT (heapTop w.params) && gensDone (endTop w os) && laidKept (boot_heap w.params) (heapTop w.params)) = true := by kernel_rfl
theorem opens_ok (w : World) : (fencedOpening treeTable pT w 3342).map (fun s => (s.heap, s.gens, s.drawn, s.toks)) = some (boot_heap w.params, Array.mk [], boot_drawn, boot_toks) :=
  boot_open (by kernel_rfl) (by kernel_rfl) (fun _ => by kernel_rfl) w
theorem left_ok : LeftO pT Mine.hd.view_39 [] (fun s => xlAt Mine.hd.view_39 [] s && recOk PySem.Challenge.rw_np0033_01.row.records s) (Hook.obs (kHook Mine.hd.heap_39 hAs hk_ok)) (Hook.val (kHook Mine.hd.heap_39 hAs hk_ok)) 3342 :=
  LeftO.of_pieces opens_ok (fun w => by kernel_rfl) topRun_ok (by kernel_rfl) (fun w => funext fun os => pair_eq (kept_ok w os) (pair_eq (looks_ok w os) (hook_ok w os)))
theorem names_ok : namesResolve pT = true := by rw [Fast.te8377067652309620493]; kernel_rfl
theorem roads_ok : noRoadLSs { strict := !(importedModules pT.main.body).all cThrough.contains, foot := none, bare := (["vars", "dir", "locals"] : List Str).filter (readsOut pT pT.main.body) } pT.main.body = true := by
  rw [Fast.te8326940854005059898]; kernel_rfl
theorem meet_ok : namesMeet pT pT.main.body (fun _ n => attrL n) = true := by rw [Fast.te17119622794617984870]; kernel_rfl
theorem bound_ok : PySem.Challenge.rw_np0033_01.bound'.all (fun n => !builtinNamed n || PySem.Challenge.rw_np0033_01.about == [n] || !PySem.Challenge.rw_np0033_01.reads n) = true := by kernel_rfl
theorem looksOpen_ok : looksOpen pT = true := by
  unfold looksOpen
  exact look_both (look_both (look_both (look_both (by kernel_rfl) names_ok) (by kernel_rfl)) roads_ok) meet_ok
theorem said_ok : PySem.Challenge.rw_np0033_01.wellSaid = true := by
  unfold OpenLaw.wellSaid OpenRow.wellSaid OpenRow.partSaid
  repeat' with_reducible refine look_both ?_ ?_
  all_goals first | with_reducible exact looksOpen_ok | with_reducible exact bound_ok | kernel_rfl
-- L0
/-- a goal kept out of sight while a hypothesis is taken apart -/
theorem hide {P : Prop} (h : ∀ G : Prop, (P → G) → G) : P := h P id
/-- a post kept out of sight -/
theorem opq {α : Type} {M : Model} {A : Around} {t : Sem α} {Q : α → Shared → Prop} {E : Value → Shared → Prop} {s : Shared} (h : ∀ Q' : α → Shared → Prop, (∀ a s', Q a s' → Q' a s') → wpAny M A t Q' E s) : wpAny M A t Q E s :=
  h Q (fun _ _ x => x)

theorem around_le {M : Model} {A A' : Around} {α : Type} {t : Sem α} {Q : α → Shared → Prop} {E : Value → Shared → Prop} {s : Shared}
    (h : wpAny M A t Q E s) (h1 : A'.handled = A.handled) (h2 : A'.frames = A.frames) (h3 : A'.guards = A.guards) (h4 : A'.depth ≤ A.depth) (h5 : A'.units ≤ A.units) :
    wpAny M A' t Q E s := fun Γ p hΓ => by
  refine Mine.hide ?_; intro Gq hGq
  obtain ⟨a, b, c, d, e⟩ := hΓ
  refine hGq ?_; clear hGq Gq
  exact h Γ p ⟨a.trans h1, Nat.le_trans b h4, fun l hl => c l (h2.trans hl), fun g hg => d g (h3.trans hg), Nat.le_trans e h5⟩

/-- what a call of a def that changes nothing old leaves -/
noncomputable def PEnd (g : Heap) (L : Addr) (s : Shared) (Post : Heap → Value → List (Addr × Obj) → Prop) (v : Value) (s' : Shared) : Prop :=
  ∃ h' tk' m' own, s' = { s with heap := h', toks := tk' } ∧ Fr g L h' m' ∧ News g L h' own ∧ Post h' v own

theorem PEnd.intro {g : Heap} {L : Addr} {s : Shared} {Post : Heap → Value → List (Addr × Obj) → Prop} {v : Value} {h' : Heap} {tk' : Nat} {m' : Str → Option Value} {own news : List (Addr × Obj)}
    (F : Fr g L h' m') (N : News g L h' news) (sub : ∀ p ∈ own, p ∈ news) (post : Post h' v own) : PEnd g L s Post v { s with heap := h', toks := tk' } :=
  ⟨h', tk', m', own, rfl, F, fun p hp => N p (sub p hp), post⟩

/-- the tale of a def that changes nothing old -/
noncomputable def Spec (w : World) (mean : ExcName → Option Value) (mg mb : Str → Option Value) (dp un : Nat) (f : Addr) (vs : List Value) (Pre : Heap → Prop) (Post : Heap → Value → List (Addr × Obj) → Prop) : Prop :=
  ∀ (gd : Option (List Code)) (cn : Str) (cs : Scope) (a : Addr) (ccd : Value) (cl : List (Str × Addr)) (outer : List Env) (A₀ : Around) (base h₀ : Heap) (L : Addr) (m : Str → Option Value) (news : List (Addr × Obj)) (s : Shared)
    (Q E : Value → Shared → Prop),
    Below A₀ base outer h₀ → Fr h₀ L s.heap m → (Mine.hd.heap_39 w.params).In h₀ → News h₀ L s.heap news → Top Mine.hd.view_39 (looseW Mine.hd.view_39 []) mean mg mb h₀ → cs.kind = .function → Pre s.heap →
    (∀ r own h' tk', Fr h₀ L h' m → News h₀ L h' (own ++ news) → (∀ b o, s.heap.get? b = some o → h'.get? b = some o) → (∀ p ∈ own, ∀ q ∈ news, @Ne Nat p.1 q.1) → Post h' r own → Q r { s with heap := h', toks := tk' }) →
    wpAny (model PySem.Challenge.rw_np0033_01.row.prog w) (ktrTop dp un gd cn cs L a ccd cl outer) (call (.ref f) vs) Q E s

section
variable {prog : Program} {w : World} {A₀ A : Around} {s : Shared} {base h₀ : Heap} {outer : List Env} {L : Addr} {m : Str → Option Value} {env : Env} {news : List (Addr × Obj)} {K : Frag}
  {name qual : Str} {params : Arguments} {body : List Stmt} {scope : Scope} {dV kV doc pm cdv ct oc : Value} {an od : Option Addr} {osl : Array (Option Value)} {f : Addr} {vs : List Value} {binds : List (Str × Value)}
  {p : Program} {loose : List Str} {mean : ExcName → Option Value} {mg mb : Str → Option Value} {Q E : Value → Shared → Prop}

theorem pend_ret (Post : Heap → Value → List (Addr × Obj) → Prop) {g : Heap} {L' : Addr} (hg : g = s.heap) (F : Fr h₀ L s.heap m) (N : News h₀ L s.heap news)
    (ret : ∀ r own h' tk', Fr h₀ L h' m → News h₀ L h' (own ++ news) → (∀ b o, s.heap.get? b = some o → h'.get? b = some o) → (∀ p ∈ own, ∀ q ∈ news, @Ne Nat p.1 q.1) → Post h' r own → Q r { s with heap := h', toks := tk' })
    {v : Value} {s' : Shared} (hl : PEnd g L' s Post v s') : Q v s' := by
  obtain ⟨h', tk', m', own, rfl, F', N', post⟩ := hl
  subst hg
  have up : ∀ b o, s.heap.get? b = some o → h'.get? b = some o := F'.keep
  have F2 : Fr h₀ L h' m := ⟨F.ns.at' fun o e => up _ o e, fun b o e => up b o (F.keep b o e), F.above⟩
  refine ret _ own h' tk' F2 (fun q hq => ?_) up (fun q hq q' hq' => ?_) post
  · rcases List.mem_append.mp hq with hq | hq
    · have z := N' q hq
      refine ⟨z.1, fun e => ?_, ?_⟩
      · obtain ⟨oL, _, _, hL, _⟩ := F.ns
        have z3 := z.2.2
        rw [e, hL] at z3; cases z3
      · cases q0 : h₀.get? q.1 with
        | none => rfl
        | some o => have := z.2.2; rw [F.keep _ _ q0] at this; cases this
    · exact ⟨up _ _ (N q hq).1, (N q hq).2⟩
  · intro e
    have z1 := (N' q hq).2.2
    have z2 := (N q' hq').1
    rw [show q.1 = q'.1 from e, z2] at z1; cases z1

theorem enterP (Post : Heap → Value → List (Addr × Obj) → Prop) (B : Below A₀ base outer h₀) (F : Fr h₀ L s.heap m) (X₀ : K.In h₀) (N : News h₀ L s.heap news) (T : Top p loose mean mg mb h₀) (hA : A.frames = some (env :: outer)) (hf : env.frame = some L) (hke : env.scope.kind = .function)
    (ret : ∀ r own h' tk', Fr h₀ L h' m → News h₀ L h' (own ++ news) → (∀ b o, s.heap.get? b = some o → h'.get? b = some o) → (∀ p ∈ own, ∀ q ∈ news, @Ne Nat p.1 q.1) → Post h' r own → Q r { s with heap := h', toks := tk' })
    (ho : K.lookup f = some ⟨oc, od, .func (fnOf name qual params body scope dV kV doc pm an cdv ct), osl⟩) (hcd : codeIn K cdv qual = true) (hroom : A.depth < recursionLimit)
    (hbind : BindsTo s (fnOf name qual params body scope dV kV doc pm an cdv ct) ⟨vs, []⟩ binds) (hloc : ∀ y ∈ binds, scope.names.lookup y.1 = some .local)
    (h : ∀ g L' h₁, g = s.heap → Fr g L' h₁ (fun y => binds.reverse.lookup y) → News g L' h₁ [] → Below A base (env :: outer) g → K.In g → Top p loose mean mg mb g →
      wpAny (model prog w) (A.deeper (envOf qual scope L' f cdv)) (execs body (envOf qual scope L' f cdv))
        (fun fl s' => PEnd g L' s Post (match fl with | .ret v => v | _ => .none) s')
        (fun _ _ => False)
        { s with heap := h₁, toks := s.toks + binds.length })
    (hco : scope.isCoroutine = false) (hgen : scope.isGenerator = false) (hk : scope.kind = .function)
    (hcell : ∀ x ∈ scope.names, x.2 ≠ .cell) : wpAny (model prog w) A (call (.ref f) vs) Q E s := by
  refine wpAny_call ?_
  have B₁ := pushX B F hf hke
  refine codeAny_call_def (fd := fnX name qual params body scope [] dV kV doc pm an cdv ct) (body := body) (binds := binds) hroom ((X₀.keeps F.keep) _ _ ho) rfl (T.nolimit.keeps F.keep) (codeRec_of (X₀.keeps F.keep) hcd) rfl hbind hcell hloc (fun h₁ hns hk₁ => ?_) hco hgen hk
  refine wpAny_mono (h s.heap s.heap.objs.size h₁ rfl ⟨hns, hk₁, Nat.le_refl _⟩ News.nil ⟨hA, B₁.stays, B₁.frames⟩ (X₀.keeps F.keep) (T.keeps F.keep)) (fun fl s' hl => ?_) fun _ _ y => y.elim
  exact pend_ret Post rfl F N ret hl

theorem enterPC (Post : Heap → Value → List (Addr × Obj) → Prop) (B : Below A₀ base outer h₀) (F : Fr h₀ L s.heap m) (X₀ : K.In h₀) (N : News h₀ L s.heap news) (T : Top p loose mean mg mb h₀) (hA : A.frames = some (env :: outer)) (hf : env.frame = some L) (hke : env.scope.kind = .function)
    (ret : ∀ r own h' tk', Fr h₀ L h' m → News h₀ L h' (own ++ news) → (∀ b o, s.heap.get? b = some o → h'.get? b = some o) → (∀ p ∈ own, ∀ q ∈ news, @Ne Nat p.1 q.1) → Post h' r own → Q r { s with heap := h', toks := tk' })
    (ho : K.lookup f = some ⟨oc, od, .func (fnOf name qual params body scope dV kV doc pm an cdv ct), osl⟩) (hcd : codeIn K cdv qual = true) (hroom : A.depth < recursionLimit)
    (hbind : BindsTo s (fnOf name qual params body scope dV kV doc pm an cdv ct) ⟨vs, []⟩ binds) (hkind : (binds.all fun y => scope.names.lookup y.1 == some .local || scope.names.lookup y.1 == some .cell) = true)
    (hnd : ((cellsFrom 0 scope.names []).map (·.1)).Nodup)
    (h : ∀ g L' h₁ tk cells, g = s.heap → Fr g L' h₁ (bindL (envOfC qual scope L' f cdv).kindOf binds fun _ => none) → News g L' h₁ cells →
      CellsAre (bindC (envOfC qual scope L' f cdv).kindOf binds fun _ => none) (cellsFrom (L' + 1) scope.names []) cells → Below A base (env :: outer) g → K.In g → Top p loose mean mg mb g →
      wpAny (model prog w) (A.deeper (envOfC qual scope L' f cdv)) (execs body (envOfC qual scope L' f cdv))
        (fun fl s' => PEnd g L' s Post (match fl with | .ret v => v | _ => .none) s')
        (fun _ _ => False)
        { s with heap := h₁, toks := tk })
    (hco : scope.isCoroutine = false) (hgen : scope.isGenerator = false) (hk : scope.kind = .function) : wpAny (model prog w) A (call (.ref f) vs) Q E s := by
  refine wpAny_call ?_
  have B₁ := pushX B F hf hke
  refine codeAny_call_function hroom ((X₀.keeps F.keep) _ _ ho) rfl hco hgen rfl (codeRec_of (X₀.keeps F.keep) hcd) (hbind _ _ _ _ ?_)
  refine wpAny_newFunctionEnv_cells hk (kindsX hkind _) fun env' he s' x => ?_
  subst he
  refine ⟨(T.nolimit.keeps F.keep).keeps x.toInCall.keep, codeAny_func ?_⟩
  refine Mine.hide ?_; intro Gq hGq
  obtain ⟨h₁, tk, rfl, _⟩ := x.done
  have hk₁ := x.toInCall.keep
  obtain ⟨cells, NC, Y⟩ := Cl.news (h₀ := s.heap) (Nat.le_refl _) fun n c hm => ⟨x.cell n c (lookup_of_mem_nodup (cellsFrom_names scope.names 0 (s.heap.objs.size + 1) [] [] rfl ▸ hnd) hm), x.above n c hm⟩
  refine hGq ?_; clear hGq Gq
  refine wpAny_mono (h s.heap s.heap.objs.size h₁ tk cells rfl ⟨x.toInCall.ns, hk₁, Nat.le_refl _⟩ NC Y ⟨hA, B₁.stays, B₁.frames⟩ (X₀.keeps F.keep) (T.keeps F.keep)) (fun fl s' hl => ?_) fun _ _ y => y.elim
  exact pend_ret Post rfl F N ret hl
end

/-- the values that a property list holds -/
inductive PV where
  | nil
  | int (i : Int)
  | tru
  | lst (ns : List Int)
  deriving DecidableEq

noncomputable def symD (n : Int) : PyData := .tuple [.str (Str.ofString "symbol"), .int n]
noncomputable def PV.py : PV → PyData
  | .nil => .none
  | .int i => .int i
  | .tru => .bool true
  | .lst ns => .tuple (.str (Str.ofString "list") :: ns.map symD)
noncomputable def entD (e : Int × PV) : PyData := .tuple [.int e.1, e.2.py]
noncomputable def plD (P : List (Int × PV)) : PyData := .list (P.map entD)

noncomputable def Rd (h : Heap) (v : Value) (d : PyData) : Prop := ∃ as, Reads h v d as
inductive RdAll (h : Heap) : List Value → List PyData → Prop
  | nil : RdAll h [] []
  | cons {v : Value} {d : PyData} {vs : List Value} {ds : List PyData} : Rd h v d → RdAll h vs ds → RdAll h (v :: vs) (d :: ds)

theorem Rd.keeps {h h' : Heap} (hk : ∀ b o, h.get? b = some o → h'.get? b = some o) {v : Value} {d : PyData} (x : Rd h v d) : Rd h' v d := let ⟨as, r⟩ := x; ⟨as, Reads.keeps hk r⟩
theorem RdAll.keeps {h h' : Heap} (hk : ∀ b o, h.get? b = some o → h'.get? b = some o) {vs : List Value} {ds : List PyData} (x : RdAll h vs ds) : RdAll h' vs ds := by
  induction x with
  | nil => exact .nil
  | cons a _ ih => exact .cons (a.keeps hk) ih
theorem RdAll.of_reads {h : Heap} {vs : List Value} : ∀ {ds : List PyData} {as : List Addr}, ReadsAll h vs ds as → RdAll h vs ds := by
  induction vs with
  | nil => intro ds as x; cases x; exact .nil
  | cons v vs ih => intro ds as x; cases x with | cons a b => exact .cons ⟨_, a⟩ (ih b)
theorem RdAll.to_reads {h : Heap} {vs : List Value} {ds : List PyData} (x : RdAll h vs ds) : ∃ as, ReadsAll h vs ds as := by
  induction x with
  | nil => exact ⟨_, .nil⟩
  | cons a _ ih =>
    obtain ⟨_, a⟩ := a
    obtain ⟨_, b⟩ := ih
    exact ⟨_, .cons a b⟩
theorem RdAll.length {h : Heap} {vs : List Value} {ds : List PyData} (x : RdAll h vs ds) : vs.length = ds.length := by
  induction x with
  | nil => rfl
  | cons _ _ ih => simp [ih]
theorem RdAll.get {h : Heap} {vs : List Value} {ds : List PyData} (x : RdAll h vs ds) : ∀ (i : Nat) (v : Value), vs[i]? = some v → ∃ d, ds[i]? = some d ∧ Rd h v d := by
  induction x with
  | nil => intro i v e; cases i <;> cases e
  | cons a _ ih =>
    intro i v e
    cases i with
    | zero => simp only [List.getElem?_cons_zero, Option.some.injEq] at e ⊢; subst e; exact ⟨_, rfl, a⟩
    | succ i => simpa using ih i v (by simpa using e)
theorem RdAll.append {h : Heap} {vs ws : List Value} {ds es : List PyData} (x : RdAll h vs ds) (y : RdAll h ws es) : RdAll h (vs ++ ws) (ds ++ es) := by
  induction x with
  | nil => exact y
  | cons a _ ih => exact .cons a ih
theorem Rd.none_inv {h : Heap} {v : Value} (x : Rd h v .none) : v = .none := by obtain ⟨_, r⟩ := x; cases r; rfl
theorem Rd.int_inv {h : Heap} {v : Value} {i : Int} (x : Rd h v (.int i)) : ∃ t, v = .int i t := by obtain ⟨_, r⟩ := x; cases r; exact ⟨_, rfl⟩
theorem Rd.str_inv {h : Heap} {v : Value} {i : Str} (x : Rd h v (.str i)) : ∃ t, v = .str i t := by obtain ⟨_, r⟩ := x; cases r; exact ⟨_, rfl⟩
theorem Rd.bool_inv {h : Heap} {v : Value} {b : Bool} (x : Rd h v (.bool b)) : v = .bool b := by obtain ⟨_, r⟩ := x; cases r; rfl
theorem Rd.tuple_inv {h : Heap} {v : Value} {ds : List PyData} (x : Rd h v (.tuple ds)) : ∃ a vs, v = .ref a ∧ IsTup h a vs.toArray ∧ RdAll h vs ds := by
  obtain ⟨_, r⟩ := x
  cases r with
  | tuple h1 h2 h3 h4 => exact ⟨_, _, rfl, ⟨_, h1, h2, _, h3⟩, .of_reads h4⟩
theorem Rd.list_inv {h : Heap} {v : Value} {ds : List PyData} (x : Rd h v (.list ds)) : ∃ a vs, v = .ref a ∧ h.IsList a vs.toArray ∧ RdAll h vs ds := by
  obtain ⟨_, r⟩ := x
  cases r with
  | list h1 h2 h3 h4 => exact ⟨_, _, rfl, ⟨_, h1, h2, _, h3⟩, .of_reads h4⟩
theorem Rd.tuple {h : Heap} {a : Addr} {vs : List Value} {ds : List PyData} (x : IsTup h a vs.toArray) (y : RdAll h vs ds) : Rd h (.ref a) (.tuple ds) := by
  obtain ⟨o, h1, h2, n, h3⟩ := x
  obtain ⟨as, y⟩ := y.to_reads
  exact ⟨_, .tuple h1 h2 h3 y⟩
theorem Rd.list {h : Heap} {a : Addr} {vs : List Value} {ds : List PyData} (x : h.IsList a vs.toArray) (y : RdAll h vs ds) : Rd h (.ref a) (.list ds) := by
  obtain ⟨o, h1, h2, n, h3⟩ := x
  obtain ⟨as, y⟩ := y.to_reads
  exact ⟨_, .list h1 h2 h3 y⟩
theorem Rd.none {h : Heap} : Rd h .none .none := ⟨_, .none⟩
theorem Rd.int {h : Heap} {i : Int} {t : Tok} : Rd h (.int i t) (.int i) := ⟨_, .int i t⟩
theorem Rd.str {h : Heap} {i : Str} {t : Tok} : Rd h (.str i t) (.str i) := ⟨_, .str i t⟩
theorem Rd.bool {h : Heap} {b : Bool} : Rd h (.bool b) (.bool b) := ⟨_, .bool b⟩

/-- the four ways of a value -/
theorem pv_ways {h : Heap} {v : Value} {V : PV} (x : Rd h v V.py) :
    (V = .nil ∧ v = .none) ∨ (∃ i t, V = .int i ∧ v = .int i t) ∨ (V = .tru ∧ v = .bool true) ∨
    (∃ ns a t vs, V = .lst ns ∧ v = .ref a ∧ IsTup h a (Value.str (Str.ofString "list") t :: vs).toArray ∧ RdAll h vs (ns.map symD)) := by
  cases V with
  | nil => exact .inl ⟨rfl, x.none_inv⟩
  | int i => obtain ⟨t, e⟩ := x.int_inv; exact .inr (.inl ⟨i, t, rfl, e⟩)
  | tru => exact .inr (.inr (.inl ⟨rfl, x.bool_inv⟩))
  | lst ns =>
    obtain ⟨a, vs, e, h1, h2⟩ := x.tuple_inv
    cases h2 with
    | cons p q =>
      obtain ⟨t, rfl⟩ := p.str_inv
      exact .inr (.inr (.inr ⟨ns, a, t, _, rfl, e, h1, q⟩))

noncomputable def ValP (v : Value) (_ : Heap) (r : Value) (own : List (Addr × Obj)) : Prop := own = [] ∧ r = v

section
variable {w : World} {mean : ExcName → Option Value} {mg mb : Str → Option Value} {dp un : Nat} {f : Addr} {vs : List Value} {Pre : Heap → Prop} {Post : Heap → Value → List (Addr × Obj) → Prop}
  {A A₀ : Around} {base h₀ : Heap} {outer : List Env} {L a : Addr} {m : Str → Option Value} {news : List (Addr × Obj)} {s : Shared} {Q E : Value → Shared → Prop} {cn : Str} {cs : Scope} {ccd : Value} {cl : List (Str × Addr)}
theorem spec_use (S : Spec w mean mg mb dp un f vs Pre Post) (B : Below A₀ base outer h₀) (F : Fr h₀ L s.heap m) (X : (Mine.hd.heap_39 w.params).In h₀) (N : News h₀ L s.heap news) (T : Top Mine.hd.view_39 (looseW Mine.hd.view_39 []) mean mg mb h₀)
    (hA : A.frames = some (envX cn cs L a ccd cl :: outer)) (hh : A.handled = none) (hk : cs.kind = .function) (hd : A.depth ≤ dp) (hu : A.units ≤ un) (hpre : Pre s.heap)
    (ret : ∀ r own h' tk', Fr h₀ L h' m → News h₀ L h' (own ++ news) → (∀ b o, s.heap.get? b = some o → h'.get? b = some o) → (∀ p ∈ own, ∀ q ∈ news, @Ne Nat p.1 q.1) → Post h' r own → Q r { s with heap := h', toks := tk' }) :
    wpAny (model PySem.Challenge.rw_np0033_01.row.prog w) A (call (.ref f) vs) Q E s :=
  around_le (S A.guards cn cs a ccd cl outer A₀ base h₀ L m news s Q E B F X N T hk hpre ret) hh hA rfl hd hu
theorem spec_useV {v : Value} (S : Spec w mean mg mb dp un f vs Pre (ValP v)) (B : Below A₀ base outer h₀) (F : Fr h₀ L s.heap m) (X : (Mine.hd.heap_39 w.params).In h₀) (N : News h₀ L s.heap news) (T : Top Mine.hd.view_39 (looseW Mine.hd.view_39 []) mean mg mb h₀)
    (hA : A.frames = some (envX cn cs L a ccd cl :: outer)) (hh : A.handled = none) (hk : cs.kind = .function) (hd : A.depth ≤ dp) (hu : A.units ≤ un) (hpre : Pre s.heap)
    (ret : ∀ h' tk', Fr h₀ L h' m → News h₀ L h' news → (∀ b o, s.heap.get? b = some o → h'.get? b = some o) → Q v { s with heap := h', toks := tk' }) :
    wpAny (model PySem.Challenge.rw_np0033_01.row.prog w) A (call (.ref f) vs) Q E s :=
  spec_use S B F X N T hA hh hk hd hu hpre fun r own h' tk' F' N' k _ po => by
    obtain ⟨rfl, rfl⟩ := po
    exact ret h' tk' F' N' k
end

theorem kitAt_tup {h : Heap} {a : Addr} {items : Array Value} (x : IsTup h a items) : KitAt a "tuple" h := let ⟨o, ho, hc, _⟩ := x; ⟨o, ho, hc⟩

/-- an object of a class -/
structure InsF (h : Heap) (x C dx : Addr) (es : List DictEntry) (n : Nat) : Prop where
  ins : h.get? x = some (instObj C dx)
  dict : h.get? dx = some (dictOf es n)
theorem InsF.keeps {h h' : Heap} {x C dx : Addr} {es : List DictEntry} {n : Nat} (I : InsF h x C dx es n) (hk : ∀ b o, h.get? b = some o → h'.get? b = some o) : InsF h' x C dx es n := ⟨hk _ _ I.ins, hk _ _ I.dict⟩
theorem InsF.at {h h' : Heap} {x C dx : Addr} {es : List DictEntry} {n : Nat} (I : InsF h x C dx es n) (hk : ∀ b o, h.get? b = some o → h'.get? b = some o) :
    PySem.W.InstAt h' x (instObj C dx) C (some (dictOf es n)) := ⟨hk _ _ I.ins, rfl, rfl, hk _ _ I.dict⟩
-- L1
abbrev strK (P : Params) (x : String) (t : Tok) (v : Value) : DictEntry := ⟨PyData.keyHash P (Str.ofString x), .str (Str.ofString x) t, v⟩
abbrev lispEs (P : Params) (t1 t2 t3 t4 t5 : Tok) (pl : Addr) : List DictEntry :=
  [strK P "first" t1 (.int 100 t2), strK P "nil" t3 .none, strK P "true" t4 (.bool true), strK P "plists" t5 (.ref pl)]
abbrev rulesEs (P : Params) (t : Nat → Tok) (lp df : Addr) : List DictEntry :=
  [strK P "lisp" (t 0) (.ref lp), strK P "nil" (t 1) .none, strK P "true" (t 2) (.bool true), strK P "category" (t 3) (.int 100 (t 4)), strK P "front_sticky" (t 5) (.int 101 (t 6)),
   strK P "rear_nonsticky" (t 7) (.int 102 (t 8)), strK P "evaporate" (t 9) (.int 103 (t 10)), strK P "priority" (t 11) (.int 104 (t 12)), strK P "defaults" (t 13) (.ref df)]
/-- the rules, without their defaults -/
noncomputable def RulesAt (P : Params) (h : Heap) (r lp df : Addr) : Prop :=
  ∃ dx n t ldx ln t1 t2 t3 t4 t5 pl, InsF h r 59 dx (rulesEs P t lp df) n ∧ InsF h lp 224 ldx (lispEs P t1 t2 t3 t4 t5 pl) ln
theorem RulesAt.keeps {P : Params} {h h' : Heap} {r lp df : Addr} (x : RulesAt P h r lp df) (hk : ∀ b o, h.get? b = some o → h'.get? b = some o) : RulesAt P h' r lp df := by
  obtain ⟨dx, n, t, ldx, ln, t1, t2, t3, t4, t5, pl, a, b⟩ := x
  exact ⟨dx, n, t, ldx, ln, t1, t2, t3, t4, t5, pl, a.keeps hk, b.keeps hk⟩
noncomputable def PV.mem : PV → Int → Bool
  | .nil, _ => false
  | .int _, _ => true
  | .tru, _ => true
  | .lst ns, n => decide (n ∈ ns)
theorem seqIndex_zero (n : Nat) : seqIndex? 0 (n + 1) = some 0 := by
  simp [seqIndex?]
theorem item_tup0 {prog : Program} {w : World} {A : Around} {E : Value → Shared → Prop} {s : Shared} {value slice : PySem.Expr} {t : Addr} {l : List Value} {u : Tok} {x : Value} {Q : Value → Shared → Prop} (ht : IsTup s.heap t (x :: l).toArray) (h : Q x s)
    (hs : subscripted slice false (.ref t) (.int 0 u) = operate [.ref t, .int 0 u] (getItem (.ref t) (.int 0 u)) := by with_unfolding_all rfl) :
    wpAny (model prog w) A (subscriptTail value slice (.ref t) (.int 0 u)) Q E s :=
  item_tupleT ht (by decide) (by decide) (seqIndex_zero _) rfl h hs

theorem sliceT1 {prog : Program} {w : World} {A : Around} {E : Value → Shared → Prop} {s : Shared} {h₀ : Heap} {L : Addr} {m : Str → Option Value} {news : List (Addr × Obj)} {value slice : PySem.Expr} {t : Addr} {x : Value} {l : List Value} {u : Tok} {Q : Value → Shared → Prop}
    (F : Fr h₀ L s.heap m) (N : News h₀ L s.heap news) (ht : IsTup s.heap t (x :: l).toArray) (hl : l.length ≤ 1000)
    (h : ∀ D h', Fr h₀ L h' m → News h₀ L h' ((D, ({ cls := .type "tuple", data := .seq l.toArray } : Obj)) :: news) → (∀ p ∈ news, p.1 < D) → Q (.ref D) { s with heap := h' })
    (hs : subscripted slice false (.ref t) (.ref s.heap.objs.size) = operate [.ref s.heap.objs.size, .ref t] (getItem (.ref t) (.ref s.heap.objs.size)) := by with_unfolding_all rfl)
    (hg : ∀ r, letTemporaryGo value (.ref t) r = pure () := by intro _; with_unfolding_all rfl) :
    wpAny (model prog w) A (subscriptTail value slice (.ref t) (.ref s.heap.objs.size)) Q E { s with heap := s.heap.push { cls := .type "slice", data := .fields #[.int 1 u, .none, .none] } } :=
  slice_tuple_from (a := 1) F N ht (by decide) (by simp) (fun h' F' N' => h _ h' F' (by simpa using N') fun p hp => Nat.lt_succ_of_lt (Heap.lt_size (N p hp).1)) hs hg (by simp; rw [sizeLine_eq]; omega)

theorem listT {prog : Program} {w : World} {A : Around} {E : Value → Shared → Prop} {s : Shared} {h₀ : Heap} {L b : Addr} {m : Str → Option Value} {news : List (Addr × Obj)} {zs : List Value} {Q : Value → Shared → Prop} (F : Fr h₀ L s.heap m) (N : News h₀ L s.heap news)
    (hb : IsTup s.heap b zs.toArray) (hl : zs.length ≤ 1000)
    (h : ∀ D c h', Fr h₀ L h' m → News h₀ L h' ((D, listOf zs.toArray c) :: news) → (∀ q ∈ news, q.1 < D) → Q (.ref D) { s with heap := h' }) : wpAny (model prog w) A (call (.type "list") [.ref b]) Q E s :=
  list_copyKT F N hb (fun D c h' F' N' l1 => h D c h' F' N' l1) (by simp; rw [sizeLine_eq]; omega)

theorem PEnd.one {g : Heap} {L : Addr} {s : Shared} {Post : Heap → Value → List (Addr × Obj) → Prop} {v : Value} {h' : Heap} {tk' : Nat} {m' : Str → Option Value} {x : Addr × Obj} {news : List (Addr × Obj)}
    (F : Fr g L h' m') (N : News g L h' news) (hx : x ∈ news) (post : Post h' v [x]) : PEnd g L s Post v { s with heap := h', toks := tk' } :=
  PEnd.intro F N (fun _ hp => List.mem_singleton.mp hp ▸ hx) post
theorem PEnd.zero {g : Heap} {L : Addr} {s : Shared} {Post : Heap → Value → List (Addr × Obj) → Prop} {v : Value} {h' : Heap} {tk' : Nat} {m' : Str → Option Value}
    (F : Fr g L h' m') (post : Post h' v []) : PEnd g L s Post v { s with heap := h', toks := tk' } :=
  PEnd.intro (news := []) F News.nil (fun _ hp => hp) post
theorem PEnd.val {g : Heap} {L : Addr} {s : Shared} {v r : Value} {h' : Heap} {tk' : Nat} {m' : Str → Option Value} (F : Fr g L h' m') (e : r = v) : PEnd g L s (ValP v) r { s with heap := h', toks := tk' } :=
  PEnd.zero F ⟨rfl, e⟩

noncomputable def IntP (i : Int) (_ : Heap) (r : Value) (own : List (Addr × Obj)) : Prop := own = [] ∧ ∃ t, r = .int i t
section
variable {w : World} {mean : ExcName → Option Value} {mg mb : Str → Option Value} {dp un : Nat} {f : Addr} {vs : List Value} {Pre : Heap → Prop} {Post : Heap → Value → List (Addr × Obj) → Prop}
  {A A₀ : Around} {base h₀ : Heap} {outer : List Env} {L a : Addr} {m : Str → Option Value} {news : List (Addr × Obj)} {s : Shared} {Q E : Value → Shared → Prop} {cn : Str} {cs : Scope} {ccd : Value} {cl : List (Str × Addr)}
theorem spec_useI {i : Int} (S : Spec w mean mg mb dp un f vs Pre (IntP i)) (B : Below A₀ base outer h₀) (F : Fr h₀ L s.heap m) (X : (Mine.hd.heap_39 w.params).In h₀) (N : News h₀ L s.heap news) (T : Top Mine.hd.view_39 (looseW Mine.hd.view_39 []) mean mg mb h₀)
    (hA : A.frames = some (envX cn cs L a ccd cl :: outer)) (hh : A.handled = none) (hk : cs.kind = .function) (hd : A.depth ≤ dp) (hu : A.units ≤ un) (hpre : Pre s.heap)
    (ret : ∀ t h' tk', Fr h₀ L h' m → News h₀ L h' news → (∀ b o, s.heap.get? b = some o → h'.get? b = some o) → Q (.int i t) { s with heap := h', toks := tk' }) :
    wpAny (model PySem.Challenge.rw_np0033_01.row.prog w) A (call (.ref f) vs) Q E s :=
  spec_use S B F X N T hA hh hk hd hu hpre fun r own h' tk' F' N' k _ po => by
    obtain ⟨rfl, t, rfl⟩ := po
    exact ret t h' tk' F' N' k
end
-- L2
/-- a place where the walk is to wait -/
@[irreducible] def Stop (P : Prop) : Prop := P
theorem Stop.of {P : Prop} (h : Stop P) : P := by unfold Stop at h; exact h
theorem Stop.mk {P : Prop} (h : P) : Stop P := by unfold Stop; exact h

/-- the end of a turn that leaves the ledger as it was -/
noncomputable def TEnd (h₀ : Heap) (L : Addr) (m : Str → Option Value) (s₁ : Shared) (led : List (Addr × Obj)) (P : Prop) (s₂ : Shared) : Prop :=
  ∃ h' tk', s₂ = { s₁ with heap := h', toks := tk' } ∧ Fr h₀ L h' m ∧ News h₀ L h' led ∧ P
theorem TEnd.intro {h₀ : Heap} {L : Addr} {m : Str → Option Value} {s₁ : Shared} {led news' : List (Addr × Obj)} {P : Prop} {h' : Heap} {tk' : Nat} (F : Fr h₀ L h' m) (N : News h₀ L h' news') (sub : ∀ p ∈ led, p ∈ news') (p : P) :
    TEnd h₀ L m s₁ led P { s₁ with heap := h', toks := tk' } := ⟨h', tk', rfl, F, fun q hq => N q (sub q hq), p⟩
theorem TEnd.same {h₀ : Heap} {L : Addr} {m : Str → Option Value} {s₁ : Shared} {led : List (Addr × Obj)} {P : Prop} {h' : Heap} {tk' : Nat} (F : Fr h₀ L h' m) (N : News h₀ L h' led) (p : P) :
    TEnd h₀ L m s₁ led P { s₁ with heap := h', toks := tk' } := ⟨h', tk', rfl, F, N, p⟩

section
variable {prog : Program} {w : World} {A : Around} {h₀ : Heap} {L : Addr} {m : Str → Option Value} {env : Env} {ct elt : PySem.Expr} {x : Str} {scope : Scope} {cl : List (Str × Addr)} {s : Shared} {S : List (Addr × Obj) → Prop} {P : Nat → Value → Prop}
  {Fin : List Value → List (Addr × Obj) → Prop} {news : List (Addr × Obj)} {n : Nat}

/-- a comprehension with a test, by what holds of the list that it grows -/
theorem restT_ind (J : Nat → List Value → Prop) (hS : S news) (h0 : J 0 []) (fin : ∀ ys, J n ys → Fin ys news)
    (turn : ∀ i ys v I oI C oC D m₂ h tk (E' : Value → Shared → Prop), i < n → J i ys → P i v → LCg.NsObj oC m₂ → m₂ x = some v → Fr h₀ L h m → News h₀ L h ((I, oI) :: (C, oC) :: (D, LCg.lst ys) :: news) → LCg.Off3 I C D news → ((@Ne Nat I C) ∧ (@Ne Nat I D) ∧ (@Ne Nat C D)) →
      wpAny (model prog w) A (isTrue ct (compEnvC scope cl C env) (eval ct (compEnvC scope cl C env))) (fun ok s' => if ok = true then
          wpAny (model prog w) A (eval elt (compEnvC scope cl C env)) (fun y s'' => TEnd h₀ L m { s with heap := h, toks := tk } ((I, oI) :: (C, oC) :: (D, LCg.lst ys) :: news) (J (i + 1) (ys ++ [y])) s'') E' s'
        else TEnd h₀ L m { s with heap := h, toks := tk } ((I, oI) :: (C, oC) :: (D, LCg.lst ys) :: news) (J (i + 1) ys) s') E' { s with heap := h, toks := tk }) :
    LCt.CompRestT prog w A h₀ L m env ct elt x scope cl s S P Fin n 0 [] news := by
  have key : ∀ (k i : Nat) (ys : List Value), i + k = n → J i ys → LCt.CompRestT prog w A h₀ L m env ct elt x scope cl s S P Fin k i ys news := by
    intro k
    induction k with
    | zero =>
      intro i ys e hJ
      exact LCt.CompRestT.zero (fin ys (by rw [← e]; exact hJ))
    | succ k ih =>
      intro i ys e hJ
      refine LCt.CompRestT.succ fun v I oI C oC D m₂ h tk E' hv hC hx F N off ne => ?_
      refine wpAny_mono (turn i ys v I oI C oC D m₂ h tk E' (by omega) hJ hv hC hx F N off ne) (fun ok s' hq => ?_) fun _ _ y => y
      cases ok with
      | true =>
        simp only [if_true] at hq ⊢
        refine wpAny_mono hq (fun y s'' hr => ?_) fun _ _ y => y
        refine Mine.hide ?_; intro Gq hGq
        obtain ⟨h', tk', e1, F', N', hJ'⟩ := hr
        refine hGq ?_; clear hGq Gq
        exact ⟨h', tk', news, e1, F', N', off, hS, ih (i + 1) _ (by omega) hJ'⟩
      | false =>
        simp only [Bool.false_eq_true, if_false] at hq ⊢
        refine Mine.hide ?_; intro Gq hGq
        obtain ⟨h', tk', e1, F', N', hJ'⟩ := hq
        refine hGq ?_; clear hGq Gq
        exact ⟨h', tk', news, e1, F', N', off, hS, ih (i + 1) _ (by omega) hJ'⟩
  exact key n 0 [] (by omega) h0

end
/-- plist_find -/
noncomputable def findP : List (Int × PV) → Int → Int
  | [], _ => -1
  | e :: r, n => if e.1 = n then 0 else (if findP r n < 0 then -1 else findP r n + 1)
/-- the value held -/
noncomputable def heldP : List (Int × PV) → Int → Option PV
  | [], _ => none
  | e :: r, n => if e.1 = n then some e.2 else heldP r n
theorem findP_ge (P : List (Int × PV)) (n : Int) : -1 ≤ findP P n := by
  induction P with
  | nil => simp [findP]
  | cons e r ih =>
    simp only [findP]
    split
    · omega
    · split <;> omega
theorem findP_at (P : List (Int × PV)) (n : Int) : ∀ (k : Nat) (e : Int × PV), P[k]? = some e → e.1 = n → (∀ j, j < k → ∀ e', P[j]? = some e' → e'.1 ≠ n) → findP P n = k := by
  induction P with
  | nil => intro k e h; simp at h
  | cons a r ih =>
    intro k e h he hn
    cases k with
    | zero => simp at h; subst h; simp [findP, he]
    | succ k =>
      have h0 : a.1 ≠ n := hn 0 (by omega) a (by simp)
      have := ih k e (by simpa using h) he (fun j hj e' he' => hn (j + 1) (by omega) e' (by simpa using he'))
      simp only [findP, if_neg h0, this]
      rw [if_neg (by omega)]
      omega
theorem findP_none (P : List (Int × PV)) (n : Int) (h : ∀ (j : Nat) e', P[j]? = some e' → e'.1 ≠ n) : findP P n = -1 := by
  induction P with
  | nil => rfl
  | cons a r ih =>
    have h0 : a.1 ≠ n := h 0 a (by simp)
    have := ih (fun j e' he' => h (j + 1) e' (by simpa using he'))
    simp [findP, h0, this]
theorem heldP_find (P : List (Int × PV)) (n : Int) : (findP P n < 0 ∧ heldP P n = none) ∨ (∃ (k : Nat) (V : PV), findP P n = k ∧ P[k]? = some (n, V) ∧ heldP P n = some V) := by
  induction P with
  | nil => left; simp [findP, heldP]
  | cons a r ih =>
    by_cases h0 : a.1 = n
    · right
      refine ⟨0, a.2, by simp [findP, h0], ?_, by simp [heldP, h0]⟩
      obtain ⟨a1, a2⟩ := a
      simp at h0; subst h0; simp
    · rcases ih with ⟨h1, h2⟩ | ⟨k, V, h1, h2, h3⟩
      · left; simp [findP, heldP, h0, h1, h2]
      · right
        refine ⟨k + 1, V, ?_, by simpa using h2, by simp [heldP, h0, h3]⟩
        simp only [findP, if_neg h0]
        rw [if_neg (by omega)]
        omega

theorem item_list_at {prog : Program} {w : World} {A : Around} {E : Value → Shared → Prop} {s : Shared} {value slice : PySem.Expr} {l : Addr} {vs : List Value} {k : Int} {u : Tok} {v : Value} {Q : Value → Shared → Prop}
    (hl : s.heap.IsList l vs.toArray) (h0 : 0 ≤ k) (hhi : k < 2 ^ 63) (hx : vs[k.toNat]? = some v) (h : Q v s)
    (hs : subscripted slice false (.ref l) (.int k u) = operate [.ref l, .int k u] (getItem (.ref l) (.int k u)) := by with_unfolding_all rfl) :
    wpAny (model prog w) A (subscriptTail value slice (.ref l) (.int k u)) Q E s :=
  tail_any hl.typeIs slot_list_getitem.lookup (wpAny_getItem_list hl h0 hhi (by simpa using hx) h) hs
theorem ent_inv {h : Heap} {v : Value} {e : Int × PV} (x : Rd h v (entD e)) : ∃ a t y, v = .ref a ∧ IsTup h a [Value.int e.1 t, y].toArray ∧ Rd h y e.2.py := by
  obtain ⟨a, vs, e1, h1, h2⟩ := x.tuple_inv
  cases h2 with
  | cons p q =>
    cases q with
    | cons q r =>
      cases r
      obtain ⟨t, rfl⟩ := p.int_inv
      exact ⟨a, t, _, e1, h1, q⟩

theorem len_base {prog : Program} {w : World} {A : Around} {E : Value → Shared → Prop} {s : Shared} {l : Addr} {vs : List Value} {k : Nat} {Q : Value → Shared → Prop} (hl : s.heap.IsList l vs.toArray) (e : vs.length = k) (hk : k ≤ 1000)
    (h : ∀ t tk, Q (.int (k : Int) t) { s with toks := tk }) : wpAny (model prog w) A (call (.builtin "len") [.ref l]) Q E s := by
  subst e
  have z := h
  refine len_list hl (by simp; omega) ?_
  simpa using h _ _

/-- what a look into a property list finds -/
noncomputable def Got (h : Heap) (v : Value) (P : List (Int × PV)) (n : Int) (o : Option Value) : Prop :=
  (o = none ∧ heldP P n = none ∧ findP P n < 0) ∨
  ∃ (k : Nat) (V : PV) (b : Addr) (vs : List Value) (ea : Addr) (et : Tok) (y : Value), o = some y ∧ heldP P n = some V ∧ findP P n = k ∧ k < 2 ^ 60 ∧ v = .ref b ∧ h.IsList b vs.toArray ∧ vs[k]? = some (.ref ea) ∧ IsTup h ea [Value.int n et, y].toArray ∧ Rd h y V.py
theorem Got.keeps {h h' : Heap} {v : Value} {P : List (Int × PV)} {n : Int} {o : Option Value} (x : Got h v P n o) (hk : ∀ b o, h.get? b = some o → h'.get? b = some o) : Got h' v P n o := by
  rcases x with x | ⟨k, V, b, vs, ea, et, y, a1, a2, a3, a9, a4, a5, a6, a7, a8⟩
  · exact .inl x
  · exact .inr ⟨k, V, b, vs, ea, et, y, a1, a2, a3, a9, a4, a5.at fun o e => hk _ o e, a6, a7.keeps hk, a8.keeps hk⟩
theorem got_of {h : Heap} {v : Value} {P : List (Int × PV)} (x : Rd h v (plD P)) (hP : P.length ≤ 100) (n : Int) : ∃ o, Got h v P n o := by
  obtain ⟨b, vs, rfl, h1, h2⟩ := x.list_inv
  have hvl : vs.length = P.length := by simpa using h2.length
  rcases heldP_find P n with ⟨a1, a2⟩ | ⟨k, V, a1, a2, a3⟩
  · exact ⟨none, .inl ⟨rfl, a2, a1⟩⟩
  · have hlt : k < P.length := (List.getElem?_eq_some_iff.mp a2).1
    obtain ⟨u, hu⟩ : ∃ u, vs[k]? = some u := ⟨vs[k]'(by omega), by simp⟩
    obtain ⟨d, hd1, hd2⟩ := h2.get _ u hu
    simp only [List.getElem?_map, a2, Option.map_some, Option.some.injEq] at hd1
    subst hd1
    obtain ⟨ea, et, y, rfl, i1, i2⟩ := ent_inv hd2
    exact ⟨some y, .inr ⟨k, V, b, vs, ea, et, y, rfl, a3, a1, by omega, rfl, h1, hu, i1, i2⟩⟩
/-- the value that a look gives, nil where there is none -/
noncomputable def gotV (o : Option Value) : Value := o.getD .none
noncomputable def heldV (P : List (Int × PV)) (n : Int) : PV := (heldP P n).getD .nil
theorem Got.rd {h : Heap} {v : Value} {P : List (Int × PV)} {n : Int} {o : Option Value} (x : Got h v P n o) : Rd h (gotV o) (heldV P n).py := by
  rcases x with ⟨rfl, x2, x3⟩ | ⟨k, V, b, vs, ea, et, y, rfl, a2, a3, _, a4, a5, a6, a7, a8⟩
  · simp only [gotV, heldV, x2, Option.getD_none]; exact Rd.none
  · simp only [gotV, heldV, a2, Option.getD_some]; exact a8
theorem Got.isSome {h : Heap} {v : Value} {P : List (Int × PV)} {n : Int} {o : Option Value} (x : Got h v P n o) : o.isSome = (heldP P n).isSome := by
  rcases x with ⟨rfl, x2, x3⟩ | ⟨k, V, b, vs, ea, et, y, rfl, a2, a3, _⟩
  · simp [x2]
  · simp [a2]
-- L3
noncomputable def dfD (d : Int → Int) : List (PyData × PyData) := [(.int 1, .int (d 1)), (.int 2, .int (d 2)), (.int 3, .int (d 3))]
noncomputable def dv (d : Int → Int) (n : Int) : Int := if n = 1 then d 1 else if n = 2 then d 2 else if n = 3 then d 3 else 0
theorem dv_look (d : Int → Int) (n : Int) : (PySem.Spec.lookup (.int n) (dfD d)).getD (.int 0) = .int (dv d n) := by
  have e : ∀ a b : Int, PySem.Spec.same (PyData.int a) (PyData.int b) = decide (a = b) := PyProof.V.same_int
  unfold dfD dv
  by_cases h1 : n = 1
  · simp [h1, PySem.Spec.lookup, e]
  · by_cases h2 : n = 2
    · simp [h2, PySem.Spec.lookup, e]
    · by_cases h3 : n = 3
      · simp [h3, PySem.Spec.lookup, e]
      · have k1 : ¬ (1 : Int) = n := fun e => h1 e.symm
        have k2 : ¬ (2 : Int) = n := fun e => h2 e.symm
        have k3 : ¬ (3 : Int) = n := fun e => h3 e.symm
        simp [h1, h2, h3, k1, k2, k3, PySem.Spec.lookup, e]
theorem get_df {prog : Program} {w : World} {A : Around} {E : Value → Shared → Prop} {s : Shared} {df : Addr} {d : Int → Int} {i : Int} {t t0 : Tok} {Q : Value → Shared → Prop} (T : IntTab prog w s.heap df (dfD d))
    (h : ∀ t, Q (.int (dv d i) t) { s with toks := s.toks + 1 }) : wpAny (model prog w) A (call (.builtin "dict.get") [.ref df, .int i t, .int 0 t0]) Q E s :=
  call_get2_intTab T (PyProof.V.Flat.int 0 t0) fun v hv => by
    rw [dv_look] at hv
    have := hv s.heap
    cases this
    exact h _
abbrev sidesEs (P : Params) (t : Nat → Tok) (rl : Addr) (left right lf lr rf rr : Value) (fo fr re : Addr) : List DictEntry :=
  [strK P "rules" (t 0) (.ref rl), strK P "left" (t 1) left, strK P "right" (t 2) right, strK P "left_front" (t 3) lf, strK P "left_rear" (t 4) lr, strK P "right_front" (t 5) rf, strK P "right_rear" (t 6) rr,
   strK P "found" (t 7) (.ref fo), strK P "front" (t 8) (.ref fr), strK P "rear" (t 9) (.ref re)]
/-- the sides -/
structure SD where
  rl : Addr
  left : Value
  right : Value
  lf : Value
  lr : Value
  rf : Value
  rr : Value
  fo : Addr
  fr : Addr
  re : Addr
noncomputable def SidesAt (P : Params) (h : Heap) (x : Addr) (S : SD) : Prop := ∃ dx n t, InsF h x 106 dx (sidesEs P t S.rl S.left S.right S.lf S.lr S.rf S.rr S.fo S.fr S.re) n
theorem SidesAt.keeps {P : Params} {h h' : Heap} {x : Addr} {S : SD} (a : SidesAt P h x S) (hk : ∀ b o, h.get? b = some o → h'.get? b = some o) : SidesAt P h' x S := by
  obtain ⟨dx, n, t, a⟩ := a
  exact ⟨dx, n, t, a.keeps hk⟩
/-- what the sides say -/
structure SV where
  L : List (Int × PV)
  R : List (Int × PV)
  lf : PV
  lr : PV
  rf : PV
  rr : PV
  d : Int → Int
/-- the sides' parts read -/
structure SidesRd (w : World) (h : Heap) (S : SD) (lp df : Addr) (V : SV) : Prop where
  rules : RulesAt w.params h S.rl lp df
  tab : IntTab PySem.Challenge.rw_np0033_01.row.prog w h df (dfD V.d)
  left : Rd h S.left (plD V.L)
  right : Rd h S.right (plD V.R)
  lf : Rd h S.lf V.lf.py
  lr : Rd h S.lr V.lr.py
  rf : Rd h S.rf V.rf.py
  rr : Rd h S.rr V.rr.py
theorem SidesRd.keeps {w : World} {h h' : Heap} {S : SD} {lp df : Addr} {V : SV} (a : SidesRd w h S lp df V) (hk : ∀ b o, h.get? b = some o → h'.get? b = some o) : SidesRd w h' S lp df V :=
  ⟨a.rules.keeps hk, a.tab.keep hk, a.left.keeps hk, a.right.keeps hk, a.lf.keeps hk, a.lr.keeps hk, a.rf.keeps hk, a.rr.keeps hk⟩
/-- the lists are short -/
structure SV.Ok (V : SV) : Prop where
  L : V.L.length ≤ 100
  R : V.R.length ≤ 100
  lf : ∀ ns, V.lf = .lst ns → ns.length ≤ 100
  lr : ∀ ns, V.lr = .lst ns → ns.length ≤ 100
  rf : ∀ ns, V.rf = .lst ns → ns.length ≤ 100
  rr : ∀ ns, V.rr = .lst ns → ns.length ≤ 100
noncomputable def SV.kept (V : SV) (n : Int) : Bool := !V.lr.mem n && !decide (0 < dv V.d n)
noncomputable def SV.caught (V : SV) (n : Int) : Bool := V.rf.mem n || decide (dv V.d n < 0)

theorem Rd.handed {h : Heap} {v : Value} {d : PyData} (x : Rd h v d) : handedIn v = true := by
  obtain ⟨_, r⟩ := x
  cases r <;> rfl
-- L4
noncomputable def MEnd (g : Heap) (L : Addr) (s : Shared) (Post : Value → List (Addr × Obj) → Prop) (v : Value) (s' : Shared) : Prop :=
  ∃ h' tk' m' dyn', s' = { s with heap := h', toks := tk' } ∧ Fr g L h' m' ∧ News g L h' dyn' ∧ Post v dyn'
theorem MEnd.intro {g : Heap} {L : Addr} {s : Shared} {Post : Value → List (Addr × Obj) → Prop} {v : Value} {h' : Heap} {tk' : Nat} {m' : Str → Option Value} {news : List (Addr × Obj)} (dyn' : List (Addr × Obj))
    (F : Fr g L h' m') (N : News g L h' news) (sub : ∀ p ∈ dyn', p ∈ news) (post : Post v dyn') : MEnd g L s Post v { s with heap := h', toks := tk' } :=
  ⟨h', tk', m', dyn', rfl, F, fun p hp => N p (sub p hp), post⟩

/-- the tale of a def that changes the objects `dyn` -/
noncomputable def SpecM (w : World) (mean : ExcName → Option Value) (mg mb : Str → Option Value) (dp un : Nat) (f : Addr) (vs : List Value) (dyn : List (Addr × Obj)) (Pre : Heap → Prop) (Post : Value → List (Addr × Obj) → Prop) : Prop :=
  ∀ (gd : Option (List Code)) (cn : Str) (cs : Scope) (a : Addr) (ccd : Value) (cl : List (Str × Addr)) (outer : List Env) (A₀ : Around) (base h₀ : Heap) (L : Addr) (m : Str → Option Value) (rest : List (Addr × Obj)) (s : Shared)
    (Q E : Value → Shared → Prop),
    Below A₀ base outer h₀ → Fr h₀ L s.heap m → (Mine.hd.heap_39 w.params).In h₀ → News h₀ L s.heap (dyn ++ rest) → Top Mine.hd.view_39 (looseW Mine.hd.view_39 []) mean mg mb h₀ → cs.kind = .function →
    (∀ p ∈ dyn, ∀ q ∈ rest, @Ne Nat p.1 q.1) → (∀ H : Heap, (∀ b o, s.heap.get? b = some o → b ∉ dyn.map (·.1) → H.get? b = some o) → Pre H) →
    (∀ r dyn' h' tk', Fr h₀ L h' m → News h₀ L h' (dyn' ++ rest) → (∀ p ∈ dyn', ∀ q ∈ rest, @Ne Nat p.1 q.1) → Post r dyn' → Q r { s with heap := h', toks := tk' }) →
    wpAny (model PySem.Challenge.rw_np0033_01.row.prog w) (ktrTop dp un gd cn cs L a ccd cl outer) (call (.ref f) vs) Q E s

section
variable {prog : Program} {w : World} {A₀ A : Around} {s : Shared} {base h₀ : Heap} {outer : List Env} {L : Addr} {m : Str → Option Value} {env : Env} {dyn rest : List (Addr × Obj)} {K : Frag}
  {name qual : Str} {params : Arguments} {body : List Stmt} {scope : Scope} {dV kV doc pm cdv ct oc : Value} {an od : Option Addr} {osl : Array (Option Value)} {f : Addr} {vs : List Value} {binds : List (Str × Value)}
  {p : Program} {loose : List Str} {mean : ExcName → Option Value} {mg mb : Str → Option Value} {Q E : Value → Shared → Prop} {Pre : Heap → Prop}

theorem mend_ret (Post : Value → List (Addr × Obj) → Prop) {g : Heap} {L' : Addr} (hg : ∀ b o, s.heap.get? b = some o → b ∉ dyn.map (·.1) → g.get? b = some o) (hgs : ∀ b o, g.get? b = some o → s.heap.get? b = some o) (F : Fr h₀ L s.heap m) (N : News h₀ L s.heap (dyn ++ rest))
    (ne : ∀ p ∈ dyn, ∀ q ∈ rest, @Ne Nat p.1 q.1)
    (ret : ∀ r dyn' h' tk', Fr h₀ L h' m → News h₀ L h' (dyn' ++ rest) → (∀ p ∈ dyn', ∀ q ∈ rest, @Ne Nat p.1 q.1) → Post r dyn' → Q r { s with heap := h', toks := tk' })
    {v : Value} {s' : Shared} (hl : MEnd g L' s Post v s') : Q v s' := by
  obtain ⟨h', tk', m', dyn', rfl, F', N', post⟩ := hl
  have N1 : ∀ p ∈ dyn, _ := fun p hp => N p (List.mem_append.mpr (.inl hp))
  have N2 : ∀ p ∈ rest, _ := fun p hp => N p (List.mem_append.mpr (.inr hp))
  have upL : ∀ o, s.heap.get? L = some o → g.get? L = some o := fun o e => hg L o e fun hm => by
    obtain ⟨q, hq, e'⟩ := List.mem_map.mp hm
    exact (N1 q hq).2.1 e'
  have up0 : ∀ b o, h₀.get? b = some o → g.get? b = some o := fun b o e => hg b o (F.keep b o e) fun hm => by
    obtain ⟨q, hq, rfl⟩ := List.mem_map.mp hm
    rw [(N1 q hq).2.2] at e; cases e
  have upR : ∀ q ∈ rest, g.get? q.1 = some q.2 := fun q hq => hg _ _ (N2 q hq).1 fun hm => by
    obtain ⟨q', hq', e⟩ := List.mem_map.mp hm
    exact ne q' hq' q hq e
  have F2 : Fr h₀ L h' m := ⟨F.ns.at' fun o e => F'.keep _ o (upL o e), fun b o e => F'.keep b o (up0 b o e), F.above⟩
  refine ret _ dyn' h' tk' F2 (fun q hq => ?_) (fun q hq q' hq' => ?_) post
  · rcases List.mem_append.mp hq with hq | hq
    · have z := N' q hq
      refine ⟨z.1, fun e => ?_, ?_⟩
      · obtain ⟨oL, _, _, hL, _⟩ := F.ns
        have z3 := z.2.2
        rw [e, upL _ hL] at z3; cases z3
      · cases q0 : h₀.get? q.1 with
        | none => rfl
        | some o => have := z.2.2; rw [up0 _ _ q0] at this; cases this
    · exact ⟨F'.keep _ _ (upR q hq), (N2 q hq).2⟩
  · intro e
    have z1 := (N' q hq).2.2
    have z2 := upR q' hq'
    rw [show q.1 = q'.1 from e, z2] at z1; cases z1

theorem enterM (Post : Value → List (Addr × Obj) → Prop) (B : Below A₀ base outer h₀) (F : Fr h₀ L s.heap m) (X₀ : K.In h₀) (N : News h₀ L s.heap (dyn ++ rest)) (T : Top p loose mean mg mb h₀) (hA : A.frames = some (env :: outer)) (hf : env.frame = some L) (hke : env.scope.kind = .function)
    (ne : ∀ p ∈ dyn, ∀ q ∈ rest, @Ne Nat p.1 q.1) (hpre : ∀ H : Heap, (∀ b o, s.heap.get? b = some o → b ∉ dyn.map (·.1) → H.get? b = some o) → Pre H)
    (ret : ∀ r dyn' h' tk', Fr h₀ L h' m → News h₀ L h' (dyn' ++ rest) → (∀ p ∈ dyn', ∀ q ∈ rest, @Ne Nat p.1 q.1) → Post r dyn' → Q r { s with heap := h', toks := tk' })
    (ho : K.lookup f = some ⟨oc, od, .func (fnOf name qual params body scope dV kV doc pm an cdv ct), osl⟩) (hcd : codeIn K cdv qual = true) (hroom : A.depth < recursionLimit)
    (hbind : BindsTo s (fnOf name qual params body scope dV kV doc pm an cdv ct) ⟨vs, []⟩ binds) (hloc : ∀ y ∈ binds, scope.names.lookup y.1 = some .local)
    (h : ∀ g L' h₁, Fr g L' h₁ (fun y => binds.reverse.lookup y) → News g L' h₁ dyn → (∀ p ∈ dyn, p.1 < L') → Below A base (env :: outer) g → K.In g → Top p loose mean mg mb g → Pre g →
      wpAny (model prog w) (A.deeper (envOf qual scope L' f cdv)) (execs body (envOf qual scope L' f cdv))
        (fun fl s' => MEnd g L' s Post (match fl with | .ret v => v | _ => .none) s')
        (fun _ _ => False)
        { s with heap := h₁, toks := s.toks + binds.length })
    (hco : scope.isCoroutine = false) (hgen : scope.isGenerator = false) (hk : scope.kind = .function)
    (hcell : ∀ x ∈ scope.names, x.2 ≠ .cell) : wpAny (model prog w) A (call (.ref f) vs) Q E s := by
  refine wpAny_call ?_
  have N1 : News h₀ L s.heap dyn := fun p hp => N p (List.mem_append.mpr (.inl hp))
  refine Mine.hide ?_; intro Gq hGq
  obtain ⟨FG, BG, st, _⟩ := groundX (R := fun _ _ => True) B F N1 hA hf hke
  refine hGq ?_; clear hGq Gq
  refine codeAny_call_def (fd := fnX name qual params body scope [] dV kV doc pm an cdv ct) (body := body) (binds := binds) hroom ((X₀.keeps F.keep) _ _ ho) rfl (T.nolimit.keeps F.keep) (codeRec_of (X₀.keeps F.keep) hcd) rfl hbind hcell hloc (fun h₁ hns hk₁ => ?_) hco hgen hk
  have sub : ∀ b o, s.heap.get? b = some o → b ∉ dyn.map (·.1) → (hideAll s.heap (dyn.map (·.1))).get? b = some o := fun b o e n => hideAll_get _ e n
  refine wpAny_mono (h _ s.heap.objs.size h₁ ⟨hns, fun b o e => hk₁ b o (of_hideAll _ e), Nat.le_of_eq (hideAll_size _ _)⟩
    (fun p hp => ⟨hk₁ _ _ (N1 p hp).1, Nat.ne_of_lt (Heap.lt_size (N1 p hp).1), hideAll_none _ (List.mem_map_of_mem hp)⟩) (fun p hp => Heap.lt_size (N1 p hp).1) BG (X₀.keeps st) (T.keeps st) (hpre _ sub)) (fun fl s' hl => ?_) fun _ _ y => y.elim
  exact mend_ret Post sub (fun b o e => of_hideAll _ e) F N ne ret hl
end

section
variable {w : World} {mean : ExcName → Option Value} {mg mb : Str → Option Value} {dp un : Nat} {f : Addr} {vs : List Value} {Pre : Heap → Prop} {Post : Value → List (Addr × Obj) → Prop} {dyn rest : List (Addr × Obj)}
  {A A₀ : Around} {base h₀ : Heap} {outer : List Env} {L a : Addr} {m : Str → Option Value} {s : Shared} {Q E : Value → Shared → Prop} {cn : Str} {cs : Scope} {ccd : Value} {cl : List (Str × Addr)}
theorem specM_use (S : SpecM w mean mg mb dp un f vs dyn Pre Post) (B : Below A₀ base outer h₀) (F : Fr h₀ L s.heap m) (X : (Mine.hd.heap_39 w.params).In h₀) (N : News h₀ L s.heap (dyn ++ rest)) (T : Top Mine.hd.view_39 (looseW Mine.hd.view_39 []) mean mg mb h₀)
    (hA : A.frames = some (envX cn cs L a ccd cl :: outer)) (hh : A.handled = none) (hk : cs.kind = .function) (hd : A.depth ≤ dp) (hu : A.units ≤ un) (ne : ∀ p ∈ dyn, ∀ q ∈ rest, @Ne Nat p.1 q.1)
    (hpre : ∀ H : Heap, (∀ b o, s.heap.get? b = some o → b ∉ dyn.map (·.1) → H.get? b = some o) → Pre H)
    (ret : ∀ r dyn' h' tk', Fr h₀ L h' m → News h₀ L h' (dyn' ++ rest) → (∀ p ∈ dyn', ∀ q ∈ rest, @Ne Nat p.1 q.1) → Post r dyn' → Q r { s with heap := h', toks := tk' }) :
    wpAny (model PySem.Challenge.rw_np0033_01.row.prog w) A (call (.ref f) vs) Q E s :=
  around_le (S A.guards cn cs a ccd cl outer A₀ base h₀ L m rest s Q E B F X N T hk ne hpre ret) hh hA rfl hd hu
end
/-- what an insertion takes over of one number -/
noncomputable def TakeP (S : SD) (fs frs res : List Value) (n : Int) (add : Option Value) (fr re : Bool) (r : Value) (dyn' : List (Addr × Obj)) : Prop :=
  r = .none ∧ ∃ (own : List (Addr × Obj)) (fs' frs' res' : List Value) (c1 c2 c3 : Nat), dyn' = (S.fo, listOf fs'.toArray c1) :: (S.fr, listOf frs'.toArray c2) :: (S.re, listOf res'.toArray c3) :: own ∧
    (match add with | none => fs' = fs ∧ own = [] | some y => ∃ a t, @Ne Nat a S.fo ∧ @Ne Nat a S.fr ∧ @Ne Nat a S.re ∧ fs' = fs ++ [.ref a] ∧ own = [(a, ({ cls := .type "tuple", data := .seq [.int n t, y].toArray } : Obj))]) ∧
    (if fr = true then ∃ t, frs' = frs ++ [.int n t] else frs' = frs) ∧ (if re = true then ∃ t, res' = res ++ [.int n t] else res' = res)
noncomputable def SV.fromLeft (V : SV) (n : Int) : Bool := (heldP V.L n).isSome && V.kept n && !(V.caught n && decide (heldV V.L n = .nil))
noncomputable def SV.bothAdd (V : SV) (n : Int) (o : Option Value) (v : Value) : Option Value := if V.fromLeft n = true then some (gotV o) else if V.caught n = true then some v else none
noncomputable def SV.bothFr (V : SV) (n : Int) : Bool := if V.fromLeft n = true then V.lf.mem n else V.caught n && V.rf.mem n
noncomputable def SV.bothRe (V : SV) (n : Int) : Bool := !V.fromLeft n && (V.caught n && V.rr.mem n)
noncomputable def SV.oneAdd (V : SV) (n : Int) (v : Value) : Option Value := if V.kept n = true then some v else none
noncomputable def SV.oneFr (V : SV) (n : Int) : Bool := if V.kept n = true then V.lf.mem n else V.caught n
noncomputable def SV.oneRe (V : SV) (n : Int) : Bool := !V.kept n && (V.caught n && V.rr.mem n)
section
variable {g h' : Heap} {L : Addr} {s : Shared} {S : SD} {fs frs res : List Value} {n : Int} {add : Option Value} {fr re : Bool} {tk' : Nat} {m' : Str → Option Value} {c1 c2 c3 : Nat} {A2 A3 : Array Value}
theorem take_back {x : Value} {xs : List Value} {A : Array Value} {b : Bool} {n : Int} (h : if b = true then ∃ t, A = xs.toArray.push (.int n t) else A = xs.toArray) :
    ∃ ys : List Value, A = ys.toArray ∧ (if b = true then ∃ t, ys = xs ++ [.int n t] else ys = xs) := by
  cases b with
  | true =>
    simp only [if_true] at h ⊢
    obtain ⟨t, rfl⟩ := h
    exact ⟨xs ++ [.int n t], by simp, t, rfl⟩
  | false =>
    simp only [Bool.false_eq_true, if_false] at h ⊢
    exact ⟨xs, h, rfl⟩
theorem take_end0 {news : List (Addr × Obj)} (F : Fr g L h' m') (N : News g L h' news) (q1 : (S.fo, listOf fs.toArray c1) ∈ news) (q2 : (S.fr, listOf A2 c2) ∈ news) (q3 : (S.re, listOf A3 c3) ∈ news) (ha : add = none)
    (h2 : if fr = true then ∃ t, A2 = frs.toArray.push (.int n t) else A2 = frs.toArray) (h3 : if re = true then ∃ t, A3 = res.toArray.push (.int n t) else A3 = res.toArray) :
    MEnd g L s (TakeP S fs frs res n add fr re) .none { s with heap := h', toks := tk' } := by
  obtain ⟨f2, rfl, e2⟩ := take_back (x := .none) h2
  obtain ⟨f3, rfl, e3⟩ := take_back (x := .none) h3
  subst ha
  refine MEnd.intro ((S.fo, listOf fs.toArray c1) :: (S.fr, listOf f2.toArray c2) :: (S.re, listOf f3.toArray c3) :: []) F N (fun p hp => ?_) ⟨rfl, [], fs, f2, f3, c1, c2, c3, rfl, ⟨rfl, rfl⟩, e2, e3⟩
  simp only [List.mem_cons, List.not_mem_nil, or_false] at hp
  rcases hp with rfl | rfl | rfl <;> assumption
theorem take_end1 {D : Addr} {y : Value} {t : Tok} {news : List (Addr × Obj)} (F : Fr g L h' m') (N : News g L h' news) (q1 : (S.fo, listOf (fs.toArray.push (.ref D)) c1) ∈ news) (q2 : (S.fr, listOf A2 c2) ∈ news) (q3 : (S.re, listOf A3 c3) ∈ news)
    (q4 : (D, ({ cls := .type "tuple", data := .seq #[.int n t, y] } : Obj)) ∈ news) (qd : @Ne Nat D S.fo ∧ @Ne Nat D S.fr ∧ @Ne Nat D S.re) (ha : add = some y)
    (h2 : if fr = true then ∃ t, A2 = frs.toArray.push (.int n t) else A2 = frs.toArray) (h3 : if re = true then ∃ t, A3 = res.toArray.push (.int n t) else A3 = res.toArray) :
    MEnd g L s (TakeP S fs frs res n add fr re) .none { s with heap := h', toks := tk' } := by
  obtain ⟨f2, rfl, e2⟩ := take_back (x := .none) h2
  obtain ⟨f3, rfl, e3⟩ := take_back (x := .none) h3
  subst ha
  refine MEnd.intro ((S.fo, listOf (fs ++ [Value.ref D]).toArray c1) :: (S.fr, listOf f2.toArray c2) :: (S.re, listOf f3.toArray c3) :: [(D, ({ cls := .type "tuple", data := .seq [.int n t, y].toArray } : Obj))]) F N (fun p hp => ?_) ⟨rfl, _, fs ++ [Value.ref D], f2, f3, c1, c2, c3, rfl, ⟨D, t, qd.1, qd.2.1, qd.2.2, rfl, rfl⟩, e2, e3⟩
  simp only [List.mem_cons, List.not_mem_nil, or_false] at hp
  rcases hp with rfl | rfl | rfl | rfl
  · simpa using q1
  · exact q2
  · exact q3
  · exact q4
end
-- L5
/-- the frame's names but the two that a loop over pairs stores -/
noncomputable def OffTwo (xa xb : Str) (m m' : Str → Option Value) : Prop := ∀ z, z ≠ xa → z ≠ xb → m' z = m z
/-- the end of a turn over pairs -/
noncomputable def PTurn (h₀ : Heap) (L : Addr) (xa xb : Str) (m : Str → Option Value) (I : Addr) (oI : Obj) (J : List (Addr × Obj) → Prop) (s₁ : Shared) (f : Flow) (s₂ : Shared) : Prop :=
  f = .next ∧ ∃ h' tk' m' led', s₂ = { s₁ with heap := h', toks := tk' } ∧ Fr h₀ L h' m' ∧ News h₀ L h' ((I, oI) :: led') ∧ (∀ p ∈ led', @Ne Nat p.1 I) ∧ OffTwo xa xb m m' ∧ J led'
theorem PTurn.intro {h₀ : Heap} {L : Addr} {xa xb : Str} {m m' : Str → Option Value} {I : Addr} {oI : Obj} {J : List (Addr × Obj) → Prop} {s₁ : Shared} {h' : Heap} {tk' : Nat} {news : List (Addr × Obj)} (led' : List (Addr × Obj))
    (F : Fr h₀ L h' m') (N : News h₀ L h' news) (q : (I, oI) ∈ news) (sub : ∀ p ∈ led', p ∈ news) (ne : ∀ p ∈ led', @Ne Nat p.1 I) (off : OffTwo xa xb m m') (j : J led') :
    PTurn h₀ L xa xb m I oI J s₁ .next { s₁ with heap := h', toks := tk' } :=
  ⟨rfl, h', tk', m', led', rfl, F, fun p hp => by
    rcases List.mem_cons.mp hp with rfl | hp
    · exact N _ q
    · exact N p (sub p hp), ne, off, j⟩

section
variable {prog : Program} {w : World} {A : Around} {E : Value → Shared → Prop} {s : Shared} {env : Env} {h₀ : Heap} {Q : Flow → Shared → Prop} {m : Str → Option Value} {news : List (Addr × Obj)}

theorem iter_pairs {l : Addr} {vs : List Value} {xa xb : Str} {pa pb tp : Pos} {kk : Nat} {body : List Stmt} (R : Nat → Value → Value → Prop) (J : Nat → List (Addr × Obj) → Prop)
    (hh : A.handled = none) (hl : h₀.IsList l vs.toArray) (hab : ¬ xa = xb) (ha : env.kindOf xa = some .local) (hb : env.kindOf xb = some .local) (hp : (env.scope.kind == .class || (env.scope.kind == .module && env.locals != env.globals)) = false)
    (hit : ∀ (i : Nat) v, vs[i]? = some v → ∃ a x y, v = .ref a ∧ IsTup h₀ a #[x, y] ∧ R i x y)
    (F : Fr h₀ env.locals s.heap m) (N : News h₀ env.locals s.heap news) (h0 : J 0 news)
    (turn : ∀ (i : Nat) a x y led h tk I oI (s₁ : Shared), i < vs.length → vs[i]? = some (.ref a) → IsTup h₀ a #[x, y] → R i x y → J i led → (∀ p ∈ led, @Ne Nat p.1 I) →
      Fr h₀ env.locals h (fun z => if z = xb then some y else if z = xa then some x else m z) → News h₀ env.locals h ((I, oI) :: led) →
      wpAny (model prog w) A (execs body env) (PTurn h₀ env.locals xa xb m I oI (J (i + 1)) s₁) E { s₁ with heap := h, toks := tk })
    (done : ∀ m' led h tk, J vs.length led → OffTwo xa xb m m' → Fr h₀ env.locals h m' → News h₀ env.locals h led → Q .next { s with heap := h, toks := tk }) :
    wpAny (model prog w) A (pyIter (.ref l)) (fun it s₂ => LoopAtT prog w A h₀ env (.Tuple [.Name xa pa, .Name xb pb] kk tp) body Q E it s₂) E s := by
  have hls : s.heap.IsList l vs.toArray := hl.at fun o e => F.keep l o e
  obtain ⟨ol, hol, _⟩ := id hl
  have hlt : l < h₀.objs.size := Heap.lt_size hol
  have hne : l ≠ s.heap.objs.size := Nat.ne_of_lt (Nat.lt_trans (Nat.lt_of_lt_of_le hlt F.above) F.ns.lt)
  refine wpAny_pyIter_list hls ?_
  have W := Walks.list (prog := prog) (w := w) hh s.heap.objs.size l hne vs.toArray
  have hlen : vs.toArray.size = vs.length := by simp
  rw [hlen] at W
  refine ⟨_, _, _, vs.length, _, _, m, news, (fun i m₁ led => OffTwo xa xb m m₁ ∧ J i led), rfl, W, ?_, ?_, ?_, ⟨⟨_, Heap.get?_push_size _ rfl, rfl, rfl⟩, hls.at fun o e => Heap.get?_push_of_some _ e⟩, F.push _,
    (fun p hp => ⟨Heap.get?_push_of_some _ (N p hp).1, (N p hp).2⟩), (fun i s' v Q' st hQ' => letGo_listiter st.1 hQ'), ⟨fun _ _ _ => rfl, h0⟩, ?_, ?_⟩
  · intro hm
    rcases List.mem_cons.mp hm with e | hm
    · exact absurd F.ns.lt (e ▸ Nat.lt_irrefl _)
    · exact absurd (Nat.lt_of_lt_of_le hlt F.above) ((List.mem_singleton.mp hm) ▸ Nat.lt_irrefl _)
  · intro b hb
    rw [List.mem_singleton.mp hb]
    exact next_is_new F
  · intro p hp hI
    exact absurd (Heap.lt_size (N p hp).1) ((List.mem_singleton.mp hI) ▸ Nat.lt_irrefl _)
  · rintro i v m₁ led s₁ own hi hP ⟨hoff, hJ⟩ hnw hsub hown hget hst F₁ N₁
    have hvi : vs[i]? = some v := by simpa using hP
    refine Mine.hide ?_; intro Gq hGq
    obtain ⟨a, x, y, rfl, hT, hR⟩ := hit i v hvi
    obtain ⟨⟨oI, hoI, _⟩, _⟩ := id hst
    refine hGq ?_; clear hGq Gq
    have hIn : h₀.get? s.heap.objs.size = none := next_is_new F
    have hIown : (s.heap.objs.size, oI) ∈ own := hget _ (List.mem_cons_self ..) hIn _ hoI
    have ownI : ∀ p ∈ own, p = (s.heap.objs.size, oI) := by
      intro p hp
      rcases List.mem_cons.mp (hsub p hp) with e | e
      · have z := hown p hp
        rw [e, hoI] at z
        obtain ⟨p1, p2⟩ := p
        cases z; exact Prod.ext e rfl
      · have z := (N₁ p (List.mem_append.mpr (.inl hp))).2.2
        rw [List.mem_singleton.mp e, hol] at z; cases z
    refine kcp_assign (x := x) (y := y) (m := m₁) hh (hT.keeps F₁.keep) ha hb hp F₁.ns fun h₂ tk₂ hn₂ hk₂ => ?_
    have hL₀ : h₀.get? env.locals = none := Heap.get?_none_of_le F₁.above
    have F₂ : Fr h₀ env.locals h₂ (fun z => if z = xb then some y else if z = xa then some x else m z) := by
      have em : (fun z => if z = xb then some y else if z = xa then some x else m₁ z) = fun z => if z = xb then some y else if z = xa then some x else m z := by
        funext z
        by_cases h1 : z = xb
        · simp [h1]
        · by_cases h2 : z = xa
          · simp [h2]
          · simp only [if_neg h1, if_neg h2]; exact hoff z h2 h1
      rw [em] at hn₂
      exact ⟨hn₂, fun b o e => hk₂ b o (fun q => by rw [q, hL₀] at e; cases e) (F₁.keep b o e), F₁.above⟩
    have N₂ : News h₀ env.locals h₂ ((s.heap.objs.size, oI) :: led) := fun p hp => by
      have z : p ∈ own ++ led := by
        rcases List.mem_cons.mp hp with rfl | hp
        · exact List.mem_append.mpr (.inl hIown)
        · exact List.mem_append.mpr (.inr hp)
      have q := N₁ p z
      exact ⟨hk₂ _ _ q.2.1 q.1, q.2⟩
    refine wpAny_mono (turn i a x y led h₂ tk₂ s.heap.objs.size oI s₁ hi hvi hT hR hJ (fun p hp e => hnw p hp (by rw [e]; exact List.mem_singleton.mpr rfl)) F₂ N₂) (fun f s₃ h₃ => ?_) fun _ _ e => e
    refine Mine.hide ?_; intro Gq hGq
    obtain ⟨rfl, h', tk', m', led', rfl, F', N', ne', off', j'⟩ := h₃
    refine hGq ?_; clear hGq Gq
    refine ⟨rfl, h', tk', m', led', rfl, F', fun p hp => ?_, fun p hp hI => ne' p hp (List.mem_singleton.mp hI), off', j'⟩
    rcases List.mem_append.mp hp with hp | hp
    · rw [ownI p hp]; exact N' _ (List.mem_cons_self ..)
    · exact N' p (List.mem_cons_of_mem _ hp)
  · rintro h' tk m' led F' N' _ ⟨hoff, hJ⟩
    exact done m' led h' tk hJ hoff F' N'
end
local macro_rules | `(tactic| k_lt $h:ident) => `(tactic| (have lx := allLt_of $h; replace $h := lx; simp only [AllLt, and_true] at $h:ident))
-- K2
section
variable {prog : Program} {w : World} {A : Around} {E : Value → Shared → Prop} {s : Shared}
theorem tuple_index_str {a : Addr} {o : Obj} {vs : Array Value} {n : Nat} {x : Str} {u : Tok} {i : Nat} {Q : Value → Shared → Prop} (ho : s.heap.get? a = some o) (hc : o.cls = .type "tuple") (hd : o.data = .seq vs n)
    (xs : List Str) (hxs : ∀ j v, vs[j]? = some v → ∃ t, v = Value.str (xs.getD j x) t) (hi : i < vs.size) (hi2 : xs.getD i x = x) (hlt : ∀ j, j < i → xs.getD j x ≠ x)
    (h : ∀ t tk, Q (.int i t) { s with toks := tk }) : wpAny (model prog w) A (call (.builtin "tuple.index") [.ref a, .str x u]) Q E s := by
  refine wpAny_call (codeAny_call_builtin F.slot_tuple_index.plain F.entry_tuple_index (F.slot_tuple_index.check _ _ _ _ _ _ _ _ (show s.TypeIs (.ref a) "tuple" from ⟨_, ho, hc⟩) (F.args_tuple_index_2 _ _) ?_))
  have hin : ∀ (k j : Nat) (s : Shared) (R : Option PySem.Fin × Unit → Shared → Prop), j + k = vs.size → (j ≤ i) → (∀ t tk, R (some (.done (.ret (.int i t))), ()) { s with toks := tk }) → wpAny (model prog w) A.in1 (forIn (List.range' j k) ((none, ()) : Option PySem.Fin × Unit) fun (i : Nat) __s =>
      match vs[i]? with
      | some y => do
        let __do_lift ← eqBool y (.str x u)
        if __do_lift = true then do
            let __do_lift ← retInt ↑i
            pure (ForInStep.done (some __do_lift, ()))
          else pure (ForInStep.yield (none, ()))
      | x => pure (ForInStep.yield (none, ()))) R E s := by
    intro k
    induction k with
    | zero => intro j s R e1 e2; omega
    | succ k ih =>
      intro j s R e1 e2 hR
      obtain ⟨v, hv⟩ : ∃ v, vs[j]? = some v := ⟨vs[j], by simp⟩
      obtain ⟨t, rfl⟩ := hxs j v hv
      rw [List.range'_succ, List.forIn_cons]
      refine wpAny_bind ?_
      rw [hv]
      dsimp only
      refine wpAny_bind (wpAny_eqBool_str ?_)
      by_cases hji : j = i
      · subst hji
        rw [hi2]
        simp only [decide_true, if_true]
        refine wpAny_bind ?_
        unfold retInt ret mkInt
        wp_walk
        exact hR _ _
      · rw [decide_eq_false (hlt j (by omega))]
        simp only [Bool.false_eq_true, if_false]
        refine wpAny_pure ?_
        dsimp only
        exact ih (j + 1) s R (by omega) (by omega) hR
  unfold Builtin.«tuple.index» selfAndSome
  refine Mine.hide ?_; intro Gq hGq
  obtain ⟨hp, g, d, tk, os⟩ := s
  refine hGq ?_; clear hGq Gq
  unfold Builtin.Tuple.tupleItemsOf
  refine wpAny_bind ?_
  wp_walk
  rw [hd]
  wp_walk
  refine (show wpAny _ _ (forIn [:min vs.size vs.size] ((none, ()) : Option PySem.Fin × Unit) (fun (i : Nat) __s =>
      match vs[i]? with
      | some y => do
        let __do_lift ← eqBool y (.str x u)
        if __do_lift = true then do
            let __do_lift ← retInt ↑i
            pure (ForInStep.done (some __do_lift, ()))
          else pure (ForInStep.yield (none, ()))
      | x => pure (ForInStep.yield (none, ())))) _ _ _ from ?_)
  rw [Std.Legacy.Range.forIn_eq_forIn_range']
  simp only [Std.Legacy.Range.size, Nat.min_self, Nat.sub_zero, Nat.add_sub_cancel, Nat.div_one]
  refine wpAny_mono (hin vs.size 0 _ (fun r s' => ∃ t tk', r = (some (.done (.ret (.int i t))), ()) ∧ s' = ⟨hp, g, d, tk', os⟩) (by omega) (Nat.zero_le _) (fun t tk' => ⟨t, tk', rfl, rfl⟩)) (fun r s' hr => ?_) fun _ _ e => e
  refine Mine.hide ?_; intro Gq hGq
  obtain ⟨t, tk', rfl, rfl⟩ := hr
  refine hGq ?_; clear hGq Gq
  dsimp only
  exact wpAny_pure (h t tk')
end
section
variable {w : World} {A : Around} {E : Value → Shared → Prop} {s : Shared} {prog : Program} {h₀ : Heap} {L : Addr} {m : Str → Option Value}
noncomputable def NMS : List Str := [Str.ofString "category", Str.ofString "front-sticky", Str.ofString "rear-nonsticky", Str.ofString "evaporate", Str.ofString "priority"]
theorem names_method {pl : Sem Bool} {Q : Value × List Value → Shared → Prop} (X : (Mine.hd.heap_39 w.params).In h₀) (F : Fr h₀ L s.heap m) (h : Q (.builtin "tuple.index", [.ref 158]) s) : wpAny (model prog w) A (getMethod (.ref 158) "index" pl) Q E s := by
  have hT := F.keep _ _ (X 158 _ rfl)
  exact getMethod_builtin (T := "tuple") ⟨_, hT, rfl⟩ PySem.F.plainAttrs_tuple PySem.F.slot_tuple_index PySem.F.type_tuple_index (fun a e => by cases e; exact ⟨_, hT, rfl⟩) h
theorem names_index {x : Str} {u : Tok} {i : Nat} {Q : Value → Shared → Prop} (X : (Mine.hd.heap_39 w.params).In h₀) (F : Fr h₀ L s.heap m) (hi : i < 5) (hi2 : (NMS.getD i x == x) = true) (hlt : (List.range i).all (fun j => !(NMS.getD j x == x)) = true)
    (h : ∀ t tk, Q (.int i t) { s with toks := tk }) : wpAny (model prog w) A (call (.builtin "tuple.index") [.ref 158, .str x u]) Q E s := by
  have hT := F.keep _ _ (X 158 _ rfl)
  refine tuple_index_str hT rfl rfl NMS (fun j v hv => ?_) hi (by simpa using hi2) (fun j hj => ?_) h
  · match j, hv with
    | 0, hv => simp at hv; exact ⟨_, hv.symm⟩
    | 1, hv => simp at hv; exact ⟨_, hv.symm⟩
    | 2, hv => simp at hv; exact ⟨_, hv.symm⟩
    | 3, hv => simp at hv; exact ⟨_, hv.symm⟩
    | 4, hv => simp at hv; exact ⟨_, hv.symm⟩
    | j + 5, hv => simp at hv
  · have := List.all_eq_true.mp hlt j (List.mem_range.mpr hj)
    simpa using this
end
local macro_rules | `(tactic| kd_adr) => `(tactic| k_extra "kd_adr")
local macro_rules | `(tactic| k_ne) => `(tactic| k_extra "k_ne")
local macro_rules | `(tactic| k_room) => `(tactic| k_extra "k_room")
local macro_rules | `(tactic| ktr_enter) => `(tactic| k_extra "ktr_enter")
local macro_rules | `(tactic| ktr_step) => `(tactic| k_extra "ktr_step")
local macro_rules | `(tactic| kit_at) => `(tactic| k_extra "kit_at")
local macro_rules | `(tactic| ktf_step) => `(tactic| k_extra "ktf_step")
local macro_rules | `(tactic| k_inst) => `(tactic| k_extra "k_inst")
local macro_rules | `(tactic| ktd_step) => `(tactic| k_extra "ktd_step")
local macro_rules | `(tactic| ktn_step) => `(tactic| k_extra "ktn_step")
local macro_rules | `(tactic| k_handed) => `(tactic| k_extra "k_handed")
local macro_rules | `(tactic| ktr_room) => `(tactic| k_extra "ktr_room")
local macro_rules | `(tactic| k_tabat) => `(tactic| k_extra "k_tabat")
local macro_rules | `(tactic| k_all) => `(tactic| k_extra "k_all")
local macro_rules | `(tactic| walk_at $s:str) => `(tactic| k_extra $s)
-- C1
theorem eq_spec (w : World) (mean : ExcName → Option Value) (mg mb : Str → Option Value) (v : Value) (V : PV) :
    Spec w mean mg mb 900 9000 21 [v, .none] (fun h => Rd h v V.py) (ValP (.bool (decide (V = .nil)))) := by
  unfold Spec
  k_fill
  k_with_none
  k_with "kd_adr" => (first | exact List.forall_mem_nil _ | (refine List.forall_mem_cons.mpr ⟨?kdh, ?kdt⟩; (case kdh => ((try dsimp only); first | kd_ltNe | (refine Ne.symm ?_; kd_ltNe) | (simp only [*, ne_eq, not_false_eq_true]; done) | (refine neN ?_; omega))); (case kdt => kd_adr)) | kd_adrTail | fail "k_dat: an address")
  k_with "k_ne" => (refine neN ?_; (try dsimp only); first | with_reducible assumption | kd_ltNe | (refine Ne.symm ?_; first | with_reducible assumption | kd_ltNe) | (simp only [*, ne_eq, not_false_eq_true]; done) | (refine Ne.symm ?_; simp only [*, ne_eq, not_false_eq_true]; done) | (refine Nat.ne_of_lt ?_; simp only [*]; done) | (refine Nat.ne_of_gt ?_; simp only [*]; done) | omega)
  k_with "k_room" => (exact Nat.le_of_ble_eq_true rfl)
  k_with "ktr_enter" => (
    refine' Mine.enterP ?kP ?k1 ?k2 ?k3 ?k4 ?k5 ?kA ?kF ?kK ?kR ?k6 ?k7 ?k8 ?k9 ?kB ?_ ?c2 ?c3 ?c4 ?c5;
    (case kA => exact rfl); (case kF => exact rfl); (case kK => assumption); (case k1 => k_asm); (case k2 => k_asm); (case k3 => k_asm); (case k4 => k_asm); (case k5 => k_asm); (case kR => assumption);
    (case k6 => k_is); (case k7 => k_is); (case k8 => exact Nat.le_of_ble_eq_true rfl); (case k9 => exact BindsTo.of_eq rfl); (case c5 => decide); (case kB => exact locs rfl); (case c2 => exact rfl); (case c3 => exact rfl); (case c4 => exact rfl); k_whole)
  k_with "ktr_step" => (refine' IsTup.keeps ?ktx (Fr.keep ?ktF); (case ktF => k_asm); (case ktx => first | assumption | exact IsTup.keeps (by assumption) (Fr.keep (by assumption)) | (refine' IsTup.keeps ?kty (Fr.keep ?ktG); (case ktG => assumption); (case kty => exact IsTup.keeps (by assumption) (Fr.keep (by assumption))))))
  k_with "kit_at" => (refine' kitAt_tup ?kaT; (case kaT => ktr_step))
  k_with "ktf_step" => (first | assumption | exact InsF.keeps (by assumption) (Fr.keep (by assumption)) | (refine' InsF.keeps ?kfI (Fr.keep ?kfF); (case kfF => assumption); (case kfI => exact InsF.keeps (by assumption) (Fr.keep (by assumption)))))
  k_with "k_inst" => (refine' InsF.at ?kiI (Fr.keep ?kiF); (case kiF => k_asm); (case kiI => ktf_step))
  k_with "ktd_step" => (refine' Rd.keeps (Fr.keep ?kdF) ?kdx; (case kdF => k_asm); (case kdx => first | assumption | exact Rd.keeps (Fr.keep (by assumption)) (by assumption) | (refine' Rd.keeps (Fr.keep ?kdG) ?kdy; (case kdG => assumption); (case kdy => exact Rd.keeps (Fr.keep (by assumption)) (by assumption)))))
  k_with "ktn_step" => (
    refine' Mine.enterPC ?kP ?k1 ?k2 ?k3 ?k4 ?k5 ?kA ?kF ?kK ?kR ?k6 ?k7 ?k8 ?k9 ?kB ?kD ?_ ?c2 ?c3 ?c4;
    (case kA => exact rfl); (case kF => exact rfl); (case kK => assumption); (case k1 => k_asm); (case k2 => k_asm); (case k3 => k_asm); (case k4 => k_asm); (case k5 => k_asm); (case kR => assumption);
    (case k6 => k_is); (case k7 => k_is); (case k8 => exact Nat.le_of_ble_eq_true rfl); (case k9 => exact BindsTo.of_eq rfl); (case kB => exact rfl); (case kD => decide +kernel); (case c2 => exact rfl); (case c3 => exact rfl); (case c4 => exact rfl); k_whole)
  k_with "subscriptTail" => (k_here; (with_reducible show wpAny _ _ (subscriptTail _ _ (Value.ref _) (Value.int _ _)) _ _ _); k_dflt (refine' item_tupleT ?t ?a ?b ?c ?d ?_; (case t => ktr_step); (case a => decide); (case b => decide); (case c => rfl); (case d => rfl); k_whole))
  k_with "subscriptTail" => (k_here; (with_reducible show wpAny _ _ (subscriptTail _ _ (Value.ref _) (Value.int 0 _)) _ _ _); k_dflt (refine' item_tup0 ?t ?_; (case t => ktr_step); k_whole))
  k_with "k_handed" => (exact Rd.handed (by assumption))
  k_with "ktr_room" => (
    refine' Mine.enterM ?kP ?k1 ?k2 ?k3 ?k4 ?k5 ?kA ?kF ?kK ?kN ?kQ ?kR ?k6 ?k7 ?k8 ?k9 ?kB ?_ ?c2 ?c3 ?c4 ?c5;
    (case kA => exact rfl); (case kF => exact rfl); (case kK => assumption); (case k1 => k_asm); (case k2 => k_asm); (case k3 => k_asm); (case k4 => k_asm); (case k5 => k_asm); (case kN => assumption); (case kQ => assumption); (case kR => assumption);
    (case k6 => k_is); (case k7 => k_is); (case k8 => exact Nat.le_of_ble_eq_true rfl); (case k9 => exact BindsTo.of_eq rfl); (case c5 => decide); (case kB => exact locs rfl); (case c2 => exact rfl); (case c3 => exact rfl); (case c4 => exact rfl); k_whole)
  intro gd cn cs a ccd cl outer A₀ base h₀ L m news s Q E B F X N T hk hpre hret
  k_dflt ktr_enter
  intro g' L' h' hg F' N' B' X' T'
  rw [← hg] at hpre
  clear hret B F X N T
  rcases pv_ways hpre with ⟨rfl, rfl⟩ | ⟨i, t, rfl, rfl⟩ | ⟨rfl, rfl⟩ | ⟨ns, a, t, vs, rfl, rfl, h1, h2⟩
  all_goals k_steps
  all_goals (try dsimp only)
  all_goals first
    | exact PEnd.intro (own := []) (by k_asm) (by k_asm) (fun _ h => nomatch h) ⟨rfl, by decide⟩
    | exact PEnd.intro (own := []) (by k_asm) (by k_asm) (fun _ h => nomatch h) ⟨rfl, by simp⟩
    | (refine PySem.SeqAt.RcAt.tuple_none (IsTup.keeps (by assumption) (Fr.keep (by k_asm))) (Nat.le_of_ble_eq_true rfl) _ _ _ _ ?_;  (try dsimp only); exact PEnd.intro (own := []) (by k_asm) (by k_asm) (fun _ h => nomatch h) ⟨rfl, by simp⟩)
-- C3
section
theorem items_spec (w : World) (mean : ExcName → Option Value) (mg mb : Str → Option Value) (lp b : Addr) (t : Tok) (vs : List Value) (hvs : vs.length ≤ 100) :
    Spec w mean mg mb 900 9000 207 [.ref lp, .ref b] (fun h => IsTup h b (Value.str (Str.ofString "list") t :: vs).toArray)
      (fun _ r own => ∃ l c, r = .ref l ∧ own = [(l, listOf vs.toArray c)]) := by
  unfold Spec
  k_fill
  k_with_none
  k_with "kd_adr" => (first | exact List.forall_mem_nil _ | (refine List.forall_mem_cons.mpr ⟨?kdh, ?kdt⟩; (case kdh => ((try dsimp only); first | kd_ltNe | (refine Ne.symm ?_; kd_ltNe) | (simp only [*, ne_eq, not_false_eq_true]; done) | (refine neN ?_; omega))); (case kdt => kd_adr)) | kd_adrTail | fail "k_dat: an address")
  k_with "k_ne" => (refine neN ?_; (try dsimp only); first | with_reducible assumption | kd_ltNe | (refine Ne.symm ?_; first | with_reducible assumption | kd_ltNe) | (simp only [*, ne_eq, not_false_eq_true]; done) | (refine Ne.symm ?_; simp only [*, ne_eq, not_false_eq_true]; done) | (refine Nat.ne_of_lt ?_; simp only [*]; done) | (refine Nat.ne_of_gt ?_; simp only [*]; done) | omega)
  k_with "k_room" => (exact Nat.le_of_ble_eq_true rfl)
  k_with "ktr_enter" => (
    refine' Mine.enterP ?kP ?k1 ?k2 ?k3 ?k4 ?k5 ?kA ?kF ?kK ?kR ?k6 ?k7 ?k8 ?k9 ?kB ?_ ?c2 ?c3 ?c4 ?c5;
    (case kA => exact rfl); (case kF => exact rfl); (case kK => assumption); (case k1 => k_asm); (case k2 => k_asm); (case k3 => k_asm); (case k4 => k_asm); (case k5 => k_asm); (case kR => assumption);
    (case k6 => k_is); (case k7 => k_is); (case k8 => exact Nat.le_of_ble_eq_true rfl); (case k9 => exact BindsTo.of_eq rfl); (case c5 => decide); (case kB => exact locs rfl); (case c2 => exact rfl); (case c3 => exact rfl); (case c4 => exact rfl); k_whole)
  k_with "ktr_step" => (refine' IsTup.keeps ?ktx (Fr.keep ?ktF); (case ktF => k_asm); (case ktx => first | assumption | exact IsTup.keeps (by assumption) (Fr.keep (by assumption)) | (refine' IsTup.keeps ?kty (Fr.keep ?ktG); (case ktG => assumption); (case kty => exact IsTup.keeps (by assumption) (Fr.keep (by assumption))))))
  k_with "kit_at" => (refine' kitAt_tup ?kaT; (case kaT => ktr_step))
  k_with "ktf_step" => (first | assumption | exact InsF.keeps (by assumption) (Fr.keep (by assumption)) | (refine' InsF.keeps ?kfI (Fr.keep ?kfF); (case kfF => assumption); (case kfI => exact InsF.keeps (by assumption) (Fr.keep (by assumption)))))
  k_with "k_inst" => (refine' InsF.at ?kiI (Fr.keep ?kiF); (case kiF => k_asm); (case kiI => ktf_step))
  k_with "ktd_step" => (refine' Rd.keeps (Fr.keep ?kdF) ?kdx; (case kdF => k_asm); (case kdx => first | assumption | exact Rd.keeps (Fr.keep (by assumption)) (by assumption) | (refine' Rd.keeps (Fr.keep ?kdG) ?kdy; (case kdG => assumption); (case kdy => exact Rd.keeps (Fr.keep (by assumption)) (by assumption)))))
  k_with "ktn_step" => (
    refine' Mine.enterPC ?kP ?k1 ?k2 ?k3 ?k4 ?k5 ?kA ?kF ?kK ?kR ?k6 ?k7 ?k8 ?k9 ?kB ?kD ?_ ?c2 ?c3 ?c4;
    (case kA => exact rfl); (case kF => exact rfl); (case kK => assumption); (case k1 => k_asm); (case k2 => k_asm); (case k3 => k_asm); (case k4 => k_asm); (case k5 => k_asm); (case kR => assumption);
    (case k6 => k_is); (case k7 => k_is); (case k8 => exact Nat.le_of_ble_eq_true rfl); (case k9 => exact BindsTo.of_eq rfl); (case kB => exact rfl); (case kD => decide +kernel); (case c2 => exact rfl); (case c3 => exact rfl); (case c4 => exact rfl); k_whole)
  k_with "subscriptTail" => (k_here; (with_reducible show wpAny _ _ (subscriptTail _ _ (Value.ref _) (Value.int _ _)) _ _ _); k_dflt (refine' item_tupleT ?t ?a ?b ?c ?d ?_; (case t => ktr_step); (case a => decide); (case b => decide); (case c => rfl); (case d => rfl); k_whole))
  k_with "subscriptTail" => (k_here; (with_reducible show wpAny _ _ (subscriptTail _ _ (Value.ref _) (Value.int 0 _)) _ _ _); k_dflt (refine' item_tup0 ?t ?_; (case t => ktr_step); k_whole))
  k_with "k_handed" => (exact Rd.handed (by assumption))
  k_with "ktr_room" => (
    refine' Mine.enterM ?kP ?k1 ?k2 ?k3 ?k4 ?k5 ?kA ?kF ?kK ?kN ?kQ ?kR ?k6 ?k7 ?k8 ?k9 ?kB ?_ ?c2 ?c3 ?c4 ?c5;
    (case kA => exact rfl); (case kF => exact rfl); (case kK => assumption); (case k1 => k_asm); (case k2 => k_asm); (case k3 => k_asm); (case k4 => k_asm); (case k5 => k_asm); (case kN => assumption); (case kQ => assumption); (case kR => assumption);
    (case k6 => k_is); (case k7 => k_is); (case k8 => exact Nat.le_of_ble_eq_true rfl); (case k9 => exact BindsTo.of_eq rfl); (case c5 => decide); (case kB => exact locs rfl); (case c2 => exact rfl); (case c3 => exact rfl); (case c4 => exact rfl); k_whole)
  k_with "subscriptTail" => (k_here; (with_reducible show wpAny _ _ (subscriptTail _ _ (Value.ref _) (Value.ref _)) _ _ _); (with_unfolding_all refine' sliceT1 ?k1 ?k2 ?k3 ?k4 ?_); (case k1 => k_asm); (case k2 => k_asm); (case k3 => ktr_step); (case k4 => omega); intro D' h9' F9' N9' l1; (try k_lt l1); (try dsimp only); (try k_fold))
  k_with "call type:list" => (k_here; (with_reducible show wpAny _ _ (call (Value.type "list") [Value.ref _]) _ _ _); k_dflt (refine' listT ?k1 ?k2 ?k3 ?k4 ?_; (case k1 => k_asm); (case k2 => k_asm); (case k3 => exact News.isTup (by k_asm) (by k_mem)); (case k4 => omega)); intro D' c' h9' F9' N9' l1; (try k_lt l1); (try dsimp only); (try k_fold))
  intro gd cn cs a ccd cl outer A₀ base h₀ L m news s Q E B F X N T hk hpre hret
  k_dflt ktr_enter
  intro g' L' h' hg F' N' B' X' T'
  rw [← hg] at hpre
  clear hret B F X N T
  (try dsimp only); (try k_fold)
  k_steps
  all_goals (try dsimp only)
  refine PEnd.one (by k_asm) (by k_asm) (.head _) ?_
  exact ⟨_, _, rfl, rfl⟩
end
-- C4
theorem number_of_spec (w : World) (mean : ExcName → Option Value) (mg mb : Str → Option Value) (lp : Addr) (v : Value) (k : Int) :
    Spec w mean mg mb 900 9000 193 [.ref lp, v] (fun h => Rd h v (symD k)) (IntP k) := by
  unfold Spec
  k_fill
  k_with_none
  k_with "kd_adr" => (first | exact List.forall_mem_nil _ | (refine List.forall_mem_cons.mpr ⟨?kdh, ?kdt⟩; (case kdh => ((try dsimp only); first | kd_ltNe | (refine Ne.symm ?_; kd_ltNe) | (simp only [*, ne_eq, not_false_eq_true]; done) | (refine neN ?_; omega))); (case kdt => kd_adr)) | kd_adrTail | fail "k_dat: an address")
  k_with "k_ne" => (refine neN ?_; (try dsimp only); first | with_reducible assumption | kd_ltNe | (refine Ne.symm ?_; first | with_reducible assumption | kd_ltNe) | (simp only [*, ne_eq, not_false_eq_true]; done) | (refine Ne.symm ?_; simp only [*, ne_eq, not_false_eq_true]; done) | (refine Nat.ne_of_lt ?_; simp only [*]; done) | (refine Nat.ne_of_gt ?_; simp only [*]; done) | omega)
  k_with "k_room" => (exact Nat.le_of_ble_eq_true rfl)
  k_with "ktr_enter" => (
    refine' Mine.enterP ?kP ?k1 ?k2 ?k3 ?k4 ?k5 ?kA ?kF ?kK ?kR ?k6 ?k7 ?k8 ?k9 ?kB ?_ ?c2 ?c3 ?c4 ?c5;
    (case kA => exact rfl); (case kF => exact rfl); (case kK => assumption); (case k1 => k_asm); (case k2 => k_asm); (case k3 => k_asm); (case k4 => k_asm); (case k5 => k_asm); (case kR => assumption);
    (case k6 => k_is); (case k7 => k_is); (case k8 => exact Nat.le_of_ble_eq_true rfl); (case k9 => exact BindsTo.of_eq rfl); (case c5 => decide); (case kB => exact locs rfl); (case c2 => exact rfl); (case c3 => exact rfl); (case c4 => exact rfl); k_whole)
  k_with "ktr_step" => (refine' IsTup.keeps ?ktx (Fr.keep ?ktF); (case ktF => k_asm); (case ktx => first | assumption | exact IsTup.keeps (by assumption) (Fr.keep (by assumption)) | (refine' IsTup.keeps ?kty (Fr.keep ?ktG); (case ktG => assumption); (case kty => exact IsTup.keeps (by assumption) (Fr.keep (by assumption))))))
  k_with "kit_at" => (refine' kitAt_tup ?kaT; (case kaT => ktr_step))
  k_with "ktf_step" => (first | assumption | exact InsF.keeps (by assumption) (Fr.keep (by assumption)) | (refine' InsF.keeps ?kfI (Fr.keep ?kfF); (case kfF => assumption); (case kfI => exact InsF.keeps (by assumption) (Fr.keep (by assumption)))))
  k_with "k_inst" => (refine' InsF.at ?kiI (Fr.keep ?kiF); (case kiF => k_asm); (case kiI => ktf_step))
  k_with "ktd_step" => (refine' Rd.keeps (Fr.keep ?kdF) ?kdx; (case kdF => k_asm); (case kdx => first | assumption | exact Rd.keeps (Fr.keep (by assumption)) (by assumption) | (refine' Rd.keeps (Fr.keep ?kdG) ?kdy; (case kdG => assumption); (case kdy => exact Rd.keeps (Fr.keep (by assumption)) (by assumption)))))
  k_with "ktn_step" => (
    refine' Mine.enterPC ?kP ?k1 ?k2 ?k3 ?k4 ?k5 ?kA ?kF ?kK ?kR ?k6 ?k7 ?k8 ?k9 ?kB ?kD ?_ ?c2 ?c3 ?c4;
    (case kA => exact rfl); (case kF => exact rfl); (case kK => assumption); (case k1 => k_asm); (case k2 => k_asm); (case k3 => k_asm); (case k4 => k_asm); (case k5 => k_asm); (case kR => assumption);
    (case k6 => k_is); (case k7 => k_is); (case k8 => exact Nat.le_of_ble_eq_true rfl); (case k9 => exact BindsTo.of_eq rfl); (case kB => exact rfl); (case kD => decide +kernel); (case c2 => exact rfl); (case c3 => exact rfl); (case c4 => exact rfl); k_whole)
  k_with "subscriptTail" => (k_here; (with_reducible show wpAny _ _ (subscriptTail _ _ (Value.ref _) (Value.int _ _)) _ _ _); k_dflt (refine' item_tupleT ?t ?a ?b ?c ?d ?_; (case t => ktr_step); (case a => decide); (case b => decide); (case c => rfl); (case d => rfl); k_whole))
  k_with "subscriptTail" => (k_here; (with_reducible show wpAny _ _ (subscriptTail _ _ (Value.ref _) (Value.int 0 _)) _ _ _); k_dflt (refine' item_tup0 ?t ?_; (case t => ktr_step); k_whole))
  k_with "k_handed" => (exact Rd.handed (by assumption))
  k_with "ktr_room" => (
    refine' Mine.enterM ?kP ?k1 ?k2 ?k3 ?k4 ?k5 ?kA ?kF ?kK ?kN ?kQ ?kR ?k6 ?k7 ?k8 ?k9 ?kB ?_ ?c2 ?c3 ?c4 ?c5;
    (case kA => exact rfl); (case kF => exact rfl); (case kK => assumption); (case k1 => k_asm); (case k2 => k_asm); (case k3 => k_asm); (case k4 => k_asm); (case k5 => k_asm); (case kN => assumption); (case kQ => assumption); (case kR => assumption);
    (case k6 => k_is); (case k7 => k_is); (case k8 => exact Nat.le_of_ble_eq_true rfl); (case k9 => exact BindsTo.of_eq rfl); (case c5 => decide); (case kB => exact locs rfl); (case c2 => exact rfl); (case c3 => exact rfl); (case c4 => exact rfl); k_whole)
  intro gd cn cs a ccd cl outer A₀ base h₀ L m news s Q E B F X N T hk hpre hret
  k_dflt ktr_enter
  intro g' L' h' hg F' N' B' X' T'
  rw [← hg] at hpre
  clear hret B F X N T
  refine Mine.hide ?_; intro Gq hGq
  obtain ⟨b, vs, rfl, h1, h2⟩ := hpre.tuple_inv
  refine hGq ?_; clear hGq Gq
  cases h2 with
  | cons p q => ?_
  cases q with
  | cons q r => ?_
  cases r
  obtain ⟨t, rfl⟩ := p.str_inv
  obtain ⟨t, rfl⟩ := q.int_inv
  (try dsimp only); (try k_fold)
  k_steps
  all_goals (try dsimp only)
  exact PEnd.zero (by k_asm) ⟨rfl, _, rfl⟩
-- C2
section
theorem mem_take_succ (ns : List Int) (n : Int) (i : Nat) (k : Int) (h : ns[i]? = some k) : (ns.take (i + 1)).filter (· == n) = (ns.take i).filter (· == n) ++ (if k == n then [k] else []) := by
  rw [List.take_add_one, h]
  simp [List.filter_append, List.filter_cons]
theorem is_member_spec (w : World) (mean : ExcName → Option Value) (mg mb : Str → Option Value) (r lp df : Addr) (n : Int) (t : Tok) (v : Value) (V : PV) (hVl : ∀ ns, V = .lst ns → ns.length ≤ 100) :
    Spec w mean mg mb 800 8000 75 [.ref r, .int n t, v] (fun h => RulesAt w.params h r lp df ∧ Rd h v V.py) (ValP (.bool (V.mem n))) := by
  unfold Spec
  k_fill
  k_with_none
  k_with "kd_adr" => (first | exact List.forall_mem_nil _ | (refine List.forall_mem_cons.mpr ⟨?kdh, ?kdt⟩; (case kdh => ((try dsimp only); first | kd_ltNe | (refine Ne.symm ?_; kd_ltNe) | (simp only [*, ne_eq, not_false_eq_true]; done) | (refine neN ?_; omega))); (case kdt => kd_adr)) | kd_adrTail | fail "k_dat: an address")
  k_with "k_ne" => (refine neN ?_; (try dsimp only); first | with_reducible assumption | kd_ltNe | (refine Ne.symm ?_; first | with_reducible assumption | kd_ltNe) | (simp only [*, ne_eq, not_false_eq_true]; done) | (refine Ne.symm ?_; simp only [*, ne_eq, not_false_eq_true]; done) | (refine Nat.ne_of_lt ?_; simp only [*]; done) | (refine Nat.ne_of_gt ?_; simp only [*]; done) | omega)
  k_with "k_room" => (exact Nat.le_of_ble_eq_true rfl)
  k_with "ktr_enter" => (
    refine' Mine.enterP ?kP ?k1 ?k2 ?k3 ?k4 ?k5 ?kA ?kF ?kK ?kR ?k6 ?k7 ?k8 ?k9 ?kB ?_ ?c2 ?c3 ?c4 ?c5;
    (case kA => exact rfl); (case kF => exact rfl); (case kK => assumption); (case k1 => k_asm); (case k2 => k_asm); (case k3 => k_asm); (case k4 => k_asm); (case k5 => k_asm); (case kR => assumption);
    (case k6 => k_is); (case k7 => k_is); (case k8 => exact Nat.le_of_ble_eq_true rfl); (case k9 => exact BindsTo.of_eq rfl); (case c5 => decide); (case kB => exact locs rfl); (case c2 => exact rfl); (case c3 => exact rfl); (case c4 => exact rfl); k_whole)
  k_with "ktr_step" => (refine' IsTup.keeps ?ktx (Fr.keep ?ktF); (case ktF => k_asm); (case ktx => first | assumption | exact IsTup.keeps (by assumption) (Fr.keep (by assumption)) | (refine' IsTup.keeps ?kty (Fr.keep ?ktG); (case ktG => assumption); (case kty => exact IsTup.keeps (by assumption) (Fr.keep (by assumption))))))
  k_with "kit_at" => (refine' kitAt_tup ?kaT; (case kaT => ktr_step))
  k_with "ktf_step" => (first | assumption | exact InsF.keeps (by assumption) (Fr.keep (by assumption)) | (refine' InsF.keeps ?kfI (Fr.keep ?kfF); (case kfF => assumption); (case kfI => exact InsF.keeps (by assumption) (Fr.keep (by assumption)))))
  k_with "k_inst" => (refine' InsF.at ?kiI (Fr.keep ?kiF); (case kiF => k_asm); (case kiI => ktf_step))
  k_with "ktd_step" => (refine' Rd.keeps (Fr.keep ?kdF) ?kdx; (case kdF => k_asm); (case kdx => first | assumption | exact Rd.keeps (Fr.keep (by assumption)) (by assumption) | (refine' Rd.keeps (Fr.keep ?kdG) ?kdy; (case kdG => assumption); (case kdy => exact Rd.keeps (Fr.keep (by assumption)) (by assumption)))))
  k_with "ktn_step" => (
    refine' Mine.enterPC ?kP ?k1 ?k2 ?k3 ?k4 ?k5 ?kA ?kF ?kK ?kR ?k6 ?k7 ?k8 ?k9 ?kB ?kD ?_ ?c2 ?c3 ?c4;
    (case kA => exact rfl); (case kF => exact rfl); (case kK => assumption); (case k1 => k_asm); (case k2 => k_asm); (case k3 => k_asm); (case k4 => k_asm); (case k5 => k_asm); (case kR => assumption);
    (case k6 => k_is); (case k7 => k_is); (case k8 => exact Nat.le_of_ble_eq_true rfl); (case k9 => exact BindsTo.of_eq rfl); (case kB => exact rfl); (case kD => decide +kernel); (case c2 => exact rfl); (case c3 => exact rfl); (case c4 => exact rfl); k_whole)
  k_with "subscriptTail" => (k_here; (with_reducible show wpAny _ _ (subscriptTail _ _ (Value.ref _) (Value.int _ _)) _ _ _); k_dflt (refine' item_tupleT ?t ?a ?b ?c ?d ?_; (case t => ktr_step); (case a => decide); (case b => decide); (case c => rfl); (case d => rfl); k_whole))
  k_with "subscriptTail" => (k_here; (with_reducible show wpAny _ _ (subscriptTail _ _ (Value.ref _) (Value.int 0 _)) _ _ _); k_dflt (refine' item_tup0 ?t ?_; (case t => ktr_step); k_whole))
  k_with "k_handed" => (exact Rd.handed (by assumption))
  k_with "ktr_room" => (
    refine' Mine.enterM ?kP ?k1 ?k2 ?k3 ?k4 ?k5 ?kA ?kF ?kK ?kN ?kQ ?kR ?k6 ?k7 ?k8 ?k9 ?kB ?_ ?c2 ?c3 ?c4 ?c5;
    (case kA => exact rfl); (case kF => exact rfl); (case kK => assumption); (case k1 => k_asm); (case k2 => k_asm); (case k3 => k_asm); (case k4 => k_asm); (case k5 => k_asm); (case kN => assumption); (case kQ => assumption); (case kR => assumption);
    (case k6 => k_is); (case k7 => k_is); (case k8 => exact Nat.le_of_ble_eq_true rfl); (case k9 => exact BindsTo.of_eq rfl); (case c5 => decide); (case kB => exact locs rfl); (case c2 => exact rfl); (case c3 => exact rfl); (case c4 => exact rfl); k_whole)
  k_with "call ref" => (k_here; (with_reducible show wpAny _ _ (call (Value.ref 21) _) _ _ _); (show wpAny _ _ (call (Value.ref 21) [_, Value.none]) _ _ _); k_dflt (refine' spec_useV (Mine.eq_spec _ _ _ _ _ _) ?k1 ?k2 ?k3 ?k4 ?k5 ?kA ?kH ?kK ?kd ?ku ?kp ?_; (case kA => exact rfl); (case kH => exact rfl); (case kK => exact rfl); (case k1 => k_asm); (case k2 => k_asm); (case k3 => k_asm); (case k4 => k_asm); (case k5 => k_asm); (case kd => exact Nat.le_of_ble_eq_true rfl); (case ku => exact Nat.le_of_ble_eq_true rfl); (case kp => ktd_step); intro h9' tk9' F9' N9' k9'); (try dsimp only); (try k_fold))
  k_with "call ref" => (k_here; (with_reducible show wpAny _ _ (call (Value.ref 207) _) _ _ _); (show wpAny _ _ (call (Value.ref 207) [_, Value.ref _]) _ _ _); k_dflt (refine' spec_use (Mine.items_spec _ _ _ _ _ _ _ _ ?hn) ?k1 ?k2 ?k3 ?k4 ?k5 ?kA ?kH ?kK ?kd ?ku ?kp ?_; (case kA => exact rfl); (case kH => exact rfl); (case kK => exact rfl); (case k1 => k_asm); (case k2 => k_asm); (case k3 => k_asm); (case k4 => k_asm); (case k5 => k_asm); (case kd => exact Nat.le_of_ble_eq_true rfl); (case ku => exact Nat.le_of_ble_eq_true rfl); (case kp => ktr_step); (case hn => assumption); intro r9' own9' h9' tk9' F9' N9' k9' ne9' po9'); (obtain ⟨l9', c9', e9', e9x'⟩ := po9'); subst e9'; subst e9x'; (try simp only [List.cons_append, List.nil_append] at N9'); (simp only [List.forall_mem_cons, List.forall_mem_nil, and_true] at ne9'); (try dsimp only); (try k_fold))
  k_with "call ref" => (k_here; (with_reducible show wpAny _ _ (call (Value.ref 193) _) _ _ _); (show wpAny _ _ (call (Value.ref 193) [_, _]) _ _ _); k_dflt (refine' spec_useI (Mine.number_of_spec _ _ _ _ _ _ _) ?k1 ?k2 ?k3 ?k4 ?k5 ?kA ?kH ?kK ?kd ?ku ?kp ?_; (case kA => exact rfl); (case kH => exact rfl); (case kK => exact rfl); (case k1 => k_asm); (case k2 => k_asm); (case k3 => k_asm); (case k4 => k_asm); (case k5 => k_asm); (case kd => exact Nat.le_of_ble_eq_true rfl); (case ku => exact Nat.le_of_ble_eq_true rfl); (case kp => ktd_step); intro t9' h9' tk9' F9' N9' k9'); (try dsimp only); (try k_fold))
  intro gd cn cs a ccd cl outer A₀ base h₀ L m news s Q E B F X N T hk hpre hret
  k_dflt ktn_step
  intro g' L' h' tk' cells' hg F' N' Y' B' X' T'
  k_cells Y'
  rw [← hg] at hpre
  clear hret B F X N T
  refine Mine.hide ?_; intro Gq hGq
  obtain ⟨⟨dx, nn, tt, ldx, ln, t1, t2, t3, t4, t5, pl, hR, hL⟩, hV⟩ := hpre
  refine hGq ?_; clear hGq Gq
  rcases pv_ways hV with ⟨rfl, rfl⟩ | ⟨i, t, rfl, rfl⟩ | ⟨rfl, rfl⟩ | ⟨ns, a, t, vs, rfl, rfl, h1, h2⟩
  case inl =>
    ((try dsimp only); (try k_fold)); k_steps
    all_goals (try dsimp only)
    all_goals first
      | exact PEnd.val (by k_asm) rfl
      | (exfalso; (rename (_ = PV.nil) => hab); cases hab)
      | (exfalso; (rename (¬ _ = PV.nil) => hab); exact hab rfl)
  case inr.inl =>
    ((try dsimp only); (try k_fold)); k_steps
    all_goals (try dsimp only)
    all_goals first
      | exact PEnd.val (by k_asm) rfl
      | (exfalso; (rename (_ = PV.nil) => hab); cases hab)
      | (exfalso; (rename (¬ _ = PV.nil) => hab); exact hab rfl)
  case inr.inr.inl =>
    ((try dsimp only); (try k_fold)); k_steps
    all_goals (try dsimp only)
    all_goals first
      | exact PEnd.val (by k_asm) rfl
      | (exfalso; (rename (_ = PV.nil) => hab); cases hab)
      | (exfalso; (rename (¬ _ = PV.nil) => hab); exact hab rfl)
  have hns := hVl ns rfl
  have hvl : vs.length = ns.length := by simpa using h2.length
  have hvs : vs.length ≤ 100 := by omega
  k_with "CompSrcT" => ((refine LCt.CompSrcT.ledger (its := vs.toArray) (by rfl) (by k_asm) (by k_asm) (by k_mem) (by simp; rw [sizeLine_eq]; omega) ?_); intro g9; refine Stop.of ?_)
  all_goals ((try dsimp only); (try k_fold))
  all_goals k_steps
  all_goals (try dsimp only)
  all_goals first
    | exact PEnd.val (by k_asm) rfl
    | (exfalso; (rename (PV.lst _ = PV.nil) => hab); cases hab)
    | skip
  refine Stop.mk ?_
  refine restT_ind (fun i ys => IntsAre ys (((ns.take i).filter (· == n)).map fun _ => 1)) (Or.inr ⟨_, by k_mem, rfl, _, rfl⟩) .nil ?fin ?turn
  case turn =>
    (intro i ys v I oI C oC D m₂ h tk E' hi hJ hv hC hx F N off ne)
    (simp only [List.getElem?_toArray] at hv)
    (obtain ⟨d, hd1, hd2⟩ := h2.get i v hv)
    (simp only [List.getElem?_map, Option.map_eq_some_iff] at hd1)
    (obtain ⟨k, hk1, rfl⟩ := hd1)
    (try simp only [LCg.Off3, and_true] at off)
    k_steps
    · refine TEnd.same (by k_asm) (by k_asm) ?_
      rw [mem_take_succ ns n i k hk1, if_pos (by simpa using ‹k = n›), List.map_append]
      exact IntsAre.append hJ (.cons 1 _ .nil)
    · refine TEnd.same (by k_asm) (by k_asm) ?_
      rw [mem_take_succ ns n i k hk1, if_neg (by simpa using ‹k ≠ n›), List.append_nil]
      exact hJ
  case fin =>
    intro ys hJ
    rw [show vs.toArray.size = ns.length by simpa using hvl, List.take_length] at hJ
    k_steps
    (try dsimp only)
    refine PEnd.val (by k_asm) ?_
    congr 1
    simp only [PV.mem]
    by_cases hm : n ∈ ns
    · simp [hm, List.filter_eq_nil_iff]
    · simp [hm, List.filter_eq_nil_iff]
      intro a ha e; exact hm (e ▸ ha)
end
-- C5
section
theorem plist_find_spec (w : World) (mean : ExcName → Option Value) (mg mb : Str → Option Value) (v : Value) (P : List (Int × PV)) (n : Int) (tn : Tok) (hP : P.length ≤ 100) :
    Spec w mean mg mb 900 9000 28 [v, .int n tn] (fun h => Rd h v (plD P)) (IntP (findP P n)) := by
  unfold Spec
  k_fill
  k_with_none
  k_with "kd_adr" => (first | exact List.forall_mem_nil _ | (refine List.forall_mem_cons.mpr ⟨?kdh, ?kdt⟩; (case kdh => ((try dsimp only); first | kd_ltNe | (refine Ne.symm ?_; kd_ltNe) | (simp only [*, ne_eq, not_false_eq_true]; done) | (refine neN ?_; omega))); (case kdt => kd_adr)) | kd_adrTail | fail "k_dat: an address")
  k_with "k_ne" => (refine neN ?_; (try dsimp only); first | with_reducible assumption | kd_ltNe | (refine Ne.symm ?_; first | with_reducible assumption | kd_ltNe) | (simp only [*, ne_eq, not_false_eq_true]; done) | (refine Ne.symm ?_; simp only [*, ne_eq, not_false_eq_true]; done) | (refine Nat.ne_of_lt ?_; simp only [*]; done) | (refine Nat.ne_of_gt ?_; simp only [*]; done) | omega)
  k_with "k_room" => (exact Nat.le_of_ble_eq_true rfl)
  k_with "ktr_enter" => (
    refine' Mine.enterP ?kP ?k1 ?k2 ?k3 ?k4 ?k5 ?kA ?kF ?kK ?kR ?k6 ?k7 ?k8 ?k9 ?kB ?_ ?c2 ?c3 ?c4 ?c5;
    (case kA => exact rfl); (case kF => exact rfl); (case kK => assumption); (case k1 => k_asm); (case k2 => k_asm); (case k3 => k_asm); (case k4 => k_asm); (case k5 => k_asm); (case kR => assumption);
    (case k6 => k_is); (case k7 => k_is); (case k8 => exact Nat.le_of_ble_eq_true rfl); (case k9 => exact BindsTo.of_eq rfl); (case c5 => decide); (case kB => exact locs rfl); (case c2 => exact rfl); (case c3 => exact rfl); (case c4 => exact rfl); k_whole)
  k_with "ktr_step" => (refine' IsTup.keeps ?ktx (Fr.keep ?ktF); (case ktF => k_asm); (case ktx => first | assumption | exact IsTup.keeps (by assumption) (Fr.keep (by assumption)) | (refine' IsTup.keeps ?kty (Fr.keep ?ktG); (case ktG => assumption); (case kty => exact IsTup.keeps (by assumption) (Fr.keep (by assumption))))))
  k_with "kit_at" => (refine' kitAt_tup ?kaT; (case kaT => ktr_step))
  k_with "ktf_step" => (first | assumption | exact InsF.keeps (by assumption) (Fr.keep (by assumption)) | (refine' InsF.keeps ?kfI (Fr.keep ?kfF); (case kfF => assumption); (case kfI => exact InsF.keeps (by assumption) (Fr.keep (by assumption)))))
  k_with "k_inst" => (refine' InsF.at ?kiI (Fr.keep ?kiF); (case kiF => k_asm); (case kiI => ktf_step))
  k_with "ktd_step" => (refine' Rd.keeps (Fr.keep ?kdF) ?kdx; (case kdF => k_asm); (case kdx => first | assumption | exact Rd.keeps (Fr.keep (by assumption)) (by assumption) | (refine' Rd.keeps (Fr.keep ?kdG) ?kdy; (case kdG => assumption); (case kdy => exact Rd.keeps (Fr.keep (by assumption)) (by assumption)))))
  k_with "ktn_step" => (
    refine' Mine.enterPC ?kP ?k1 ?k2 ?k3 ?k4 ?k5 ?kA ?kF ?kK ?kR ?k6 ?k7 ?k8 ?k9 ?kB ?kD ?_ ?c2 ?c3 ?c4;
    (case kA => exact rfl); (case kF => exact rfl); (case kK => assumption); (case k1 => k_asm); (case k2 => k_asm); (case k3 => k_asm); (case k4 => k_asm); (case k5 => k_asm); (case kR => assumption);
    (case k6 => k_is); (case k7 => k_is); (case k8 => exact Nat.le_of_ble_eq_true rfl); (case k9 => exact BindsTo.of_eq rfl); (case kB => exact rfl); (case kD => decide +kernel); (case c2 => exact rfl); (case c3 => exact rfl); (case c4 => exact rfl); k_whole)
  k_with "subscriptTail" => (k_here; (with_reducible show wpAny _ _ (subscriptTail _ _ (Value.ref _) (Value.int _ _)) _ _ _); k_dflt (refine' item_tupleT ?t ?a ?b ?c ?d ?_; (case t => ktr_step); (case a => decide); (case b => decide); (case c => rfl); (case d => rfl); k_whole))
  k_with "subscriptTail" => (k_here; (with_reducible show wpAny _ _ (subscriptTail _ _ (Value.ref _) (Value.int 0 _)) _ _ _); k_dflt (refine' item_tup0 ?t ?_; (case t => ktr_step); k_whole))
  k_with "k_handed" => (exact Rd.handed (by assumption))
  k_with "ktr_room" => (
    refine' Mine.enterM ?kP ?k1 ?k2 ?k3 ?k4 ?k5 ?kA ?kF ?kK ?kN ?kQ ?kR ?k6 ?k7 ?k8 ?k9 ?kB ?_ ?c2 ?c3 ?c4 ?c5;
    (case kA => exact rfl); (case kF => exact rfl); (case kK => assumption); (case k1 => k_asm); (case k2 => k_asm); (case k3 => k_asm); (case k4 => k_asm); (case k5 => k_asm); (case kN => assumption); (case kQ => assumption); (case kR => assumption);
    (case k6 => k_is); (case k7 => k_is); (case k8 => exact Nat.le_of_ble_eq_true rfl); (case k9 => exact BindsTo.of_eq rfl); (case c5 => decide); (case kB => exact locs rfl); (case c2 => exact rfl); (case c3 => exact rfl); (case c4 => exact rfl); k_whole)
  k_with "call builtin:len" => (k_here; (with_reducible show wpAny _ _ (call (Value.builtin "len") [Value.ref _]) _ _ _); k_dflt (refine' len_base ?k1 ?k2 ?k3 ?_; (case k1 => is_list); (case k2 => assumption); (case k3 => omega)); intro t9' tk9'; (try dsimp only); (try k_fold))
  k_with "subscriptTail" => (k_here; (with_reducible show wpAny _ _ (subscriptTail _ _ (Value.ref _) (Value.int _ _)) _ _ _); k_dflt (refine' item_list_at ?t ?a ?b ?c ?_; (case t => is_list); (case a => assumption); (case b => assumption); (case c => assumption); k_whole))
  k_with "pyIter ref" => refine Stop.of ?_
  intro gd cn cs a ccd cl outer A₀ base h₀ L m news s Q E B F X N T hk hpre hret
  k_dflt ktr_enter
  intro g' L' h' hg F' N' B' X' T'
  rw [← hg] at hpre
  clear hret B F X N T
  refine Mine.hide ?_; intro Gq hGq
  obtain ⟨b, vs, rfl, h1, h2⟩ := hpre.list_inv
  refine hGq ?_; clear hGq Gq
  have hvl : vs.length = P.length := by simpa using h2.length
  (try dsimp only); (try k_fold)
  k_steps
  refine Stop.mk ?_
  (rename Fr _ _ _ _ => lF'); (rename News _ _ _ _ => lN'); (rename IsRange _ _ _ _ _ _ _ _ => rgX)
  with_unfolding_all refine' kst_range (σ := Unit) (n := P.length) (fun _ => []) (fun _ => []) (fun _ => True) [] (fun pre _ => ∀ j : Nat, j < pre.length → ∀ e, P[j]? = some e → e.1 ≠ n) () (by rfl) rgX (small_one (by omega) (by omega) (by omega) (by omega)) ?rs lF' lN' True.intro (List.forall_mem_nil _) (fun j hj => absurd hj (Nat.not_lt_zero _)) ?turn ?done
  case rs => simpa using rangeSize_nat 0 P.length
  case turn =>
    intro c pre k t u h tk own hk hlt hoff hfa hJ hFr hNw
    obtain ⟨e, he⟩ : ∃ e, P[pre.length]? = some e := ⟨P[pre.length], by simp [hlt]⟩
    obtain ⟨v, hv⟩ : ∃ v, vs[pre.length]? = some v := ⟨vs[pre.length]'(by omega), by simp⟩
    refine Mine.hide ?_; intro Gq hGq
    obtain ⟨d, hd1, hd2⟩ := h2.get _ v hv
    simp only [List.getElem?_map, he, Option.map_some, Option.some.injEq] at hd1
    subst hd1
    obtain ⟨ea, et, ey, rfl, hi1, hi2⟩ := ent_inv hd2
    refine hGq ?_; clear hGq Gq
    have hk0 : 0 ≤ k := by omega
    have hk1 : k < 2 ^ 63 := by omega
    have hk2 : vs[k.toNat]? = some (.ref ea) := by rw [show k.toNat = pre.length by omega]; exact hv
    simp only [List.nil_append] at hNw
    (try dsimp only); (try k_fold)
    k_steps
    · refine PEnd.zero (by k_asm) ⟨rfl, t, ?_⟩
      rw [findP_at P n pre.length e he (by assumption) hJ]
      show Value.int k t = Value.int _ t
      congr 1; omega
    · refine kst_end () (by k_asm) (by k_asm) (List.forall_mem_nil _) (fun p hp => hp) rfl True.intro (List.forall_mem_nil _) ?_ ?_
      · intro z hz _ _
        dsimp only
        rw [if_neg hz]; rfl
      · intro j hj e' he'
        rw [List.length_append, List.length_singleton] at hj
        by_cases hjl : j < pre.length
        · exact hJ j hjl e' he'
        · have : j = pre.length := by omega
          subst this
          rw [he] at he'; cases he'
          assumption
  case done =>
    intro c u h tk hfa hJ hFr hNw
    (try dsimp only); (try k_fold)
    k_steps
    (try dsimp only)
    have hfn : findP P n = -1 := findP_none P n ?_
    · exact PEnd.zero (by k_asm) (hfn.symm ▸ ⟨rfl, _, rfl⟩)
    intro j e' he'
    refine hJ j ?_ e' he'
    rw [rangeKs_length]
    exact (List.getElem?_eq_some_iff.mp he').1
end
-- C6
section

noncomputable def OneP (o : Option Value) (_ : Heap) (r : Value) (own : List (Addr × Obj)) : Prop :=
  match o with
  | none => own = [] ∧ r = .none
  | some y => ∃ a, r = .ref a ∧ own = [(a, ({ cls := .type "tuple", data := .seq [y].toArray } : Obj))]
theorem plist_get_spec (w : World) (mean : ExcName → Option Value) (mg mb : Str → Option Value) (v : Value) (P : List (Int × PV)) (n : Int) (tn : Tok) (o : Option Value) (hP : P.length ≤ 100) :
    Spec w mean mg mb 800 8000 35 [v, .int n tn] (fun h => Rd h v (plD P) ∧ Got h v P n o) (OneP o) := by
  unfold Spec
  k_fill
  k_with_none
  k_with "kd_adr" => (first | exact List.forall_mem_nil _ | (refine List.forall_mem_cons.mpr ⟨?kdh, ?kdt⟩; (case kdh => ((try dsimp only); first | kd_ltNe | (refine Ne.symm ?_; kd_ltNe) | (simp only [*, ne_eq, not_false_eq_true]; done) | (refine neN ?_; omega))); (case kdt => kd_adr)) | kd_adrTail | fail "k_dat: an address")
  k_with "k_ne" => (refine neN ?_; (try dsimp only); first | with_reducible assumption | kd_ltNe | (refine Ne.symm ?_; first | with_reducible assumption | kd_ltNe) | (simp only [*, ne_eq, not_false_eq_true]; done) | (refine Ne.symm ?_; simp only [*, ne_eq, not_false_eq_true]; done) | (refine Nat.ne_of_lt ?_; simp only [*]; done) | (refine Nat.ne_of_gt ?_; simp only [*]; done) | omega)
  k_with "k_room" => (exact Nat.le_of_ble_eq_true rfl)
  k_with "ktr_enter" => (
    refine' Mine.enterP ?kP ?k1 ?k2 ?k3 ?k4 ?k5 ?kA ?kF ?kK ?kR ?k6 ?k7 ?k8 ?k9 ?kB ?_ ?c2 ?c3 ?c4 ?c5;
    (case kA => exact rfl); (case kF => exact rfl); (case kK => assumption); (case k1 => k_asm); (case k2 => k_asm); (case k3 => k_asm); (case k4 => k_asm); (case k5 => k_asm); (case kR => assumption);
    (case k6 => k_is); (case k7 => k_is); (case k8 => exact Nat.le_of_ble_eq_true rfl); (case k9 => exact BindsTo.of_eq rfl); (case c5 => decide); (case kB => exact locs rfl); (case c2 => exact rfl); (case c3 => exact rfl); (case c4 => exact rfl); k_whole)
  k_with "ktr_step" => (refine' IsTup.keeps ?ktx (Fr.keep ?ktF); (case ktF => k_asm); (case ktx => first | assumption | exact IsTup.keeps (by assumption) (Fr.keep (by assumption)) | (refine' IsTup.keeps ?kty (Fr.keep ?ktG); (case ktG => assumption); (case kty => exact IsTup.keeps (by assumption) (Fr.keep (by assumption))))))
  k_with "kit_at" => (refine' kitAt_tup ?kaT; (case kaT => ktr_step))
  k_with "ktf_step" => (first | assumption | exact InsF.keeps (by assumption) (Fr.keep (by assumption)) | (refine' InsF.keeps ?kfI (Fr.keep ?kfF); (case kfF => assumption); (case kfI => exact InsF.keeps (by assumption) (Fr.keep (by assumption)))))
  k_with "k_inst" => (refine' InsF.at ?kiI (Fr.keep ?kiF); (case kiF => k_asm); (case kiI => ktf_step))
  k_with "ktd_step" => (refine' Rd.keeps (Fr.keep ?kdF) ?kdx; (case kdF => k_asm); (case kdx => first | assumption | exact Rd.keeps (Fr.keep (by assumption)) (by assumption) | (refine' Rd.keeps (Fr.keep ?kdG) ?kdy; (case kdG => assumption); (case kdy => exact Rd.keeps (Fr.keep (by assumption)) (by assumption)))))
  k_with "ktn_step" => (
    refine' Mine.enterPC ?kP ?k1 ?k2 ?k3 ?k4 ?k5 ?kA ?kF ?kK ?kR ?k6 ?k7 ?k8 ?k9 ?kB ?kD ?_ ?c2 ?c3 ?c4;
    (case kA => exact rfl); (case kF => exact rfl); (case kK => assumption); (case k1 => k_asm); (case k2 => k_asm); (case k3 => k_asm); (case k4 => k_asm); (case k5 => k_asm); (case kR => assumption);
    (case k6 => k_is); (case k7 => k_is); (case k8 => exact Nat.le_of_ble_eq_true rfl); (case k9 => exact BindsTo.of_eq rfl); (case kB => exact rfl); (case kD => decide +kernel); (case c2 => exact rfl); (case c3 => exact rfl); (case c4 => exact rfl); k_whole)
  k_with "subscriptTail" => (k_here; (with_reducible show wpAny _ _ (subscriptTail _ _ (Value.ref _) (Value.int _ _)) _ _ _); k_dflt (refine' item_tupleT ?t ?a ?b ?c ?d ?_; (case t => ktr_step); (case a => decide); (case b => decide); (case c => rfl); (case d => rfl); k_whole))
  k_with "subscriptTail" => (k_here; (with_reducible show wpAny _ _ (subscriptTail _ _ (Value.ref _) (Value.int 0 _)) _ _ _); k_dflt (refine' item_tup0 ?t ?_; (case t => ktr_step); k_whole))
  k_with "k_handed" => (exact Rd.handed (by assumption))
  k_with "ktr_room" => (
    refine' Mine.enterM ?kP ?k1 ?k2 ?k3 ?k4 ?k5 ?kA ?kF ?kK ?kN ?kQ ?kR ?k6 ?k7 ?k8 ?k9 ?kB ?_ ?c2 ?c3 ?c4 ?c5;
    (case kA => exact rfl); (case kF => exact rfl); (case kK => assumption); (case k1 => k_asm); (case k2 => k_asm); (case k3 => k_asm); (case k4 => k_asm); (case k5 => k_asm); (case kN => assumption); (case kQ => assumption); (case kR => assumption);
    (case k6 => k_is); (case k7 => k_is); (case k8 => exact Nat.le_of_ble_eq_true rfl); (case k9 => exact BindsTo.of_eq rfl); (case c5 => decide); (case kB => exact locs rfl); (case c2 => exact rfl); (case c3 => exact rfl); (case c4 => exact rfl); k_whole)
  k_with "call ref" => (k_here; (with_reducible show wpAny _ _ (call (Value.ref 28) _) _ _ _); (show wpAny _ _ (call (Value.ref 28) [_, Value.int _ _]) _ _ _); k_dflt (refine' spec_useI (Mine.plist_find_spec _ _ _ _ _ _ _ _ ?hn) ?k1 ?k2 ?k3 ?k4 ?k5 ?kA ?kH ?kK ?kd ?ku ?kp ?_; (case kA => exact rfl); (case kH => exact rfl); (case kK => exact rfl); (case k1 => k_asm); (case k2 => k_asm); (case k3 => k_asm); (case k4 => k_asm); (case k5 => k_asm); (case kd => exact Nat.le_of_ble_eq_true rfl); (case ku => exact Nat.le_of_ble_eq_true rfl); (case kp => ktd_step); (case hn => assumption); intro t9' h9' tk9' F9' N9' k9'); (try dsimp only); (try k_fold))
  k_with "subscriptTail" => (k_here; (with_reducible show wpAny _ _ (subscriptTail _ _ (Value.ref _) (Value.int _ _)) _ _ _); k_dflt (refine' item_list_at ?t ?a ?b ?c ?_; (case t => is_list); (case a => assumption); (case b => assumption); (case c => assumption); k_whole))
  intro gd cn cs a ccd cl outer A₀ base h₀ L m news s Q E B F X N T hk hpre hret
  k_dflt ktr_enter
  intro g' L' h' hg F' N' B' X' T'
  rw [← hg] at hpre
  clear hret B F X N T

  obtain ⟨hpl, hgot⟩ := hpre
  rcases hgot with ⟨rfl, hh, hf⟩ | ⟨k, V, b, vs, ea, et, y, rfl, hh, hf, hk60, rfl, h1, hv, hi1, hi2⟩
  · (try dsimp only); (try k_fold)
    k_steps
    all_goals (try dsimp only)
    all_goals first
      | exact PEnd.zero (by k_asm) ⟨rfl, rfl⟩
      | (exfalso; omega)
  · have hk0 : 0 ≤ findP P n := by omega
    have hk1 : findP P n < 2 ^ 63 := by omega
    have hk2 : vs[(findP P n).toNat]? = some (.ref ea) := by rw [hf]; simpa using hv
    (try dsimp only); (try k_fold)
    k_steps
    all_goals (try dsimp only)
    all_goals first
      | exact PEnd.one (by k_asm) (by k_asm) (.head _) ⟨_, rfl, rfl⟩
      | (exfalso; omega)
end
-- C7
section
theorem value_in_spec (w : World) (mean : ExcName → Option Value) (mg mb : Str → Option Value) (r lp df : Addr) (v : Value) (P : List (Int × PV)) (n : Int) (tn : Tok) (o : Option Value) (hP : P.length ≤ 100) (hc : heldP P 100 = none) :
    Spec w mean mg mb 700 7000 70 [.ref r, v, .int n tn] (fun h => RulesAt w.params h r lp df ∧ Rd h v (plD P) ∧ Got h v P n o) (ValP (gotV o)) := by
  unfold Spec
  k_fill
  k_with_none
  k_with "kd_adr" => (first | exact List.forall_mem_nil _ | (refine List.forall_mem_cons.mpr ⟨?kdh, ?kdt⟩; (case kdh => ((try dsimp only); first | kd_ltNe | (refine Ne.symm ?_; kd_ltNe) | (simp only [*, ne_eq, not_false_eq_true]; done) | (refine neN ?_; omega))); (case kdt => kd_adr)) | kd_adrTail | fail "k_dat: an address")
  k_with "k_ne" => (refine neN ?_; (try dsimp only); first | with_reducible assumption | kd_ltNe | (refine Ne.symm ?_; first | with_reducible assumption | kd_ltNe) | (simp only [*, ne_eq, not_false_eq_true]; done) | (refine Ne.symm ?_; simp only [*, ne_eq, not_false_eq_true]; done) | (refine Nat.ne_of_lt ?_; simp only [*]; done) | (refine Nat.ne_of_gt ?_; simp only [*]; done) | omega)
  k_with "k_room" => (exact Nat.le_of_ble_eq_true rfl)
  k_with "ktr_enter" => (
    refine' Mine.enterP ?kP ?k1 ?k2 ?k3 ?k4 ?k5 ?kA ?kF ?kK ?kR ?k6 ?k7 ?k8 ?k9 ?kB ?_ ?c2 ?c3 ?c4 ?c5;
    (case kA => exact rfl); (case kF => exact rfl); (case kK => assumption); (case k1 => k_asm); (case k2 => k_asm); (case k3 => k_asm); (case k4 => k_asm); (case k5 => k_asm); (case kR => assumption);
    (case k6 => k_is); (case k7 => k_is); (case k8 => exact Nat.le_of_ble_eq_true rfl); (case k9 => exact BindsTo.of_eq rfl); (case c5 => decide); (case kB => exact locs rfl); (case c2 => exact rfl); (case c3 => exact rfl); (case c4 => exact rfl); k_whole)
  k_with "ktr_step" => (refine' IsTup.keeps ?ktx (Fr.keep ?ktF); (case ktF => k_asm); (case ktx => first | assumption | exact IsTup.keeps (by assumption) (Fr.keep (by assumption)) | (refine' IsTup.keeps ?kty (Fr.keep ?ktG); (case ktG => assumption); (case kty => exact IsTup.keeps (by assumption) (Fr.keep (by assumption))))))
  k_with "kit_at" => (refine' kitAt_tup ?kaT; (case kaT => ktr_step))
  k_with "ktf_step" => (first | assumption | exact InsF.keeps (by assumption) (Fr.keep (by assumption)) | (refine' InsF.keeps ?kfI (Fr.keep ?kfF); (case kfF => assumption); (case kfI => exact InsF.keeps (by assumption) (Fr.keep (by assumption)))))
  k_with "k_inst" => (refine' InsF.at ?kiI (Fr.keep ?kiF); (case kiF => k_asm); (case kiI => ktf_step))
  k_with "ktd_step" => (refine' Rd.keeps (Fr.keep ?kdF) ?kdx; (case kdF => k_asm); (case kdx => first | assumption | exact Rd.keeps (Fr.keep (by assumption)) (by assumption) | (refine' Rd.keeps (Fr.keep ?kdG) ?kdy; (case kdG => assumption); (case kdy => exact Rd.keeps (Fr.keep (by assumption)) (by assumption)))))
  k_with "ktn_step" => (
    refine' Mine.enterPC ?kP ?k1 ?k2 ?k3 ?k4 ?k5 ?kA ?kF ?kK ?kR ?k6 ?k7 ?k8 ?k9 ?kB ?kD ?_ ?c2 ?c3 ?c4;
    (case kA => exact rfl); (case kF => exact rfl); (case kK => assumption); (case k1 => k_asm); (case k2 => k_asm); (case k3 => k_asm); (case k4 => k_asm); (case k5 => k_asm); (case kR => assumption);
    (case k6 => k_is); (case k7 => k_is); (case k8 => exact Nat.le_of_ble_eq_true rfl); (case k9 => exact BindsTo.of_eq rfl); (case kB => exact rfl); (case kD => decide +kernel); (case c2 => exact rfl); (case c3 => exact rfl); (case c4 => exact rfl); k_whole)
  k_with "subscriptTail" => (k_here; (with_reducible show wpAny _ _ (subscriptTail _ _ (Value.ref _) (Value.int _ _)) _ _ _); k_dflt (refine' item_tupleT ?t ?a ?b ?c ?d ?_; (case t => ktr_step); (case a => decide); (case b => decide); (case c => rfl); (case d => rfl); k_whole))
  k_with "subscriptTail" => (k_here; (with_reducible show wpAny _ _ (subscriptTail _ _ (Value.ref _) (Value.int 0 _)) _ _ _); k_dflt (refine' item_tup0 ?t ?_; (case t => ktr_step); k_whole))
  k_with "k_handed" => (exact Rd.handed (by assumption))
  k_with "ktr_room" => (
    refine' Mine.enterM ?kP ?k1 ?k2 ?k3 ?k4 ?k5 ?kA ?kF ?kK ?kN ?kQ ?kR ?k6 ?k7 ?k8 ?k9 ?kB ?_ ?c2 ?c3 ?c4 ?c5;
    (case kA => exact rfl); (case kF => exact rfl); (case kK => assumption); (case k1 => k_asm); (case k2 => k_asm); (case k3 => k_asm); (case k4 => k_asm); (case k5 => k_asm); (case kN => assumption); (case kQ => assumption); (case kR => assumption);
    (case k6 => k_is); (case k7 => k_is); (case k8 => exact Nat.le_of_ble_eq_true rfl); (case k9 => exact BindsTo.of_eq rfl); (case c5 => decide); (case kB => exact locs rfl); (case c2 => exact rfl); (case c3 => exact rfl); (case c4 => exact rfl); k_whole)
  k_with "call ref" => (k_here; (with_reducible show wpAny _ _ (call (Value.ref 35) _) _ _ _); (show wpAny _ _ (call (Value.ref 35) [_, Value.int _ _]) _ _ _); k_dflt (refine' spec_use (Mine.plist_get_spec _ _ _ _ _ _ _ _ _ ?hn) ?k1 ?k2 ?k3 ?k4 ?k5 ?kA ?kH ?kK ?kd ?ku ?kp ?_; (case kA => exact rfl); (case kH => exact rfl); (case kK => exact rfl); (case k1 => k_asm); (case k2 => k_asm); (case k3 => k_asm); (case k4 => k_asm); (case k5 => k_asm); (case kd => exact Nat.le_of_ble_eq_true rfl); (case ku => exact Nat.le_of_ble_eq_true rfl); (case kp => (refine' And.intro ?kpa ?kpb; (case kpb => (refine' Got.keeps ?kgx (Fr.keep ?kgF); (case kgF => k_asm); (case kgx => first | assumption | exact Got.keeps (by assumption) (Fr.keep (by assumption))))); (case kpa => ktd_step))); (case hn => assumption); intro r9' own9' h9' tk9' F9' N9' k9' ne9' po9'); k_dflt (first | ((obtain ⟨e9', e9x'⟩ := po9'); subst e9'; subst e9x') | ((obtain ⟨a9', e9', e9x'⟩ := po9'); subst e9'; subst e9x')); (try simp only [List.cons_append, List.nil_append] at N9'); (try simp only [List.forall_mem_cons, List.forall_mem_nil, and_true] at ne9'); (try dsimp only); (try k_fold))
  intro gd cn cs a ccd cl outer A₀ base h₀ L m news s Q E B F X N T hk hpre hret
  k_dflt ktr_enter
  intro g' L' h' hg F' N' B' X' T'
  rw [← hg] at hpre
  clear hret B F X N T

  refine Mine.hide ?_; intro Gq hGq
  obtain ⟨⟨dx, nn, tt, ldx, ln, t1, t2, t3, t4, t5, pl, hR, hL⟩, hpl, hgot⟩ := hpre
  refine hGq ?_; clear hGq Gq
  have hcat : Got g' v P 100 none := by
    rcases heldP_find P 100 with ⟨a1, a2⟩ | ⟨k, V, a1, a2, a3⟩
    · exact .inl ⟨rfl, a2, a1⟩
    · rw [hc] at a3; cases a3
  cases o with
  | none =>
    (try dsimp only); (try k_fold)
    k_steps
    all_goals (try dsimp only)
    all_goals first
      | exact PEnd.val (by k_asm) rfl
  | some y =>
    (try dsimp only); (try k_fold)
    k_steps
    all_goals (try dsimp only)
    all_goals first
      | exact PEnd.val (by k_asm) rfl
end
-- C8
section
theorem is_loose_spec (w : World) (mean : ExcName → Option Value) (mg mb : Str → Option Value) (r lp df : Addr) (d : Int → Int) (n : Int) (tn : Tok) :
    Spec w mean mg mb 900 9000 82 [.ref r, .int n tn] (fun h => RulesAt w.params h r lp df ∧ IntTab PySem.Challenge.rw_np0033_01.row.prog w h df (dfD d)) (ValP (.bool (decide (0 < dv d n)))) := by
  unfold Spec
  k_fill
  k_with_none
  k_with "kd_adr" => (first | exact List.forall_mem_nil _ | (refine List.forall_mem_cons.mpr ⟨?kdh, ?kdt⟩; (case kdh => ((try dsimp only); first | kd_ltNe | (refine Ne.symm ?_; kd_ltNe) | (simp only [*, ne_eq, not_false_eq_true]; done) | (refine neN ?_; omega))); (case kdt => kd_adr)) | kd_adrTail | fail "k_dat: an address")
  k_with "k_ne" => (refine neN ?_; (try dsimp only); first | with_reducible assumption | kd_ltNe | (refine Ne.symm ?_; first | with_reducible assumption | kd_ltNe) | (simp only [*, ne_eq, not_false_eq_true]; done) | (refine Ne.symm ?_; simp only [*, ne_eq, not_false_eq_true]; done) | (refine Nat.ne_of_lt ?_; simp only [*]; done) | (refine Nat.ne_of_gt ?_; simp only [*]; done) | omega)
  k_with "k_room" => (exact Nat.le_of_ble_eq_true rfl)
  k_with "ktr_enter" => (
    refine' Mine.enterP ?kP ?k1 ?k2 ?k3 ?k4 ?k5 ?kA ?kF ?kK ?kR ?k6 ?k7 ?k8 ?k9 ?kB ?_ ?c2 ?c3 ?c4 ?c5;
    (case kA => exact rfl); (case kF => exact rfl); (case kK => assumption); (case k1 => k_asm); (case k2 => k_asm); (case k3 => k_asm); (case k4 => k_asm); (case k5 => k_asm); (case kR => assumption);
    (case k6 => k_is); (case k7 => k_is); (case k8 => exact Nat.le_of_ble_eq_true rfl); (case k9 => exact BindsTo.of_eq rfl); (case c5 => decide); (case kB => exact locs rfl); (case c2 => exact rfl); (case c3 => exact rfl); (case c4 => exact rfl); k_whole)
  k_with "ktr_step" => (refine' IsTup.keeps ?ktx (Fr.keep ?ktF); (case ktF => k_asm); (case ktx => first | assumption | exact IsTup.keeps (by assumption) (Fr.keep (by assumption)) | (refine' IsTup.keeps ?kty (Fr.keep ?ktG); (case ktG => assumption); (case kty => exact IsTup.keeps (by assumption) (Fr.keep (by assumption))))))
  k_with "kit_at" => (refine' kitAt_tup ?kaT; (case kaT => ktr_step))
  k_with "ktf_step" => (first | assumption | exact InsF.keeps (by assumption) (Fr.keep (by assumption)) | (refine' InsF.keeps ?kfI (Fr.keep ?kfF); (case kfF => assumption); (case kfI => exact InsF.keeps (by assumption) (Fr.keep (by assumption)))))
  k_with "k_inst" => (refine' InsF.at ?kiI (Fr.keep ?kiF); (case kiF => k_asm); (case kiI => ktf_step))
  k_with "ktd_step" => (refine' Rd.keeps (Fr.keep ?kdF) ?kdx; (case kdF => k_asm); (case kdx => first | assumption | exact Rd.keeps (Fr.keep (by assumption)) (by assumption) | (refine' Rd.keeps (Fr.keep ?kdG) ?kdy; (case kdG => assumption); (case kdy => exact Rd.keeps (Fr.keep (by assumption)) (by assumption)))))
  k_with "ktn_step" => (
    refine' Mine.enterPC ?kP ?k1 ?k2 ?k3 ?k4 ?k5 ?kA ?kF ?kK ?kR ?k6 ?k7 ?k8 ?k9 ?kB ?kD ?_ ?c2 ?c3 ?c4;
    (case kA => exact rfl); (case kF => exact rfl); (case kK => assumption); (case k1 => k_asm); (case k2 => k_asm); (case k3 => k_asm); (case k4 => k_asm); (case k5 => k_asm); (case kR => assumption);
    (case k6 => k_is); (case k7 => k_is); (case k8 => exact Nat.le_of_ble_eq_true rfl); (case k9 => exact BindsTo.of_eq rfl); (case kB => exact rfl); (case kD => decide +kernel); (case c2 => exact rfl); (case c3 => exact rfl); (case c4 => exact rfl); k_whole)
  k_with "subscriptTail" => (k_here; (with_reducible show wpAny _ _ (subscriptTail _ _ (Value.ref _) (Value.int _ _)) _ _ _); k_dflt (refine' item_tupleT ?t ?a ?b ?c ?d ?_; (case t => ktr_step); (case a => decide); (case b => decide); (case c => rfl); (case d => rfl); k_whole))
  k_with "subscriptTail" => (k_here; (with_reducible show wpAny _ _ (subscriptTail _ _ (Value.ref _) (Value.int 0 _)) _ _ _); k_dflt (refine' item_tup0 ?t ?_; (case t => ktr_step); k_whole))
  k_with "k_handed" => (exact Rd.handed (by assumption))
  k_with "ktr_room" => (
    refine' Mine.enterM ?kP ?k1 ?k2 ?k3 ?k4 ?k5 ?kA ?kF ?kK ?kN ?kQ ?kR ?k6 ?k7 ?k8 ?k9 ?kB ?_ ?c2 ?c3 ?c4 ?c5;
    (case kA => exact rfl); (case kF => exact rfl); (case kK => assumption); (case k1 => k_asm); (case k2 => k_asm); (case k3 => k_asm); (case k4 => k_asm); (case k5 => k_asm); (case kN => assumption); (case kQ => assumption); (case kR => assumption);
    (case k6 => k_is); (case k7 => k_is); (case k8 => exact Nat.le_of_ble_eq_true rfl); (case k9 => exact BindsTo.of_eq rfl); (case c5 => decide); (case kB => exact locs rfl); (case c2 => exact rfl); (case c3 => exact rfl); (case c4 => exact rfl); k_whole)
  k_with "k_tabat" => (exact TabAt.keep (by assumption) (Fr.keep (by k_asm)))
  k_with "call builtin:dict.get" => (k_here; (with_reducible show wpAny _ _ (call (Value.builtin "dict.get") [Value.ref _, Value.int _ _, Value.int 0 _]) _ _ _); k_dflt (refine' get_df ?k1 ?_; (case k1 => exact TabAt.keep (by assumption) (Fr.keep (by k_asm)))); intro t9'; (try dsimp only))
  intro gd cn cs a ccd cl outer A₀ base h₀ L m news s Q E B F X N T hk hpre hret
  k_dflt ktr_enter
  intro g' L' h' hg F' N' B' X' T'
  rw [← hg] at hpre
  clear hret B F X N T

  refine Mine.hide ?_; intro Gq hGq
  obtain ⟨⟨dx, nn, tt, ldx, ln, t1, t2, t3, t4, t5, pl, hR, hL⟩, hD⟩ := hpre
  refine hGq ?_; clear hGq Gq
  (try dsimp only); (try k_fold)
  k_steps
  all_goals (try dsimp only)
  all_goals first
    | exact PEnd.val (by k_asm) rfl
theorem is_tight_spec (w : World) (mean : ExcName → Option Value) (mg mb : Str → Option Value) (r lp df : Addr) (d : Int → Int) (n : Int) (tn : Tok) :
    Spec w mean mg mb 900 9000 89 [.ref r, .int n tn] (fun h => RulesAt w.params h r lp df ∧ IntTab PySem.Challenge.rw_np0033_01.row.prog w h df (dfD d)) (ValP (.bool (decide (dv d n < 0)))) := by
  unfold Spec
  k_fill
  k_with_none
  k_with "kd_adr" => (first | exact List.forall_mem_nil _ | (refine List.forall_mem_cons.mpr ⟨?kdh, ?kdt⟩; (case kdh => ((try dsimp only); first | kd_ltNe | (refine Ne.symm ?_; kd_ltNe) | (simp only [*, ne_eq, not_false_eq_true]; done) | (refine neN ?_; omega))); (case kdt => kd_adr)) | kd_adrTail | fail "k_dat: an address")
  k_with "k_ne" => (refine neN ?_; (try dsimp only); first | with_reducible assumption | kd_ltNe | (refine Ne.symm ?_; first | with_reducible assumption | kd_ltNe) | (simp only [*, ne_eq, not_false_eq_true]; done) | (refine Ne.symm ?_; simp only [*, ne_eq, not_false_eq_true]; done) | (refine Nat.ne_of_lt ?_; simp only [*]; done) | (refine Nat.ne_of_gt ?_; simp only [*]; done) | omega)
  k_with "k_room" => (exact Nat.le_of_ble_eq_true rfl)
  k_with "ktr_enter" => (
    refine' Mine.enterP ?kP ?k1 ?k2 ?k3 ?k4 ?k5 ?kA ?kF ?kK ?kR ?k6 ?k7 ?k8 ?k9 ?kB ?_ ?c2 ?c3 ?c4 ?c5;
    (case kA => exact rfl); (case kF => exact rfl); (case kK => assumption); (case k1 => k_asm); (case k2 => k_asm); (case k3 => k_asm); (case k4 => k_asm); (case k5 => k_asm); (case kR => assumption);
    (case k6 => k_is); (case k7 => k_is); (case k8 => exact Nat.le_of_ble_eq_true rfl); (case k9 => exact BindsTo.of_eq rfl); (case c5 => decide); (case kB => exact locs rfl); (case c2 => exact rfl); (case c3 => exact rfl); (case c4 => exact rfl); k_whole)
  k_with "ktr_step" => (refine' IsTup.keeps ?ktx (Fr.keep ?ktF); (case ktF => k_asm); (case ktx => first | assumption | exact IsTup.keeps (by assumption) (Fr.keep (by assumption)) | (refine' IsTup.keeps ?kty (Fr.keep ?ktG); (case ktG => assumption); (case kty => exact IsTup.keeps (by assumption) (Fr.keep (by assumption))))))
  k_with "kit_at" => (refine' kitAt_tup ?kaT; (case kaT => ktr_step))
  k_with "ktf_step" => (first | assumption | exact InsF.keeps (by assumption) (Fr.keep (by assumption)) | (refine' InsF.keeps ?kfI (Fr.keep ?kfF); (case kfF => assumption); (case kfI => exact InsF.keeps (by assumption) (Fr.keep (by assumption)))))
  k_with "k_inst" => (refine' InsF.at ?kiI (Fr.keep ?kiF); (case kiF => k_asm); (case kiI => ktf_step))
  k_with "ktd_step" => (refine' Rd.keeps (Fr.keep ?kdF) ?kdx; (case kdF => k_asm); (case kdx => first | assumption | exact Rd.keeps (Fr.keep (by assumption)) (by assumption) | (refine' Rd.keeps (Fr.keep ?kdG) ?kdy; (case kdG => assumption); (case kdy => exact Rd.keeps (Fr.keep (by assumption)) (by assumption)))))
  k_with "ktn_step" => (
    refine' Mine.enterPC ?kP ?k1 ?k2 ?k3 ?k4 ?k5 ?kA ?kF ?kK ?kR ?k6 ?k7 ?k8 ?k9 ?kB ?kD ?_ ?c2 ?c3 ?c4;
    (case kA => exact rfl); (case kF => exact rfl); (case kK => assumption); (case k1 => k_asm); (case k2 => k_asm); (case k3 => k_asm); (case k4 => k_asm); (case k5 => k_asm); (case kR => assumption);
    (case k6 => k_is); (case k7 => k_is); (case k8 => exact Nat.le_of_ble_eq_true rfl); (case k9 => exact BindsTo.of_eq rfl); (case kB => exact rfl); (case kD => decide +kernel); (case c2 => exact rfl); (case c3 => exact rfl); (case c4 => exact rfl); k_whole)
  k_with "subscriptTail" => (k_here; (with_reducible show wpAny _ _ (subscriptTail _ _ (Value.ref _) (Value.int _ _)) _ _ _); k_dflt (refine' item_tupleT ?t ?a ?b ?c ?d ?_; (case t => ktr_step); (case a => decide); (case b => decide); (case c => rfl); (case d => rfl); k_whole))
  k_with "subscriptTail" => (k_here; (with_reducible show wpAny _ _ (subscriptTail _ _ (Value.ref _) (Value.int 0 _)) _ _ _); k_dflt (refine' item_tup0 ?t ?_; (case t => ktr_step); k_whole))
  k_with "k_handed" => (exact Rd.handed (by assumption))
  k_with "ktr_room" => (
    refine' Mine.enterM ?kP ?k1 ?k2 ?k3 ?k4 ?k5 ?kA ?kF ?kK ?kN ?kQ ?kR ?k6 ?k7 ?k8 ?k9 ?kB ?_ ?c2 ?c3 ?c4 ?c5;
    (case kA => exact rfl); (case kF => exact rfl); (case kK => assumption); (case k1 => k_asm); (case k2 => k_asm); (case k3 => k_asm); (case k4 => k_asm); (case k5 => k_asm); (case kN => assumption); (case kQ => assumption); (case kR => assumption);
    (case k6 => k_is); (case k7 => k_is); (case k8 => exact Nat.le_of_ble_eq_true rfl); (case k9 => exact BindsTo.of_eq rfl); (case c5 => decide); (case kB => exact locs rfl); (case c2 => exact rfl); (case c3 => exact rfl); (case c4 => exact rfl); k_whole)
  k_with "k_tabat" => (exact TabAt.keep (by assumption) (Fr.keep (by k_asm)))
  k_with "call builtin:dict.get" => (k_here; (with_reducible show wpAny _ _ (call (Value.builtin "dict.get") [Value.ref _, Value.int _ _, Value.int 0 _]) _ _ _); k_dflt (refine' get_df ?k1 ?_; (case k1 => exact TabAt.keep (by assumption) (Fr.keep (by k_asm)))); intro t9'; (try dsimp only))
  intro gd cn cs a ccd cl outer A₀ base h₀ L m news s Q E B F X N T hk hpre hret
  k_dflt ktr_enter
  intro g' L' h' hg F' N' B' X' T'
  rw [← hg] at hpre
  clear hret B F X N T

  refine Mine.hide ?_; intro Gq hGq
  obtain ⟨⟨dx, nn, tt, ldx, ln, t1, t2, t3, t4, t5, pl, hR, hL⟩, hD⟩ := hpre
  refine hGq ?_; clear hGq Gq
  (try dsimp only); (try k_fold)
  k_steps
  all_goals (try dsimp only)
  all_goals first
    | exact PEnd.val (by k_asm) rfl
end
-- C9
section
theorem is_kept_spec (w : World) (mean : ExcName → Option Value) (mg mb : Str → Option Value) (x lp df : Addr) (S : SD) (V : SV) (n : Int) (tn : Tok) (hV : V.Ok) :
    Spec w mean mg mb 700 7000 117 [.ref x, .int n tn] (fun h => SidesAt w.params h x S ∧ SidesRd w h S lp df V) (ValP (.bool (V.kept n))) := by
  unfold Spec
  k_fill
  k_with_none
  k_with "kd_adr" => (first | exact List.forall_mem_nil _ | (refine List.forall_mem_cons.mpr ⟨?kdh, ?kdt⟩; (case kdh => ((try dsimp only); first | kd_ltNe | (refine Ne.symm ?_; kd_ltNe) | (simp only [*, ne_eq, not_false_eq_true]; done) | (refine neN ?_; omega))); (case kdt => kd_adr)) | kd_adrTail | fail "k_dat: an address")
  k_with "k_ne" => (refine neN ?_; (try dsimp only); first | with_reducible assumption | kd_ltNe | (refine Ne.symm ?_; first | with_reducible assumption | kd_ltNe) | (simp only [*, ne_eq, not_false_eq_true]; done) | (refine Ne.symm ?_; simp only [*, ne_eq, not_false_eq_true]; done) | (refine Nat.ne_of_lt ?_; simp only [*]; done) | (refine Nat.ne_of_gt ?_; simp only [*]; done) | omega)
  k_with "k_room" => (exact Nat.le_of_ble_eq_true rfl)
  k_with "ktr_enter" => (
    refine' Mine.enterP ?kP ?k1 ?k2 ?k3 ?k4 ?k5 ?kA ?kF ?kK ?kR ?k6 ?k7 ?k8 ?k9 ?kB ?_ ?c2 ?c3 ?c4 ?c5;
    (case kA => exact rfl); (case kF => exact rfl); (case kK => assumption); (case k1 => k_asm); (case k2 => k_asm); (case k3 => k_asm); (case k4 => k_asm); (case k5 => k_asm); (case kR => assumption);
    (case k6 => k_is); (case k7 => k_is); (case k8 => exact Nat.le_of_ble_eq_true rfl); (case k9 => exact BindsTo.of_eq rfl); (case c5 => decide); (case kB => exact locs rfl); (case c2 => exact rfl); (case c3 => exact rfl); (case c4 => exact rfl); k_whole)
  k_with "ktr_step" => (refine' IsTup.keeps ?ktx (Fr.keep ?ktF); (case ktF => k_asm); (case ktx => first | assumption | exact IsTup.keeps (by assumption) (Fr.keep (by assumption)) | (refine' IsTup.keeps ?kty (Fr.keep ?ktG); (case ktG => assumption); (case kty => exact IsTup.keeps (by assumption) (Fr.keep (by assumption))))))
  k_with "kit_at" => (refine' kitAt_tup ?kaT; (case kaT => ktr_step))
  k_with "ktf_step" => (first | assumption | exact InsF.keeps (by assumption) (Fr.keep (by assumption)) | (refine' InsF.keeps ?kfI (Fr.keep ?kfF); (case kfF => assumption); (case kfI => exact InsF.keeps (by assumption) (Fr.keep (by assumption)))))
  k_with "k_inst" => (refine' InsF.at ?kiI (Fr.keep ?kiF); (case kiF => k_asm); (case kiI => ktf_step))
  k_with "ktd_step" => (refine' Rd.keeps (Fr.keep ?kdF) ?kdx; (case kdF => k_asm); (case kdx => first | assumption | exact Rd.keeps (Fr.keep (by assumption)) (by assumption) | (refine' Rd.keeps (Fr.keep ?kdG) ?kdy; (case kdG => assumption); (case kdy => exact Rd.keeps (Fr.keep (by assumption)) (by assumption)))))
  k_with "ktn_step" => (
    refine' Mine.enterPC ?kP ?k1 ?k2 ?k3 ?k4 ?k5 ?kA ?kF ?kK ?kR ?k6 ?k7 ?k8 ?k9 ?kB ?kD ?_ ?c2 ?c3 ?c4;
    (case kA => exact rfl); (case kF => exact rfl); (case kK => assumption); (case k1 => k_asm); (case k2 => k_asm); (case k3 => k_asm); (case k4 => k_asm); (case k5 => k_asm); (case kR => assumption);
    (case k6 => k_is); (case k7 => k_is); (case k8 => exact Nat.le_of_ble_eq_true rfl); (case k9 => exact BindsTo.of_eq rfl); (case kB => exact rfl); (case kD => decide +kernel); (case c2 => exact rfl); (case c3 => exact rfl); (case c4 => exact rfl); k_whole)
  k_with "subscriptTail" => (k_here; (with_reducible show wpAny _ _ (subscriptTail _ _ (Value.ref _) (Value.int _ _)) _ _ _); k_dflt (refine' item_tupleT ?t ?a ?b ?c ?d ?_; (case t => ktr_step); (case a => decide); (case b => decide); (case c => rfl); (case d => rfl); k_whole))
  k_with "subscriptTail" => (k_here; (with_reducible show wpAny _ _ (subscriptTail _ _ (Value.ref _) (Value.int 0 _)) _ _ _); k_dflt (refine' item_tup0 ?t ?_; (case t => ktr_step); k_whole))
  k_with "k_handed" => (exact Rd.handed (by assumption))
  k_with "ktr_room" => (
    refine' Mine.enterM ?kP ?k1 ?k2 ?k3 ?k4 ?k5 ?kA ?kF ?kK ?kN ?kQ ?kR ?k6 ?k7 ?k8 ?k9 ?kB ?_ ?c2 ?c3 ?c4 ?c5;
    (case kA => exact rfl); (case kF => exact rfl); (case kK => assumption); (case k1 => k_asm); (case k2 => k_asm); (case k3 => k_asm); (case k4 => k_asm); (case k5 => k_asm); (case kN => assumption); (case kQ => assumption); (case kR => assumption);
    (case k6 => k_is); (case k7 => k_is); (case k8 => exact Nat.le_of_ble_eq_true rfl); (case k9 => exact BindsTo.of_eq rfl); (case c5 => decide); (case kB => exact locs rfl); (case c2 => exact rfl); (case c3 => exact rfl); (case c4 => exact rfl); k_whole)
  k_with "call ref" => (k_here; (with_reducible show wpAny _ _ (call (Value.ref 75) _) _ _ _); (show wpAny _ _ (call (Value.ref 75) [_, Value.int _ _, _]) _ _ _); k_dflt (refine' spec_useV (Mine.is_member_spec _ _ _ _ _ _ _ _ _ _ _ ?hn) ?k1 ?k2 ?k3 ?k4 ?k5 ?kA ?kH ?kK ?kd ?ku ?kp ?_; (case kA => exact rfl); (case kH => exact rfl); (case kK => exact rfl); (case k1 => k_asm); (case k2 => k_asm); (case k3 => k_asm); (case k4 => k_asm); (case k5 => k_asm); (case kd => exact Nat.le_of_ble_eq_true rfl); (case ku => exact Nat.le_of_ble_eq_true rfl); (case kp => (refine' And.intro ?kpa ?kpb; (case kpb => ktd_step); (case kpa => (refine' RulesAt.keeps ?krx (Fr.keep ?krF); (case krF => k_asm); (case krx => first | assumption | exact RulesAt.keeps (by assumption) (Fr.keep (by assumption)) | (refine' RulesAt.keeps ?kry (Fr.keep ?krG); (case krG => assumption); (case kry => exact RulesAt.keeps (by assumption) (Fr.keep (by assumption))))))))); (case hn => assumption); intro h9' tk9' F9' N9' k9'); (try dsimp only); (try k_fold))
  k_with "call ref" => (k_here; (with_reducible show wpAny _ _ (call (Value.ref 82) _) _ _ _); (show wpAny _ _ (call (Value.ref 82) [_, Value.int _ _]) _ _ _); k_dflt (refine' spec_useV (Mine.is_loose_spec _ _ _ _ _ _ _ _ _ _) ?k1 ?k2 ?k3 ?k4 ?k5 ?kA ?kH ?kK ?kd ?ku ?kp ?_; (case kA => exact rfl); (case kH => exact rfl); (case kK => exact rfl); (case k1 => k_asm); (case k2 => k_asm); (case k3 => k_asm); (case k4 => k_asm); (case k5 => k_asm); (case kd => exact Nat.le_of_ble_eq_true rfl); (case ku => exact Nat.le_of_ble_eq_true rfl); (case kp => (refine' And.intro ?kpa ?kpb; (case kpa => (refine' RulesAt.keeps ?krx (Fr.keep ?krF); (case krF => k_asm); (case krx => first | assumption | exact RulesAt.keeps (by assumption) (Fr.keep (by assumption)) | (refine' RulesAt.keeps ?kry (Fr.keep ?krG); (case krG => assumption); (case kry => exact RulesAt.keeps (by assumption) (Fr.keep (by assumption))))))); (case kpb => (refine' TabAt.keep ?ktbx (Fr.keep ?ktbF); (case ktbF => k_asm); (case ktbx => first | assumption | exact TabAt.keep (by assumption) (Fr.keep (by assumption)) | (refine' TabAt.keep ?ktby (Fr.keep ?ktbG); (case ktbG => assumption); (case ktby => exact TabAt.keep (by assumption) (Fr.keep (by assumption))))))))); intro h9' tk9' F9' N9' k9'); (try dsimp only); (try k_fold))
  k_with "call ref" => (k_here; (with_reducible show wpAny _ _ (call (Value.ref 89) _) _ _ _); (show wpAny _ _ (call (Value.ref 89) [_, Value.int _ _]) _ _ _); k_dflt (refine' spec_useV (Mine.is_tight_spec _ _ _ _ _ _ _ _ _ _) ?k1 ?k2 ?k3 ?k4 ?k5 ?kA ?kH ?kK ?kd ?ku ?kp ?_; (case kA => exact rfl); (case kH => exact rfl); (case kK => exact rfl); (case k1 => k_asm); (case k2 => k_asm); (case k3 => k_asm); (case k4 => k_asm); (case k5 => k_asm); (case kd => exact Nat.le_of_ble_eq_true rfl); (case ku => exact Nat.le_of_ble_eq_true rfl); (case kp => (refine' And.intro ?kpa ?kpb; (case kpa => (refine' RulesAt.keeps ?krx (Fr.keep ?krF); (case krF => k_asm); (case krx => first | assumption | exact RulesAt.keeps (by assumption) (Fr.keep (by assumption)) | (refine' RulesAt.keeps ?kry (Fr.keep ?krG); (case krG => assumption); (case kry => exact RulesAt.keeps (by assumption) (Fr.keep (by assumption))))))); (case kpb => (refine' TabAt.keep ?ktbx (Fr.keep ?ktbF); (case ktbF => k_asm); (case ktbx => first | assumption | exact TabAt.keep (by assumption) (Fr.keep (by assumption)) | (refine' TabAt.keep ?ktby (Fr.keep ?ktbG); (case ktbG => assumption); (case ktby => exact TabAt.keep (by assumption) (Fr.keep (by assumption))))))))); intro h9' tk9' F9' N9' k9'); (try dsimp only); (try k_fold))
  intro gd cn cs a ccd cl outer A₀ base h₀ L m news s Q E B F X N T hk hpre hret
  k_dflt ktr_enter
  intro g' L' h' hg F' N' B' X' T'
  rw [← hg] at hpre
  clear hret B F X N T

  refine Mine.hide ?_; intro Gq hGq
  obtain ⟨⟨dx, nn, tt, hS⟩, hR, hT, h1, h2, h3, h4, h5, h6⟩ := hpre
  refine hGq ?_; clear hGq Gq
  have hok := hV.lr
  unfold SV.kept
  (try dsimp only); (try k_fold)
  k_steps
  all_goals (try dsimp only)
  all_goals first
    | exact PEnd.val (by k_asm) rfl
    | exact PEnd.val (by k_asm) (by simp_all)
theorem is_caught_spec (w : World) (mean : ExcName → Option Value) (mg mb : Str → Option Value) (x lp df : Addr) (S : SD) (V : SV) (n : Int) (tn : Tok) (hV : V.Ok) :
    Spec w mean mg mb 700 7000 124 [.ref x, .int n tn] (fun h => SidesAt w.params h x S ∧ SidesRd w h S lp df V) (ValP (.bool (V.caught n))) := by
  unfold Spec
  k_fill
  k_with_none
  k_with "kd_adr" => (first | exact List.forall_mem_nil _ | (refine List.forall_mem_cons.mpr ⟨?kdh, ?kdt⟩; (case kdh => ((try dsimp only); first | kd_ltNe | (refine Ne.symm ?_; kd_ltNe) | (simp only [*, ne_eq, not_false_eq_true]; done) | (refine neN ?_; omega))); (case kdt => kd_adr)) | kd_adrTail | fail "k_dat: an address")
  k_with "k_ne" => (refine neN ?_; (try dsimp only); first | with_reducible assumption | kd_ltNe | (refine Ne.symm ?_; first | with_reducible assumption | kd_ltNe) | (simp only [*, ne_eq, not_false_eq_true]; done) | (refine Ne.symm ?_; simp only [*, ne_eq, not_false_eq_true]; done) | (refine Nat.ne_of_lt ?_; simp only [*]; done) | (refine Nat.ne_of_gt ?_; simp only [*]; done) | omega)
  k_with "k_room" => (exact Nat.le_of_ble_eq_true rfl)
  k_with "ktr_enter" => (
    refine' Mine.enterP ?kP ?k1 ?k2 ?k3 ?k4 ?k5 ?kA ?kF ?kK ?kR ?k6 ?k7 ?k8 ?k9 ?kB ?_ ?c2 ?c3 ?c4 ?c5;
    (case kA => exact rfl); (case kF => exact rfl); (case kK => assumption); (case k1 => k_asm); (case k2 => k_asm); (case k3 => k_asm); (case k4 => k_asm); (case k5 => k_asm); (case kR => assumption);
    (case k6 => k_is); (case k7 => k_is); (case k8 => exact Nat.le_of_ble_eq_true rfl); (case k9 => exact BindsTo.of_eq rfl); (case c5 => decide); (case kB => exact locs rfl); (case c2 => exact rfl); (case c3 => exact rfl); (case c4 => exact rfl); k_whole)
  k_with "ktr_step" => (refine' IsTup.keeps ?ktx (Fr.keep ?ktF); (case ktF => k_asm); (case ktx => first | assumption | exact IsTup.keeps (by assumption) (Fr.keep (by assumption)) | (refine' IsTup.keeps ?kty (Fr.keep ?ktG); (case ktG => assumption); (case kty => exact IsTup.keeps (by assumption) (Fr.keep (by assumption))))))
  k_with "kit_at" => (refine' kitAt_tup ?kaT; (case kaT => ktr_step))
  k_with "ktf_step" => (first | assumption | exact InsF.keeps (by assumption) (Fr.keep (by assumption)) | (refine' InsF.keeps ?kfI (Fr.keep ?kfF); (case kfF => assumption); (case kfI => exact InsF.keeps (by assumption) (Fr.keep (by assumption)))))
  k_with "k_inst" => (refine' InsF.at ?kiI (Fr.keep ?kiF); (case kiF => k_asm); (case kiI => ktf_step))
  k_with "ktd_step" => (refine' Rd.keeps (Fr.keep ?kdF) ?kdx; (case kdF => k_asm); (case kdx => first | assumption | exact Rd.keeps (Fr.keep (by assumption)) (by assumption) | (refine' Rd.keeps (Fr.keep ?kdG) ?kdy; (case kdG => assumption); (case kdy => exact Rd.keeps (Fr.keep (by assumption)) (by assumption)))))
  k_with "ktn_step" => (
    refine' Mine.enterPC ?kP ?k1 ?k2 ?k3 ?k4 ?k5 ?kA ?kF ?kK ?kR ?k6 ?k7 ?k8 ?k9 ?kB ?kD ?_ ?c2 ?c3 ?c4;
    (case kA => exact rfl); (case kF => exact rfl); (case kK => assumption); (case k1 => k_asm); (case k2 => k_asm); (case k3 => k_asm); (case k4 => k_asm); (case k5 => k_asm); (case kR => assumption);
    (case k6 => k_is); (case k7 => k_is); (case k8 => exact Nat.le_of_ble_eq_true rfl); (case k9 => exact BindsTo.of_eq rfl); (case kB => exact rfl); (case kD => decide +kernel); (case c2 => exact rfl); (case c3 => exact rfl); (case c4 => exact rfl); k_whole)
  k_with "subscriptTail" => (k_here; (with_reducible show wpAny _ _ (subscriptTail _ _ (Value.ref _) (Value.int _ _)) _ _ _); k_dflt (refine' item_tupleT ?t ?a ?b ?c ?d ?_; (case t => ktr_step); (case a => decide); (case b => decide); (case c => rfl); (case d => rfl); k_whole))
  k_with "subscriptTail" => (k_here; (with_reducible show wpAny _ _ (subscriptTail _ _ (Value.ref _) (Value.int 0 _)) _ _ _); k_dflt (refine' item_tup0 ?t ?_; (case t => ktr_step); k_whole))
  k_with "k_handed" => (exact Rd.handed (by assumption))
  k_with "ktr_room" => (
    refine' Mine.enterM ?kP ?k1 ?k2 ?k3 ?k4 ?k5 ?kA ?kF ?kK ?kN ?kQ ?kR ?k6 ?k7 ?k8 ?k9 ?kB ?_ ?c2 ?c3 ?c4 ?c5;
    (case kA => exact rfl); (case kF => exact rfl); (case kK => assumption); (case k1 => k_asm); (case k2 => k_asm); (case k3 => k_asm); (case k4 => k_asm); (case k5 => k_asm); (case kN => assumption); (case kQ => assumption); (case kR => assumption);
    (case k6 => k_is); (case k7 => k_is); (case k8 => exact Nat.le_of_ble_eq_true rfl); (case k9 => exact BindsTo.of_eq rfl); (case c5 => decide); (case kB => exact locs rfl); (case c2 => exact rfl); (case c3 => exact rfl); (case c4 => exact rfl); k_whole)
  k_with "call ref" => (k_here; (with_reducible show wpAny _ _ (call (Value.ref 75) _) _ _ _); (show wpAny _ _ (call (Value.ref 75) [_, Value.int _ _, _]) _ _ _); k_dflt (refine' spec_useV (Mine.is_member_spec _ _ _ _ _ _ _ _ _ _ _ ?hn) ?k1 ?k2 ?k3 ?k4 ?k5 ?kA ?kH ?kK ?kd ?ku ?kp ?_; (case kA => exact rfl); (case kH => exact rfl); (case kK => exact rfl); (case k1 => k_asm); (case k2 => k_asm); (case k3 => k_asm); (case k4 => k_asm); (case k5 => k_asm); (case kd => exact Nat.le_of_ble_eq_true rfl); (case ku => exact Nat.le_of_ble_eq_true rfl); (case kp => (refine' And.intro ?kpa ?kpb; (case kpb => ktd_step); (case kpa => (refine' RulesAt.keeps ?krx (Fr.keep ?krF); (case krF => k_asm); (case krx => first | assumption | exact RulesAt.keeps (by assumption) (Fr.keep (by assumption)) | (refine' RulesAt.keeps ?kry (Fr.keep ?krG); (case krG => assumption); (case kry => exact RulesAt.keeps (by assumption) (Fr.keep (by assumption))))))))); (case hn => assumption); intro h9' tk9' F9' N9' k9'); (try dsimp only); (try k_fold))
  k_with "call ref" => (k_here; (with_reducible show wpAny _ _ (call (Value.ref 82) _) _ _ _); (show wpAny _ _ (call (Value.ref 82) [_, Value.int _ _]) _ _ _); k_dflt (refine' spec_useV (Mine.is_loose_spec _ _ _ _ _ _ _ _ _ _) ?k1 ?k2 ?k3 ?k4 ?k5 ?kA ?kH ?kK ?kd ?ku ?kp ?_; (case kA => exact rfl); (case kH => exact rfl); (case kK => exact rfl); (case k1 => k_asm); (case k2 => k_asm); (case k3 => k_asm); (case k4 => k_asm); (case k5 => k_asm); (case kd => exact Nat.le_of_ble_eq_true rfl); (case ku => exact Nat.le_of_ble_eq_true rfl); (case kp => (refine' And.intro ?kpa ?kpb; (case kpa => (refine' RulesAt.keeps ?krx (Fr.keep ?krF); (case krF => k_asm); (case krx => first | assumption | exact RulesAt.keeps (by assumption) (Fr.keep (by assumption)) | (refine' RulesAt.keeps ?kry (Fr.keep ?krG); (case krG => assumption); (case kry => exact RulesAt.keeps (by assumption) (Fr.keep (by assumption))))))); (case kpb => (refine' TabAt.keep ?ktbx (Fr.keep ?ktbF); (case ktbF => k_asm); (case ktbx => first | assumption | exact TabAt.keep (by assumption) (Fr.keep (by assumption)) | (refine' TabAt.keep ?ktby (Fr.keep ?ktbG); (case ktbG => assumption); (case ktby => exact TabAt.keep (by assumption) (Fr.keep (by assumption))))))))); intro h9' tk9' F9' N9' k9'); (try dsimp only); (try k_fold))
  k_with "call ref" => (k_here; (with_reducible show wpAny _ _ (call (Value.ref 89) _) _ _ _); (show wpAny _ _ (call (Value.ref 89) [_, Value.int _ _]) _ _ _); k_dflt (refine' spec_useV (Mine.is_tight_spec _ _ _ _ _ _ _ _ _ _) ?k1 ?k2 ?k3 ?k4 ?k5 ?kA ?kH ?kK ?kd ?ku ?kp ?_; (case kA => exact rfl); (case kH => exact rfl); (case kK => exact rfl); (case k1 => k_asm); (case k2 => k_asm); (case k3 => k_asm); (case k4 => k_asm); (case k5 => k_asm); (case kd => exact Nat.le_of_ble_eq_true rfl); (case ku => exact Nat.le_of_ble_eq_true rfl); (case kp => (refine' And.intro ?kpa ?kpb; (case kpa => (refine' RulesAt.keeps ?krx (Fr.keep ?krF); (case krF => k_asm); (case krx => first | assumption | exact RulesAt.keeps (by assumption) (Fr.keep (by assumption)) | (refine' RulesAt.keeps ?kry (Fr.keep ?krG); (case krG => assumption); (case kry => exact RulesAt.keeps (by assumption) (Fr.keep (by assumption))))))); (case kpb => (refine' TabAt.keep ?ktbx (Fr.keep ?ktbF); (case ktbF => k_asm); (case ktbx => first | assumption | exact TabAt.keep (by assumption) (Fr.keep (by assumption)) | (refine' TabAt.keep ?ktby (Fr.keep ?ktbG); (case ktbG => assumption); (case ktby => exact TabAt.keep (by assumption) (Fr.keep (by assumption))))))))); intro h9' tk9' F9' N9' k9'); (try dsimp only); (try k_fold))
  intro gd cn cs a ccd cl outer A₀ base h₀ L m news s Q E B F X N T hk hpre hret
  k_dflt ktr_enter
  intro g' L' h' hg F' N' B' X' T'
  rw [← hg] at hpre
  clear hret B F X N T

  refine Mine.hide ?_; intro Gq hGq
  obtain ⟨⟨dx, nn, tt, hS⟩, hR, hT, h1, h2, h3, h4, h5, h6⟩ := hpre
  refine hGq ?_; clear hGq Gq
  have hok := hV.rf
  unfold SV.caught
  (try dsimp only); (try k_fold)
  k_steps
  all_goals (try dsimp only)
  all_goals first
    | exact PEnd.val (by k_asm) rfl
    | exact PEnd.val (by k_asm) (by simp_all)
end
-- L6
structure PlOk (P : List (Int × PV)) : Prop where
  len : P.length ≤ 40
  cat : heldP P 100 = none
  lst : ∀ n ns, heldV P n = .lst ns → ns.length ≤ 100
  flat : ∀ e ∈ P, e.1 ≠ 101 → e.1 ≠ 102 → e.2 = .nil ∨ ∃ i, e.2 = .int i
noncomputable def SV.of (PL PR : List (Int × PV)) (d : Int → Int) : SV := ⟨PL, PR, heldV PL 101, heldV PL 102, heldV PR 101, heldV PR 102, d⟩
theorem SV.of_ok {PL PR : List (Int × PV)} {d : Int → Int} (hL : PlOk PL) (hR : PlOk PR) : (SV.of PL PR d).Ok :=
  ⟨Nat.le_trans hL.len (by decide), Nat.le_trans hR.len (by decide), hL.lst 101, hL.lst 102, hR.lst 101, hR.lst 102⟩
/-- what the insertion has told so far -/
structure Told where
  f : List (Int × PV)
  fr : List Int
  re : List Int
noncomputable def SV.addB (V : SV) (n : Int) (VV : PV) : Option PV := if V.fromLeft n = true then some (heldV V.L n) else if V.caught n = true then some VV else none
noncomputable def SV.addO (V : SV) (n : Int) (VV : PV) : Option PV := if V.kept n = true then some VV else none
noncomputable def one (b : Bool) (n : Int) : List Int := if b = true then [n] else []
noncomputable def put (o : Option PV) (n : Int) : List (Int × PV) := match o with | none => [] | some v => [(n, v)]
noncomputable def SV.stepB (V : SV) (T : Told) (e : Int × PV) : Told :=
  if e.1 = 101 ∨ e.1 = 102 then T else ⟨T.f ++ put (V.addB e.1 e.2) e.1, T.fr ++ one (V.bothFr e.1) e.1, T.re ++ one (V.bothRe e.1) e.1⟩
noncomputable def SV.stepO (V : SV) (T : Told) (e : Int × PV) : Told :=
  if e.1 = 101 ∨ e.1 = 102 ∨ ¬ findP V.R e.1 < 0 then T else ⟨T.f ++ put (V.addO e.1 e.2) e.1, T.fr ++ one (V.oneFr e.1) e.1, T.re ++ one (V.oneRe e.1) e.1⟩
noncomputable def SV.told (V : SV) : Told := V.L.foldl V.stepO (V.R.foldl V.stepB ⟨[], [], []⟩)
noncomputable def Told.all (T : Told) : List (Int × PV) := T.f ++ (if T.re = [] then [] else [(102, .lst T.re)]) ++ (if T.fr = [] then [] else [(101, .lst T.fr)])

/-- a value that no object bears -/
noncomputable def PV.Flat (V : PV) : Prop := V = .nil ∨ ∃ i, V = .int i
theorem PV.Flat.rd {V : PV} (x : V.Flat) {h : Heap} {v : Value} (r : Rd h v V.py) (H : Heap) : Rd H v V.py := by
  rcases x with rfl | ⟨i, rfl⟩
  · rw [r.none_inv]; exact Rd.none
  · obtain ⟨t, rfl⟩ := r.int_inv; exact Rd.int
theorem heldP_mem {P : List (Int × PV)} {n : Int} {V : PV} (h : heldP P n = some V) : (n, V) ∈ P := by
  induction P with
  | nil => cases h
  | cons e r ih =>
    simp only [heldP] at h
    split at h
    · rename_i e1; obtain ⟨a, b⟩ := e; simp at h e1; subst h; subst e1; exact List.mem_cons_self ..
    · exact List.mem_cons_of_mem _ (ih h)
theorem PlOk.heldFlat {P : List (Int × PV)} (h : PlOk P) {n : Int} (h1 : n ≠ 101) (h2 : n ≠ 102) : (heldV P n).Flat := by
  unfold heldV
  cases e : heldP P n with
  | none => exact .inl rfl
  | some V => exact h.flat _ (heldP_mem e) h1 h2

/-- a list that the ledger bears -/
noncomputable def FoundRd (dyns : List (Addr × Obj)) (fs : List Value) (P : List (Int × PV)) : Prop := ∀ H : Heap, (∀ p ∈ dyns, H.get? p.1 = some p.2) → RdAll H fs (P.map entD)
theorem FoundRd.nil : FoundRd [] [] [] := fun _ _ => .nil
theorem RdAll.one {h : Heap} {v : Value} {d : PyData} (x : Rd h v d) : RdAll h [v] [d] := .cons x .nil
noncomputable def AddRd (h : Heap) (o : Option PV) (add : Option Value) : Prop := match add with | none => o = none | some y => ∃ V, o = some V ∧ V.Flat ∧ Rd h y V.py
theorem FoundRd.put {dyns : List (Addr × Obj)} {fs fs' : List Value} {P : List (Int × PV)} {own : List (Addr × Obj)} {n : Int} {add : Option Value} {o : Option PV} {h : Heap}
    (x : FoundRd dyns fs P) {a b c : Addr}
    (hm : match add with | none => fs' = fs ∧ own = [] | some y => ∃ e t, @Ne Nat e a ∧ @Ne Nat e b ∧ @Ne Nat e c ∧ fs' = fs ++ [.ref e] ∧ own = [(e, ({ cls := .type "tuple", data := .seq [.int n t, y].toArray } : Obj))])
    (ho : AddRd h o add) : FoundRd (own ++ dyns) fs' (P ++ Mine.put o n) := by
  intro H hH
  have h1 := x H fun p hp => hH p (List.mem_append.mpr (.inr hp))
  cases add with
  | none =>
    obtain ⟨rfl, rfl⟩ := hm
    simp only [AddRd] at ho
    subst ho
    simpa [Mine.put] using h1
  | some y =>
    obtain ⟨e, t, _, _, _, rfl, rfl⟩ := hm
    obtain ⟨V, rfl, fl, rd⟩ := ho
    simp only [Mine.put, List.map_append, List.map_cons, List.map_nil]
    refine h1.append (.one ?_)
    refine Rd.tuple (vs := [.int n t, y]) ⟨_, hH (e, _) (List.mem_append.mpr (.inl (List.mem_singleton.mpr rfl))), rfl, _, rfl⟩ ?_
    exact .cons Rd.int (.cons (fl.rd rd H) .nil)
theorem ints_one {xs ys : List Value} {ns : List Int} {b : Bool} {n : Int} (x : IntsAre xs ns) (h : if b = true then ∃ t, ys = xs ++ [.int n t] else ys = xs) : IntsAre ys (ns ++ one b n) := by
  cases b with
  | true => simp only [if_true] at h; obtain ⟨t, rfl⟩ := h; exact x.append (.cons n t .nil)
  | false => simp only [Bool.false_eq_true, if_false] at h; subst h; simpa [one] using x
theorem len_one {xs ys : List Value} {b : Bool} {n : Int} {k : Nat} (x : xs.length ≤ k) (h : if b = true then ∃ t, ys = xs ++ [Value.int n t] else ys = xs) : ys.length ≤ k + 1 := by
  cases b with
  | true => simp only [if_true] at h; obtain ⟨t, rfl⟩ := h; simp; exact x
  | false => simp only [Bool.false_eq_true, if_false] at h; subst h; omega

/-- the ledger between the turns -/
noncomputable def LoopLed (fo fr re : Addr) (fixed : List (Addr × Obj)) (k : Nat) (T : Told) (led : List (Addr × Obj)) : Prop :=
  ∃ (fs frs res : List Value) (c1 c2 c3 : Nat) (dyns : List (Addr × Obj)), led = (fo, listOf fs.toArray c1) :: (fr, listOf frs.toArray c2) :: (re, listOf res.toArray c3) :: (fixed ++ dyns) ∧ FoundRd dyns fs T.f ∧ IntsAre frs T.fr ∧ IntsAre res T.re ∧
    fs.length ≤ k ∧ frs.length ≤ k ∧ res.length ≤ k ∧ (∀ p ∈ dyns, @Ne Nat p.1 fo ∧ @Ne Nat p.1 fr ∧ @Ne Nat p.1 re) ∧ (∀ p ∈ dyns, ∀ q ∈ fixed, @Ne Nat p.1 q.1)

theorem sides_mk {P : Params} {h : Heap} {x dx : Addr} {S : SD} {n : Nat} {t0 t1 t2 t3 t4 t5 t6 t7 t8 t9 : Tok} (h1 : h.get? x = some (instObj 106 dx))
    (h2 : h.get? dx = some (dictOf [strK P "rules" t0 (.ref S.rl), strK P "left" t1 S.left, strK P "right" t2 S.right, strK P "left_front" t3 S.lf, strK P "left_rear" t4 S.lr, strK P "right_front" t5 S.rf, strK P "right_rear" t6 S.rr,
      strK P "found" t7 (.ref S.fo), strK P "front" t8 (.ref S.fr), strK P "rear" t9 (.ref S.re)] n)) : SidesAt P h x S :=
  ⟨dx, n, fun i => [t0, t1, t2, t3, t4, t5, t6, t7, t8, t9].getD i 0, h1, h2⟩
-- L7
theorem both_add {V : SV} {n : Int} {o : Option Value} {y : Value} {VV : PV} {h : Heap} {v : Value} (hg : Got h v V.L n o) (hy : Rd h y VV.py) (fl : VV.Flat) (fl2 : (heldV V.L n).Flat) :
    AddRd h (V.addB n VV) (V.bothAdd n o y) := by
  unfold AddRd SV.bothAdd SV.addB
  by_cases h1 : V.fromLeft n = true
  · simp only [if_pos h1]; exact ⟨_, rfl, fl2, hg.rd⟩
  · by_cases h2 : V.caught n = true
    · simp only [if_neg h1, if_pos h2]; exact ⟨_, rfl, fl, hy⟩
    · simp only [if_neg h1, if_neg h2]
theorem one_add {V : SV} {n : Int} {y : Value} {VV : PV} {h : Heap} (hy : Rd h y VV.py) (fl : VV.Flat) :
    AddRd h (V.addO n VV) (V.oneAdd n y) := by
  unfold AddRd SV.oneAdd SV.addO
  by_cases h1 : V.kept n = true
  · simp only [if_pos h1]; exact ⟨_, rfl, fl, hy⟩
  · simp only [if_neg h1]
theorem news7 {h₀ h : Heap} {L D re fr fo x dx cl : Addr} {oD o1 o2 o3 ox od oc : Obj} (N : News h₀ L h [(D, oD), (re, o3), (fr, o2), (fo, o1), (x, ox), (dx, od), (cl, oc)]) :
    News h₀ L h ((fo, o1) :: (fr, o2) :: (re, o3) :: ([(D, oD), (x, ox), (dx, od), (cl, oc)] ++ [])) := fun p hp => N p (by
  simp only [List.append_nil, List.mem_cons, List.not_mem_nil, or_false] at hp ⊢
  rcases hp with h | h | h | h | h | h | h <;> simp [h])
theorem LoopLed.start {fo fr re : Addr} {fixed : List (Addr × Obj)} : LoopLed fo fr re fixed 0 ⟨[], [], []⟩ ((fo, listOf #[] 0) :: (fr, listOf #[] 0) :: (re, listOf #[] 0) :: (fixed ++ [])) :=
  ⟨[], [], [], 0, 0, 0, [], rfl, FoundRd.nil, .nil, .nil, Nat.le_refl _, Nat.le_refl _, Nat.le_refl _, (fun _ h => nomatch h), fun _ h => nomatch h⟩
theorem pl_items {h : Heap} {vs : List Value} {P : List (Int × PV)} (x : RdAll h vs (P.map entD)) : ∀ (i : Nat) v, vs[i]? = some v → ∃ a x' y, v = .ref a ∧ IsTup h a #[x', y] ∧ (∃ n t V, x' = .int n t ∧ P[i]? = some (n, V) ∧ Rd h y V.py) := by
  intro i v hv
  obtain ⟨d, hd, hr⟩ := x.get i v hv
  simp only [List.getElem?_map, Option.map_eq_some_iff] at hd
  obtain ⟨⟨n, V⟩, hP, rfl⟩ := hd
  obtain ⟨a, t, y, rfl, h1, h2⟩ := ent_inv hr
  exact ⟨a, _, y, rfl, h1, n, t, V, rfl, hP, h2⟩
theorem notin_own {prog : Program} {w : World} {A : Around} {E : Value → Shared → Prop} {s : Shared} {t : Addr} {n : Int} {u t1 t2 : Tok} {Q : Value → Shared → Prop} (ht : IsTup s.heap t #[.int 101 t1, .int 102 t2])
    (h : Q (.bool (decide (¬ (n = 101 ∨ n = 102)))) s) : wpAny (model prog w) A (compareOp .NotIn (.int n u) (.ref t)) Q E s :=
  notin_tuple_ints ht (.cons 101 t1 (.cons 102 t2 .nil)) (by
    have e : (!([101, 102].any (· == n))) = decide (¬ (n = 101 ∨ n = 102)) := by
      by_cases h1 : n = 101
      · subst h1; decide
      · by_cases h2 : n = 102
        · subst h2; decide
        · have k1 : ¬ 101 = n := fun e => h1 e.symm
          have k2 : ¬ 102 = n := fun e => h2 e.symm
          simp [h1, h2, k1, k2]
    rw [e]; exact h)
-- L8
theorem base_up {h₀ h H : Heap} {L : Addr} {m : Str → Option Value} {news dyn : List (Addr × Obj)} (F : Fr h₀ L h m) (N : News h₀ L h news) (sub : ∀ p ∈ dyn, p ∈ news)
    (hH : ∀ b o, h.get? b = some o → b ∉ dyn.map (·.1) → H.get? b = some o) : ∀ b o, h₀.get? b = some o → H.get? b = some o := fun b o e => hH b o (F.keep b o e) fun hm => by
  obtain ⟨q, hq, rfl⟩ := List.mem_map.mp hm
  have := (N q (sub q hq)).2.2
  rw [e] at this; cases this
theorem fold_take {α β : Type} (f : β → α → β) (z : β) (xs : List α) (i : Nat) (a : α) (h : xs[i]? = some a) : (xs.take (i + 1)).foldl f z = f ((xs.take i).foldl f z) a := by
  rw [List.take_add_one, h]; simp
theorem stepB_not {V : SV} {T : Told} {n : Int} {VV : PV} (h : ¬ (n = 101 ∨ n = 102)) : V.stepB T (n, VV) = ⟨T.f ++ put (V.addB n VV) n, T.fr ++ one (V.bothFr n) n, T.re ++ one (V.bothRe n) n⟩ := by simp [SV.stepB, h]
theorem stepB_own {V : SV} {T : Told} {n : Int} {VV : PV} (h : ¬ ¬ (n = 101 ∨ n = 102)) : V.stepB T (n, VV) = T := by
  have h := Decidable.not_not.mp h
  simp [SV.stepB, h]
theorem stepO_not {V : SV} {T : Told} {n : Int} {VV : PV} (h : ¬ (n = 101 ∨ n = 102)) (h2 : findP V.R n < 0) : V.stepO T (n, VV) = ⟨T.f ++ put (V.addO n VV) n, T.fr ++ one (V.oneFr n) n, T.re ++ one (V.oneRe n) n⟩ := by
  simp [SV.stepO, h, h2]
theorem stepO_own {V : SV} {T : Told} {n : Int} {VV : PV} (h : ¬ ¬ (n = 101 ∨ n = 102)) : V.stepO T (n, VV) = T := by
  have h := Decidable.not_not.mp h
  have h' : n = 101 ∨ n = 102 ∨ ¬ findP V.R n < 0 := by rcases h with h | h <;> simp [h]
  unfold SV.stepO; rw [if_pos h']
theorem stepO_in {V : SV} {T : Told} {n : Int} {VV : PV} (h2 : ¬ findP V.R n < 0) : V.stepO T (n, VV) = T := by
  unfold SV.stepO; rw [if_pos (Or.inr (Or.inr h2))]

theorem turn_take {g h' : Heap} {L I : Addr} {xa xb : Str} {m m' : Str → Option Value} {oI : Obj} {s₁ : Shared} {tk' : Nat} {S : SD} {fixed dyns dyn' : List (Addr × Obj)} {fs frs res : List Value} {c1 c2 c3 : Nat} {n : Int} {add : Option Value} {b1 b2 : Bool} {o : Option PV} {T T' : Told}
    {r : Value} {k : Nat} {hh : Heap} (F : Fr g L h' m') (po : TakeP S fs frs res n add b1 b2 r dyn') (N : News g L h' (dyn' ++ ((I, oI) :: (fixed ++ dyns)))) (ne' : ∀ p ∈ dyn', ∀ q ∈ (I, oI) :: (fixed ++ dyns), @Ne Nat p.1 q.1)
    (hne : ∀ p ∈ (S.fo, listOf fs.toArray c1) :: (S.fr, listOf frs.toArray c2) :: (S.re, listOf res.toArray c3) :: (fixed ++ dyns), @Ne Nat p.1 I)
    (hfr : FoundRd dyns fs T.f) (hi1 : IntsAre frs T.fr) (hi2 : IntsAre res T.re) (hk1 : fs.length ≤ k) (hk2 : frs.length ≤ k) (hk3 : res.length ≤ k) (hdn : ∀ p ∈ dyns, @Ne Nat p.1 S.fo ∧ @Ne Nat p.1 S.fr ∧ @Ne Nat p.1 S.re) (hdx : ∀ p ∈ dyns, ∀ q ∈ fixed, @Ne Nat p.1 q.1)
    (ho : AddRd hh o add) (hT : T' = ⟨T.f ++ put o n, T.fr ++ one b1 n, T.re ++ one b2 n⟩) (off : OffTwo xa xb m m') :
    PTurn g L xa xb m I oI (fun led => LoopLed S.fo S.fr S.re fixed (k + 1) T' led) s₁ .next { s₁ with heap := h', toks := tk' } := by
  obtain ⟨rfl, own, fs', frs', res', d1, d2, d3, rfl, hadd, h2, h3⟩ := po
  subst hT
  refine PTurn.intro ((S.fo, listOf fs'.toArray d1) :: (S.fr, listOf frs'.toArray d2) :: (S.re, listOf res'.toArray d3) :: (fixed ++ (own ++ dyns))) F N (by simp) (fun p hp => ?_) (fun p hp => ?_) off ?_
  · simp only [List.mem_cons, List.mem_append] at hp ⊢
    rcases hp with hp | hp | hp | hp | hp | hp <;> simp [hp]
  · have z : p ∈ (S.fo, listOf fs'.toArray d1) :: (S.fr, listOf frs'.toArray d2) :: (S.re, listOf res'.toArray d3) :: own ∨ p ∈ fixed ++ dyns := by
      simp only [List.mem_cons, List.mem_append] at hp ⊢
      rcases hp with hp | hp | hp | hp | hp | hp <;> simp [hp]
    rcases z with z | z
    · exact ne' p z (I, oI) (List.mem_cons_self ..)
    · exact hne p (by simp only [List.mem_cons]; exact Or.inr (Or.inr (Or.inr z)))
  · refine ⟨fs', frs', res', d1, d2, d3, own ++ dyns, rfl, hfr.put hadd ho, ints_one hi1 h2, ints_one hi2 h3, ?_, len_one hk2 h2, len_one hk3 h3, fun p hp => ?_, fun p hp q hq => ?_⟩
    · cases add with
      | none => simp only at hadd; rw [hadd.1]; exact Nat.le_succ_of_le hk1
      | some y =>
        obtain ⟨e, t, _, _, _, rfl, _⟩ := hadd
        simp; exact hk1
    · rcases List.mem_append.mp hp with hp | hp
      · cases add with
        | none => simp only at hadd; rw [hadd.2] at hp; cases hp
        | some y =>
          obtain ⟨e, t, n1, n2, n3, _, rfl⟩ := hadd
          rw [List.mem_singleton.mp hp]; exact ⟨n1, n2, n3⟩
      · exact hdn p hp
    · rcases List.mem_append.mp hp with hp | hp
      · exact ne' p (by simp [hp]) q (by simp [hq])
      · exact hdx p hp q hq
theorem turn_skip {g h' : Heap} {L I : Addr} {xa xb : Str} {m m' : Str → Option Value} {oI : Obj} {s₁ : Shared} {tk' : Nat} {fo fr re : Addr} {fixed led : List (Addr × Obj)} {T T' : Told} {k : Nat}
    (F : Fr g L h' m') (N : News g L h' ((I, oI) :: led)) (hne : ∀ p ∈ led, @Ne Nat p.1 I) (j : LoopLed fo fr re fixed k T led) (hT : T' = T) (off : OffTwo xa xb m m') :
    PTurn g L xa xb m I oI (fun led => LoopLed fo fr re fixed (k + 1) T' led) s₁ .next { s₁ with heap := h', toks := tk' } := by
  subst hT
  obtain ⟨fs, frs, res, c1, c2, c3, dyns, rfl, hfr, hi1, hi2, hk1, hk2, hk3, hdn, hdx⟩ := j
  exact PTurn.intro _ F N (by simp) (fun p hp => List.mem_cons_of_mem _ hp) hne off ⟨fs, frs, res, c1, c2, c3, dyns, rfl, hfr, hi1, hi2, Nat.le_succ_of_le hk1, Nat.le_succ_of_le hk2, Nat.le_succ_of_le hk3, hdn, hdx⟩
theorem off_two {xa xb : Str} {m : Str → Option Value} {x y : Value} : OffTwo xa xb m (fun z => if z = xb then some y else if z = xa then some x else m z) := fun z h1 h2 => by simp [h1, h2]
theorem fr_off {h₀ h : Heap} {L : Addr} {xa xb : Str} {m m' : Str → Option Value} (F : Fr h₀ L h m') (off : OffTwo xa xb m m') : Fr h₀ L h (fun z => if z = xb then m' xb else if z = xa then m' xa else m z) := by
  have e : (fun z => if z = xb then m' xb else if z = xa then m' xa else m z) = m' := by
    funext z
    by_cases h1 : z = xb
    · simp [h1]
    · by_cases h2 : z = xa
      · subst h2; simp only [if_neg h1, if_true]
      · simp only [if_neg h1, if_neg h2]; exact (off z h2 h1).symm
  rw [e]; exact F
theorem LoopLed.again {fo fr re : Addr} {a b c d : Addr × Obj} {k : Nat} {T : Told} {fs frs res : List Value} {c1 c2 c3 : Nat} {dyns : List (Addr × Obj)} (h1 : FoundRd dyns fs T.f) (h2 : IntsAre frs T.fr) (h3 : IntsAre res T.re)
    (h4 : fs.length ≤ k) (h5 : frs.length ≤ k) (h6 : res.length ≤ k) (h7 : ∀ p ∈ dyns, @Ne Nat p.1 fo ∧ @Ne Nat p.1 fr ∧ @Ne Nat p.1 re) (h8 : ∀ p ∈ dyns, ∀ q ∈ [a, b, c, d], @Ne Nat p.1 q.1) :
    LoopLed fo fr re [a, b, c, d] (k + 0) T ((fo, listOf fs.toArray c1) :: (fr, listOf frs.toArray c2) :: (re, listOf res.toArray c3) :: a :: b :: c :: d :: dyns) :=
  ⟨fs, frs, res, c1, c2, c3, dyns, rfl, h1, h2, h3, h4, h5, h6, h7, h8⟩
-- C10
theorem take_use {w : World} {mean : ExcName → Option Value} {mg mb : Str → Option Value} {A A₀ : Around} {base g : Heap} {outer : List Env} {L a f x lp df : Addr} {m : Str → Option Value} {s : Shared} {Q E : Value → Shared → Prop} {cn : Str} {cs : Scope} {ccd : Value} {cl : List (Str × Addr)}
    {S : SD} {V : SV} {n : Int} {vs fs frs res : List Value} {c1 c2 c3 : Nat} {add : Option Value} {fr re : Bool} {news : List (Addr × Obj)}
    (Sp : SpecM w mean mg mb 650 6500 f vs [(S.fo, listOf fs.toArray c1), (S.fr, listOf frs.toArray c2), (S.re, listOf res.toArray c3)] (fun h => SidesAt w.params h x S ∧ SidesRd w h S lp df V) (TakeP S fs frs res n add fr re))
    (SA : SidesAt w.params g x S) (SR : SidesRd w g S lp df V) (q1 : (S.fo, listOf fs.toArray c1) ∈ news) (q2 : (S.fr, listOf frs.toArray c2) ∈ news) (q3 : (S.re, listOf res.toArray c3) ∈ news)
    (B : Below A₀ base outer g) (F : Fr g L s.heap m) (X : (Mine.hd.heap_39 w.params).In g) (N : News g L s.heap news) (T : Top Mine.hd.view_39 (looseW Mine.hd.view_39 []) mean mg mb g)
    (hA : A.frames = some (envX cn cs L a ccd cl :: outer)) (hh : A.handled = none) (hk : cs.kind = .function) (hd : A.depth ≤ 650) (hu : A.units ≤ 6500)
    (ret : ∀ dyn' h' tk', Fr g L h' m → News g L h' dyn' → TakeP S fs frs res n add fr re .none dyn' → Q .none { s with heap := h', toks := tk' }) :
    wpAny (model PySem.Challenge.rw_np0033_01.row.prog w) A (call (.ref f) vs) Q E s := by
  have sub : ∀ p ∈ [(S.fo, listOf fs.toArray c1), (S.fr, listOf frs.toArray c2), (S.re, listOf res.toArray c3)], p ∈ news := by
    intro p hp
    simp only [List.mem_cons, List.not_mem_nil, or_false] at hp
    rcases hp with rfl | rfl | rfl <;> assumption
  refine specM_use (rest := []) Sp B F X (fun p hp => N p (sub p (by simpa using hp))) T hA hh hk hd hu (fun _ _ _ hq => nomatch hq) (fun H hH => ?_) fun r dyn' h' tk' F' N' _ po => ?_
  · have up := base_up F N sub hH
    exact ⟨SA.keeps up, SR.keeps up⟩
  · obtain ⟨rfl, po⟩ := po
    rw [List.append_nil] at N'
    exact ret dyn' h' tk' F' N' ⟨rfl, po⟩
theorem take_eq {S : SD} {fs frs res : List Value} {n : Int} {add add' : Option Value} {fr re fr' re' : Bool} {r : Value} {d : List (Addr × Obj)} (x : TakeP S fs frs res n add fr re r d) (h1 : add' = add) (h2 : fr' = fr) (h3 : re' = re) : TakeP S fs frs res n add' fr' re' r d := by
  subst h1; subst h2; subst h3; exact x
section
theorem take_left_spec (w : World) (mean : ExcName → Option Value) (mg mb : Str → Option Value) (x lp df : Addr) (S : SD) (V : SV) (n : Int) (tn : Tok) (v : Value) (fs frs res : List Value) (c1 c2 c3 : Nat)
    (hV : V.Ok) (hf1 : fs.length ≤ 100) (hf2 : frs.length ≤ 100) (hf3 : res.length ≤ 100) (hd1 : @Ne Nat S.fo S.fr) (hd2 : @Ne Nat S.fo S.re) (hd3 : @Ne Nat S.fr S.re) :
    SpecM w mean mg mb 650 6500 131 [.ref x, .int n tn, v] [(S.fo, listOf fs.toArray c1), (S.fr, listOf frs.toArray c2), (S.re, listOf res.toArray c3)]
      (fun h => SidesAt w.params h x S ∧ SidesRd w h S lp df V) (TakeP S fs frs res n (some v) (V.lf.mem n) false) := by
  unfold SpecM
  k_fill
  k_with_none
  k_with "kd_adr" => (first | exact List.forall_mem_nil _ | (refine List.forall_mem_cons.mpr ⟨?kdh, ?kdt⟩; (case kdh => ((try dsimp only); first | kd_ltNe | (refine Ne.symm ?_; kd_ltNe) | (simp only [*, ne_eq, not_false_eq_true]; done) | (refine neN ?_; omega))); (case kdt => kd_adr)) | kd_adrTail | fail "k_dat: an address")
  k_with "k_ne" => (refine neN ?_; (try dsimp only); first | with_reducible assumption | kd_ltNe | (refine Ne.symm ?_; first | with_reducible assumption | kd_ltNe) | (simp only [*, ne_eq, not_false_eq_true]; done) | (refine Ne.symm ?_; simp only [*, ne_eq, not_false_eq_true]; done) | (refine Nat.ne_of_lt ?_; simp only [*]; done) | (refine Nat.ne_of_gt ?_; simp only [*]; done) | omega)
  k_with "k_room" => (exact Nat.le_of_ble_eq_true rfl)
  k_with "ktr_enter" => (
    refine' Mine.enterP ?kP ?k1 ?k2 ?k3 ?k4 ?k5 ?kA ?kF ?kK ?kR ?k6 ?k7 ?k8 ?k9 ?kB ?_ ?c2 ?c3 ?c4 ?c5;
    (case kA => exact rfl); (case kF => exact rfl); (case kK => assumption); (case k1 => k_asm); (case k2 => k_asm); (case k3 => k_asm); (case k4 => k_asm); (case k5 => k_asm); (case kR => assumption);
    (case k6 => k_is); (case k7 => k_is); (case k8 => exact Nat.le_of_ble_eq_true rfl); (case k9 => exact BindsTo.of_eq rfl); (case c5 => decide); (case kB => exact locs rfl); (case c2 => exact rfl); (case c3 => exact rfl); (case c4 => exact rfl); k_whole)
  k_with "ktr_step" => (refine' IsTup.keeps ?ktx (Fr.keep ?ktF); (case ktF => k_asm); (case ktx => first | assumption | exact IsTup.keeps (by assumption) (Fr.keep (by assumption)) | (refine' IsTup.keeps ?kty (Fr.keep ?ktG); (case ktG => assumption); (case kty => exact IsTup.keeps (by assumption) (Fr.keep (by assumption))))))
  k_with "kit_at" => (refine' kitAt_tup ?kaT; (case kaT => ktr_step))
  k_with "ktf_step" => (first | assumption | exact InsF.keeps (by assumption) (Fr.keep (by assumption)) | (refine' InsF.keeps ?kfI (Fr.keep ?kfF); (case kfF => assumption); (case kfI => exact InsF.keeps (by assumption) (Fr.keep (by assumption)))))
  k_with "k_inst" => (refine' InsF.at ?kiI (Fr.keep ?kiF); (case kiF => k_asm); (case kiI => ktf_step))
  k_with "ktd_step" => (refine' Rd.keeps (Fr.keep ?kdF) ?kdx; (case kdF => k_asm); (case kdx => first | assumption | exact Rd.keeps (Fr.keep (by assumption)) (by assumption) | (refine' Rd.keeps (Fr.keep ?kdG) ?kdy; (case kdG => assumption); (case kdy => exact Rd.keeps (Fr.keep (by assumption)) (by assumption)))))
  k_with "ktn_step" => (
    refine' Mine.enterPC ?kP ?k1 ?k2 ?k3 ?k4 ?k5 ?kA ?kF ?kK ?kR ?k6 ?k7 ?k8 ?k9 ?kB ?kD ?_ ?c2 ?c3 ?c4;
    (case kA => exact rfl); (case kF => exact rfl); (case kK => assumption); (case k1 => k_asm); (case k2 => k_asm); (case k3 => k_asm); (case k4 => k_asm); (case k5 => k_asm); (case kR => assumption);
    (case k6 => k_is); (case k7 => k_is); (case k8 => exact Nat.le_of_ble_eq_true rfl); (case k9 => exact BindsTo.of_eq rfl); (case kB => exact rfl); (case kD => decide +kernel); (case c2 => exact rfl); (case c3 => exact rfl); (case c4 => exact rfl); k_whole)
  k_with "subscriptTail" => (k_here; (with_reducible show wpAny _ _ (subscriptTail _ _ (Value.ref _) (Value.int _ _)) _ _ _); k_dflt (refine' item_tupleT ?t ?a ?b ?c ?d ?_; (case t => ktr_step); (case a => decide); (case b => decide); (case c => rfl); (case d => rfl); k_whole))
  k_with "subscriptTail" => (k_here; (with_reducible show wpAny _ _ (subscriptTail _ _ (Value.ref _) (Value.int 0 _)) _ _ _); k_dflt (refine' item_tup0 ?t ?_; (case t => ktr_step); k_whole))
  k_with "k_handed" => (exact Rd.handed (by assumption))
  k_with "ktr_room" => (
    refine' Mine.enterM ?kP ?k1 ?k2 ?k3 ?k4 ?k5 ?kA ?kF ?kK ?kN ?kQ ?kR ?k6 ?k7 ?k8 ?k9 ?kB ?_ ?c2 ?c3 ?c4 ?c5;
    (case kA => exact rfl); (case kF => exact rfl); (case kK => assumption); (case k1 => k_asm); (case k2 => k_asm); (case k3 => k_asm); (case k4 => k_asm); (case k5 => k_asm); (case kN => assumption); (case kQ => assumption); (case kR => assumption);
    (case k6 => k_is); (case k7 => k_is); (case k8 => exact Nat.le_of_ble_eq_true rfl); (case k9 => exact BindsTo.of_eq rfl); (case c5 => decide); (case kB => exact locs rfl); (case c2 => exact rfl); (case c3 => exact rfl); (case c4 => exact rfl); k_whole)
  k_with "call ref" => (k_here; (with_reducible show wpAny _ _ (call (Value.ref 75) _) _ _ _); (show wpAny _ _ (call (Value.ref 75) [_, Value.int _ _, _]) _ _ _); k_dflt (refine' spec_useV (Mine.is_member_spec _ _ _ _ _ _ _ _ _ _ _ ?hn) ?k1 ?k2 ?k3 ?k4 ?k5 ?kA ?kH ?kK ?kd ?ku ?kp ?_; (case kA => exact rfl); (case kH => exact rfl); (case kK => exact rfl); (case k1 => k_asm); (case k2 => k_asm); (case k3 => k_asm); (case k4 => k_asm); (case k5 => k_asm); (case kd => exact Nat.le_of_ble_eq_true rfl); (case ku => exact Nat.le_of_ble_eq_true rfl); (case kp => (refine' And.intro ?kpa ?kpb; (case kpb => ktd_step); (case kpa => (refine' RulesAt.keeps ?krx (Fr.keep ?krF); (case krF => k_asm); (case krx => first | assumption | exact RulesAt.keeps (by assumption) (Fr.keep (by assumption)) | (refine' RulesAt.keeps ?kry (Fr.keep ?krG); (case krG => assumption); (case kry => exact RulesAt.keeps (by assumption) (Fr.keep (by assumption))))))))); (case hn => assumption); intro h9' tk9' F9' N9' k9'); (try dsimp only); (try k_fold))
  intro gd cn cs a ccd cl outer A₀ base h₀ L m rest s Q E B F X N T hk hne hpre hret
  k_dflt ktr_room
  intro g' L' h' F' N' l1 B' X' T' hpre'
  clear hret hpre B F X N T
  k_lt l1

  refine Mine.hide ?_; intro Gq hGq
  obtain ⟨hSA, hSR⟩ := hpre'
  have hokf := hV.lf
  have hokrf := hV.rf
  have hokrr := hV.rr
  obtain ⟨dx, nn, tt, hS⟩ := id hSA
  obtain ⟨hR, hT, h1, h2, h3, h4, h5, h6⟩ := id hSR
  refine hGq ?_; clear hGq Gq
  (try dsimp only); (try k_fold)
  k_steps
  all_goals (try dsimp only)
  all_goals (first | (have e1 : V.lf.mem n = true := by with_reducible assumption) | (have e1 : V.lf.mem n = false := by with_reducible assumption))
  all_goals exact take_end1 (by k_asm) (by k_asm) (by k_mem) (by k_mem) (by k_mem) (by k_mem) (by omega) rfl (by rw [e1]; first | exact rfl | exact ⟨_, rfl⟩) rfl
theorem take_right_spec (w : World) (mean : ExcName → Option Value) (mg mb : Str → Option Value) (x lp df : Addr) (S : SD) (V : SV) (n : Int) (tn : Tok) (v : Value) (fs frs res : List Value) (c1 c2 c3 : Nat)
    (hV : V.Ok) (hf1 : fs.length ≤ 100) (hf2 : frs.length ≤ 100) (hf3 : res.length ≤ 100) (hd1 : @Ne Nat S.fo S.fr) (hd2 : @Ne Nat S.fo S.re) (hd3 : @Ne Nat S.fr S.re) :
    SpecM w mean mg mb 650 6500 138 [.ref x, .int n tn, v] [(S.fo, listOf fs.toArray c1), (S.fr, listOf frs.toArray c2), (S.re, listOf res.toArray c3)]
      (fun h => SidesAt w.params h x S ∧ SidesRd w h S lp df V) (TakeP S fs frs res n (some v) (V.rf.mem n) (V.rr.mem n)) := by
  unfold SpecM
  k_fill
  k_with_none
  k_with "kd_adr" => (first | exact List.forall_mem_nil _ | (refine List.forall_mem_cons.mpr ⟨?kdh, ?kdt⟩; (case kdh => ((try dsimp only); first | kd_ltNe | (refine Ne.symm ?_; kd_ltNe) | (simp only [*, ne_eq, not_false_eq_true]; done) | (refine neN ?_; omega))); (case kdt => kd_adr)) | kd_adrTail | fail "k_dat: an address")
  k_with "k_ne" => (refine neN ?_; (try dsimp only); first | with_reducible assumption | kd_ltNe | (refine Ne.symm ?_; first | with_reducible assumption | kd_ltNe) | (simp only [*, ne_eq, not_false_eq_true]; done) | (refine Ne.symm ?_; simp only [*, ne_eq, not_false_eq_true]; done) | (refine Nat.ne_of_lt ?_; simp only [*]; done) | (refine Nat.ne_of_gt ?_; simp only [*]; done) | omega)
  k_with "k_room" => (exact Nat.le_of_ble_eq_true rfl)
  k_with "ktr_enter" => (
    refine' Mine.enterP ?kP ?k1 ?k2 ?k3 ?k4 ?k5 ?kA ?kF ?kK ?kR ?k6 ?k7 ?k8 ?k9 ?kB ?_ ?c2 ?c3 ?c4 ?c5;
    (case kA => exact rfl); (case kF => exact rfl); (case kK => assumption); (case k1 => k_asm); (case k2 => k_asm); (case k3 => k_asm); (case k4 => k_asm); (case k5 => k_asm); (case kR => assumption);
    (case k6 => k_is); (case k7 => k_is); (case k8 => exact Nat.le_of_ble_eq_true rfl); (case k9 => exact BindsTo.of_eq rfl); (case c5 => decide); (case kB => exact locs rfl); (case c2 => exact rfl); (case c3 => exact rfl); (case c4 => exact rfl); k_whole)
  k_with "ktr_step" => (refine' IsTup.keeps ?ktx (Fr.keep ?ktF); (case ktF => k_asm); (case ktx => first | assumption | exact IsTup.keeps (by assumption) (Fr.keep (by assumption)) | (refine' IsTup.keeps ?kty (Fr.keep ?ktG); (case ktG => assumption); (case kty => exact IsTup.keeps (by assumption) (Fr.keep (by assumption))))))
  k_with "kit_at" => (refine' kitAt_tup ?kaT; (case kaT => ktr_step))
  k_with "ktf_step" => (first | assumption | exact InsF.keeps (by assumption) (Fr.keep (by assumption)) | (refine' InsF.keeps ?kfI (Fr.keep ?kfF); (case kfF => assumption); (case kfI => exact InsF.keeps (by assumption) (Fr.keep (by assumption)))))
  k_with "k_inst" => (refine' InsF.at ?kiI (Fr.keep ?kiF); (case kiF => k_asm); (case kiI => ktf_step))
  k_with "ktd_step" => (refine' Rd.keeps (Fr.keep ?kdF) ?kdx; (case kdF => k_asm); (case kdx => first | assumption | exact Rd.keeps (Fr.keep (by assumption)) (by assumption) | (refine' Rd.keeps (Fr.keep ?kdG) ?kdy; (case kdG => assumption); (case kdy => exact Rd.keeps (Fr.keep (by assumption)) (by assumption)))))
  k_with "ktn_step" => (
    refine' Mine.enterPC ?kP ?k1 ?k2 ?k3 ?k4 ?k5 ?kA ?kF ?kK ?kR ?k6 ?k7 ?k8 ?k9 ?kB ?kD ?_ ?c2 ?c3 ?c4;
    (case kA => exact rfl); (case kF => exact rfl); (case kK => assumption); (case k1 => k_asm); (case k2 => k_asm); (case k3 => k_asm); (case k4 => k_asm); (case k5 => k_asm); (case kR => assumption);
    (case k6 => k_is); (case k7 => k_is); (case k8 => exact Nat.le_of_ble_eq_true rfl); (case k9 => exact BindsTo.of_eq rfl); (case kB => exact rfl); (case kD => decide +kernel); (case c2 => exact rfl); (case c3 => exact rfl); (case c4 => exact rfl); k_whole)
  k_with "subscriptTail" => (k_here; (with_reducible show wpAny _ _ (subscriptTail _ _ (Value.ref _) (Value.int _ _)) _ _ _); k_dflt (refine' item_tupleT ?t ?a ?b ?c ?d ?_; (case t => ktr_step); (case a => decide); (case b => decide); (case c => rfl); (case d => rfl); k_whole))
  k_with "subscriptTail" => (k_here; (with_reducible show wpAny _ _ (subscriptTail _ _ (Value.ref _) (Value.int 0 _)) _ _ _); k_dflt (refine' item_tup0 ?t ?_; (case t => ktr_step); k_whole))
  k_with "k_handed" => (exact Rd.handed (by assumption))
  k_with "ktr_room" => (
    refine' Mine.enterM ?kP ?k1 ?k2 ?k3 ?k4 ?k5 ?kA ?kF ?kK ?kN ?kQ ?kR ?k6 ?k7 ?k8 ?k9 ?kB ?_ ?c2 ?c3 ?c4 ?c5;
    (case kA => exact rfl); (case kF => exact rfl); (case kK => assumption); (case k1 => k_asm); (case k2 => k_asm); (case k3 => k_asm); (case k4 => k_asm); (case k5 => k_asm); (case kN => assumption); (case kQ => assumption); (case kR => assumption);
    (case k6 => k_is); (case k7 => k_is); (case k8 => exact Nat.le_of_ble_eq_true rfl); (case k9 => exact BindsTo.of_eq rfl); (case c5 => decide); (case kB => exact locs rfl); (case c2 => exact rfl); (case c3 => exact rfl); (case c4 => exact rfl); k_whole)
  k_with "call ref" => (k_here; (with_reducible show wpAny _ _ (call (Value.ref 75) _) _ _ _); (show wpAny _ _ (call (Value.ref 75) [_, Value.int _ _, _]) _ _ _); k_dflt (refine' spec_useV (Mine.is_member_spec _ _ _ _ _ _ _ _ _ _ _ ?hn) ?k1 ?k2 ?k3 ?k4 ?k5 ?kA ?kH ?kK ?kd ?ku ?kp ?_; (case kA => exact rfl); (case kH => exact rfl); (case kK => exact rfl); (case k1 => k_asm); (case k2 => k_asm); (case k3 => k_asm); (case k4 => k_asm); (case k5 => k_asm); (case kd => exact Nat.le_of_ble_eq_true rfl); (case ku => exact Nat.le_of_ble_eq_true rfl); (case kp => (refine' And.intro ?kpa ?kpb; (case kpb => ktd_step); (case kpa => (refine' RulesAt.keeps ?krx (Fr.keep ?krF); (case krF => k_asm); (case krx => first | assumption | exact RulesAt.keeps (by assumption) (Fr.keep (by assumption)) | (refine' RulesAt.keeps ?kry (Fr.keep ?krG); (case krG => assumption); (case kry => exact RulesAt.keeps (by assumption) (Fr.keep (by assumption))))))))); (case hn => assumption); intro h9' tk9' F9' N9' k9'); (try dsimp only); (try k_fold))
  intro gd cn cs a ccd cl outer A₀ base h₀ L m rest s Q E B F X N T hk hne hpre hret
  k_dflt ktr_room
  intro g' L' h' F' N' l1 B' X' T' hpre'
  clear hret hpre B F X N T
  k_lt l1

  refine Mine.hide ?_; intro Gq hGq
  obtain ⟨hSA, hSR⟩ := hpre'
  have hokf := hV.lf
  have hokrf := hV.rf
  have hokrr := hV.rr
  obtain ⟨dx, nn, tt, hS⟩ := id hSA
  obtain ⟨hR, hT, h1, h2, h3, h4, h5, h6⟩ := id hSR
  refine hGq ?_; clear hGq Gq
  (try dsimp only); (try k_fold)
  k_steps
  all_goals (try dsimp only)
  all_goals (first | (have e1 : V.rf.mem n = true := by with_reducible assumption) | (have e1 : V.rf.mem n = false := by with_reducible assumption))
  all_goals (first | (have e2 : V.rr.mem n = true := by with_reducible assumption) | (have e2 : V.rr.mem n = false := by with_reducible assumption))
  all_goals exact take_end1 (by k_asm) (by k_asm) (by k_mem) (by k_mem) (by k_mem) (by k_mem) (by omega) rfl (by rw [e1]; first | exact rfl | exact ⟨_, rfl⟩) (by rw [e2]; first | exact rfl | exact ⟨_, rfl⟩)
end
section
theorem take_both_spec (w : World) (mean : ExcName → Option Value) (mg mb : Str → Option Value) (x lp df : Addr) (S : SD) (V : SV) (n : Int) (tn : Tok) (v : Value) (VV : PV) (o : Option Value) (fs frs res : List Value) (c1 c2 c3 : Nat)
    (hV : V.Ok) (hf1 : fs.length ≤ 100) (hf2 : frs.length ≤ 100) (hf3 : res.length ≤ 100) (hd1 : @Ne Nat S.fo S.fr) (hd2 : @Ne Nat S.fo S.re) (hd3 : @Ne Nat S.fr S.re) :
    SpecM w mean mg mb 600 6000 145 [.ref x, .int n tn, v] [(S.fo, listOf fs.toArray c1), (S.fr, listOf frs.toArray c2), (S.re, listOf res.toArray c3)]
      (fun h => SidesAt w.params h x S ∧ SidesRd w h S lp df V ∧ Rd h v VV.py ∧ Got h S.left V.L n o) (TakeP S fs frs res n (V.bothAdd n o v) (V.bothFr n) (V.bothRe n)) := by
  unfold SpecM
  k_fill
  k_with_none
  k_with "kd_adr" => (first | exact List.forall_mem_nil _ | (refine List.forall_mem_cons.mpr ⟨?kdh, ?kdt⟩; (case kdh => ((try dsimp only); first | kd_ltNe | (refine Ne.symm ?_; kd_ltNe) | (simp only [*, ne_eq, not_false_eq_true]; done) | (refine neN ?_; omega))); (case kdt => kd_adr)) | kd_adrTail | fail "k_dat: an address")
  k_with "k_ne" => (refine neN ?_; (try dsimp only); first | with_reducible assumption | kd_ltNe | (refine Ne.symm ?_; first | with_reducible assumption | kd_ltNe) | (simp only [*, ne_eq, not_false_eq_true]; done) | (refine Ne.symm ?_; simp only [*, ne_eq, not_false_eq_true]; done) | (refine Nat.ne_of_lt ?_; simp only [*]; done) | (refine Nat.ne_of_gt ?_; simp only [*]; done) | omega)
  k_with "k_room" => (exact Nat.le_of_ble_eq_true rfl)
  k_with "ktr_enter" => (
    refine' Mine.enterP ?kP ?k1 ?k2 ?k3 ?k4 ?k5 ?kA ?kF ?kK ?kR ?k6 ?k7 ?k8 ?k9 ?kB ?_ ?c2 ?c3 ?c4 ?c5;
    (case kA => exact rfl); (case kF => exact rfl); (case kK => assumption); (case k1 => k_asm); (case k2 => k_asm); (case k3 => k_asm); (case k4 => k_asm); (case k5 => k_asm); (case kR => assumption);
    (case k6 => k_is); (case k7 => k_is); (case k8 => exact Nat.le_of_ble_eq_true rfl); (case k9 => exact BindsTo.of_eq rfl); (case c5 => decide); (case kB => exact locs rfl); (case c2 => exact rfl); (case c3 => exact rfl); (case c4 => exact rfl); k_whole)
  k_with "ktr_step" => (refine' IsTup.keeps ?ktx (Fr.keep ?ktF); (case ktF => k_asm); (case ktx => first | assumption | exact IsTup.keeps (by assumption) (Fr.keep (by assumption)) | (refine' IsTup.keeps ?kty (Fr.keep ?ktG); (case ktG => assumption); (case kty => exact IsTup.keeps (by assumption) (Fr.keep (by assumption))))))
  k_with "kit_at" => (refine' kitAt_tup ?kaT; (case kaT => ktr_step))
  k_with "ktf_step" => (first | assumption | exact InsF.keeps (by assumption) (Fr.keep (by assumption)) | (refine' InsF.keeps ?kfI (Fr.keep ?kfF); (case kfF => assumption); (case kfI => exact InsF.keeps (by assumption) (Fr.keep (by assumption)))))
  k_with "k_inst" => (refine' InsF.at ?kiI (Fr.keep ?kiF); (case kiF => k_asm); (case kiI => ktf_step))
  k_with "ktd_step" => (refine' Rd.keeps (Fr.keep ?kdF) ?kdx; (case kdF => k_asm); (case kdx => first | assumption | exact Rd.keeps (Fr.keep (by assumption)) (by assumption) | (refine' Rd.keeps (Fr.keep ?kdG) ?kdy; (case kdG => assumption); (case kdy => exact Rd.keeps (Fr.keep (by assumption)) (by assumption)))))
  k_with "ktn_step" => (
    refine' Mine.enterPC ?kP ?k1 ?k2 ?k3 ?k4 ?k5 ?kA ?kF ?kK ?kR ?k6 ?k7 ?k8 ?k9 ?kB ?kD ?_ ?c2 ?c3 ?c4;
    (case kA => exact rfl); (case kF => exact rfl); (case kK => assumption); (case k1 => k_asm); (case k2 => k_asm); (case k3 => k_asm); (case k4 => k_asm); (case k5 => k_asm); (case kR => assumption);
    (case k6 => k_is); (case k7 => k_is); (case k8 => exact Nat.le_of_ble_eq_true rfl); (case k9 => exact BindsTo.of_eq rfl); (case kB => exact rfl); (case kD => decide +kernel); (case c2 => exact rfl); (case c3 => exact rfl); (case c4 => exact rfl); k_whole)
  k_with "subscriptTail" => (k_here; (with_reducible show wpAny _ _ (subscriptTail _ _ (Value.ref _) (Value.int _ _)) _ _ _); k_dflt (refine' item_tupleT ?t ?a ?b ?c ?d ?_; (case t => ktr_step); (case a => decide); (case b => decide); (case c => rfl); (case d => rfl); k_whole))
  k_with "subscriptTail" => (k_here; (with_reducible show wpAny _ _ (subscriptTail _ _ (Value.ref _) (Value.int 0 _)) _ _ _); k_dflt (refine' item_tup0 ?t ?_; (case t => ktr_step); k_whole))
  k_with "k_handed" => (exact Rd.handed (by assumption))
  k_with "ktr_room" => (
    refine' Mine.enterM ?kP ?k1 ?k2 ?k3 ?k4 ?k5 ?kA ?kF ?kK ?kN ?kQ ?kR ?k6 ?k7 ?k8 ?k9 ?kB ?_ ?c2 ?c3 ?c4 ?c5;
    (case kA => exact rfl); (case kF => exact rfl); (case kK => assumption); (case k1 => k_asm); (case k2 => k_asm); (case k3 => k_asm); (case k4 => k_asm); (case k5 => k_asm); (case kN => assumption); (case kQ => assumption); (case kR => assumption);
    (case k6 => k_is); (case k7 => k_is); (case k8 => exact Nat.le_of_ble_eq_true rfl); (case k9 => exact BindsTo.of_eq rfl); (case c5 => decide); (case kB => exact locs rfl); (case c2 => exact rfl); (case c3 => exact rfl); (case c4 => exact rfl); k_whole)
  k_with "call ref" => (k_here; (with_reducible show wpAny _ _ (call (Value.ref 21) _) _ _ _); (show wpAny _ _ (call (Value.ref 21) [_, Value.none]) _ _ _); k_dflt (refine' spec_useV (Mine.eq_spec _ _ _ _ _ _) ?k1 ?k2 ?k3 ?k4 ?k5 ?kA ?kH ?kK ?kd ?ku ?kp ?_; (case kA => exact rfl); (case kH => exact rfl); (case kK => exact rfl); (case k1 => k_asm); (case k2 => k_asm); (case k3 => k_asm); (case k4 => k_asm); (case k5 => k_asm); (case kd => exact Nat.le_of_ble_eq_true rfl); (case ku => exact Nat.le_of_ble_eq_true rfl); (case kp => ktd_step); intro h9' tk9' F9' N9' k9'); (try dsimp only); (try k_fold))
  k_with "call ref" => (k_here; (with_reducible show wpAny _ _ (call (Value.ref 35) _) _ _ _); (show wpAny _ _ (call (Value.ref 35) [_, Value.int _ _]) _ _ _); k_dflt (refine' spec_use (Mine.plist_get_spec _ _ _ _ _ _ _ _ _ ?hn) ?k1 ?k2 ?k3 ?k4 ?k5 ?kA ?kH ?kK ?kd ?ku ?kp ?_; (case kA => exact rfl); (case kH => exact rfl); (case kK => exact rfl); (case k1 => k_asm); (case k2 => k_asm); (case k3 => k_asm); (case k4 => k_asm); (case k5 => k_asm); (case kd => exact Nat.le_of_ble_eq_true rfl); (case ku => exact Nat.le_of_ble_eq_true rfl); (case kp => (refine' And.intro ?kpa ?kpb; (case kpb => (refine' Got.keeps ?kgx (Fr.keep ?kgF); (case kgF => k_asm); (case kgx => first | assumption | exact Got.keeps (by assumption) (Fr.keep (by assumption))))); (case kpa => ktd_step))); (case hn => assumption); intro r9' own9' h9' tk9' F9' N9' k9' ne9' po9'); k_dflt (first | ((obtain ⟨e9', e9x'⟩ := po9'); subst e9'; subst e9x') | ((obtain ⟨a9', e9', e9x'⟩ := po9'); subst e9'; subst e9x')); (try simp only [List.cons_append, List.nil_append] at N9'); (try simp only [List.forall_mem_cons, List.forall_mem_nil, and_true] at ne9'); (try dsimp only); (try k_fold))
  k_with "call ref" => (k_here; (with_reducible show wpAny _ _ (call (Value.ref 117) _) _ _ _); (show wpAny _ _ (call (Value.ref 117) [_, Value.int _ _]) _ _ _); k_dflt (refine' spec_useV (Mine.is_kept_spec _ _ _ _ _ _ _ _ _ _ _ ?hn) ?k1 ?k2 ?k3 ?k4 ?k5 ?kA ?kH ?kK ?kd ?ku ?kp ?_; (case kA => exact rfl); (case kH => exact rfl); (case kK => exact rfl); (case k1 => k_asm); (case k2 => k_asm); (case k3 => k_asm); (case k4 => k_asm); (case k5 => k_asm); (case kd => exact Nat.le_of_ble_eq_true rfl); (case ku => exact Nat.le_of_ble_eq_true rfl); (case kp => (refine' And.intro ?kpa ?kpb; (case kpa => (refine' SidesAt.keeps ?ksax (Fr.keep ?ksaF); (case ksaF => k_asm); (case ksax => first | assumption | exact SidesAt.keeps (by assumption) (Fr.keep (by assumption)) | (refine' SidesAt.keeps ?ksay (Fr.keep ?ksaG); (case ksaG => assumption); (case ksay => exact SidesAt.keeps (by assumption) (Fr.keep (by assumption))))))); (case kpb => (refine' SidesRd.keeps ?ksrx (Fr.keep ?ksrF); (case ksrF => k_asm); (case ksrx => first | assumption | exact SidesRd.keeps (by assumption) (Fr.keep (by assumption)) | (refine' SidesRd.keeps ?ksry (Fr.keep ?ksrG); (case ksrG => assumption); (case ksry => exact SidesRd.keeps (by assumption) (Fr.keep (by assumption))))))))); (case hn => assumption); intro h9' tk9' F9' N9' k9'); (try dsimp only); (try k_fold))
  k_with "call ref" => (k_here; (with_reducible show wpAny _ _ (call (Value.ref 124) _) _ _ _); (show wpAny _ _ (call (Value.ref 124) [_, Value.int _ _]) _ _ _); k_dflt (refine' spec_useV (Mine.is_caught_spec _ _ _ _ _ _ _ _ _ _ _ ?hn) ?k1 ?k2 ?k3 ?k4 ?k5 ?kA ?kH ?kK ?kd ?ku ?kp ?_; (case kA => exact rfl); (case kH => exact rfl); (case kK => exact rfl); (case k1 => k_asm); (case k2 => k_asm); (case k3 => k_asm); (case k4 => k_asm); (case k5 => k_asm); (case kd => exact Nat.le_of_ble_eq_true rfl); (case ku => exact Nat.le_of_ble_eq_true rfl); (case kp => (refine' And.intro ?kpa ?kpb; (case kpa => (refine' SidesAt.keeps ?ksax (Fr.keep ?ksaF); (case ksaF => k_asm); (case ksax => first | assumption | exact SidesAt.keeps (by assumption) (Fr.keep (by assumption)) | (refine' SidesAt.keeps ?ksay (Fr.keep ?ksaG); (case ksaG => assumption); (case ksay => exact SidesAt.keeps (by assumption) (Fr.keep (by assumption))))))); (case kpb => (refine' SidesRd.keeps ?ksrx (Fr.keep ?ksrF); (case ksrF => k_asm); (case ksrx => first | assumption | exact SidesRd.keeps (by assumption) (Fr.keep (by assumption)) | (refine' SidesRd.keeps ?ksry (Fr.keep ?ksrG); (case ksrG => assumption); (case ksry => exact SidesRd.keeps (by assumption) (Fr.keep (by assumption))))))))); (case hn => assumption); intro h9' tk9' F9' N9' k9'); (try dsimp only); (try k_fold))
  k_with "call ref" => (k_here; (with_reducible show wpAny _ _ (call (Value.ref 131) _) _ _ _); k_dflt (refine' take_use (take_left_spec _ _ _ _ _ _ _ _ _ _ _ _ fs frs res c1 c2 c3 hV hf1 hf2 hf3 hd1 hd2 hd3) hSA hSR ?q1 ?q2 ?q3 ?k1 ?k2 ?k3 ?k4 ?k5 ?kA ?kH ?kK ?kd ?ku ?_; (case kA => exact rfl); (case kH => exact rfl); (case kK => exact rfl); (case k1 => k_asm); (case k2 => k_asm); (case k3 => k_asm); (case k4 => k_asm); (case k5 => k_asm); (case q1 => k_mem); (case q2 => k_mem); (case q3 => k_mem); (case kd => exact Nat.le_of_ble_eq_true rfl); (case ku => exact Nat.le_of_ble_eq_true rfl)); intro d9' h9' tk9' F9' N9' po9'; (try dsimp only); (try k_fold))
  k_with "call ref" => (k_here; (with_reducible show wpAny _ _ (call (Value.ref 138) _) _ _ _); k_dflt (refine' take_use (take_right_spec _ _ _ _ _ _ _ _ _ _ _ _ fs frs res c1 c2 c3 hV hf1 hf2 hf3 hd1 hd2 hd3) hSA hSR ?q1 ?q2 ?q3 ?k1 ?k2 ?k3 ?k4 ?k5 ?kA ?kH ?kK ?kd ?ku ?_; (case kA => exact rfl); (case kH => exact rfl); (case kK => exact rfl); (case k1 => k_asm); (case k2 => k_asm); (case k3 => k_asm); (case k4 => k_asm); (case k5 => k_asm); (case q1 => k_mem); (case q2 => k_mem); (case q3 => k_mem); (case kd => exact Nat.le_of_ble_eq_true rfl); (case ku => exact Nat.le_of_ble_eq_true rfl)); intro d9' h9' tk9' F9' N9' po9'; (try dsimp only); (try k_fold))
  intro gd cn cs a ccd cl outer A₀ base h₀ L m rest s Q E B F X N T hk hne hpre hret
  k_dflt ktr_room
  intro g' L' h' F' N' l1 B' X' T' hpre'
  clear hret hpre B F X N T
  k_lt l1

  refine Mine.hide ?_; intro Gq hGq
  obtain ⟨hSA, hSR, hv, hgot⟩ := hpre'
  have hokL := hV.L
  obtain ⟨dx, nn, tt, hS⟩ := id hSA
  obtain ⟨hR, hT, h1, h2, h3, h4, h5, h6⟩ := id hSR
  have hgr := hgot.rd
  obtain ⟨dxr, nnr, ttr, ldx, ln, t1, t2, t3, t4, t5, pl, hRi, hLi⟩ := id hR
  refine hGq ?_; clear hGq Gq
  have hos := hgot.isSome
  cases o with
  | none =>
    simp only [Option.isSome_none] at hos
    (try dsimp only); (try k_fold)
    k_steps
    all_goals (try dsimp only)
    all_goals ((first | (have e1 : V.kept n = true := by with_reducible assumption) | (have e1 : V.kept n = false := by with_reducible assumption) | (have e1 : True := trivial)); (first | (have e2 : V.caught n = true := by with_reducible assumption) | (have e2 : V.caught n = false := by with_reducible assumption) | (have e2 : True := trivial)); (first | (have e3 : heldV V.L n = .nil := by with_reducible assumption) | (have e3 : ¬ heldV V.L n = .nil := by with_reducible assumption) | (have e3 : True := trivial)))
    all_goals first
      | (refine take_end0 (by k_asm) (by k_asm) (by k_mem) (by k_mem) (by k_mem) (by simp [SV.bothAdd, SV.bothFr, SV.bothRe, SV.oneAdd, SV.oneFr, SV.oneRe, SV.fromLeft, gotV, e1, e2, e3, ← hos]) ?_ ?_ <;> (simp [SV.bothAdd, SV.bothFr, SV.bothRe, SV.oneAdd, SV.oneFr, SV.oneRe, SV.fromLeft, gotV, e1, e2, e3, ← hos]; done))
      | ((with_reducible rename TakeP _ _ _ _ _ _ _ _ _ _ => po9'); (with_reducible rename News _ _ _ _ => lN'); refine MEnd.intro _ (by k_asm) lN' (fun _ hp => hp) (take_eq po9' ?_ ?_ ?_) <;> (simp [SV.bothAdd, SV.bothFr, SV.bothRe, SV.oneAdd, SV.oneFr, SV.oneRe, SV.fromLeft, gotV, e1, e2, e3, ← hos]; done))
  | some y =>
    simp only [Option.isSome_some] at hos
    simp only [gotV, Option.getD_some] at hgr
    (try dsimp only); (try k_fold)
    k_steps
    all_goals (try dsimp only)
    all_goals ((first | (have e1 : V.kept n = true := by with_reducible assumption) | (have e1 : V.kept n = false := by with_reducible assumption) | (have e1 : True := trivial)); (first | (have e2 : V.caught n = true := by with_reducible assumption) | (have e2 : V.caught n = false := by with_reducible assumption) | (have e2 : True := trivial)); (first | (have e3 : heldV V.L n = .nil := by with_reducible assumption) | (have e3 : ¬ heldV V.L n = .nil := by with_reducible assumption) | (have e3 : True := trivial)))
    all_goals first
      | (refine take_end0 (by k_asm) (by k_asm) (by k_mem) (by k_mem) (by k_mem) (by simp [SV.bothAdd, SV.bothFr, SV.bothRe, SV.oneAdd, SV.oneFr, SV.oneRe, SV.fromLeft, gotV, e1, e2, e3, ← hos]) ?_ ?_ <;> (simp [SV.bothAdd, SV.bothFr, SV.bothRe, SV.oneAdd, SV.oneFr, SV.oneRe, SV.fromLeft, gotV, e1, e2, e3, ← hos]; done))
      | ((with_reducible rename TakeP _ _ _ _ _ _ _ _ _ _ => po9'); (with_reducible rename News _ _ _ _ => lN'); refine MEnd.intro _ (by k_asm) lN' (fun _ hp => hp) (take_eq po9' ?_ ?_ ?_) <;> (simp [SV.bothAdd, SV.bothFr, SV.bothRe, SV.oneAdd, SV.oneFr, SV.oneRe, SV.fromLeft, gotV, e1, e2, e3, ← hos]; done))
end
-- C11
section
theorem take_one_spec (w : World) (mean : ExcName → Option Value) (mg mb : Str → Option Value) (x lp df : Addr) (S : SD) (V : SV) (n : Int) (tn : Tok) (v : Value) (VV : PV) (fs frs res : List Value) (c1 c2 c3 : Nat)
    (hV : V.Ok) (hf1 : fs.length ≤ 100) (hf2 : frs.length ≤ 100) (hf3 : res.length ≤ 100) (hd1 : @Ne Nat S.fo S.fr) (hd2 : @Ne Nat S.fo S.re) (hd3 : @Ne Nat S.fr S.re) :
    SpecM w mean mg mb 600 6000 152 [.ref x, .int n tn, v] [(S.fo, listOf fs.toArray c1), (S.fr, listOf frs.toArray c2), (S.re, listOf res.toArray c3)]
      (fun h => SidesAt w.params h x S ∧ SidesRd w h S lp df V ∧ Rd h v VV.py) (TakeP S fs frs res n (V.oneAdd n v) (V.oneFr n) (V.oneRe n)) := by
  unfold SpecM
  k_fill
  k_with_none
  k_with "kd_adr" => (first | exact List.forall_mem_nil _ | (refine List.forall_mem_cons.mpr ⟨?kdh, ?kdt⟩; (case kdh => ((try dsimp only); first | kd_ltNe | (refine Ne.symm ?_; kd_ltNe) | (simp only [*, ne_eq, not_false_eq_true]; done) | (refine neN ?_; omega))); (case kdt => kd_adr)) | kd_adrTail | fail "k_dat: an address")
  k_with "k_ne" => (refine neN ?_; (try dsimp only); first | with_reducible assumption | kd_ltNe | (refine Ne.symm ?_; first | with_reducible assumption | kd_ltNe) | (simp only [*, ne_eq, not_false_eq_true]; done) | (refine Ne.symm ?_; simp only [*, ne_eq, not_false_eq_true]; done) | (refine Nat.ne_of_lt ?_; simp only [*]; done) | (refine Nat.ne_of_gt ?_; simp only [*]; done) | omega)
  k_with "k_room" => (exact Nat.le_of_ble_eq_true rfl)
  k_with "ktr_enter" => (
    refine' Mine.enterP ?kP ?k1 ?k2 ?k3 ?k4 ?k5 ?kA ?kF ?kK ?kR ?k6 ?k7 ?k8 ?k9 ?kB ?_ ?c2 ?c3 ?c4 ?c5;
    (case kA => exact rfl); (case kF => exact rfl); (case kK => assumption); (case k1 => k_asm); (case k2 => k_asm); (case k3 => k_asm); (case k4 => k_asm); (case k5 => k_asm); (case kR => assumption);
    (case k6 => k_is); (case k7 => k_is); (case k8 => exact Nat.le_of_ble_eq_true rfl); (case k9 => exact BindsTo.of_eq rfl); (case c5 => decide); (case kB => exact locs rfl); (case c2 => exact rfl); (case c3 => exact rfl); (case c4 => exact rfl); k_whole)
  k_with "ktr_step" => (refine' IsTup.keeps ?ktx (Fr.keep ?ktF); (case ktF => k_asm); (case ktx => first | assumption | exact IsTup.keeps (by assumption) (Fr.keep (by assumption)) | (refine' IsTup.keeps ?kty (Fr.keep ?ktG); (case ktG => assumption); (case kty => exact IsTup.keeps (by assumption) (Fr.keep (by assumption))))))
  k_with "kit_at" => (refine' kitAt_tup ?kaT; (case kaT => ktr_step))
  k_with "ktf_step" => (first | assumption | exact InsF.keeps (by assumption) (Fr.keep (by assumption)) | (refine' InsF.keeps ?kfI (Fr.keep ?kfF); (case kfF => assumption); (case kfI => exact InsF.keeps (by assumption) (Fr.keep (by assumption)))))
  k_with "k_inst" => (refine' InsF.at ?kiI (Fr.keep ?kiF); (case kiF => k_asm); (case kiI => ktf_step))
  k_with "ktd_step" => (refine' Rd.keeps (Fr.keep ?kdF) ?kdx; (case kdF => k_asm); (case kdx => first | assumption | exact Rd.keeps (Fr.keep (by assumption)) (by assumption) | (refine' Rd.keeps (Fr.keep ?kdG) ?kdy; (case kdG => assumption); (case kdy => exact Rd.keeps (Fr.keep (by assumption)) (by assumption)))))
  k_with "ktn_step" => (
    refine' Mine.enterPC ?kP ?k1 ?k2 ?k3 ?k4 ?k5 ?kA ?kF ?kK ?kR ?k6 ?k7 ?k8 ?k9 ?kB ?kD ?_ ?c2 ?c3 ?c4;
    (case kA => exact rfl); (case kF => exact rfl); (case kK => assumption); (case k1 => k_asm); (case k2 => k_asm); (case k3 => k_asm); (case k4 => k_asm); (case k5 => k_asm); (case kR => assumption);
    (case k6 => k_is); (case k7 => k_is); (case k8 => exact Nat.le_of_ble_eq_true rfl); (case k9 => exact BindsTo.of_eq rfl); (case kB => exact rfl); (case kD => decide +kernel); (case c2 => exact rfl); (case c3 => exact rfl); (case c4 => exact rfl); k_whole)
  k_with "subscriptTail" => (k_here; (with_reducible show wpAny _ _ (subscriptTail _ _ (Value.ref _) (Value.int _ _)) _ _ _); k_dflt (refine' item_tupleT ?t ?a ?b ?c ?d ?_; (case t => ktr_step); (case a => decide); (case b => decide); (case c => rfl); (case d => rfl); k_whole))
  k_with "subscriptTail" => (k_here; (with_reducible show wpAny _ _ (subscriptTail _ _ (Value.ref _) (Value.int 0 _)) _ _ _); k_dflt (refine' item_tup0 ?t ?_; (case t => ktr_step); k_whole))
  k_with "k_handed" => (exact Rd.handed (by assumption))
  k_with "ktr_room" => (
    refine' Mine.enterM ?kP ?k1 ?k2 ?k3 ?k4 ?k5 ?kA ?kF ?kK ?kN ?kQ ?kR ?k6 ?k7 ?k8 ?k9 ?kB ?_ ?c2 ?c3 ?c4 ?c5;
    (case kA => exact rfl); (case kF => exact rfl); (case kK => assumption); (case k1 => k_asm); (case k2 => k_asm); (case k3 => k_asm); (case k4 => k_asm); (case k5 => k_asm); (case kN => assumption); (case kQ => assumption); (case kR => assumption);
    (case k6 => k_is); (case k7 => k_is); (case k8 => exact Nat.le_of_ble_eq_true rfl); (case k9 => exact BindsTo.of_eq rfl); (case c5 => decide); (case kB => exact locs rfl); (case c2 => exact rfl); (case c3 => exact rfl); (case c4 => exact rfl); k_whole)
  k_with "call ref" => (k_here; (with_reducible show wpAny _ _ (call (Value.ref 75) _) _ _ _); (show wpAny _ _ (call (Value.ref 75) [_, Value.int _ _, _]) _ _ _); k_dflt (refine' spec_useV (Mine.is_member_spec _ _ _ _ _ _ _ _ _ _ _ ?hn) ?k1 ?k2 ?k3 ?k4 ?k5 ?kA ?kH ?kK ?kd ?ku ?kp ?_; (case kA => exact rfl); (case kH => exact rfl); (case kK => exact rfl); (case k1 => k_asm); (case k2 => k_asm); (case k3 => k_asm); (case k4 => k_asm); (case k5 => k_asm); (case kd => exact Nat.le_of_ble_eq_true rfl); (case ku => exact Nat.le_of_ble_eq_true rfl); (case kp => (refine' And.intro ?kpa ?kpb; (case kpb => ktd_step); (case kpa => (refine' RulesAt.keeps ?krx (Fr.keep ?krF); (case krF => k_asm); (case krx => first | assumption | exact RulesAt.keeps (by assumption) (Fr.keep (by assumption)) | (refine' RulesAt.keeps ?kry (Fr.keep ?krG); (case krG => assumption); (case kry => exact RulesAt.keeps (by assumption) (Fr.keep (by assumption))))))))); (case hn => assumption); intro h9' tk9' F9' N9' k9'); (try dsimp only); (try k_fold))
  k_with "call ref" => (k_here; (with_reducible show wpAny _ _ (call (Value.ref 117) _) _ _ _); (show wpAny _ _ (call (Value.ref 117) [_, Value.int _ _]) _ _ _); k_dflt (refine' spec_useV (Mine.is_kept_spec _ _ _ _ _ _ _ _ _ _ _ ?hn) ?k1 ?k2 ?k3 ?k4 ?k5 ?kA ?kH ?kK ?kd ?ku ?kp ?_; (case kA => exact rfl); (case kH => exact rfl); (case kK => exact rfl); (case k1 => k_asm); (case k2 => k_asm); (case k3 => k_asm); (case k4 => k_asm); (case k5 => k_asm); (case kd => exact Nat.le_of_ble_eq_true rfl); (case ku => exact Nat.le_of_ble_eq_true rfl); (case kp => (refine' And.intro ?kpa ?kpb; (case kpa => (refine' SidesAt.keeps ?ksax (Fr.keep ?ksaF); (case ksaF => k_asm); (case ksax => first | assumption | exact SidesAt.keeps (by assumption) (Fr.keep (by assumption)) | (refine' SidesAt.keeps ?ksay (Fr.keep ?ksaG); (case ksaG => assumption); (case ksay => exact SidesAt.keeps (by assumption) (Fr.keep (by assumption))))))); (case kpb => (refine' SidesRd.keeps ?ksrx (Fr.keep ?ksrF); (case ksrF => k_asm); (case ksrx => first | assumption | exact SidesRd.keeps (by assumption) (Fr.keep (by assumption)) | (refine' SidesRd.keeps ?ksry (Fr.keep ?ksrG); (case ksrG => assumption); (case ksry => exact SidesRd.keeps (by assumption) (Fr.keep (by assumption))))))))); (case hn => assumption); intro h9' tk9' F9' N9' k9'); (try dsimp only); (try k_fold))
  k_with "call ref" => (k_here; (with_reducible show wpAny _ _ (call (Value.ref 124) _) _ _ _); (show wpAny _ _ (call (Value.ref 124) [_, Value.int _ _]) _ _ _); k_dflt (refine' spec_useV (Mine.is_caught_spec _ _ _ _ _ _ _ _ _ _ _ ?hn) ?k1 ?k2 ?k3 ?k4 ?k5 ?kA ?kH ?kK ?kd ?ku ?kp ?_; (case kA => exact rfl); (case kH => exact rfl); (case kK => exact rfl); (case k1 => k_asm); (case k2 => k_asm); (case k3 => k_asm); (case k4 => k_asm); (case k5 => k_asm); (case kd => exact Nat.le_of_ble_eq_true rfl); (case ku => exact Nat.le_of_ble_eq_true rfl); (case kp => (refine' And.intro ?kpa ?kpb; (case kpa => (refine' SidesAt.keeps ?ksax (Fr.keep ?ksaF); (case ksaF => k_asm); (case ksax => first | assumption | exact SidesAt.keeps (by assumption) (Fr.keep (by assumption)) | (refine' SidesAt.keeps ?ksay (Fr.keep ?ksaG); (case ksaG => assumption); (case ksay => exact SidesAt.keeps (by assumption) (Fr.keep (by assumption))))))); (case kpb => (refine' SidesRd.keeps ?ksrx (Fr.keep ?ksrF); (case ksrF => k_asm); (case ksrx => first | assumption | exact SidesRd.keeps (by assumption) (Fr.keep (by assumption)) | (refine' SidesRd.keeps ?ksry (Fr.keep ?ksrG); (case ksrG => assumption); (case ksry => exact SidesRd.keeps (by assumption) (Fr.keep (by assumption))))))))); (case hn => assumption); intro h9' tk9' F9' N9' k9'); (try dsimp only); (try k_fold))
  k_with "call ref" => (k_here; (with_reducible show wpAny _ _ (call (Value.ref 131) _) _ _ _); k_dflt (refine' take_use (take_left_spec _ _ _ _ _ _ _ _ _ _ _ _ fs frs res c1 c2 c3 hV hf1 hf2 hf3 hd1 hd2 hd3) hSA hSR ?q1 ?q2 ?q3 ?k1 ?k2 ?k3 ?k4 ?k5 ?kA ?kH ?kK ?kd ?ku ?_; (case kA => exact rfl); (case kH => exact rfl); (case kK => exact rfl); (case k1 => k_asm); (case k2 => k_asm); (case k3 => k_asm); (case k4 => k_asm); (case k5 => k_asm); (case q1 => k_mem); (case q2 => k_mem); (case q3 => k_mem); (case kd => exact Nat.le_of_ble_eq_true rfl); (case ku => exact Nat.le_of_ble_eq_true rfl)); intro d9' h9' tk9' F9' N9' po9'; (try dsimp only); (try k_fold))
  intro gd cn cs a ccd cl outer A₀ base h₀ L m rest s Q E B F X N T hk hne hpre hret
  k_dflt ktr_room
  intro g' L' h' F' N' l1 B' X' T' hpre'
  clear hret hpre B F X N T
  k_lt l1

  refine Mine.hide ?_; intro Gq hGq
  obtain ⟨hSA, hSR, hv⟩ := hpre'
  have hokrr := hV.rr
  obtain ⟨dx, nn, tt, hS⟩ := id hSA
  obtain ⟨hR, hT, h1, h2, h3, h4, h5, h6⟩ := id hSR
  refine hGq ?_; clear hGq Gq
  (try dsimp only); (try k_fold)
  k_steps
  all_goals (try dsimp only)
  all_goals ((first | (have e1 : V.kept n = true := by with_reducible assumption) | (have e1 : V.kept n = false := by with_reducible assumption) | (have e1 : True := trivial)); (first | (have e2 : V.caught n = true := by with_reducible assumption) | (have e2 : V.caught n = false := by with_reducible assumption) | (have e2 : True := trivial)); (first | (have e3 : V.rr.mem n = true := by with_reducible assumption) | (have e3 : V.rr.mem n = false := by with_reducible assumption) | (have e3 : True := trivial)))
  all_goals first
    | (refine take_end0 (by k_asm) (by k_asm) (by k_mem) (by k_mem) (by k_mem) (by simp [SV.bothAdd, SV.bothFr, SV.bothRe, SV.oneAdd, SV.oneFr, SV.oneRe, SV.fromLeft, gotV, e1, e2, e3]) ?_ ?_ <;> (simp [SV.bothAdd, SV.bothFr, SV.bothRe, SV.oneAdd, SV.oneFr, SV.oneRe, SV.fromLeft, gotV, e1, e2, e3]; done))
    | ((with_reducible rename TakeP _ _ _ _ _ _ _ _ _ _ => po9'); (with_reducible rename News _ _ _ _ => lN'); refine MEnd.intro _ (by k_asm) lN' (fun _ hp => hp) (take_eq po9' ?_ ?_ ?_) <;> (simp [SV.bothAdd, SV.bothFr, SV.bothRe, SV.oneAdd, SV.oneFr, SV.oneRe, SV.fromLeft, gotV, e1, e2, e3]; done))
end
-- L9
/-- the end of a turn of a comprehension that makes things -/
noncomputable def UEnd (h₀ : Heap) (L : Addr) (m : Str → Option Value) (s₁ : Shared) (I : Addr) (oI : Obj) (C : Addr) (oC : Obj) (D : Addr) (oD : Obj) (J : List (Addr × Obj) → Prop) (s₂ : Shared) : Prop :=
  ∃ h' tk' led', s₂ = { s₁ with heap := h', toks := tk' } ∧ Fr h₀ L h' m ∧ News h₀ L h' ((I, oI) :: (C, oC) :: (D, oD) :: led') ∧ LCg.Off3 I C D led' ∧ J led'
theorem UEnd.intro {h₀ : Heap} {L I C D : Addr} {m : Str → Option Value} {s₁ : Shared} {oI oC oD : Obj} {J : List (Addr × Obj) → Prop} {h' : Heap} {tk' : Nat} {news : List (Addr × Obj)} (led' : List (Addr × Obj))
    (F : Fr h₀ L h' m) (N : News h₀ L h' news) (sub : ∀ p ∈ (I, oI) :: (C, oC) :: (D, oD) :: led', p ∈ news) (off : ∀ p ∈ led', (@Ne Nat p.1 I) ∧ (@Ne Nat p.1 C) ∧ (@Ne Nat p.1 D)) (j : J led') :
    UEnd h₀ L m s₁ I oI C oC D oD J { s₁ with heap := h', toks := tk' } := ⟨h', tk', led', rfl, F, fun p hp => N p (sub p hp), LCg.Off3.of off, j⟩
section
variable {prog : Program} {w : World} {A : Around} {h₀ : Heap} {L : Addr} {m : Str → Option Value} {env : Env} {elt : PySem.Expr} {x : Str} {scope : Scope} {cl : List (Str × Addr)} {s : Shared} {S : List (Addr × Obj) → Prop} {P : Nat → Value → Prop}
  {Fin : List Value → List (Addr × Obj) → Prop} {news : List (Addr × Obj)} {n : Nat}
theorem restU_ind (J : Nat → List Value → List (Addr × Obj) → Prop) (hS : ∀ i ys led, J i ys led → S led) (h0 : J 0 [] news) (fin : ∀ ys led, J n ys led → Fin ys led)
    (turn : ∀ i ys led v I oI C oC D m₂ h tk (E' : Value → Shared → Prop), i < n → J i ys led → P i v → LCg.NsObj oC m₂ → m₂ x = some v → Fr h₀ L h m → News h₀ L h ((I, oI) :: (C, oC) :: (D, LCg.lst ys) :: led) → LCg.Off3 I C D led → ((@Ne Nat I C) ∧ (@Ne Nat I D) ∧ (@Ne Nat C D)) →
      wpAny (model prog w) A (eval elt (compEnvC scope cl C env)) (fun y s'' => UEnd h₀ L m { s with heap := h, toks := tk } I oI C oC D (LCg.lst ys) (fun led' => J (i + 1) (ys ++ [y]) led') s'') E' { s with heap := h, toks := tk }) :
    LCg.CompRest prog w A h₀ L m env elt x scope cl s S P Fin n 0 [] news := by
  have key : ∀ (k i : Nat) (ys : List Value) (led : List (Addr × Obj)), i + k = n → J i ys led → LCg.CompRest prog w A h₀ L m env elt x scope cl s S P Fin k i ys led := by
    intro k
    induction k with
    | zero =>
      intro i ys led e hJ
      exact LCg.CompRest.zero (fin ys led (by rw [← e]; exact hJ))
    | succ k ih =>
      intro i ys led e hJ v I oI C oC D m₂ h tk E' hv hC hx F N off ne
      refine wpAny_mono (turn i ys led v I oI C oC D m₂ h tk E' (by omega) hJ hv hC hx F N off ne) (fun y s' hq => ?_) fun _ _ y => y
      refine Mine.hide ?_; intro Gq hGq
      obtain ⟨h', tk', led', e1, F', N', off', hJ'⟩ := hq
      refine hGq ?_; clear hGq Gq
      exact ⟨h', tk', led', e1, F', N', off', hS _ _ _ hJ', ih (i + 1) _ _ (by omega) hJ'⟩
  exact key n 0 [] news (by omega) h0
end
/-- what the symbols' comprehension has made -/
noncomputable def SymsAt (front dyns : List (Addr × Obj)) (ns : List Int) (i : Nat) (ys : List Value) (led : List (Addr × Obj)) : Prop :=
  ∃ own, led = front ++ (own ++ dyns) ∧ ys.length = i ∧ (∀ H : Heap, (∀ p ∈ own, H.get? p.1 = some p.2) → RdAll H ys ((ns.take i).map symD)) ∧ (∀ p ∈ own, ∀ q ∈ front, @Ne Nat p.1 q.1)
theorem SymsAt.start {front dyns : List (Addr × Obj)} {ns : List Int} : SymsAt front dyns ns 0 [] (front ++ dyns) := ⟨[], rfl, rfl, fun _ _ => .nil, fun _ h => nomatch h⟩
theorem SymsAt.more {front dyns own : List (Addr × Obj)} {ns : List Int} {i : Nat} {ys : List Value} {a : Addr} {ts t : Tok} {n : Int} (hl : ys.length = i) (hr : ∀ H : Heap, (∀ p ∈ own, H.get? p.1 = some p.2) → RdAll H ys ((ns.take i).map symD))
    (ho : ∀ p ∈ own, ∀ q ∈ front, @Ne Nat p.1 q.1) (hn : ns[i]? = some n) (ha : ∀ q ∈ front, @Ne Nat a q.1) :
    SymsAt front dyns ns (i + 1) (ys ++ [.ref a]) (front ++ (((a, ({ cls := .type "tuple", data := .seq [Value.str (Str.ofString "symbol") ts, .int n t].toArray } : Obj)) :: own) ++ dyns)) := by
  refine ⟨_, rfl, by simp [hl], fun H hH => ?_, fun p hp => ?_⟩
  · rw [List.take_add_one, hn, List.map_append]
    refine (hr H fun p hp => hH p (List.mem_cons_of_mem _ hp)).append (.one ?_)
    exact Rd.tuple (vs := [Value.str (Str.ofString "symbol") ts, .int n t]) ⟨_, hH (a, _) (List.mem_cons_self ..), rfl, _, rfl⟩ (.cons Rd.str (.cons Rd.int .nil))
  · rcases List.mem_cons.mp hp with rfl | hp
    · exact ha
    · exact ho p hp
/-- a value of the ledger's own -/
noncomputable def LRd (own : List (Addr × Obj)) (v : Value) (d : PyData) : Prop := ∀ H : Heap, (∀ p ∈ own, H.get? p.1 = some p.2) → Rd H v d
theorem FoundRd.add {dyns more : List (Addr × Obj)} {fs : List Value} {v : Value} {P : List (Int × PV)} {e : Int × PV} (x : FoundRd dyns fs P) (y : LRd more v (entD e)) : FoundRd (more ++ dyns) (fs ++ [v]) (P ++ [e]) := fun H hH => by
  rw [List.map_append]
  exact (x H fun p hp => hH p (List.mem_append.mpr (.inr hp))).append (.one (y H fun p hp => hH p (List.mem_append.mpr (.inl hp))))
theorem tell_list {own : List (Addr × Obj)} {ys : List Value} {ns : List Int} {T LT : Addr} {k : Int} {tk ts : Tok} (hr : ∀ H : Heap, (∀ p ∈ own, H.get? p.1 = some p.2) → RdAll H ys (ns.map symD)) :
    LRd ((T, ({ cls := .type "tuple", data := .seq [Value.int k tk, .ref LT].toArray } : Obj)) :: (LT, ({ cls := .type "tuple", data := .seq (Value.str (Str.ofString "list") ts :: ys).toArray } : Obj)) :: own) (.ref T) (entD (k, .lst ns)) := fun H hH =>
  Rd.tuple (vs := [Value.int k tk, .ref LT]) ⟨_, hH (T, _) (List.mem_cons_self ..), rfl, _, rfl⟩ (.cons Rd.int (.cons
    (Rd.tuple (vs := Value.str (Str.ofString "list") ts :: ys) ⟨_, hH (LT, _) (List.mem_cons_of_mem _ (List.mem_cons_self ..)), rfl, _, rfl⟩ (.cons Rd.str (hr H fun p hp => hH p (List.mem_cons_of_mem _ (List.mem_cons_of_mem _ hp))))) .nil))
theorem FoundRd.lrd {dyns : List (Addr × Obj)} {fs : List Value} {P : List (Int × PV)} {fo : Addr} {c : Nat} (x : FoundRd dyns fs P) : LRd ((fo, listOf fs.toArray c) :: dyns) (.ref fo) (plD P) := fun H hH =>
  Rd.list (vs := fs) ⟨_, hH (fo, _) (List.mem_cons_self ..), rfl, _, rfl⟩ (x H fun p hp => hH p (List.mem_cons_of_mem _ hp))
theorem ints_at {vs : List Value} {ns : List Int} (x : IntsAre vs ns) : ∀ (i : Nat) v, vs[i]? = some v → ∃ n t, v = .int n t ∧ ns[i]? = some n := by
  induction x with
  | nil => intro i v h; cases i <;> cases h
  | cons n t _ ih =>
    intro i v h
    cases i with
    | zero => simp only [List.getElem?_cons_zero, Option.some.injEq] at h ⊢; exact ⟨n, t, h.symm, rfl⟩
    | succ i => simpa using ih i v (by simpa using h)
theorem sym_turn {h₀ h' : Heap} {L I C D a : Addr} {m : Str → Option Value} {s₁ : Shared} {tk' : Nat} {oI oC oD : Obj} {front dyns own : List (Addr × Obj)} {ns : List Int} {i : Nat} {ys : List Value} {ts t : Tok} {n : Int}
    (F : Fr h₀ L h' m) (N : News h₀ L h' ((a, ({ cls := .type "tuple", data := .seq [Value.str (Str.ofString "symbol") ts, .int n t].toArray } : Obj)) :: (I, oI) :: (C, oC) :: (D, oD) :: (front ++ (own ++ dyns))))
    (nea : ∀ p ∈ [(a, ({ cls := .type "tuple", data := .seq [Value.str (Str.ofString "symbol") ts, .int n t].toArray } : Obj))], ∀ q ∈ (I, oI) :: (C, oC) :: (D, oD) :: (front ++ (own ++ dyns)), @Ne Nat p.1 q.1)
    (off : LCg.Off3 I C D (front ++ (own ++ dyns))) (hl : ys.length = i) (hr : ∀ H : Heap, (∀ p ∈ own, H.get? p.1 = some p.2) → RdAll H ys ((ns.take i).map symD))
    (ho : ∀ p ∈ own, ∀ q ∈ front, @Ne Nat p.1 q.1) (hn : ns[i]? = some n) :
    UEnd h₀ L m s₁ I oI C oC D oD (fun led' => SymsAt front dyns ns (i + 1) (ys ++ [.ref a]) led') { s₁ with heap := h', toks := tk' } := by
  have nea' := nea _ (List.mem_singleton.mpr rfl)
  refine UEnd.intro (front ++ (((a, ({ cls := .type "tuple", data := .seq [Value.str (Str.ofString "symbol") ts, .int n t].toArray } : Obj)) :: own) ++ dyns)) F N (fun p hp => ?_) (fun p hp => ?_) (SymsAt.more hl hr ho hn fun q hq => nea' q (by simp [hq]))
  · simp only [List.mem_cons, List.mem_append] at hp ⊢
    rcases hp with h | h | h | h | (h | h) | h <;> simp [h]
  · simp only [List.mem_cons, List.mem_append] at hp
    have z : p = (a, ({ cls := .type "tuple", data := .seq [Value.str (Str.ofString "symbol") ts, .int n t].toArray } : Obj)) ∨ p ∈ front ++ (own ++ dyns) := by
      simp only [List.mem_append]
      rcases hp with h | (h | h) | h <;> simp [h]
    rcases z with rfl | z
    · exact ⟨nea' (I, oI) (.head _), nea' (C, oC) (.tail _ (.head _)), nea' (D, oD) (.tail _ (.tail _ (.head _)))⟩
    · exact off.mem p z
theorem take_all {ns : List Int} {xs : List Value} (x : IntsAre xs ns) {ys : List Value} {own : List (Addr × Obj)} (hr : ∀ H : Heap, (∀ p ∈ own, H.get? p.1 = some p.2) → RdAll H ys ((ns.take xs.toArray.size).map symD)) :
    ∀ H : Heap, (∀ p ∈ own, H.get? p.1 = some p.2) → RdAll H ys (ns.map symD) := by
  rw [show xs.toArray.size = ns.length by simpa using x.length, List.take_length] at hr
  exact hr
noncomputable def InhP (V : SV) (_ : Heap) (v : Value) (own : List (Addr × Obj)) : Prop := ∃ (fo : Addr) (fs : List Value) (c : Nat) (dd : List (Addr × Obj)), v = .ref fo ∧ own = (fo, listOf fs.toArray c) :: dd ∧ FoundRd dd fs V.told.all
section
variable {V : SV} {g h' : Heap} {L : Addr} {s : Shared} {m' : Str → Option Value} {tk' : Nat} {news dyns own own2 : List (Addr × Obj)} {fs ys ys2 : List Value} {fo T LT T2 LT2 : Addr} {A : Array Value} {c : Nat} {t1 t2 t3 t4 : Tok}
theorem inh_end {dd : List (Addr × Obj)} {fs' : List Value} {P : List (Int × PV)} (x : FoundRd dd fs' P) (hP : P = V.told.all) (F : Fr g L h' m') (N : News g L h' news) (hm : (fo, listOf A c) ∈ news) (hA : A = fs'.toArray) (sub : ∀ p ∈ dd, p ∈ news) :
    PEnd g L s (InhP V) (.ref fo) { s with heap := h', toks := tk' } := by
  subst hA; subst hP
  refine PEnd.intro (own := (fo, listOf fs'.toArray c) :: dd) F N (fun p hp => ?_) ⟨fo, fs', c, dd, rfl, rfl, x⟩
  rcases List.mem_cons.mp hp with rfl | hp
  · exact hm
  · exact sub p hp
theorem inh_end0 (x : FoundRd dyns fs V.told.f) (h1 : V.told.re = []) (h2 : V.told.fr = []) (F : Fr g L h' m') (N : News g L h' news) (hm : (fo, listOf fs.toArray c) ∈ news) (sub : ∀ p ∈ dyns, p ∈ news) :
    PEnd g L s (InhP V) (.ref fo) { s with heap := h', toks := tk' } := inh_end x (by simp [Told.all, h1, h2]) F N hm rfl sub
theorem inh_end1 {k : Int} {ns : List Int} (x : FoundRd dyns fs V.told.f) (y : ∀ H : Heap, (∀ p ∈ own, H.get? p.1 = some p.2) → RdAll H ys (ns.map symD)) (hP : V.told.f ++ [(k, .lst ns)] = V.told.all) (F : Fr g L h' m') (N : News g L h' news)
    (hm : (fo, listOf (fs.toArray.push (.ref T)) c) ∈ news) (hT : (T, ({ cls := .type "tuple", data := .seq #[Value.int k t1, .ref LT] } : Obj)) ∈ news) (hLT : (LT, ({ cls := .type "tuple", data := .seq (Value.str (Str.ofString "list") t2 :: ys).toArray } : Obj)) ∈ news)
    (sub : ∀ p ∈ own ++ dyns, p ∈ news) : PEnd g L s (InhP V) (.ref fo) { s with heap := h', toks := tk' } := by
  refine inh_end (x.add (tell_list (T := T) (LT := LT) (k := k) (tk := t1) (ts := t2) y)) hP F N hm (by simp) fun p hp => ?_
  rcases List.mem_append.mp hp with hp | hp
  · rcases List.mem_cons.mp hp with rfl | hp
    · exact hT
    · rcases List.mem_cons.mp hp with rfl | hp
      · exact hLT
      · exact sub p (List.mem_append.mpr (.inl hp))
  · exact sub p (List.mem_append.mpr (.inr hp))
theorem inh_end2 {k k2 : Int} {ns ns2 : List Int} (x : FoundRd dyns fs V.told.f) (y : ∀ H : Heap, (∀ p ∈ own, H.get? p.1 = some p.2) → RdAll H ys (ns.map symD)) (y2 : ∀ H : Heap, (∀ p ∈ own2, H.get? p.1 = some p.2) → RdAll H ys2 (ns2.map symD))
    (hP : V.told.f ++ [(k, .lst ns)] ++ [(k2, .lst ns2)] = V.told.all) (F : Fr g L h' m') (N : News g L h' news)
    (hm : (fo, listOf ((fs.toArray.push (.ref T)).push (.ref T2)) c) ∈ news) (hT : (T, ({ cls := .type "tuple", data := .seq #[Value.int k t1, .ref LT] } : Obj)) ∈ news) (hLT : (LT, ({ cls := .type "tuple", data := .seq (Value.str (Str.ofString "list") t2 :: ys).toArray } : Obj)) ∈ news)
    (hT2 : (T2, ({ cls := .type "tuple", data := .seq #[Value.int k2 t3, .ref LT2] } : Obj)) ∈ news) (hLT2 : (LT2, ({ cls := .type "tuple", data := .seq (Value.str (Str.ofString "list") t4 :: ys2).toArray } : Obj)) ∈ news)
    (sub : ∀ p ∈ own2 ++ (own ++ dyns), p ∈ news) : PEnd g L s (InhP V) (.ref fo) { s with heap := h', toks := tk' } := by
  refine inh_end ((x.add (tell_list (T := T) (LT := LT) (k := k) (tk := t1) (ts := t2) y)).add (tell_list (T := T2) (LT := LT2) (k := k2) (tk := t3) (ts := t4) y2)) hP F N hm (by simp) fun p hp => ?_
  rcases List.mem_append.mp hp with hp | hp
  · rcases List.mem_cons.mp hp with rfl | hp
    · exact hT2
    · rcases List.mem_cons.mp hp with rfl | hp
      · exact hLT2
      · exact sub p (List.mem_append.mpr (.inl hp))
  · rcases List.mem_append.mp hp with hp | hp
    · rcases List.mem_cons.mp hp with rfl | hp
      · exact hT
      · rcases List.mem_cons.mp hp with rfl | hp
        · exact hLT
        · exact sub p (List.mem_append.mpr (.inr (List.mem_append.mpr (.inl hp))))
    · exact sub p (List.mem_append.mpr (.inr (List.mem_append.mpr (.inr hp))))
end
theorem ints_ne {vs : List Value} {ns : List Int} (x : IntsAre vs ns) (h : 0 < vs.length) : ns ≠ [] := by
  intro e; subst e; cases x; simp at h
theorem ints_nil {vs : List Value} {ns : List Int} (x : IntsAre vs ns) (h : ¬ 0 < vs.length) : ns = [] := by
  cases x with
  | nil => rfl
  | cons n t r => simp at h
-- C13
section
theorem toList_ne {vs : List Value} (h : vs ≠ []) : vs.toArray.toList ≠ [] := by simpa using h
theorem symbol_spec (w : World) (mean : ExcName → Option Value) (mg mb : Str → Option Value) (lp : Addr) (n : Int) (t : Tok) :
    Spec w mean mg mb 900 9000 186 [.ref lp, .int n t] (fun _ => True) (fun _ r own => ∃ a ts, r = .ref a ∧ own = [(a, ({ cls := .type "tuple", data := .seq [Value.str (Str.ofString "symbol") ts, .int n t].toArray } : Obj))]) := by
  unfold Spec
  k_fill
  k_with_none
  k_with "kd_adr" => (first | exact List.forall_mem_nil _ | (refine List.forall_mem_cons.mpr ⟨?kdh, ?kdt⟩; (case kdh => ((try dsimp only); first | kd_ltNe | (refine Ne.symm ?_; kd_ltNe) | (simp only [*, ne_eq, not_false_eq_true]; done) | (refine neN ?_; omega))); (case kdt => kd_adr)) | kd_adrTail | fail "k_dat: an address")
  k_with "k_ne" => (refine neN ?_; (try dsimp only); first | with_reducible assumption | kd_ltNe | (refine Ne.symm ?_; first | with_reducible assumption | kd_ltNe) | (simp only [*, ne_eq, not_false_eq_true]; done) | (refine Ne.symm ?_; simp only [*, ne_eq, not_false_eq_true]; done) | (refine Nat.ne_of_lt ?_; simp only [*]; done) | (refine Nat.ne_of_gt ?_; simp only [*]; done) | omega)
  k_with "k_room" => (exact Nat.le_of_ble_eq_true rfl)
  k_with "ktr_enter" => (
    refine' Mine.enterP ?kP ?k1 ?k2 ?k3 ?k4 ?k5 ?kA ?kF ?kK ?kR ?k6 ?k7 ?k8 ?k9 ?kB ?_ ?c2 ?c3 ?c4 ?c5;
    (case kA => exact rfl); (case kF => exact rfl); (case kK => assumption); (case k1 => k_asm); (case k2 => k_asm); (case k3 => k_asm); (case k4 => k_asm); (case k5 => k_asm); (case kR => assumption);
    (case k6 => k_is); (case k7 => k_is); (case k8 => exact Nat.le_of_ble_eq_true rfl); (case k9 => exact BindsTo.of_eq rfl); (case c5 => decide); (case kB => exact locs rfl); (case c2 => exact rfl); (case c3 => exact rfl); (case c4 => exact rfl); k_whole)
  k_with "ktr_step" => (refine' IsTup.keeps ?ktx (Fr.keep ?ktF); (case ktF => k_asm); (case ktx => first | assumption | exact IsTup.keeps (by assumption) (Fr.keep (by assumption)) | (refine' IsTup.keeps ?kty (Fr.keep ?ktG); (case ktG => assumption); (case kty => exact IsTup.keeps (by assumption) (Fr.keep (by assumption))))))
  k_with "kit_at" => (refine' kitAt_tup ?kaT; (case kaT => ktr_step))
  k_with "ktf_step" => (first | assumption | exact InsF.keeps (by assumption) (Fr.keep (by assumption)) | (refine' InsF.keeps ?kfI (Fr.keep ?kfF); (case kfF => assumption); (case kfI => exact InsF.keeps (by assumption) (Fr.keep (by assumption)))))
  k_with "k_inst" => (refine' InsF.at ?kiI (Fr.keep ?kiF); (case kiF => k_asm); (case kiI => ktf_step))
  k_with "ktd_step" => (refine' Rd.keeps (Fr.keep ?kdF) ?kdx; (case kdF => k_asm); (case kdx => first | assumption | exact Rd.keeps (Fr.keep (by assumption)) (by assumption) | (refine' Rd.keeps (Fr.keep ?kdG) ?kdy; (case kdG => assumption); (case kdy => exact Rd.keeps (Fr.keep (by assumption)) (by assumption)))))
  k_with "ktn_step" => (
    refine' Mine.enterPC ?kP ?k1 ?k2 ?k3 ?k4 ?k5 ?kA ?kF ?kK ?kR ?k6 ?k7 ?k8 ?k9 ?kB ?kD ?_ ?c2 ?c3 ?c4;
    (case kA => exact rfl); (case kF => exact rfl); (case kK => assumption); (case k1 => k_asm); (case k2 => k_asm); (case k3 => k_asm); (case k4 => k_asm); (case k5 => k_asm); (case kR => assumption);
    (case k6 => k_is); (case k7 => k_is); (case k8 => exact Nat.le_of_ble_eq_true rfl); (case k9 => exact BindsTo.of_eq rfl); (case kB => exact rfl); (case kD => decide +kernel); (case c2 => exact rfl); (case c3 => exact rfl); (case c4 => exact rfl); k_whole)
  k_with "subscriptTail" => (k_here; (with_reducible show wpAny _ _ (subscriptTail _ _ (Value.ref _) (Value.int _ _)) _ _ _); k_dflt (refine' item_tupleT ?t ?a ?b ?c ?d ?_; (case t => ktr_step); (case a => decide); (case b => decide); (case c => rfl); (case d => rfl); k_whole))
  k_with "subscriptTail" => (k_here; (with_reducible show wpAny _ _ (subscriptTail _ _ (Value.ref _) (Value.int 0 _)) _ _ _); k_dflt (refine' item_tup0 ?t ?_; (case t => ktr_step); k_whole))
  k_with "k_handed" => (exact Rd.handed (by assumption))
  k_with "ktr_room" => (
    refine' Mine.enterM ?kP ?k1 ?k2 ?k3 ?k4 ?k5 ?kA ?kF ?kK ?kN ?kQ ?kR ?k6 ?k7 ?k8 ?k9 ?kB ?_ ?c2 ?c3 ?c4 ?c5;
    (case kA => exact rfl); (case kF => exact rfl); (case kK => assumption); (case k1 => k_asm); (case k2 => k_asm); (case k3 => k_asm); (case k4 => k_asm); (case k5 => k_asm); (case kN => assumption); (case kQ => assumption); (case kR => assumption);
    (case k6 => k_is); (case k7 => k_is); (case k8 => exact Nat.le_of_ble_eq_true rfl); (case k9 => exact BindsTo.of_eq rfl); (case c5 => decide); (case kB => exact locs rfl); (case c2 => exact rfl); (case c3 => exact rfl); (case c4 => exact rfl); k_whole)
  k_with "binaryOp Add ref ref" => (k_here; (with_reducible show wpAny _ _ (binaryOp Operator.Add (Value.ref _) (Value.ref _)) _ _ _); k_dflt (refine' kde_addT ?k1 ?k2 ?k3 ?k4 ?k5 ?k6 ?k7 rfl ?_; (case k1 => k_asm); (case k2 => k_asm); (case k3 => exact News.isTup (by k_asm) (by k_mem)); (case k4 => exact News.isTup (by k_asm) (by k_mem)); (case k5 => simp); (case k6 => exact toList_ne (by assumption)); (case k7 => simp; omega)); intro D' h9' F9' N9' l1; (try k_lt l1); (try dsimp only); (try k_fold))
  intro gd cn cs a ccd cl outer A₀ base h₀ L m news s Q E B F X N T hk hpre hret
  k_dflt ktr_enter
  intro g' L' h' hg F' N' B' X' T'
  (try rw [← hg] at hpre)
  clear hret B F X N T
  (try dsimp only); (try k_fold)
  k_steps
  all_goals (try dsimp only)
  exact PEnd.one (by k_asm) (by k_asm) (.head _) ⟨_, _, rfl, rfl⟩
theorem list_of_spec (w : World) (mean : ExcName → Option Value) (mg mb : Str → Option Value) (lp b : Addr) (vs : List Value) (hvs : vs.length ≤ 100) (hv0 : vs ≠ []) :
    Spec w mean mg mb 900 9000 200 [.ref lp, .ref b] (fun h => h.IsList b vs.toArray) (fun _ r own => ∃ a ts, r = .ref a ∧ own = [(a, ({ cls := .type "tuple", data := .seq (Value.str (Str.ofString "list") ts :: vs).toArray } : Obj))]) := by
  unfold Spec
  k_fill
  k_with_none
  k_with "kd_adr" => (first | exact List.forall_mem_nil _ | (refine List.forall_mem_cons.mpr ⟨?kdh, ?kdt⟩; (case kdh => ((try dsimp only); first | kd_ltNe | (refine Ne.symm ?_; kd_ltNe) | (simp only [*, ne_eq, not_false_eq_true]; done) | (refine neN ?_; omega))); (case kdt => kd_adr)) | kd_adrTail | fail "k_dat: an address")
  k_with "k_ne" => (refine neN ?_; (try dsimp only); first | with_reducible assumption | kd_ltNe | (refine Ne.symm ?_; first | with_reducible assumption | kd_ltNe) | (simp only [*, ne_eq, not_false_eq_true]; done) | (refine Ne.symm ?_; simp only [*, ne_eq, not_false_eq_true]; done) | (refine Nat.ne_of_lt ?_; simp only [*]; done) | (refine Nat.ne_of_gt ?_; simp only [*]; done) | omega)
  k_with "k_room" => (exact Nat.le_of_ble_eq_true rfl)
  k_with "ktr_enter" => (
    refine' Mine.enterP ?kP ?k1 ?k2 ?k3 ?k4 ?k5 ?kA ?kF ?kK ?kR ?k6 ?k7 ?k8 ?k9 ?kB ?_ ?c2 ?c3 ?c4 ?c5;
    (case kA => exact rfl); (case kF => exact rfl); (case kK => assumption); (case k1 => k_asm); (case k2 => k_asm); (case k3 => k_asm); (case k4 => k_asm); (case k5 => k_asm); (case kR => assumption);
    (case k6 => k_is); (case k7 => k_is); (case k8 => exact Nat.le_of_ble_eq_true rfl); (case k9 => exact BindsTo.of_eq rfl); (case c5 => decide); (case kB => exact locs rfl); (case c2 => exact rfl); (case c3 => exact rfl); (case c4 => exact rfl); k_whole)
  k_with "ktr_step" => (refine' IsTup.keeps ?ktx (Fr.keep ?ktF); (case ktF => k_asm); (case ktx => first | assumption | exact IsTup.keeps (by assumption) (Fr.keep (by assumption)) | (refine' IsTup.keeps ?kty (Fr.keep ?ktG); (case ktG => assumption); (case kty => exact IsTup.keeps (by assumption) (Fr.keep (by assumption))))))
  k_with "kit_at" => (refine' kitAt_tup ?kaT; (case kaT => ktr_step))
  k_with "ktf_step" => (first | assumption | exact InsF.keeps (by assumption) (Fr.keep (by assumption)) | (refine' InsF.keeps ?kfI (Fr.keep ?kfF); (case kfF => assumption); (case kfI => exact InsF.keeps (by assumption) (Fr.keep (by assumption)))))
  k_with "k_inst" => (refine' InsF.at ?kiI (Fr.keep ?kiF); (case kiF => k_asm); (case kiI => ktf_step))
  k_with "ktd_step" => (refine' Rd.keeps (Fr.keep ?kdF) ?kdx; (case kdF => k_asm); (case kdx => first | assumption | exact Rd.keeps (Fr.keep (by assumption)) (by assumption) | (refine' Rd.keeps (Fr.keep ?kdG) ?kdy; (case kdG => assumption); (case kdy => exact Rd.keeps (Fr.keep (by assumption)) (by assumption)))))
  k_with "ktn_step" => (
    refine' Mine.enterPC ?kP ?k1 ?k2 ?k3 ?k4 ?k5 ?kA ?kF ?kK ?kR ?k6 ?k7 ?k8 ?k9 ?kB ?kD ?_ ?c2 ?c3 ?c4;
    (case kA => exact rfl); (case kF => exact rfl); (case kK => assumption); (case k1 => k_asm); (case k2 => k_asm); (case k3 => k_asm); (case k4 => k_asm); (case k5 => k_asm); (case kR => assumption);
    (case k6 => k_is); (case k7 => k_is); (case k8 => exact Nat.le_of_ble_eq_true rfl); (case k9 => exact BindsTo.of_eq rfl); (case kB => exact rfl); (case kD => decide +kernel); (case c2 => exact rfl); (case c3 => exact rfl); (case c4 => exact rfl); k_whole)
  k_with "subscriptTail" => (k_here; (with_reducible show wpAny _ _ (subscriptTail _ _ (Value.ref _) (Value.int _ _)) _ _ _); k_dflt (refine' item_tupleT ?t ?a ?b ?c ?d ?_; (case t => ktr_step); (case a => decide); (case b => decide); (case c => rfl); (case d => rfl); k_whole))
  k_with "subscriptTail" => (k_here; (with_reducible show wpAny _ _ (subscriptTail _ _ (Value.ref _) (Value.int 0 _)) _ _ _); k_dflt (refine' item_tup0 ?t ?_; (case t => ktr_step); k_whole))
  k_with "k_handed" => (exact Rd.handed (by assumption))
  k_with "ktr_room" => (
    refine' Mine.enterM ?kP ?k1 ?k2 ?k3 ?k4 ?k5 ?kA ?kF ?kK ?kN ?kQ ?kR ?k6 ?k7 ?k8 ?k9 ?kB ?_ ?c2 ?c3 ?c4 ?c5;
    (case kA => exact rfl); (case kF => exact rfl); (case kK => assumption); (case k1 => k_asm); (case k2 => k_asm); (case k3 => k_asm); (case k4 => k_asm); (case k5 => k_asm); (case kN => assumption); (case kQ => assumption); (case kR => assumption);
    (case k6 => k_is); (case k7 => k_is); (case k8 => exact Nat.le_of_ble_eq_true rfl); (case k9 => exact BindsTo.of_eq rfl); (case c5 => decide); (case kB => exact locs rfl); (case c2 => exact rfl); (case c3 => exact rfl); (case c4 => exact rfl); k_whole)
  k_with "binaryOp Add ref ref" => (k_here; (with_reducible show wpAny _ _ (binaryOp Operator.Add (Value.ref _) (Value.ref _)) _ _ _); k_dflt (refine' kde_addT ?k1 ?k2 ?k3 ?k4 ?k5 ?k6 ?k7 rfl ?_; (case k1 => k_asm); (case k2 => k_asm); (case k3 => exact News.isTup (by k_asm) (by k_mem)); (case k4 => exact News.isTup (by k_asm) (by k_mem)); (case k5 => simp); (case k6 => exact toList_ne (by assumption)); (case k7 => simp; omega)); intro D' h9' F9' N9' l1; (try k_lt l1); (try dsimp only); (try k_fold))
  intro gd cn cs a ccd cl outer A₀ base h₀ L m news s Q E B F X N T hk hpre hret
  k_dflt ktr_enter
  intro g' L' h' hg F' N' B' X' T'
  (try rw [← hg] at hpre)
  clear hret B F X N T
  (try dsimp only); (try k_fold)
  k_steps
  all_goals (try dsimp only)
  refine PEnd.one (by k_asm) (by k_asm) (.head _) ?_
  exact ⟨_, _, rfl, rfl⟩
end
-- C12
section
theorem call_gen {w : World} {mean : ExcName → Option Value} {mg mb : Str → Option Value} {A A₀ : Around} {base g : Heap} {outer : List Env} {L a : Addr} {m : Str → Option Value} {s : Shared} {Q E : Value → Shared → Prop} {cn : Str} {cs : Scope} {ccd : Value} {cl : List (Str × Addr)}
    {r f : Addr} {vl vr v1 v2 v3 v4 y : Value} {Pre : Heap → Prop} {add : Option Value} {bf br : Bool} {n : Int} {t : Tok} {fs frs res : List Value} {c1 c2 c3 nn : Nat} {I fo fr re D x dx ca : Addr} {oI oD oc od : Obj} {dyns : List (Addr × Obj)} {t0 t1 t2 t3 t4 t5 t6 t7 t8 t9 : Tok}
    (Sp : @Ne Nat fo fr → @Ne Nat fo re → @Ne Nat fr re → SpecM w mean mg mb 600 6000 f [.ref x, .int n t, y] [(fo, listOf fs.toArray c1), (fr, listOf frs.toArray c2), (re, listOf res.toArray c3)] Pre (TakeP ⟨r, vl, vr, v1, v2, v3, v4, fo, fr, re⟩ fs frs res n add bf br))
    (N : News g L s.heap ((I, oI) :: (fo, listOf fs.toArray c1) :: (fr, listOf frs.toArray c2) :: (re, listOf res.toArray c3) :: (D, oD) :: (x, instObj 106 dx) ::
(dx, od) :: (ca, oc) :: dyns))
    (hod : od = dictOf [strK w.params "rules" t0 (.ref r), strK w.params "left" t1 vl, strK w.params "right" t2 vr, strK w.params "left_front" t3 v1, strK w.params "left_rear" t4 v2, strK w.params "right_front" t5 v3, strK w.params "right_rear" t6 v4,
        strK w.params "found" t7 (.ref fo), strK w.params "front" t8 (.ref fr), strK w.params "rear" t9 (.ref re)] nn)
    (B : Below A₀ base outer g) (F : Fr g L s.heap m) (X : (Mine.hd.heap_39 w.params).In g) (T : Top Mine.hd.view_39 (looseW Mine.hd.view_39 []) mean mg mb g)
    (hA : A.frames = some (envX cn cs L a ccd cl :: outer)) (hh : A.handled = none) (hk : cs.kind = .function) (hd : A.depth ≤ 600) (hu : A.units ≤ 6000)
    (hne : ∀ p ∈ (fo, listOf fs.toArray c1) :: (fr, listOf frs.toArray c2) :: (re, listOf res.toArray c3) :: (D, oD) :: (x, instObj 106 dx) ::
(dx, od) :: (ca, oc) :: dyns, @Ne Nat p.1 I)
    (hdn : ∀ p ∈ dyns, @Ne Nat p.1 fo ∧ @Ne Nat p.1 fr ∧ @Ne Nat p.1 re)
    (hap : @LT.lt Nat _ ca dx ∧ @LT.lt Nat _ dx x ∧ @LT.lt Nat _ x fo ∧ @LT.lt Nat _ fo fr ∧ @LT.lt Nat _ fr re ∧ @LT.lt Nat _ re D)
    (hpre : ∀ H : Heap, SidesAt w.params H x ⟨r, vl, vr, v1, v2, v3, v4, fo, fr, re⟩ → (∀ b o, g.get? b = some o → H.get? b = some o) → Pre H)
    (ret : ∀ dyn' h' tk', Fr g L h' m → News g L h' (dyn' ++ ((I, oI) :: ([(D, oD), (x, instObj 106 dx),
(dx, od), (ca, oc)] ++ dyns))) → (∀ p ∈ dyn', ∀ q ∈ (I, oI) :: ([(D, oD), (x, instObj 106 dx),
(dx, od), (ca, oc)] ++ dyns), @Ne Nat p.1 q.1) →
      TakeP ⟨r, vl, vr, v1, v2, v3, v4, fo, fr, re⟩ fs frs res n add bf br .none dyn' → Q .none { s with heap := h', toks := tk' }) :
    wpAny (model PySem.Challenge.rw_np0033_01.row.prog w) A (call (.ref f) [.ref x, .int n t, y]) Q E s := by
  refine Mine.hide ?_; intro Gq hGq
  obtain ⟨p1, p2, p3, p4, p5, p6⟩ := hap
  refine hGq ?_; clear hGq Gq
  have e1 : @Ne Nat fo fr := Nat.ne_of_lt p4
  have e2 : @Ne Nat fo re := Nat.ne_of_lt (Nat.lt_trans p4 p5)
  have e3 : @Ne Nat fr re := Nat.ne_of_lt p5
  have r1 : @LT.lt Nat _ dx fo := Nat.lt_trans p2 p3
  have mid : ∀ p ∈ [(fo, listOf fs.toArray c1), (fr, listOf frs.toArray c2), (re, listOf res.toArray c3)], @LE.le Nat _ fo p.1 ∧ @LE.le Nat _ p.1 re := by
    intro p hp
    rcases List.mem_cons.mp hp with rfl | hp
    · exact ⟨Nat.le_refl _, Nat.le_of_lt (Nat.lt_trans p4 p5)⟩
    rcases List.mem_cons.mp hp with rfl | hp
    · exact ⟨Nat.le_of_lt p4, Nat.le_of_lt p5⟩
    rw [List.mem_singleton.mp hp]
    exact ⟨Nat.le_of_lt (Nat.lt_trans p4 p5), Nat.le_refl _⟩
  refine specM_use (rest := (I, oI) :: (D, oD) :: (x, instObj 106 dx) :: (dx, od) :: (ca, oc) :: dyns) (Sp e1 e2 e3) B F X ?N T hA hh hk hd hu ?ne ?pre fun r' dyn' h' tk' F' N' ne' po => ?ret
  case ret =>
    obtain ⟨rfl, po⟩ := po
    exact ret dyn' h' tk' F' N' ne' ⟨rfl, po⟩
  case N =>
    intro p hp
    refine N p ?_
    rcases List.mem_append.mp hp with hp | hp
    · exact .tail _ (List.mem_append_left _ hp)
    rcases List.mem_cons.mp hp with rfl | hp
    · exact .head _
    · exact .tail _ (List.mem_append_right [(fo, listOf fs.toArray c1), (fr, listOf frs.toArray c2), (re, listOf res.toArray c3)] hp)
  case ne =>
    intro p hp q hq
    obtain ⟨m1, m2⟩ := mid p hp
    rcases List.mem_cons.mp hq with rfl | hq
    · exact hne p (List.mem_append_left _ hp)
    rcases List.mem_cons.mp hq with rfl | hq
    · exact Nat.ne_of_lt (Nat.lt_of_le_of_lt m2 p6)
    rcases List.mem_cons.mp hq with rfl | hq
    · exact Nat.ne_of_gt (Nat.lt_of_lt_of_le p3 m1)
    rcases List.mem_cons.mp hq with rfl | hq
    · exact Nat.ne_of_gt (Nat.lt_of_lt_of_le r1 m1)
    rcases List.mem_cons.mp hq with rfl | hq
    · exact Nat.ne_of_gt (Nat.lt_of_lt_of_le (Nat.lt_trans p1 r1) m1)
    obtain ⟨q1, q2, q3⟩ := hdn q hq
    rcases List.mem_cons.mp hp with rfl | hp
    · exact Ne.symm q1
    rcases List.mem_cons.mp hp with rfl | hp
    · exact Ne.symm q2
    rw [List.mem_singleton.mp hp]
    exact Ne.symm q3
  case pre =>
    intro H hH
    have up := base_up F N (dyn := [(fo, listOf fs.toArray c1), (fr, listOf frs.toArray c2), (re, listOf res.toArray c3)]) (fun p hp => .tail _ (List.mem_append_left _ hp)) hH
    have at' : ∀ q : Addr × Obj, @LT.lt Nat _ q.1 fo → q ∈ [(D, oD), (x, instObj 106 dx), (dx, od), (ca, oc)] ++ dyns → H.get? q.1 = some q.2 := fun q hl hm => hH q.1 q.2 (N q (.tail _ (List.mem_append_right [(fo, listOf fs.toArray c1), (fr, listOf frs.toArray c2), (re, listOf res.toArray c3)] hm))).1 fun hc => by
      obtain ⟨p, hp, e⟩ := List.mem_map.mp hc
      rw [← e] at hl
      exact absurd hl (Nat.not_lt.mpr (mid p hp).1)
    exact hpre H (sides_mk (at' (x, instObj 106 dx) p3 (.tail _ (.head _))) (hod ▸ at' (dx, od) r1 (.tail _ (.tail _ (.head _))))) up
theorem call_both {w : World} {mean : ExcName → Option Value} {mg mb : Str → Option Value} {A A₀ : Around} {base g : Heap} {outer : List Env} {L a : Addr} {m : Str → Option Value} {s : Shared} {Q E : Value → Shared → Prop} {cn : Str} {cs : Scope} {ccd : Value} {cl : List (Str × Addr)}
    {r lp df : Addr} {vl vr v1 v2 v3 v4 y : Value} {V : SV} {VV : PV} {n : Int} {t : Tok} {o : Option Value} {fs frs res : List Value} {c1 c2 c3 nn : Nat} {I fo fr re D x dx ca : Addr} {oI oD oc od : Obj} {dyns : List (Addr × Obj)} {t0 t1 t2 t3 t4 t5 t6 t7 t8 t9 : Tok}
    (N : News g L s.heap ((I, oI) :: (fo, listOf fs.toArray c1) :: (fr, listOf frs.toArray c2) :: (re, listOf res.toArray c3) :: (D, oD) :: (x, instObj 106 dx) ::
(dx, od) :: (ca, oc) :: dyns))
    (hod : od = dictOf [strK w.params "rules" t0 (.ref r), strK w.params "left" t1 vl, strK w.params "right" t2 vr, strK w.params "left_front" t3 v1, strK w.params "left_rear" t4 v2, strK w.params "right_front" t5 v3, strK w.params "right_rear" t6 v4,
        strK w.params "found" t7 (.ref fo), strK w.params "front" t8 (.ref fr), strK w.params "rear" t9 (.ref re)] nn)
    (B : Below A₀ base outer g) (F : Fr g L s.heap m) (X : (Mine.hd.heap_39 w.params).In g) (T : Top Mine.hd.view_39 (looseW Mine.hd.view_39 []) mean mg mb g)
    (hA : A.frames = some (envX cn cs L a ccd cl :: outer)) (hh : A.handled = none) (hk : cs.kind = .function) (hd : A.depth ≤ 600) (hu : A.units ≤ 6000)
    (hne : ∀ p ∈ (fo, listOf fs.toArray c1) :: (fr, listOf frs.toArray c2) :: (re, listOf res.toArray c3) :: (D, oD) :: (x, instObj 106 dx) ::
(dx, od) :: (ca, oc) :: dyns, @Ne Nat p.1 I)
    (hdn : ∀ p ∈ dyns, @Ne Nat p.1 fo ∧ @Ne Nat p.1 fr ∧ @Ne Nat p.1 re)
    (hap : @LT.lt Nat _ ca dx ∧ @LT.lt Nat _ dx x ∧ @LT.lt Nat _ x fo ∧ @LT.lt Nat _ fo fr ∧ @LT.lt Nat _ fr re ∧ @LT.lt Nat _ re D) (hV : V.Ok) (hl : fs.length ≤ 100 ∧ frs.length ≤ 100 ∧ res.length ≤ 100)
    (rd : SidesRd w g ⟨r, vl, vr, v1, v2, v3, v4, fo, fr, re⟩ lp df V) (hy : Rd g y VV.py) (hg : Got g vl V.L n o)
    (ret : ∀ dyn' h' tk', Fr g L h' m → News g L h' (dyn' ++ ((I, oI) :: ([(D, oD), (x, instObj 106 dx),
(dx, od), (ca, oc)] ++ dyns))) → (∀ p ∈ dyn', ∀ q ∈ (I, oI) :: ([(D, oD), (x, instObj 106 dx),
(dx, od), (ca, oc)] ++ dyns), @Ne Nat p.1 q.1) →
      TakeP ⟨r, vl, vr, v1, v2, v3, v4, fo, fr, re⟩ fs frs res n (V.bothAdd n o y) (V.bothFr n) (V.bothRe n) .none dyn' → Q .none { s with heap := h', toks := tk' }) :
    wpAny (model PySem.Challenge.rw_np0033_01.row.prog w) A (call (.ref 145) [.ref x, .int n t, y]) Q E s :=
  call_gen (fun e1 e2 e3 => take_both_spec w mean mg mb x lp df ⟨r, vl, vr, v1, v2, v3, v4, fo, fr, re⟩ V n t y VV o fs frs res c1 c2 c3 hV hl.1 hl.2.1 hl.2.2 e1 e2 e3) N hod B F X T hA hh hk hd hu hne hdn hap (fun H hs up => ⟨hs, rd.keeps up, hy.keeps up, hg.keeps up⟩) ret
theorem call_one {w : World} {mean : ExcName → Option Value} {mg mb : Str → Option Value} {A A₀ : Around} {base g : Heap} {outer : List Env} {L a : Addr} {m : Str → Option Value} {s : Shared} {Q E : Value → Shared → Prop} {cn : Str} {cs : Scope} {ccd : Value} {cl : List (Str × Addr)}
    {r lp df : Addr} {vl vr v1 v2 v3 v4 y : Value} {V : SV} {VV : PV} {n : Int} {t : Tok} {fs frs res : List Value} {c1 c2 c3 nn : Nat} {I fo fr re D x dx ca : Addr} {oI oD oc od : Obj} {dyns : List (Addr × Obj)} {t0 t1 t2 t3 t4 t5 t6 t7 t8 t9 : Tok}
    (N : News g L s.heap ((I, oI) :: (fo, listOf fs.toArray c1) :: (fr, listOf frs.toArray c2) :: (re, listOf res.toArray c3) :: (D, oD) :: (x, instObj 106 dx) ::
(dx, od) :: (ca, oc) :: dyns))
    (hod : od = dictOf [strK w.params "rules" t0 (.ref r), strK w.params "left" t1 vl, strK w.params "right" t2 vr, strK w.params "left_front" t3 v1, strK w.params "left_rear" t4 v2, strK w.params "right_front" t5 v3, strK w.params "right_rear" t6 v4,
        strK w.params "found" t7 (.ref fo), strK w.params "front" t8 (.ref fr), strK w.params "rear" t9 (.ref re)] nn)
    (B : Below A₀ base outer g) (F : Fr g L s.heap m) (X : (Mine.hd.heap_39 w.params).In g) (T : Top Mine.hd.view_39 (looseW Mine.hd.view_39 []) mean mg mb g)
    (hA : A.frames = some (envX cn cs L a ccd cl :: outer)) (hh : A.handled = none) (hk : cs.kind = .function) (hd : A.depth ≤ 600) (hu : A.units ≤ 6000)
    (hne : ∀ p ∈ (fo, listOf fs.toArray c1) :: (fr, listOf frs.toArray c2) :: (re, listOf res.toArray c3) :: (D, oD) :: (x, instObj 106 dx) ::
(dx, od) :: (ca, oc) :: dyns, @Ne Nat p.1 I)
    (hdn : ∀ p ∈ dyns, @Ne Nat p.1 fo ∧ @Ne Nat p.1 fr ∧ @Ne Nat p.1 re)
    (hap : @LT.lt Nat _ ca dx ∧ @LT.lt Nat _ dx x ∧ @LT.lt Nat _ x fo ∧ @LT.lt Nat _ fo fr ∧ @LT.lt Nat _ fr re ∧ @LT.lt Nat _ re D) (hV : V.Ok) (hl : fs.length ≤ 100 ∧ frs.length ≤ 100 ∧ res.length ≤ 100)
    (rd : SidesRd w g ⟨r, vl, vr, v1, v2, v3, v4, fo, fr, re⟩ lp df V) (hy : Rd g y VV.py)
    (ret : ∀ dyn' h' tk', Fr g L h' m → News g L h' (dyn' ++ ((I, oI) :: ([(D, oD), (x, instObj 106 dx),
(dx, od), (ca, oc)] ++ dyns))) → (∀ p ∈ dyn', ∀ q ∈ (I, oI) :: ([(D, oD), (x, instObj 106 dx),
(dx, od), (ca, oc)] ++ dyns), @Ne Nat p.1 q.1) →
      TakeP ⟨r, vl, vr, v1, v2, v3, v4, fo, fr, re⟩ fs frs res n (V.oneAdd n y) (V.oneFr n) (V.oneRe n) .none dyn' → Q .none { s with heap := h', toks := tk' }) :
    wpAny (model PySem.Challenge.rw_np0033_01.row.prog w) A (call (.ref 152) [.ref x, .int n t, y]) Q E s :=
  call_gen (fun e1 e2 e3 => take_one_spec w mean mg mb x lp df ⟨r, vl, vr, v1, v2, v3, v4, fo, fr, re⟩ V n t y VV fs frs res c1 c2 c3 hV hl.1 hl.2.1 hl.2.2 e1 e2 e3) N hod B F X T hA hh hk hd hu hne hdn hap (fun H hs up => ⟨hs, rd.keeps up, hy.keeps up⟩) ret
theorem inherited_spec (w : World) (mean : ExcName → Option Value) (mg mb : Str → Option Value) (r lp df : Addr) (vl vr : Value) (PL PR : List (Int × PV)) (d : Int → Int) (hL : PlOk PL) (hR : PlOk PR) :
    Spec w mean mg mb 500 5000 157 [.ref r, vl, vr] (fun h => RulesAt w.params h r lp df ∧ IntTab PySem.Challenge.rw_np0033_01.row.prog w h df (dfD d) ∧ Rd h vl (plD PL) ∧ Rd h vr (plD PR))
      (InhP (SV.of PL PR d)) := by
  unfold Spec
  k_fill
  k_with_none
  k_with "kd_adr" => (first | exact List.forall_mem_nil _ | (refine List.forall_mem_cons.mpr ⟨?kdh, ?kdt⟩; (case kdh => ((try dsimp only); first | kd_ltNe | (refine Ne.symm ?_; kd_ltNe) | (simp only [*, ne_eq, not_false_eq_true]; done) | (refine neN ?_; omega))); (case kdt => kd_adr)) | kd_adrTail | fail "k_dat: an address")
  k_with "k_ne" => (refine neN ?_; (try dsimp only); first | with_reducible assumption | kd_ltNe | (refine Ne.symm ?_; first | with_reducible assumption | kd_ltNe) | (simp only [*, ne_eq, not_false_eq_true]; done) | (refine Ne.symm ?_; simp only [*, ne_eq, not_false_eq_true]; done) | (refine Nat.ne_of_lt ?_; simp only [*]; done) | (refine Nat.ne_of_gt ?_; simp only [*]; done) | omega)
  k_with "k_room" => (exact Nat.le_of_ble_eq_true rfl)
  k_with "ktr_enter" => (
    refine' Mine.enterP ?kP ?k1 ?k2 ?k3 ?k4 ?k5 ?kA ?kF ?kK ?kR ?k6 ?k7 ?k8 ?k9 ?kB ?_ ?c2 ?c3 ?c4 ?c5;
    (case kA => exact rfl); (case kF => exact rfl); (case kK => assumption); (case k1 => k_asm); (case k2 => k_asm); (case k3 => k_asm); (case k4 => k_asm); (case k5 => k_asm); (case kR => assumption);
    (case k6 => k_is); (case k7 => k_is); (case k8 => exact Nat.le_of_ble_eq_true rfl); (case k9 => exact BindsTo.of_eq rfl); (case c5 => decide); (case kB => exact locs rfl); (case c2 => exact rfl); (case c3 => exact rfl); (case c4 => exact rfl); k_whole)
  k_with "ktr_step" => (refine' IsTup.keeps ?ktx (Fr.keep ?ktF); (case ktF => k_asm); (case ktx => first | assumption | exact IsTup.keeps (by assumption) (Fr.keep (by assumption)) | (refine' IsTup.keeps ?kty (Fr.keep ?ktG); (case ktG => assumption); (case kty => exact IsTup.keeps (by assumption) (Fr.keep (by assumption))))))
  k_with "kit_at" => (refine' kitAt_tup ?kaT; (case kaT => ktr_step))
  k_with "ktf_step" => (first | assumption | exact InsF.keeps (by assumption) (Fr.keep (by assumption)) | (refine' InsF.keeps ?kfI (Fr.keep ?kfF); (case kfF => assumption); (case kfI => exact InsF.keeps (by assumption) (Fr.keep (by assumption)))))
  k_with "k_inst" => (refine' InsF.at ?kiI (Fr.keep ?kiF); (case kiF => k_asm); (case kiI => ktf_step))
  k_with "ktd_step" => (refine' Rd.keeps (Fr.keep ?kdF) ?kdx; (case kdF => k_asm); (case kdx => first | assumption | exact Rd.keeps (Fr.keep (by assumption)) (by assumption) | (refine' Rd.keeps (Fr.keep ?kdG) ?kdy; (case kdG => assumption); (case kdy => exact Rd.keeps (Fr.keep (by assumption)) (by assumption)))))
  k_with "ktn_step" => (
    refine' Mine.enterPC ?kP ?k1 ?k2 ?k3 ?k4 ?k5 ?kA ?kF ?kK ?kR ?k6 ?k7 ?k8 ?k9 ?kB ?kD ?_ ?c2 ?c3 ?c4;
    (case kA => exact rfl); (case kF => exact rfl); (case kK => assumption); (case k1 => k_asm); (case k2 => k_asm); (case k3 => k_asm); (case k4 => k_asm); (case k5 => k_asm); (case kR => assumption);
    (case k6 => k_is); (case k7 => k_is); (case k8 => exact Nat.le_of_ble_eq_true rfl); (case k9 => exact BindsTo.of_eq rfl); (case kB => exact rfl); (case kD => decide +kernel); (case c2 => exact rfl); (case c3 => exact rfl); (case c4 => exact rfl); k_whole)
  k_with "subscriptTail" => (k_here; (with_reducible show wpAny _ _ (subscriptTail _ _ (Value.ref _) (Value.int _ _)) _ _ _); k_dflt (refine' item_tupleT ?t ?a ?b ?c ?d ?_; (case t => ktr_step); (case a => decide); (case b => decide); (case c => rfl); (case d => rfl); k_whole))
  k_with "subscriptTail" => (k_here; (with_reducible show wpAny _ _ (subscriptTail _ _ (Value.ref _) (Value.int 0 _)) _ _ _); k_dflt (refine' item_tup0 ?t ?_; (case t => ktr_step); k_whole))
  k_with "k_handed" => (exact Rd.handed (by assumption))
  k_with "ktr_room" => (
    refine' Mine.enterM ?kP ?k1 ?k2 ?k3 ?k4 ?k5 ?kA ?kF ?kK ?kN ?kQ ?kR ?k6 ?k7 ?k8 ?k9 ?kB ?_ ?c2 ?c3 ?c4 ?c5;
    (case kA => exact rfl); (case kF => exact rfl); (case kK => assumption); (case k1 => k_asm); (case k2 => k_asm); (case k3 => k_asm); (case k4 => k_asm); (case k5 => k_asm); (case kN => assumption); (case kQ => assumption); (case kR => assumption);
    (case k6 => k_is); (case k7 => k_is); (case k8 => exact Nat.le_of_ble_eq_true rfl); (case k9 => exact BindsTo.of_eq rfl); (case c5 => decide); (case kB => exact locs rfl); (case c2 => exact rfl); (case c3 => exact rfl); (case c4 => exact rfl); k_whole)
  k_with "CompSrc" => (refine Stop.of ?_)
  k_with "k_all" => (first | exact List.forall_mem_nil _ | with_reducible assumption | (refine' List.forall_mem_cons.mpr ⟨?a, ?b⟩; (case a => k_ne); (case b => k_all)))
  k_with "call ref" => (k_here; (with_reducible show wpAny _ _ (call (Value.ref 70) _) _ _ _); (show wpAny _ _ (call (Value.ref 70) [_, _, Value.int _ _]) _ _ _); k_dflt (refine' spec_useV (Mine.value_in_spec _ _ _ _ _ _ _ _ _ _ _ _ ?hn ?hm) ?k1 ?k2 ?k3 ?k4 ?k5 ?kA ?kH ?kK ?kd ?ku ?kp ?_; (case kA => exact rfl); (case kH => exact rfl); (case kK => exact rfl); (case k1 => k_asm); (case k2 => k_asm); (case k3 => k_asm); (case k4 => k_asm); (case k5 => k_asm); (case kd => exact Nat.le_of_ble_eq_true rfl); (case ku => exact Nat.le_of_ble_eq_true rfl); (case kp => (refine' And.intro ?kpa (And.intro ?kpc ?kpb); (case kpb => (refine' Got.keeps ?kgx (Fr.keep ?kgF); (case kgF => k_asm); (case kgx => first | assumption | exact Got.keeps (by assumption) (Fr.keep (by assumption))))); (case kpc => ktd_step); (case kpa => (refine' RulesAt.keeps ?krx (Fr.keep ?krF); (case krF => k_asm); (case krx => first | assumption | exact RulesAt.keeps (by assumption) (Fr.keep (by assumption)) | (refine' RulesAt.keeps ?kry (Fr.keep ?krG); (case krG => assumption); (case kry => exact RulesAt.keeps (by assumption) (Fr.keep (by assumption))))))))); (case hn => assumption); (case hm => assumption); intro h9' tk9' F9' N9' k9'); (try dsimp only); (try k_fold))
  k_with "call ref" => (k_here; (with_reducible show wpAny _ _ (call (Value.ref 28) _) _ _ _); (show wpAny _ _ (call (Value.ref 28) [_, Value.int _ _]) _ _ _); k_dflt (refine' spec_useI (Mine.plist_find_spec _ _ _ _ _ _ _ _ ?hn) ?k1 ?k2 ?k3 ?k4 ?k5 ?kA ?kH ?kK ?kd ?ku ?kp ?_; (case kA => exact rfl); (case kH => exact rfl); (case kK => exact rfl); (case k1 => k_asm); (case k2 => k_asm); (case k3 => k_asm); (case k4 => k_asm); (case k5 => k_asm); (case kd => exact Nat.le_of_ble_eq_true rfl); (case ku => exact Nat.le_of_ble_eq_true rfl); (case kp => ktd_step); (case hn => assumption); intro t9' h9' tk9' F9' N9' k9'); (try dsimp only); (try k_fold))
  k_with "call builtin:len" => (k_here; (with_reducible show wpAny _ _ (call (Value.builtin "len") [Value.ref _]) _ _ _); k_dflt (refine' len_base ?k1 rfl ?k3 ?_; (case k1 => exact News.isList (by k_asm) (by k_mem)); (case k3 => omega)); intro t9' tk9'; (try dsimp only); (try k_fold))
  k_with "call ref" => (k_here; (with_reducible show wpAny _ _ (call (Value.ref 186) _) _ _ _); (show wpAny _ _ (call (Value.ref 186) [_, Value.int _ _]) _ _ _); k_dflt (refine' spec_use (Mine.symbol_spec _ _ _ _ _ _ _) ?k1 ?k2 ?k3 ?k4 ?k5 ?kA ?kH ?kK ?kd ?ku ?kp ?_; (case kA => exact rfl); (case kH => exact rfl); (case kK => exact rfl); (case k1 => k_asm); (case k2 => k_asm); (case k3 => k_asm); (case k4 => k_asm); (case k5 => k_asm); (case kd => exact Nat.le_of_ble_eq_true rfl); (case ku => exact Nat.le_of_ble_eq_true rfl); (case kp => exact trivial); intro r9' own9' h9' tk9' F9' N9' k9' ne9' po9'); (obtain ⟨a9', t9', e9', e9x'⟩ := po9'); subst e9'; subst e9x'; (try dsimp only))
  k_with "call ref" => (k_here; (with_reducible show wpAny _ _ (call (Value.ref 200) _) _ _ _); (show wpAny _ _ (call (Value.ref 200) [_, Value.ref _]) _ _ _); k_dflt (refine' spec_use (Mine.list_of_spec _ _ _ _ _ _ _ ?hn ?hm) ?k1 ?k2 ?k3 ?k4 ?k5 ?kA ?kH ?kK ?kd ?ku ?kp ?_; (case kA => exact rfl); (case kH => exact rfl); (case kK => exact rfl); (case k1 => k_asm); (case k2 => k_asm); (case k3 => k_asm); (case k4 => k_asm); (case k5 => k_asm); (case kd => exact Nat.le_of_ble_eq_true rfl); (case ku => exact Nat.le_of_ble_eq_true rfl); (case kp => exact News.isList (by k_asm) (by k_mem)); (case hn => first | assumption | (simp; omega)); (case hm => assumption); intro r9' own9' h9' tk9' F9' N9' k9' ne9' po9'); (obtain ⟨a9', t9', e9', e9x'⟩ := po9'); subst e9'; subst e9x'; (try simp only [List.cons_append, List.nil_append] at N9'); (try simp only [List.forall_mem_cons, List.forall_mem_nil, and_true] at ne9'); (try dsimp only); (try k_fold))
  k_with "compareOp NotIn" => (k_here; (with_reducible show wpAny _ _ (compareOp CmpOp.NotIn (Value.int _ _) (Value.ref _)) _ _ _); k_dflt (refine' notin_own ?k1 ?_; (case k1 => exact News.isTup (by k_asm) (by k_mem))))
  k_with "call ref" => (k_here; (with_reducible show wpAny _ _ (call (Value.ref 145) _) _ _ _); refine Stop.of ?_)
  k_with "call ref" => (k_here; (with_reducible show wpAny _ _ (call (Value.ref 152) _) _ _ _); refine Stop.of ?_)
  k_with "pyIter ref" => refine Stop.of ?_
  intro gd cn cs a ccd cl outer A₀ base h₀ L m news s Q E B F X N T hk hpre hret
  k_dflt ktn_step
  intro g' L' h' tk' cells' hg F' N' Y' B' X' T'
  k_cells Y'
  (try rw [← hg] at hpre)
  clear hret B F X N T
  refine Mine.opq ?_; intro QZ hQZ
  have hl40 := hL.len
  have hr40 := hR.len
  have hl1 : PL.length ≤ 100 := Nat.le_trans hL.len (by decide)
  have hr1 : PR.length ≤ 100 := Nat.le_trans hR.len (by decide)
  have hl2 := hL.cat
  have hr2 := hR.cat
  refine Mine.hide ?_; intro Gq hGq
  obtain ⟨hRu, hT0, hvl, hvr⟩ := hpre
  obtain ⟨o1, g1⟩ := got_of hvl hl1 101
  obtain ⟨o2, g2⟩ := got_of hvl hl1 102
  obtain ⟨o3, g3⟩ := got_of hvr hr1 101
  obtain ⟨o4, g4⟩ := got_of hvr hr1 102
  obtain ⟨dxr, nnr, ttr, ldx, ln, t1, t2, t3, t4, t5, pl, hRi, hLi⟩ := id hRu
  obtain ⟨bL, vsL, rfl, hbL, hrdL⟩ := id hvl.list_inv
  obtain ⟨bR, vsR, rfl, hbR, hrdR⟩ := id hvr.list_inv
  refine hGq ?_; clear hGq Gq
  have hvsL : vsL.length = PL.length := by simpa using hrdL.length
  have hvsR : vsR.length = PR.length := by simpa using hrdR.length
  (try dsimp only); (try k_fold)
  k_steps
  (rename Fr _ _ _ _ => lF'); (rename News _ _ _ _ => lN')
  have lN2 := news7 lN'
  with_unfolding_all refine For_invTF lF' ?_ (by intro _; rfl)
  k_steps
  refine Stop.mk ?_
  refine iter_pairs (fun i x y => ∃ n t V, x = .int n t ∧ PR[i]? = some (n, V) ∧ Rd g' y V.py) (fun i led => LoopLed _ _ _ _ i ((PR.take i).foldl (SV.of PL PR d).stepB ⟨[], [], []⟩) led)
    (by rfl) hbR (by decide) (by rfl) (by rfl) (by rfl) (pl_items hrdR) (by k_asm) lN2 LoopLed.start ?turn ?done
  case turn =>
    rintro i a x y led h tk I oI s₁ hi hv hT hR' hJ hne F' N'
    refine Mine.hide ?_; intro Gq hGq
    obtain ⟨n, t, V, rfl, hPi, hy⟩ := hR'
    obtain ⟨fs, frs, res, c1, c2, c3, dyns, rfl, hfr, hi1, hi2, hk1, hk2, hk3, hdn, hdx⟩ := hJ
    refine hGq ?_; clear hGq Gq
    simp only [List.cons_append, List.nil_append] at N' hne
    refine Mine.opq ?_; intro Qq hQq
    k_steps
    · refine Stop.mk ?_
      rename ¬ _ => hnot
      obtain ⟨on, gn⟩ := got_of hvl hl1 n
      have hin : (n, V) ∈ PR := List.mem_of_getElem? hPi
      have n101 : n ≠ 101 := fun e => hnot (.inl e)
      have n102 : n ≠ 102 := fun e => hnot (.inr e)
      have hadd := both_add (V := SV.of PL PR d) gn hy (hR.flat _ hin n101 n102) (hL.heldFlat n101 n102)
      k_dflt (refine' call_both (V := SV.of PL PR d) (lp := lp) (df := df) N' rfl ?B ?F ?X ?T ?hA ?hh ?hk ?hd ?hu hne hdn ?hap (SV.of_ok hL hR) ?hl ?rd hy gn ?ret)
      case B => k_asm
      case F => k_asm
      case X => k_asm
      case T => k_asm
      case hA => exact rfl
      case hh => exact rfl
      case hk => exact rfl
      case hd => exact Nat.le_of_ble_eq_true rfl
      case hu => exact Nat.le_of_ble_eq_true rfl
      case hap => omega
      case hl => omega
      case rd => exact ⟨hRu, hT0, hvl, hvr, g1.rd, g2.rd, g3.rd, g4.rd⟩
      intro dyn' h2 tk2 F2 N2 ne2 po2
      (try dsimp only); (try k_fold)
      k_steps
      all_goals (try dsimp only)
      refine hQq _ _ ?_
      refine turn_take (S := ⟨r, .ref bL, .ref bR, gotV o1, gotV o2, gotV o3, gotV o4, _, _, _⟩) (by k_asm) po2 N2 ne2 hne hfr hi1 hi2 hk1 hk2 hk3 hdn hdx hadd ?_ off_two
      rw [fold_take _ _ _ _ _ hPi]; exact stepB_not hnot
    · refine hQq _ _ ?_
      refine turn_skip (by k_asm) N' hne ⟨fs, frs, res, c1, c2, c3, dyns, rfl, hfr, hi1, hi2, hk1, hk2, hk3, hdn, hdx⟩ ?_ off_two
      rw [fold_take _ _ _ _ _ hPi]; exact stepB_own (by assumption)
  case done =>
    intro m1 led1 h1 tk1 hJ1 off1 F1 N1
    refine Mine.hide ?_; intro Gq hGq
    obtain ⟨fs, frs, res, c1, c2, c3, dyns, rfl, hfr, hi1, hi2, hk1, hk2, hk3, hdn, hdx⟩ := hJ1
    refine hGq ?_; clear hGq Gq
    rw [hvsR, List.take_length] at hfr hi1 hi2
    simp only [List.cons_append, List.nil_append] at N1
    have F1 := fr_off F1 off1
    (try dsimp only); (try k_fold)
    k_steps
    with_unfolding_all refine For_invTF F1 ?_ (by intro _; rfl)
    k_steps
    refine Stop.mk ?_
    refine iter_pairs (fun i x y => ∃ n t V, x = .int n t ∧ PL[i]? = some (n, V) ∧ Rd g' y V.py) (fun i led => LoopLed _ _ _ _ (vsR.length + i) ((PL.take i).foldl (SV.of PL PR d).stepO (PR.foldl (SV.of PL PR d).stepB ⟨[], [], []⟩)) led)
      (by rfl) hbL (by decide) (by rfl) (by rfl) (by rfl) (pl_items hrdL) (by k_asm) N1 (LoopLed.again hfr hi1 hi2 hk1 hk2 hk3 hdn hdx) ?turn2 ?done2
    case turn2 =>
      clear N1 F1 hfr hi1 hi2 hk1 hk2 hk3 hdn hdx off1
      rintro i a x y led h tk I oI s₁ hi hv hT hR' hJ hne F' N'
      refine Mine.hide ?_; intro Gq hGq
      obtain ⟨n, t, V, rfl, hPi, hy⟩ := hR'
      obtain ⟨fs, frs, res, c1, c2, c3, dyns, rfl, hfr, hi1, hi2, hk1, hk2, hk3, hdn, hdx⟩ := hJ
      refine hGq ?_; clear hGq Gq
      simp only [List.cons_append, List.nil_append] at N' hne
      refine Mine.opq ?_; intro Qq hQq
      k_steps
      · refine Stop.mk ?_
        rename ¬ _ => hnot
        have hlt9 : findP PR n < 0 := by assumption
        have hin : (n, V) ∈ PL := List.mem_of_getElem? hPi
        have n101 : n ≠ 101 := fun e => hnot (.inl e)
        have n102 : n ≠ 102 := fun e => hnot (.inr e)
        have hadd := one_add (V := SV.of PL PR d) (n := n) hy (hL.flat _ hin n101 n102)
        (rename News _ _ _ _ => N3)
        k_dflt (refine' call_one (V := SV.of PL PR d) (lp := lp) (df := df) N3 rfl ?B2 ?F2 ?X2 ?T2 ?hA2 ?hh2 ?hk2 ?hd2 ?hu2 hne hdn ?hap2 (SV.of_ok hL hR) ?hl2 ?rd2 hy ?ret2)
        case B2 => k_asm
        case F2 => k_asm
        case X2 => k_asm
        case T2 => k_asm
        case hA2 => exact rfl
        case hh2 => exact rfl
        case hk2 => exact rfl
        case hd2 => exact Nat.le_of_ble_eq_true rfl
        case hu2 => exact Nat.le_of_ble_eq_true rfl
        case hap2 => omega
        case hl2 => omega
        case rd2 => exact ⟨hRu, hT0, hvl, hvr, g1.rd, g2.rd, g3.rd, g4.rd⟩
        intro dyn' h2 tk2 F2 N2 ne2 po2
        (try dsimp only); (try k_fold)
        k_steps
        all_goals (try dsimp only)
        refine hQq _ _ ?_
        refine turn_take (S := ⟨r, .ref bL, .ref bR, gotV o1, gotV o2, gotV o3, gotV o4, _, _, _⟩) (by k_asm) po2 N2 ne2 hne hfr hi1 hi2 hk1 hk2 hk3 hdn hdx hadd ?_ off_two
        rw [fold_take _ _ _ _ _ hPi]; exact stepO_not hnot hlt9
      · (rename News _ _ _ _ => N3)
        refine hQq _ _ ?_
        refine turn_skip (by k_asm) N3 hne ⟨fs, frs, res, c1, c2, c3, dyns, rfl, hfr, hi1, hi2, hk1, hk2, hk3, hdn, hdx⟩ ?_ off_two
        rw [fold_take _ _ _ _ _ hPi]; exact stepO_in (by first | assumption | omega)
      · (rename News _ _ _ _ => N3)
        refine hQq _ _ ?_
        refine turn_skip (by k_asm) N3 hne ⟨fs, frs, res, c1, c2, c3, dyns, rfl, hfr, hi1, hi2, hk1, hk2, hk3, hdn, hdx⟩ ?_ off_two
        rw [fold_take _ _ _ _ _ hPi]; exact stepO_own (by assumption)
    case done2 =>
      clear N1 F1 hfr hi1 hi2 hk1 hk2 hk3 hdn hdx off1
      intro m2 led2 h2 tk2 hJ2 off2 F2 N2
      refine Mine.hide ?_; intro Gq hGq
      obtain ⟨fs, frs, res, c1, c2, c3, dyns, rfl, hfr, hi1, hi2, hk1, hk2, hk3, hdn, hdx⟩ := hJ2
      refine hGq ?_; clear hGq Gq
      rw [hvsL, List.take_length] at hfr hi1 hi2
      simp only [List.cons_append, List.nil_append] at N2
      have F2 := fr_off F2 off2
      have hfr : FoundRd dyns fs (SV.of PL PR d).told.f := hfr
      have hi1 : IntsAre frs (SV.of PL PR d).told.fr := hi1
      have hi2 : IntsAre res (SV.of PL PR d).told.re := hi2
      have hda : ∀ p ∈ dyns, p.1 ≠ L' + 1 := fun p hp => hdx p hp _ (.tail _ (.tail _ (.tail _ (.head _))))
      have hdo1 := fun p hp => (hdn p hp).1
      have hdo2 := fun p hp => (hdn p hp).2.1
      have hdo3 := fun p hp => (hdn p hp).2.2
      (try dsimp only); (try k_fold)
      k_steps
      · refine Stop.mk ?_
        refine LCg.CompSrc.ledger (by rfl) (by k_asm) (by k_asm) (by k_mem) (by simp only [List.size_toArray]; rw [sizeLine_eq]; omega) ?_
        intro g9
        refine restU_ind (SymsAt [_, _, _, _, _, _, _] dyns (SV.of PL PR d).told.re) ?hSA SymsAt.start ?finA ?turnA
        case hSA => rintro i ys led ⟨own, rfl, _, _, _⟩; exact Or.inr ⟨_, List.mem_append.mpr (.inl (by k_mem)), rfl, _, rfl⟩
        case turnA =>
          intro i ys led v I oI C oC D m₂ h tk E' hi hJ hv hC hx F N off ne
          refine Mine.hide ?_; intro Gq hGq
          obtain ⟨own, rfl, hyl, hys, hown⟩ := hJ
          obtain ⟨n, t, rfl, hn⟩ := ints_at hi2 i v (by simpa using hv)
          refine hGq ?_; clear hGq Gq
          simp only [List.cons_append, List.nil_append] at N
          k_steps
          exact sym_turn (front := [_, _, _, _, _, _, _]) (by k_asm) (by k_asm) (by assumption) off hyl hys hown hn
        case finA =>
          intro ysA led hq1
          refine Mine.hide ?_; intro Gq hGq
          obtain ⟨ownA, rfl, hyl, hys, hown⟩ := hq1
          refine hGq ?_; clear hGq Gq
          have hysA := take_all hi2 hys
          have hyn : ysA ≠ [] := by intro e; rw [e] at hyl; simp at hyl; omega
          have hyl2 : ysA.length ≤ 100 := by simp at hyl; omega
          obtain ⟨dy2, hdy2⟩ : ∃ z, z = ownA ++ dyns := ⟨_, rfl⟩
          have hzA : ∀ p ∈ dy2, p.1 ≠ _ ∧ p.1 ≠ _ ∧ p.1 ≠ _ := fun p hp => by
            rw [hdy2] at hp
            rcases List.mem_append.mp hp with hp | hp
            · exact ⟨hown p hp _ (.head _), hown p hp _ (.tail _ (.head _)), hown p hp _ (.tail _ (.tail _ (.head _)))⟩
            · exact hdn p hp
          have hz1A := fun p hp => (hzA p hp).1
          have hz2A := fun p hp => (hzA p hp).2.1
          have hz3A := fun p hp => (hzA p hp).2.2
          clear hyl hys hown
          rw [← hdy2]
          simp only [List.cons_append, List.nil_append]
          k_steps
          · refine Stop.mk ?_
            refine LCg.CompSrc.ledger (by rfl) (by k_asm) (by k_asm) (by k_mem) (by simp only [List.size_toArray]; rw [sizeLine_eq]; omega) ?_
            intro g9
            refine restU_ind (SymsAt [_, _, _, _, _, _, _, _, _, _] dy2 (SV.of PL PR d).told.fr) ?hSB SymsAt.start ?finB ?turnB
            case hSB => rintro i ys led ⟨own, rfl, _, _, _⟩; exact Or.inr ⟨_, List.mem_append.mpr (.inl (by k_mem)), rfl, _, rfl⟩
            case turnB =>
              intro i ys led v I oI C oC D m₂ h tk E' hi hJ hv hC hx F N off ne
              refine Mine.hide ?_; intro Gq hGq
              obtain ⟨own, rfl, hyl, hys, hown⟩ := hJ
              obtain ⟨n, t, rfl, hn⟩ := ints_at hi1 i v (by simpa using hv)
              refine hGq ?_; clear hGq Gq
              simp only [List.cons_append, List.nil_append] at N
              k_steps
              exact sym_turn (front := [_, _, _, _, _, _, _, _, _, _]) (by k_asm) (by k_asm) (by assumption) off hyl hys hown hn
            case finB =>
              intro ysB led hq1
              refine Mine.hide ?_; intro Gq hGq
              obtain ⟨ownB, rfl, hyl, hys, hown⟩ := hq1
              refine hGq ?_; clear hGq Gq
              have hysB := take_all hi1 hys
              have hyn : ysB ≠ [] := by intro e; rw [e] at hyl; simp at hyl; omega
              have hyl2 : ysB.length ≤ 100 := by simp at hyl; omega
              obtain ⟨dy3, hdy3⟩ : ∃ z, z = ownB ++ dy2 := ⟨_, rfl⟩
              have hzB : ∀ p ∈ dy3, p.1 ≠ _ ∧ p.1 ≠ _ ∧ p.1 ≠ _ := fun p hp => by
                rw [hdy3] at hp
                rcases List.mem_append.mp hp with hp | hp
                · exact ⟨hown p hp _ (.tail _ (.tail _ (.tail _ (.head _)))), hown p hp _ (.tail _ (.tail _ (.tail _ (.tail _ (.head _))))), hown p hp _ (.tail _ (.tail _ (.tail _ (.tail _ (.tail _ (.head _))))))⟩
                · exact hzA p hp
              have hz1B := fun p hp => (hzB p hp).1
              have hz2B := fun p hp => (hzB p hp).2.1
              have hz3B := fun p hp => (hzB p hp).2.2
              clear hyl hys hown
              rw [← hdy3]
              simp only [List.cons_append, List.nil_append]
              k_steps
              (try dsimp only)
              have hr9 := ints_ne hi2 (by omega)
              have hf9 := ints_ne hi1 (by omega)
              refine hQZ _ _ ?_
              exact inh_end2 (k := 102) (k2 := 101) hfr hysA hysB (by simp [Told.all, hr9, hf9]) (by k_asm) (by k_asm) (by k_mem) (by k_mem) (by k_mem) (by k_mem) (by k_mem) (by rw [← hdy2, ← hdy3]; intro p hp; repeat (first | exact hp | apply List.mem_cons_of_mem))
          · (try dsimp only)
            have hr9 := ints_ne hi2 (by omega)
            have hf9 := ints_nil hi1 (by omega)
            refine hQZ _ _ ?_
            exact inh_end1 (k := 102) hfr hysA (by simp [Told.all, hr9, hf9]) (by k_asm) (by k_asm) (by k_mem) (by k_mem) (by k_mem) (by rw [← hdy2]; intro p hp; repeat (first | exact hp | apply List.mem_cons_of_mem))
      · refine Stop.mk ?_
        refine LCg.CompSrc.ledger (by rfl) (by k_asm) (by k_asm) (by k_mem) (by simp only [List.size_toArray]; rw [sizeLine_eq]; omega) ?_
        intro g9
        refine restU_ind (SymsAt [_, _, _, _, _, _, _] dyns (SV.of PL PR d).told.fr) ?hSC SymsAt.start ?finC ?turnC
        case hSC => rintro i ys led ⟨own, rfl, _, _, _⟩; exact Or.inr ⟨_, List.mem_append.mpr (.inl (by k_mem)), rfl, _, rfl⟩
        case turnC =>
          intro i ys led v I oI C oC D m₂ h tk E' hi hJ hv hC hx F N off ne
          refine Mine.hide ?_; intro Gq hGq
          obtain ⟨own, rfl, hyl, hys, hown⟩ := hJ
          obtain ⟨n, t, rfl, hn⟩ := ints_at hi1 i v (by simpa using hv)
          refine hGq ?_; clear hGq Gq
          simp only [List.cons_append, List.nil_append] at N
          k_steps
          exact sym_turn (front := [_, _, _, _, _, _, _]) (by k_asm) (by k_asm) (by assumption) off hyl hys hown hn
        case finC =>
          intro ysC led hq1
          refine Mine.hide ?_; intro Gq hGq
          obtain ⟨ownC, rfl, hyl, hys, hown⟩ := hq1
          refine hGq ?_; clear hGq Gq
          have hysC := take_all hi1 hys
          have hyn : ysC ≠ [] := by intro e; rw [e] at hyl; simp at hyl; omega
          have hyl2 : ysC.length ≤ 100 := by simp at hyl; omega
          obtain ⟨dy2, hdy2⟩ : ∃ z, z = ownC ++ dyns := ⟨_, rfl⟩
          have hzC : ∀ p ∈ dy2, p.1 ≠ _ ∧ p.1 ≠ _ ∧ p.1 ≠ _ := fun p hp => by
            rw [hdy2] at hp
            rcases List.mem_append.mp hp with hp | hp
            · exact ⟨hown p hp _ (.head _), hown p hp _ (.tail _ (.head _)), hown p hp _ (.tail _ (.tail _ (.head _)))⟩
            · exact hdn p hp
          have hz1C := fun p hp => (hzC p hp).1
          have hz2C := fun p hp => (hzC p hp).2.1
          have hz3C := fun p hp => (hzC p hp).2.2
          clear hyl hys hown
          rw [← hdy2]
          simp only [List.cons_append, List.nil_append]
          k_steps
          (try dsimp only)
          have hr9 := ints_nil hi2 (by omega)
          have hf9 := ints_ne hi1 (by omega)
          refine hQZ _ _ ?_
          exact inh_end1 (k := 101) hfr hysC (by simp [Told.all, hr9, hf9]) (by k_asm) (by k_asm) (by k_mem) (by k_mem) (by k_mem) (by rw [← hdy2]; intro p hp; repeat (first | exact hp | apply List.mem_cons_of_mem))
      · (try dsimp only)
        have hr9 := ints_nil hi2 (by omega)
        have hf9 := ints_nil hi1 (by omega)
        refine hQZ _ _ ?_
        exact inh_end0 hfr hr9 hf9 (by k_asm) (by k_asm) (by k_mem) (by intro p hp; repeat (first | exact hp | apply List.mem_cons_of_mem))
end
-- L10
open PyProof.Rows.LCg in
theorem pairsG_block {prog : Program} {w : World} {A : Around} {E : Value → Shared → Prop} {h₀ : Heap} {L : Addr} {m : Str → Option Value} {env : Env} {elt iter c : PySem.Expr} {a b : Str} {pa pb tp : Pos} {kk : Nat} {scope : Scope} {cl : List (Str × Addr)} {pos : Pos} {s₂ : Shared} {l I : Addr} {vs : List Value}
    {news : List (Addr × Obj)} {RR : Value → Addr → Result → Shared → Prop} (R : Nat → Value → Value → Prop) (J : Nat → List Value → Prop) (hh : A.handled = none) (hlI₀ : h₀.get? I = none → (∀ p ∈ news, p.1 ≠ I) → l ≠ I) (hll : ∀ H, Fr h₀ L H m → News h₀ L H news → H.IsList l vs.toArray) (hsz : vs.length ≤ 1000)
    (hit : ∀ (i : Nat) v, vs[i]? = some v → ∃ p x y, v = .ref p ∧ (∀ H, Fr h₀ L H m → News h₀ L H news → IsTup H p #[x, y]) ∧ R i x y)
    (hcell : ∀ y ∈ scope.names, y.2 ≠ .cell) (hkind : scope.kind = .function) (hxa : scope.names.lookup a = some .local) (hxb : scope.names.lookup b = some .local) (hab : ¬ a = b)
    (hst : s₂.heap.IsListIter I l 0) (F : Fr h₀ L s₂.heap m) (N : News h₀ L s₂.heap news) (hIL : L ≠ I) (hI₀ : h₀.get? I = none) (off : ∀ p ∈ news, p.1 ≠ I) (h0 : J 0 [])
    (turn : ∀ i ys x y I oI C oC D m₂ h tk (E' : Value → Shared → Prop), i < vs.length → J i ys → R i x y → NsObj oC m₂ → m₂ a = some x → m₂ b = some y → Fr h₀ L h m → News h₀ L h ((I, oI) :: (C, oC) :: (D, lst ys) :: news) → Off3 I C D news → ((@Ne Nat I C) ∧ (@Ne Nat I D) ∧ (@Ne Nat C D)) →
      wpAny (model prog w) A (isTrue c (compEnvC scope cl C env) (eval c (compEnvC scope cl C env))) (fun ok s' => if ok = true then
          wpAny (model prog w) A (eval elt (compEnvC scope cl C env)) (fun z s'' => TEnd h₀ L m { s₂ with heap := h, toks := tk } ((I, oI) :: (C, oC) :: (D, lst ys) :: news) (J (i + 1) (ys ++ [z])) s'') E' s'
        else TEnd h₀ L m { s₂ with heap := h, toks := tk } ((I, oI) :: (C, oC) :: (D, lst ys) :: news) (J (i + 1) ys) s') E' { s₂ with heap := h, toks := tk })
    (hRR : ∀ D C h tk m' ys, Fr h₀ L h m → News h₀ L h ((D, lst ys) :: news) → Off1 D news → h.Ns C m' → h₀.get? C = none → h₀.get? D = none → C ≠ L → D ≠ L → C ≠ D → (∀ p ∈ news, p.1 ≠ C) → J vs.length ys → RR (.ref D) C (.ok .next) { s₂ with heap := h, toks := tk }) :
    wpAny (model prog w) A (newList []) (fun acc s₃ => wpAny (model prog w) A (newFunctionEnv scope env.globals cl [] env.qual none .none (some env)) (fun cenv s₄ =>
      codeAny (model prog w) A (.compStart (.ListComp elt [⟨.Tuple [.Name a pa, .Name b pb] kk tp, iter, [c], 0⟩] scope pos) 0 (.ref I) acc { cenv with scope := relabel scope env }) (RR acc cenv.locals) s₄) E s₃) E s₂ := by
  have hIlt : I < s₂.heap.objs.size := by obtain ⟨_, e, _⟩ := hst; exact Heap.lt_size e
  have hlI : l ≠ I := hlI₀ hI₀ off
  have W := Walks.list (prog := prog) (w := w) hh I l hlI vs.toArray
  refine wpAny_newObj_type (wpAny_newFunctionEnv hcell (by intro y hy; simp at hy) (fun h₁ hns₁ hsb₁ => ?_) hkind)
  dsimp only at hns₁ hsb₁ ⊢
  generalize hH2 : s₂.heap.push { cls := .type "list", dict := none, data := .seq ([] : List Value).toArray } = H2 at hns₁ hsb₁ ⊢
  have hC : H2.objs.size = s₂.heap.objs.size + 1 := by rw [← hH2, Heap.size_push]
  generalize hCn : H2.objs.size = C at hns₁ hsb₁ hC ⊢
  generalize hDn : s₂.heap.objs.size = D at hC ⊢
  have lt : ∀ x o, s₂.heap.get? x = some o → x < D := fun x o e => hDn ▸ Heap.lt_size e
  have hDC : D ≠ C := by rw [hC]; exact Nat.ne_of_lt (Nat.lt_succ_self _)
  have bel : ∀ x, x < D → x ≠ C ∧ x ≠ D := fun x hx => ⟨by rw [hC]; exact Nat.ne_of_lt (Nat.lt_succ_of_lt hx), Nat.ne_of_lt hx⟩
  have old : ∀ x o, s₂.heap.get? x = some o → h₁.get? x = some o := fun x o e => hsb₁.extBut x o (bel x (lt x o e)).1 (Heap.get?_push_of_some _ (hH2 ▸ Heap.get?_push_of_some _ e))
  have hacc : h₁.get? D = some (lst []) := hsb₁.extBut D _ hDC (Heap.get?_push_of_some _ (by rw [← hH2, ← hDn]; exact Heap.get?_push_size _ rfl))
  have none₀ : ∀ x, D ≤ x → h₀.get? x = none := fun x hx => by
    cases e : h₀.get? x with
    | none => rfl
    | some o' => exact absurd (lt x o' (F.keep x o' e)) (Nat.not_lt.mpr hx)
  have hD₀ := none₀ D (Nat.le_refl _)
  have hC₀ := none₀ C (by rw [hC]; exact Nat.le_succ _)
  have hLlt : L < D := hDn ▸ F.ns.lt
  have hDL : D ≠ L := Ne.symm (bel L hLlt).2
  have hCL : C ≠ L := Ne.symm (bel L hLlt).1
  have hID := (bel I (hDn ▸ hIlt)).2
  have hIC := (bel I (hDn ▸ hIlt)).1
  have nb : ∀ p ∈ news, p.1 ≠ I ∧ p.1 ≠ C ∧ p.1 ≠ D := fun p hp => ⟨off p hp, bel _ (lt _ _ (N p hp).1)⟩
  have off3 : Off3 I C D news := Off3.of nb
  have hit₁ : h₁.IsListIter I l 0 := by obtain ⟨o, e, r⟩ := hst; exact ⟨o, old _ _ e, r⟩
  -- what a change of I or C alone leaves
  have stepF : ∀ (h' h'' : Heap) (ys : List Value), Fr h₀ L h' m → News h₀ L h' ((D, lst ys) :: news) → (∀ x o, x ≠ I → x ≠ C → h'.get? x = some o → h''.get? x = some o) → Fr h₀ L h'' m ∧ News h₀ L h'' ((D, lst ys) :: news) := fun h' h'' ys F' N' k =>
    ⟨⟨F'.ns.at' fun o e => k _ o hIL (Ne.symm hCL) e, fun x o e => k x o (fun q => by rw [q, hI₀] at e; cases e) (fun q => by rw [q, hC₀] at e; cases e) (F'.keep x o e), F'.above⟩,
     fun p hp => ⟨k _ _ (by rcases List.mem_cons.mp hp with rfl | hp; exact Ne.symm hID; exact (nb p hp).1) (by rcases List.mem_cons.mp hp with rfl | hp; exact hDC; exact (nb p hp).2.1) (N' p hp).1, (N' p hp).2⟩⟩
  have loop : ∀ s₃ : Shared, s₃ = { s₂ with heap := h₁, toks := s₂.toks + ([] : List (Str × Value)).length } →
      codeAny (model prog w) A (.compLoop (.ListComp elt [⟨.Tuple [.Name a pa, .Name b pb] kk tp, iter, [c], 0⟩] scope pos) 0 (.ref I) (.ref D) (compEnvC scope cl C env)) (RR (.ref D) C) s₃ := by
    rintro s₃ rfl
    refine kct_loop (fun k s' => ∃ h' tk i ys m', s' = { s₂ with heap := h', toks := tk } ∧ i ≤ vs.length ∧ k = vs.length + 1 - i ∧ ys.length ≤ i ∧ h'.IsListIter I l i ∧ Fr h₀ L h' m ∧ h'.Ns C m' ∧ News h₀ L h' ((D, lst ys) :: news) ∧ J i ys) ?_ (vs.length + 1)
      ⟨h₁, _, 0, [], _, rfl, Nat.zero_le _, rfl, Nat.le_refl _, hit₁, F.keeps old, hns₁, fun p hp => ?_, h0⟩
    · intro k s' hq1
      refine Mine.hide ?_; intro Gq hGq
      obtain ⟨h', tk, i, ys, m', rfl, hi, rfl, hyl, hit', F', hn', N', hJ⟩ := hq1
      refine hGq ?_; clear hGq Gq
      by_cases hlt : i < vs.length
      · refine W.item i _ _ _ (by simpa using hlt) ⟨hit', hll _ F' (fun p hp => N' p (.tail _ hp))⟩ fun v h₂ tk₂ hPv hst₂ hk₂ => ?_
        have hvi : vs[i]? = some v := by simpa using hPv
        refine Mine.hide ?_; intro Gq hGq
        obtain ⟨p, x, y, rfl, hT, hR⟩ := hit i v hvi
        have k₂ : ∀ x o, x ≠ I → x ≠ C → h'.get? x = some o → h₂.get? x = some o := fun x o h1 _ e => hk₂ x o (by simpa using h1) e
        obtain ⟨F₂, N₂⟩ := stepF h' h₂ ys F' N' k₂
        refine hGq ?_; clear hGq Gq
        refine wpAny_letOwnedTupleGo_listiter hst₂.1 ?_
        refine kcp_assign (env := compEnvC scope cl C env) hh (hT _ F₂ (fun p hp => N₂ p (.tail _ hp))) (lookup_relabel_local hxa) (lookup_relabel_local hxb) (by simp [compEnvC, relabel, hkind]) (hn'.at' fun o e => hk₂ _ o (by simpa using Ne.symm hIC) e) fun h₃ tk₃ hn₃ hs₃ => ?_
        have hs₃ : ∀ x o, x ≠ C → h₂.get? x = some o → h₃.get? x = some o := hs₃
        refine Mine.hide ?_; intro Gq hGq
        obtain ⟨F₃, N₃⟩ := stepF h₂ h₃ ys F₂ N₂ fun x o _ h2 e => hs₃ x o h2 e
        obtain ⟨oC, heC, hoC⟩ := ns_obj hn₃
        obtain ⟨oI, heI, hIr⟩ := hst₂.1
        refine hGq ?_; clear hGq Gq
        have heI : h₃.get? I = some oI := hs₃ I oI hIC heI
        have N₄ : News h₀ L h₃ ((I, oI) :: (C, oC) :: (D, lst ys) :: news) := fun p hp => by
          rcases List.mem_cons.mp hp with rfl | hp
          · exact ⟨heI, Ne.symm hIL, hI₀⟩
          · rcases List.mem_cons.mp hp with rfl | hp
            · exact ⟨heC, hCL, hC₀⟩
            · exact N₃ p hp
        refine wpAny_mono (turn i ys x y I oI C oC D _ h₃ tk₃ _ hlt hJ hR hoC (by simp [hab]) (by simp) F₃ N₄ off3 ⟨hIC, hID, Ne.symm hDC⟩) (fun okb s₅ h₅ => ?_) fun _ _ e => e
        cases okb with
        | false =>
          simp only [Bool.false_eq_true, if_false] at h₅ ⊢
          refine Mine.hide ?_; intro Gq hGq
          obtain ⟨h₅, tk₅, rfl, F₅, N₅, J₅⟩ := h₅
          refine hGq ?_; clear hGq Gq
          refine ⟨vs.length + 1 - (i + 1), by omega, h₅, tk₅, i + 1, ys, _, rfl, hlt, rfl, Nat.le_succ_of_le hyl, ⟨oI, (N₅ (I, oI) (.head _)).1, hIr⟩, F₅, hoC.ns (N₅ (C, oC) (.tail _ (.head _))).1, fun p hp => N₅ p (.tail _ (.tail _ hp)), J₅⟩
        | true =>
          simp only [if_true] at h₅ ⊢
          refine wpAny_mono h₅ (fun z s₆ h₆ => ?_) fun _ _ e => e
          refine Mine.hide ?_; intro Gq hGq
          obtain ⟨h₅, tk₅, rfl, F₅, N₅, J₅⟩ := h₆
          refine hGq ?_; clear hGq Gq
          have zI := (N₅ (I, oI) (.head _)).1
          have zC := (N₅ (C, oC) (.tail _ (.head _))).1
          have zD := (N₅ (D, lst ys) (.tail _ (.tail _ (.head _)))).1
          refine append_at (hsz := by show ys.toArray.size ≤ sizeLine; rw [List.size_toArray, sizeLine_eq]; omega) zD fun h₆ hs₆ hD₆ => ?_
          refine ⟨vs.length + 1 - (i + 1), by omega, h₆, _, i + 1, ys ++ [z], _, rfl, hlt, rfl, by simp; omega, ⟨oI, hs₆.extBut I oI hID zI, hIr⟩, F₅.change hs₆ hDL hD₀, (hoC.ns zC).sameBut hs₆ (Ne.symm hDC), fun p hp => ?_, J₅⟩
          rcases List.mem_cons.mp hp with rfl | hp
          · exact ⟨hD₆.trans (congrArg some (lst_snoc ys z)), hDL, hD₀⟩
          · have q := N₅ p (.tail _ (.tail _ (.tail _ hp)))
            exact ⟨hs₆.extBut _ _ (nb p hp).2.2 q.1, q.2⟩
      · obtain rfl : i = vs.length := Nat.le_antisymm hi (Nat.not_lt.mp hlt)
        refine W.done _ _ _ (by simpa using ⟨hit', hll _ F' (fun p hp => N' p (.tail _ hp))⟩) fun h₂ tk₂ hk₂ => ?_
        obtain ⟨F₂, N₂⟩ := stepF h' h₂ ys F' N' fun x o h1 _ e => hk₂ x o (by simpa using h1) e
        exact hRR D C h₂ tk₂ _ ys F₂ N₂ off3.one (hn'.at' fun o e => hk₂ _ o (by simpa using Ne.symm hIC) e) hC₀ hD₀ hCL hDL (Ne.symm hDC) (fun p hp => (nb p hp).2.1) hJ
    · rcases List.mem_cons.mp hp with rfl | hp
      · exact ⟨hacc, hDL, hD₀⟩
      · exact ⟨old _ _ (N p hp).1, (N p hp).2⟩
  exact codeAny_compStart_list (loop _ rfl) (W.self 0 _ _ _ ⟨hit₁, hll _ (F.keeps old) (fun p hp => ⟨old _ _ (N p hp).1, (N p hp).2⟩)⟩ (loop _ rfl))
open PyProof.Rows.LCg
/-- the source of a comprehension over pairs that stand -/
noncomputable def PSrc (prog : Program) (w : World) (A : Around) (h₀ : Heap) (L : Addr) (m : Str → Option Value) (env : Env) (c elt : PySem.Expr) (a b : Str) (scope : Scope) (cl : List (Str × Addr)) (Fin : Shared → List Value → List (Addr × Obj) → Prop) (xv : Value) (s₁ : Shared) : Prop :=
  ∃ (l : Addr) (vs : List Value) (news : List (Addr × Obj)) (R : Nat → Value → Value → Prop) (J : Nat → List Value → Prop), xv = .ref l ∧ A.handled = none ∧ h₀.IsList l vs.toArray ∧ vs.length ≤ 1000 ∧
    (∀ (i : Nat) v, vs[i]? = some v → ∃ p x y, v = .ref p ∧ IsTup h₀ p #[x, y] ∧ R i x y) ∧ Fr h₀ L s₁.heap m ∧ News h₀ L s₁.heap news ∧ J 0 [] ∧
    (∀ i ys x y I oI C oC D m₂ h tk (E' : Value → Shared → Prop), i < vs.length → J i ys → R i x y → NsObj oC m₂ → m₂ a = some x → m₂ b = some y → Fr h₀ L h m → News h₀ L h ((I, oI) :: (C, oC) :: (D, lst ys) :: news) → Off3 I C D news → ((@Ne Nat I C) ∧ (@Ne Nat I D) ∧ (@Ne Nat C D)) →
      wpAny (model prog w) A (isTrue c (compEnvC scope cl C env) (eval c (compEnvC scope cl C env))) (fun ok s' => if ok = true then
          wpAny (model prog w) A (eval elt (compEnvC scope cl C env)) (fun z s'' => TEnd h₀ L m { s₁ with heap := h, toks := tk } ((I, oI) :: (C, oC) :: (D, lst ys) :: news) (J (i + 1) (ys ++ [z])) s'') E' s'
        else TEnd h₀ L m { s₁ with heap := h, toks := tk } ((I, oI) :: (C, oC) :: (D, lst ys) :: news) (J (i + 1) ys) s') E' { s₁ with heap := h, toks := tk }) ∧
    (∀ ys g, J vs.length ys → Fin { s₁ with heap := g } ys news)
section
variable {prog : Program} {w : World} {A : Around} {E : Value → Shared → Prop} {s : Shared} {h₀ : Heap} {L : Addr} {m : Str → Option Value} {env : Env}
theorem pairs_assign {elt iter c : PySem.Expr} {a b y : Str} {pa pb tp py : Pos} {kk : Nat} {scope : Scope} {cl : List (Str × Addr)} {pos spos : Pos} {Q : Flow → Shared → Prop} (F₀ : Fr h₀ env.locals s.heap m)
    (hsw : swapsWith (.ListComp elt [⟨.Tuple [.Name a pa, .Name b pb] kk tp, iter, [c], 0⟩] scope pos) (some (.Name y py)) spos.line env = pure true)
    (hclos : closureFor scope env = pure cl) (hcell : ∀ y ∈ scope.names, y.2 ≠ .cell) (hkind : scope.kind = .function)
    (hnames : ∀ y ∈ scope.names, y.2 = .local → scope.names.lookup y.1 = some .local) (hxa : scope.names.lookup a = some .local) (hxb : scope.names.lookup b = some .local) (hab : ¬ a = b)
    (hy : env.kindOf y = some .local) (hp : (env.scope.kind == .class || (env.scope.kind == .module && env.locals != env.globals)) = false)
    (h : wpAny (model prog w) A (eval iter env) (PSrc prog w A h₀ env.locals m env c elt a b scope cl (fun s₂ => FinA h₀ env.locals m s₂ y Q)) E s)
    (hs : ∀ x, foldedSetIterable iter env x = pure x := by intro _; rfl) :
    wpAny (model prog w) A (exec (.Assign [.Name y py] (.ListComp elt [⟨.Tuple [.Name a pa, .Name b pb] kk tp, iter, [c], 0⟩] scope pos) spos) env) Q E s := by
  rw [exec_Assign_Name_used _ _ _ _ hsw]
  refine wpAny_bind (wpAny_standAt (wpAny_bind ?_))
  show wpAny _ A (do let _ ← comprehension (.ListComp elt [⟨.Tuple [.Name a pa, .Name b pb] kk tp, iter, [c], 0⟩] scope pos) scope env _ (newList []) false (eval iter env) (some (assign (.Name y py) env))) _ _ s
  refine wpAny_bind (wpAny_mono (wpAny_comprehension_free (use := some (assign (.Name y py) env)) (Q := fun _ s' => Q .next s') rfl hs hclos hkind hnames
    (wpAny_mono h (fun xv s₁ h₁ => ?_) fun _ _ e => e)) (fun _ s' hq => wpAny_pure (wpAny_pure hq)) fun _ _ e => e)
  refine Mine.hide ?_; intro Gq hGq
  obtain ⟨l, vs, news, R, J, rfl, hh, hl, hsz, hit, F, N, h0, turn, fin⟩ := h₁
  refine hGq ?_; clear hGq Gq
  have hls : s₁.heap.IsList l vs.toArray := hl.at fun o e => F.keep l o e
  refine wpAny_pyIter_list hls ?_
  refine pairsG_block R J hh (fun h _ e => by obtain ⟨ol, hol, _⟩ := id hl; rw [e, h] at hol; cases hol) (fun _ F' _ => hl.at fun o e => F'.keep _ o e) hsz (fun i v hv => let ⟨p, x, y, e, t, r⟩ := hit i v hv; ⟨p, x, y, e, fun _ F' _ => t.keeps F'.keep, r⟩) hcell hkind hxa hxb hab ⟨_, Heap.get?_push_size _ rfl, rfl, rfl⟩ (F.push _) (fun p hp => ⟨Heap.get?_push_of_some _ (N p hp).1, (N p hp).2⟩) (Nat.ne_of_lt F.ns.lt) (next_is_new F) (fun p hp => Nat.ne_of_lt (Heap.lt_size (N p hp).1)) h0 turn ?_
  intro D C h' tk m' ys F' N' o1 hn hC₀ hD₀ hCL hDL hCD offC hJ
  show wpAny _ A (assign (.Name y py) env (.ref D)) _ _ _
  refine wpAny_assign_Name (wpAny_storeName_local hy F'.ns (fun h₂ hn₂ hs₂ => ?_) hp)
  have hL₀ : h₀.get? env.locals = none := Heap.get?_none_of_le F'.above
  have F₂ : Fr h₀ env.locals h₂ (fun z => if z = y then some (.ref D) else m z) := ⟨hn₂, fun b o e => hs₂.extBut b o (fun q => by rw [q, hL₀] at e; cases e) (F'.keep b o e), F'.above⟩
  refine ⟨m', hn.sameBut hs₂ hCL, fun h'' hs'' => fin ys s₁.heap hJ D h'' _ (F₂.change hs'' hCL hC₀) (fun p hp => ?_) o1⟩
  have z : h₂.get? p.1 = some p.2 := hs₂.extBut _ _ (N' p hp).2.1 (N' p hp).1
  refine ⟨hs''.extBut _ _ ?_ z, (N' p hp).2⟩
  rcases List.mem_cons.mp hp with rfl | hp
  · exact Ne.symm hCD
  · exact offC p hp
end
-- L11
theorem findP_le (P : List (Int × PV)) (n : Int) : ∀ (i : Nat) (V : PV), P[i]? = some (n, V) → 0 ≤ findP P n ∧ findP P n ≤ i := by
  induction P with
  | nil => intro i V h; simp at h
  | cons e r ih =>
    intro i V h
    cases i with
    | zero => simp at h; subst h; simp [findP]
    | succ i =>
      have := ih i V (by simpa using h)
      simp only [findP]
      by_cases h0 : e.1 = n
      · simp [h0]; omega
      · rw [if_neg h0, if_neg (by omega)]; omega
theorem findP_ne (P : List (Int × PV)) (n : Int) : ∀ (i : Nat) (n' : Int) (V : PV), P[i]? = some (n', V) → n' ≠ n → findP P n ≠ i := by
  induction P with
  | nil => intro i n' V h; simp at h
  | cons e r ih =>
    intro i n' V h hn
    cases i with
    | zero =>
      simp at h; subst h
      simp only [findP, if_neg hn]
      split <;> omega
    | succ i =>
      have := ih i n' V (by simpa using h) hn
      simp only [findP]
      by_cases h0 : e.1 = n
      · simp [h0]; omega
      · rw [if_neg h0]; split <;> omega
noncomputable def HeldJ (P : List (Int × PV)) (n : Int) (o : Option Value) (i : Nat) (ys : List Value) : Prop := if findP P n < 0 ∨ (i : Int) ≤ findP P n then ys = [] else ∃ y r, o = some y ∧ ys = y :: r
theorem HeldJ.start {P : List (Int × PV)} {n : Int} {o : Option Value} : HeldJ P n o 0 [] := by
  unfold HeldJ
  rw [if_pos (by omega)]
theorem HeldJ.yes {P : List (Int × PV)} {n : Int} {o : Option Value} {i : Nat} {ys : List Value} {y : Value} {V : PV} (j : HeldJ P n o i ys) (hP : P[i]? = some (n, V)) (hy : findP P n = i → o = some y) : HeldJ P n o (i + 1) (ys ++ [y]) := by
  unfold HeldJ at j ⊢
  have h1 := findP_le P n i V hP
  rw [if_neg (by omega)]
  by_cases h2 : findP P n = i
  · rw [if_pos (by omega)] at j
    subst j
    exact ⟨y, [], hy h2, rfl⟩
  · rw [if_neg (by omega)] at j
    obtain ⟨y', r, e, rfl⟩ := j
    exact ⟨y', r ++ [y], e, rfl⟩
theorem HeldJ.no {P : List (Int × PV)} {n n' : Int} {o : Option Value} {i : Nat} {ys : List Value} {V : PV} (j : HeldJ P n o i ys) (hP : P[i]? = some (n', V)) (hn : n' ≠ n) : HeldJ P n o (i + 1) ys := by
  unfold HeldJ at j ⊢
  have h1 := findP_ne P n i n' V hP hn
  by_cases h2 : findP P n < 0 ∨ (i : Int) ≤ findP P n
  · rw [if_pos h2] at j; rw [if_pos (by omega)]; exact j
  · rw [if_neg h2] at j; rw [if_neg (by omega)]; exact j
theorem findP_lt (P : List (Int × PV)) (n : Int) : findP P n < P.length ∨ findP P n < 0 := by
  rcases heldP_find P n with ⟨h, _⟩ | ⟨k, V, h, h2, _⟩
  · exact .inr h
  · have := (List.getElem?_eq_some_iff.mp h2).1
    exact .inl (by omega)
theorem Got.at {h : Heap} {v : Value} {P : List (Int × PV)} {n : Int} {o : Option Value} (x : Got h v P n o) {b p : Addr} {vs : List Value} {i : Nat} {n' : Int} {t : Tok} {y : Value} (hv : v = .ref b) (hb : h.IsList b vs.toArray) (hi : vs[i]? = some (.ref p)) (hT : IsTup h p #[.int n' t, y])
    (hk : findP P n = i) : o = some y := by
  rcases x with ⟨_, _, h3⟩ | ⟨k, V, b', vs', ea, et, y', rfl, _, a3, _, rfl, a5, a6, a7, _⟩
  · omega
  · cases hv
    have e1 : vs' = vs := by
      obtain ⟨o1, q1, _, n1, q2⟩ := a5
      obtain ⟨o2, r1, _, n2, r2⟩ := hb
      rw [q1] at r1; cases r1
      rw [q2] at r2; cases r2; rfl
    subst e1
    have e2 : k = i := by omega
    subst e2
    rw [a6] at hi; cases hi
    obtain ⟨o1, q1, _, n1, q2⟩ := a7
    obtain ⟨o2, r1, _, n2, r2⟩ := hT
    rw [q1] at r1; cases r1
    rw [q2] at r2; cases r2; rfl
theorem HeldJ.done {h : Heap} {v : Value} {P : List (Int × PV)} {n : Int} {o : Option Value} {ys : List Value} (x : Got h v P n o) {k : Nat} (hk : k = P.length) (j : HeldJ P n o k ys) : (o = none ∧ ys = []) ∨ ∃ y r, o = some y ∧ ys = y :: r := by
  unfold HeldJ at j
  rcases x with ⟨rfl, _, h3⟩ | ⟨k', V, b', vs', ea, et, y', rfl, _, a3, _⟩
  · rw [if_pos (.inl h3)] at j; exact .inl ⟨rfl, j⟩
  · have := findP_lt P n
    rw [if_neg (by omega)] at j
    exact .inr j
theorem sym_lay (n : Int) : PyData.canLay0 (symD n) = true := by
  simp only [symD, PyData.canLay0, PyData.canLayAll0, Bool.and_true]
  decide +kernel
theorem syms_lay : ∀ ns : List Int, PyData.canLayAll0 (ns.map symD) = true
  | [] => rfl
  | n :: r => by simp only [List.map_cons, PyData.canLayAll0, sym_lay, syms_lay r, Bool.and_true]
theorem pv_lay (V : PV) : PyData.canLay0 V.py = true := by
  cases V with
  | nil => rfl
  | int i => rfl
  | tru => rfl
  | lst ns =>
    simp only [PV.py, PyData.canLay0, PyData.canLayAll0, syms_lay, Bool.and_true]
    decide +kernel
theorem lay_append : ∀ {xs ys : List PyData}, PyData.canLayAll0 xs = true → PyData.canLayAll0 ys = true → PyData.canLayAll0 (xs ++ ys) = true
  | [], _, _, h => h
  | x :: xs, ys, h1, h2 => by
    simp only [PyData.canLayAll0, Bool.and_eq_true, List.cons_append] at h1 ⊢
    exact ⟨h1.1, lay_append h1.2 h2⟩
/-- data that stand -/
noncomputable def RdLay (h : Heap) (ys : List Value) : Prop := ∃ ds, RdAll h ys ds ∧ PyData.canLayAll0 ds = true
theorem RdLay.nil {h : Heap} : RdLay h [] := ⟨[], .nil, rfl⟩
theorem RdLay.snoc {h : Heap} {ys : List Value} {y : Value} {V : PV} (x : RdLay h ys) (r : Rd h y V.py) : RdLay h (ys ++ [y]) := by
  obtain ⟨ds, a, b⟩ := x
  exact ⟨ds ++ [V.py], a.append (.one r), lay_append b (by simp [PyData.canLayAll0, pv_lay])⟩
theorem RdLay.keeps {h h' : Heap} {ys : List Value} (x : RdLay h ys) (hk : ∀ b o, h.get? b = some o → h'.get? b = some o) : RdLay h' ys := let ⟨ds, a, b⟩ := x; ⟨ds, a.keeps hk, b⟩
theorem ne_nil_cons {prog : Program} {w : World} {A : Around} {E : Value → Shared → Prop} {s : Shared} {D l : Addr} {y : Value} {r : List Value} {Q : Value → Shared → Prop} (h1 : s.heap.IsList D (y :: r).toArray) (h2 : s.heap.IsList l #[]) (hr : RdLay s.heap (y :: r))
    (hu : A.units + 64 < cLine) (h : Q (.bool true) s) : wpAny (model prog w) A (compareOp .NotEq (.ref D) (.ref l)) Q E s := by
  refine Mine.hide ?_; intro Gq hGq
  obtain ⟨ds, ra, rl⟩ := hr
  obtain ⟨as, r1⟩ := Rd.list h1 ra
  obtain ⟨bs, r2⟩ := Rd.list (vs := []) h2 .nil
  refine hGq ?_; clear hGq Gq
  refine SeqAt.compareNe_reads r1 r2 (by simpa [PyData.canLay0] using rl) rfl ?_ ?_
  · have := Nat.min_le_right (PyData.depth (.list ds)) (PyData.depth (.list []))
    have e : PyData.depth (.list []) = 1 := rfl
    omega
  · cases ra with
    | cons a b => simpa [PyData.eqv, PyData.eqvAll] using h
theorem item_led0 {prog : Program} {w : World} {A : Around} {E : Value → Shared → Prop} {s : Shared} {value slice : PySem.Expr} {l : Addr} {y : Value} {r : List Value} {u : Tok} {Q : Value → Shared → Prop} (hl : s.heap.IsList l (y :: r).toArray) (h : Q y s)
    (hs : subscripted slice false (.ref l) (.int 0 u) = operate [.ref l, .int 0 u] (getItem (.ref l) (.int 0 u)) := by with_unfolding_all rfl) :
    wpAny (model prog w) A (subscriptTail value slice (.ref l) (.int 0 u)) Q E s :=
  item_list_at hl (by decide) (by decide) rfl h hs
-- C14
section
theorem held_spec (w : World) (mean : ExcName → Option Value) (mg mb : Str → Option Value) (v : Value) (P : List (Int × PV)) (n : Int) (tn : Tok) (o : Option Value) (hP : P.length ≤ 100) :
    Spec w mean mg mb 800 8000 245 [v, .int n tn] (fun h => Rd h v (plD P) ∧ Got h v P n o) (OneP o) := by
  unfold Spec
  k_fill
  k_with_none
  k_with "kd_adr" => (first | exact List.forall_mem_nil _ | (refine List.forall_mem_cons.mpr ⟨?kdh, ?kdt⟩; (case kdh => ((try dsimp only); first | kd_ltNe | (refine Ne.symm ?_; kd_ltNe) | (simp only [*, ne_eq, not_false_eq_true]; done) | (refine neN ?_; omega))); (case kdt => kd_adr)) | kd_adrTail | fail "k_dat: an address")
  k_with "k_ne" => (refine neN ?_; (try dsimp only); first | with_reducible assumption | kd_ltNe | (refine Ne.symm ?_; first | with_reducible assumption | kd_ltNe) | (simp only [*, ne_eq, not_false_eq_true]; done) | (refine Ne.symm ?_; simp only [*, ne_eq, not_false_eq_true]; done) | (refine Nat.ne_of_lt ?_; simp only [*]; done) | (refine Nat.ne_of_gt ?_; simp only [*]; done) | omega)
  k_with "k_room" => (exact Nat.le_of_ble_eq_true rfl)
  k_with "ktr_enter" => (
    refine' Mine.enterP ?kP ?k1 ?k2 ?k3 ?k4 ?k5 ?kA ?kF ?kK ?kR ?k6 ?k7 ?k8 ?k9 ?kB ?_ ?c2 ?c3 ?c4 ?c5;
    (case kA => exact rfl); (case kF => exact rfl); (case kK => assumption); (case k1 => k_asm); (case k2 => k_asm); (case k3 => k_asm); (case k4 => k_asm); (case k5 => k_asm); (case kR => assumption);
    (case k6 => k_is); (case k7 => k_is); (case k8 => exact Nat.le_of_ble_eq_true rfl); (case k9 => exact BindsTo.of_eq rfl); (case c5 => decide); (case kB => exact locs rfl); (case c2 => exact rfl); (case c3 => exact rfl); (case c4 => exact rfl); k_whole)
  k_with "ktr_step" => (refine' IsTup.keeps ?ktx (Fr.keep ?ktF); (case ktF => k_asm); (case ktx => first | assumption | exact IsTup.keeps (by assumption) (Fr.keep (by assumption)) | (refine' IsTup.keeps ?kty (Fr.keep ?ktG); (case ktG => assumption); (case kty => exact IsTup.keeps (by assumption) (Fr.keep (by assumption))))))
  k_with "kit_at" => (refine' kitAt_tup ?kaT; (case kaT => ktr_step))
  k_with "ktf_step" => (first | assumption | exact InsF.keeps (by assumption) (Fr.keep (by assumption)) | (refine' InsF.keeps ?kfI (Fr.keep ?kfF); (case kfF => assumption); (case kfI => exact InsF.keeps (by assumption) (Fr.keep (by assumption)))))
  k_with "k_inst" => (refine' InsF.at ?kiI (Fr.keep ?kiF); (case kiF => k_asm); (case kiI => ktf_step))
  k_with "ktd_step" => (refine' Rd.keeps (Fr.keep ?kdF) ?kdx; (case kdF => k_asm); (case kdx => first | assumption | exact Rd.keeps (Fr.keep (by assumption)) (by assumption) | (refine' Rd.keeps (Fr.keep ?kdG) ?kdy; (case kdG => assumption); (case kdy => exact Rd.keeps (Fr.keep (by assumption)) (by assumption)))))
  k_with "ktn_step" => (
    refine' Mine.enterPC ?kP ?k1 ?k2 ?k3 ?k4 ?k5 ?kA ?kF ?kK ?kR ?k6 ?k7 ?k8 ?k9 ?kB ?kD ?_ ?c2 ?c3 ?c4;
    (case kA => exact rfl); (case kF => exact rfl); (case kK => assumption); (case k1 => k_asm); (case k2 => k_asm); (case k3 => k_asm); (case k4 => k_asm); (case k5 => k_asm); (case kR => assumption);
    (case k6 => k_is); (case k7 => k_is); (case k8 => exact Nat.le_of_ble_eq_true rfl); (case k9 => exact BindsTo.of_eq rfl); (case kB => exact rfl); (case kD => decide +kernel); (case c2 => exact rfl); (case c3 => exact rfl); (case c4 => exact rfl); k_whole)
  k_with "subscriptTail" => (k_here; (with_reducible show wpAny _ _ (subscriptTail _ _ (Value.ref _) (Value.int _ _)) _ _ _); k_dflt (refine' item_tupleT ?t ?a ?b ?c ?d ?_; (case t => ktr_step); (case a => decide); (case b => decide); (case c => rfl); (case d => rfl); k_whole))
  k_with "subscriptTail" => (k_here; (with_reducible show wpAny _ _ (subscriptTail _ _ (Value.ref _) (Value.int 0 _)) _ _ _); k_dflt (refine' item_tup0 ?t ?_; (case t => ktr_step); k_whole))
  k_with "k_handed" => (exact Rd.handed (by assumption))
  k_with "ktr_room" => (
    refine' Mine.enterM ?kP ?k1 ?k2 ?k3 ?k4 ?k5 ?kA ?kF ?kK ?kN ?kQ ?kR ?k6 ?k7 ?k8 ?k9 ?kB ?_ ?c2 ?c3 ?c4 ?c5;
    (case kA => exact rfl); (case kF => exact rfl); (case kK => assumption); (case k1 => k_asm); (case k2 => k_asm); (case k3 => k_asm); (case k4 => k_asm); (case k5 => k_asm); (case kN => assumption); (case kQ => assumption); (case kR => assumption);
    (case k6 => k_is); (case k7 => k_is); (case k8 => exact Nat.le_of_ble_eq_true rfl); (case k9 => exact BindsTo.of_eq rfl); (case c5 => decide); (case kB => exact locs rfl); (case c2 => exact rfl); (case c3 => exact rfl); (case c4 => exact rfl); k_whole)
  k_with "exec Assign cons ListComp" => (k_here; k_dflt (refine Mine.pairs_assign (F₀ := by k_asm) (by with_unfolding_all rfl) (by with_unfolding_all rfl) (by decide) (by rfl) (by decide) (by rfl) (by rfl) (by decide) (by rfl) (by rfl) ?_))
  k_with "PSrc" => (refine Stop.of ?_)
  k_with "compareOp NotEq ref ref" => (k_here; (with_reducible show wpAny _ _ (compareOp CmpOp.NotEq (Value.ref _) (Value.ref _)) _ _ _); k_dflt (refine' ne_nil_cons ?k1 ?k2 ?k3 ?k4 ?_; (case k1 => exact News.isList (by k_asm) (by k_mem)); (case k2 => exact News.isList (by k_asm) (by k_mem)); (case k3 => exact RdLay.keeps (by assumption) (Fr.keep (by k_asm))); (case k4 => exact Nat.le_of_ble_eq_true rfl)))
  k_with "subscriptTail" => (k_here; (with_reducible show wpAny _ _ (subscriptTail _ _ (Value.ref _) (Value.int 0 _)) _ _ _); k_dflt (refine' item_led0 ?k1 ?_; (case k1 => exact News.isList (by k_asm) (by k_mem)); k_whole))
  intro gd cn cs a ccd cl outer A₀ base h₀ L m news s Q E B F X N T hk hpre hret
  k_dflt ktn_step
  intro g' L' h' tk' cells' hg F' N' Y' B' X' T'
  k_cells Y'
  (try rw [← hg] at hpre)
  clear hret B F X N T

  refine Mine.hide ?_; intro Gq hGq
  obtain ⟨hv, hgot⟩ := hpre
  obtain ⟨b, vs, rfl, h1, h2⟩ := id hv.list_inv
  refine hGq ?_; clear hGq Gq
  have hvs : vs.length = P.length := by simpa using h2.length
  (try dsimp only); (try k_fold)
  k_steps
  refine Stop.mk ?_
  refine ⟨b, vs, _, (fun i x y => ∃ p n' t V, vs[i]? = some (.ref p) ∧ IsTup g' p #[x, y] ∧ x = .int n' t ∧ P[i]? = some (n', V) ∧ Rd g' y V.py), (fun i ys => HeldJ P n o i ys ∧ RdLay g' ys), rfl, by rfl, h1, by omega, ?hit, by k_asm, by k_asm, ⟨HeldJ.start, RdLay.nil⟩, ?turn, ?fin⟩
  case hit =>
    intro i v hv
    refine Mine.hide ?_; intro Gq hGq
    obtain ⟨p, x, y, rfl, hT, n', t, V, rfl, hP, hr⟩ := pl_items h2 i v hv
    refine hGq ?_; clear hGq Gq
    exact ⟨p, _, y, rfl, hT, p, n', t, V, hv, hT, rfl, hP, hr⟩
  case turn =>
    intro i ys x y I oI C oC D m₂ h tk E' hi hq1 hq2 hC hx hy F N off ne
    refine Mine.hide ?_; intro Gq hGq
    obtain ⟨hJ, hRl⟩ := hq1
    obtain ⟨p, n', t, V, hvi, hT, rfl, hPi, hRy⟩ := hq2
    refine hGq ?_; clear hGq Gq
    (try simp only [LCg.Off3, and_true] at off)
    k_steps
    · refine TEnd.same (by k_asm) (by k_asm) ⟨?_, hRl.snoc hRy⟩
      have e9 : n' = n := by first | assumption | (symm; assumption)
      subst e9
      exact hJ.yes hPi fun e => hgot.at rfl h1 hvi hT e
    · exact TEnd.same (by k_asm) (by k_asm) ⟨hJ.no hPi (by first | assumption | (apply Ne.symm; assumption)), hRl⟩
  case fin =>
    rintro ys g ⟨hJ, hRl⟩
    rcases hJ.done hgot (by omega) with ⟨rfl, rfl⟩ | ⟨y, r, rfl, rfl⟩
    all_goals k_steps
    all_goals (try dsimp only)
    · exact PEnd.zero (by k_asm) ⟨rfl, rfl⟩
    · exact PEnd.one (by k_asm) (by k_asm) (.head _) ⟨_, rfl, rfl⟩
end
-- L12
theorem sym_eqv (a n : Int) : PyData.eqv (symD a) (symD n) = decide (a = n) := by
  have e : PyData.eqv (.str (Str.ofString "symbol")) (.str (Str.ofString "symbol")) = true := by decide +kernel
  simp only [symD, PyData.eqv, PyData.eqvAll, Bool.and_true] at e ⊢
  rw [e, Bool.true_and]
  by_cases h : a = n
  · subst h; simp
  · simp [h]
theorem syms_any (n : Int) : ∀ ns : List Int, ((ns.map symD).any fun y => PyData.eqv y (symD n)) = decide (n ∈ ns)
  | [] => rfl
  | a :: r => by
    simp only [List.map_cons, List.any_cons, sym_eqv, syms_any n r, List.mem_cons]
    by_cases h : a = n
    · subst h; simp
    · have h' : ¬ n = a := fun e => h e.symm
      simp [h, h']
theorem in_syms {prog : Program} {w : World} {A : Around} {E : Value → Shared → Prop} {s : Shared} {T D : Addr} {n : Int} {t ts : Tok} {vs : List Value} {ns : List Int} {Q : Value → Shared → Prop} (hT : IsTup s.heap T #[Value.str (Str.ofString "symbol") ts, .int n t])
    (hD : IsTup s.heap D vs.toArray) (hr : RdAll s.heap vs (ns.map symD)) (hu : A.units + 64 < cLine) (h : Q (.bool (decide (n ∈ ns))) s) : wpAny (model prog w) A (compareOp .In (.ref T) (.ref D)) Q E s := by
  obtain ⟨as, r1⟩ := Rd.tuple (vs := [Value.str (Str.ofString "symbol") ts, .int n t]) hT (.cons Rd.str (.cons Rd.int .nil))
  obtain ⟨bs, r2⟩ := Rd.tuple hD hr
  refine SeqAt.in_tuple_reads (d := symD n) r2 r1 (syms_lay ns) (sym_lay n) ?_ (by rw [syms_any]; exact h)
  have := Nat.min_le_right (PyData.depthAll (ns.map symD)) (symD n).depth
  have e : (symD n).depth = 1 := rfl
  omega
/-- front-sticky and rear-nonsticky: nothing, all, or a list -/
noncomputable def PV.Ls (V : PV) : Prop := V = .tru ∨ ∃ ns, V = .lst ns ∧ ns.length ≤ 100
/-- what _law_due gives -/
structure Due where
  v : Option PV
  a : Bool
  b : Bool
noncomputable def SV.dkept (V : SV) (n : Int) : Bool := !V.lr.mem n && decide (dv V.d n ≤ 0)
noncomputable def SV.dcaught (V : SV) (n : Int) : Bool := V.rf.mem n || decide (dv V.d n < 0)
noncomputable def SV.due (V : SV) (n : Int) : Due :=
  match heldP V.R n with
  | none => match heldP V.L n with
    | none => ⟨none, false, false⟩
    | some x => if V.dkept n = true then ⟨some x, V.lf.mem n, false⟩ else ⟨none, V.dcaught n, V.dcaught n && V.rr.mem n⟩
  | some z => if (heldP V.L n).isSome = true ∧ V.dkept n = true ∧ ¬ (V.dcaught n = true ∧ heldP V.L n = some .nil) then ⟨heldP V.L n, V.lf.mem n, false⟩
    else if V.dcaught n = true then ⟨some z, V.rf.mem n, V.rr.mem n⟩ else ⟨none, false, false⟩
/-- a pair of one, or None -/
noncomputable def HeldAt (rest : List (Addr × Obj)) (x : Value) (o : Option PV) : Prop :=
  match o with
  | none => x = .none ∧ rest = []
  | some V => ∃ e y, x = .ref e ∧ rest = [(e, ({ cls := .type "tuple", data := .seq #[y] } : Obj))] ∧ ∀ H : Heap, Rd H y V.py
noncomputable def DueP (D : Due) (_ : Heap) (r : Value) (own : List (Addr × Obj)) : Prop := ∃ a x c rest, r = .ref a ∧ own = (a, listOf #[x, .bool D.a, .bool D.b] c) :: rest ∧ HeldAt rest x D.v
theorem due_end0 {D : Due} {g h' : Heap} {L a : Addr} {s : Shared} {m' : Str → Option Value} {tk' : Nat} {news : List (Addr × Obj)} {b1 b2 : Bool} {c : Nat} (F : Fr g L h' m') (N : News g L h' news) (hm : (a, listOf #[.none, .bool b1, .bool b2] c) ∈ news)
    (hv : D.v = none) (h1 : D.a = b1) (h2 : D.b = b2) : PEnd g L s (DueP D) (.ref a) { s with heap := h', toks := tk' } := by
  obtain ⟨v, a1, a2⟩ := D
  dsimp only at hv h1 h2
  subst hv h1 h2
  exact PEnd.intro (own := [(a, listOf #[.none, .bool a1, .bool a2] c)]) F N (fun p hp => List.mem_singleton.mp hp ▸ hm) ⟨a, .none, c, [], rfl, rfl, rfl, rfl⟩
theorem due_end1 {D : Due} {g h' : Heap} {L a e : Addr} {s : Shared} {m' : Str → Option Value} {tk' : Nat} {news : List (Addr × Obj)} {b1 b2 : Bool} {c : Nat} {y : Value} {V : PV} (F : Fr g L h' m') (N : News g L h' news) (hm : (a, listOf #[.ref e, .bool b1, .bool b2] c) ∈ news)
    (he : (e, ({ cls := .type "tuple", data := .seq #[y] } : Obj)) ∈ news) (hy : ∀ H : Heap, Rd H y V.py) (hv : D.v = some V) (h1 : D.a = b1) (h2 : D.b = b2) : PEnd g L s (DueP D) (.ref a) { s with heap := h', toks := tk' } := by
  obtain ⟨v, a1, a2⟩ := D
  dsimp only at hv h1 h2
  subst hv h1 h2
  refine PEnd.intro (own := [(a, listOf #[.ref e, .bool a1, .bool a2] c), (e, ({ cls := .type "tuple", data := .seq #[y] } : Obj))]) F N (fun p hp => ?_) ⟨a, .ref e, c, _, rfl, rfl, e, y, rfl, rfl, hy⟩
  simp only [List.mem_cons, List.not_mem_nil, or_false] at hp
  rcases hp with rfl | rfl <;> assumption
theorem is_none_pv {prog : Program} {w : World} {A : Around} {E : Value → Shared → Prop} {s : Shared} {g : Heap} {y : Value} {W : PV} {Q : Value → Shared → Prop} (f : W.Flat) (r : Rd g y W.py) (h : Q (.bool (decide (W = .nil))) s) : wpAny (model prog w) A (compareOp .Is y .none) Q E s := by
  rcases f with rfl | ⟨i, rfl⟩
  · have e := r.none_inv
    subst e
    exact wpAny_pure h
  · obtain ⟨t, e⟩ := r.int_inv
    subst e
    exact wpAny_pure h
theorem list_up {h h' : Heap} {l : Addr} {a : Array Value} (x : h.IsList l a) (k : ∀ b o, h.get? b = some o → h'.get? b = some o) : h'.IsList l a := x.at fun o e => k l o e
-- C15
section
theorem sticks_spec (w : World) (mean : ExcName → Option Value) (mg mb : Str → Option Value) (v : Value) (P : List (Int × PV)) (k n : Int) (tk tn : Tok) (o : Option Value) (hP : P.length ≤ 100) (hk : ∀ V, heldP P k = some V → V.Ls) :
    Spec w mean mg mb 700 7000 252 [v, .int k tk, .int n tn] (fun h => Rd h v (plD P) ∧ Got h v P k o) (ValP (.bool ((heldV P k).mem n))) := by
  unfold Spec
  k_fill
  k_with_none
  k_with "kd_adr" => (first | exact List.forall_mem_nil _ | (refine List.forall_mem_cons.mpr ⟨?kdh, ?kdt⟩; (case kdh => ((try dsimp only); first | kd_ltNe | (refine Ne.symm ?_; kd_ltNe) | (simp only [*, ne_eq, not_false_eq_true]; done) | (refine neN ?_; omega))); (case kdt => kd_adr)) | kd_adrTail | fail "k_dat: an address")
  k_with "k_ne" => (refine neN ?_; (try dsimp only); first | with_reducible assumption | kd_ltNe | (refine Ne.symm ?_; first | with_reducible assumption | kd_ltNe) | (simp only [*, ne_eq, not_false_eq_true]; done) | (refine Ne.symm ?_; simp only [*, ne_eq, not_false_eq_true]; done) | (refine Nat.ne_of_lt ?_; simp only [*]; done) | (refine Nat.ne_of_gt ?_; simp only [*]; done) | omega)
  k_with "k_room" => (exact Nat.le_of_ble_eq_true rfl)
  k_with "ktr_enter" => (
    refine' Mine.enterP ?kP ?k1 ?k2 ?k3 ?k4 ?k5 ?kA ?kF ?kK ?kR ?k6 ?k7 ?k8 ?k9 ?kB ?_ ?c2 ?c3 ?c4 ?c5;
    (case kA => exact rfl); (case kF => exact rfl); (case kK => assumption); (case k1 => k_asm); (case k2 => k_asm); (case k3 => k_asm); (case k4 => k_asm); (case k5 => k_asm); (case kR => assumption);
    (case k6 => k_is); (case k7 => k_is); (case k8 => exact Nat.le_of_ble_eq_true rfl); (case k9 => exact BindsTo.of_eq rfl); (case c5 => decide); (case kB => exact locs rfl); (case c2 => exact rfl); (case c3 => exact rfl); (case c4 => exact rfl); k_whole)
  k_with "ktr_step" => (refine' IsTup.keeps ?ktx (Fr.keep ?ktF); (case ktF => k_asm); (case ktx => first | assumption | exact IsTup.keeps (by assumption) (Fr.keep (by assumption)) | (refine' IsTup.keeps ?kty (Fr.keep ?ktG); (case ktG => assumption); (case kty => exact IsTup.keeps (by assumption) (Fr.keep (by assumption))))))
  k_with "kit_at" => (refine' kitAt_tup ?kaT; (case kaT => ktr_step))
  k_with "ktf_step" => (first | assumption | exact InsF.keeps (by assumption) (Fr.keep (by assumption)) | (refine' InsF.keeps ?kfI (Fr.keep ?kfF); (case kfF => assumption); (case kfI => exact InsF.keeps (by assumption) (Fr.keep (by assumption)))))
  k_with "k_inst" => (refine' InsF.at ?kiI (Fr.keep ?kiF); (case kiF => k_asm); (case kiI => ktf_step))
  k_with "ktd_step" => (refine' Rd.keeps (Fr.keep ?kdF) ?kdx; (case kdF => k_asm); (case kdx => first | assumption | exact Rd.keeps (Fr.keep (by assumption)) (by assumption) | (refine' Rd.keeps (Fr.keep ?kdG) ?kdy; (case kdG => assumption); (case kdy => exact Rd.keeps (Fr.keep (by assumption)) (by assumption)))))
  k_with "ktn_step" => (
    refine' Mine.enterPC ?kP ?k1 ?k2 ?k3 ?k4 ?k5 ?kA ?kF ?kK ?kR ?k6 ?k7 ?k8 ?k9 ?kB ?kD ?_ ?c2 ?c3 ?c4;
    (case kA => exact rfl); (case kF => exact rfl); (case kK => assumption); (case k1 => k_asm); (case k2 => k_asm); (case k3 => k_asm); (case k4 => k_asm); (case k5 => k_asm); (case kR => assumption);
    (case k6 => k_is); (case k7 => k_is); (case k8 => exact Nat.le_of_ble_eq_true rfl); (case k9 => exact BindsTo.of_eq rfl); (case kB => exact rfl); (case kD => decide +kernel); (case c2 => exact rfl); (case c3 => exact rfl); (case c4 => exact rfl); k_whole)
  k_with "subscriptTail" => (k_here; (with_reducible show wpAny _ _ (subscriptTail _ _ (Value.ref _) (Value.int _ _)) _ _ _); k_dflt (refine' item_tupleT ?t ?a ?b ?c ?d ?_; (case t => ktr_step); (case a => decide); (case b => decide); (case c => rfl); (case d => rfl); k_whole))
  k_with "subscriptTail" => (k_here; (with_reducible show wpAny _ _ (subscriptTail _ _ (Value.ref _) (Value.int 0 _)) _ _ _); k_dflt (refine' item_tup0 ?t ?_; (case t => ktr_step); k_whole))
  k_with "k_handed" => (exact Rd.handed (by assumption))
  k_with "ktr_room" => (
    refine' Mine.enterM ?kP ?k1 ?k2 ?k3 ?k4 ?k5 ?kA ?kF ?kK ?kN ?kQ ?kR ?k6 ?k7 ?k8 ?k9 ?kB ?_ ?c2 ?c3 ?c4 ?c5;
    (case kA => exact rfl); (case kF => exact rfl); (case kK => assumption); (case k1 => k_asm); (case k2 => k_asm); (case k3 => k_asm); (case k4 => k_asm); (case k5 => k_asm); (case kN => assumption); (case kQ => assumption); (case kR => assumption);
    (case k6 => k_is); (case k7 => k_is); (case k8 => exact Nat.le_of_ble_eq_true rfl); (case k9 => exact BindsTo.of_eq rfl); (case c5 => decide); (case kB => exact locs rfl); (case c2 => exact rfl); (case c3 => exact rfl); (case c4 => exact rfl); k_whole)
  k_with "call ref" => (k_here; (with_reducible show wpAny _ _ (call (Value.ref 245) _) _ _ _); (show wpAny _ _ (call (Value.ref 245) [_, Value.int _ _]) _ _ _); k_dflt (refine' spec_use (Mine.held_spec _ _ _ _ _ _ _ _ _ ?hn) ?k1 ?k2 ?k3 ?k4 ?k5 ?kA ?kH ?kK ?kd ?ku ?kp ?_; (case kA => exact rfl); (case kH => exact rfl); (case kK => exact rfl); (case k1 => k_asm); (case k2 => k_asm); (case k3 => k_asm); (case k4 => k_asm); (case k5 => k_asm); (case kd => exact Nat.le_of_ble_eq_true rfl); (case ku => exact Nat.le_of_ble_eq_true rfl); (case kp => (refine' And.intro ?kpa ?kpb; (case kpb => (refine' Got.keeps ?kgx (Fr.keep ?kgF); (case kgF => k_asm); (case kgx => first | assumption | exact Got.keeps (by assumption) (Fr.keep (by assumption))))); (case kpa => ktd_step))); (case hn => assumption); intro r9' own9' h9' tk9' F9' N9' k9' ne9' po9'); k_dflt (first | ((obtain ⟨e9', e9x'⟩ := po9'); subst e9'; subst e9x') | ((obtain ⟨a9', e9', e9x'⟩ := po9'); subst e9'; subst e9x')); (try simp only [List.cons_append, List.nil_append] at N9'); (try simp only [List.forall_mem_cons, List.forall_mem_nil, and_true] at ne9'); (try dsimp only); (try k_fold))
  k_with "subscriptTail" => (k_here; (with_reducible show wpAny _ _ (subscriptTail _ _ (Value.ref _) (Value.ref _)) _ _ _); (with_unfolding_all refine' sliceT1 ?k1 ?k2 ?k3 ?k4 ?_); (case k1 => k_asm); (case k2 => k_asm); (case k3 => ktr_step); (case k4 => omega); intro D' h9' F9' N9' l1; (try k_lt l1); (try dsimp only); (try k_fold))
  k_with "compareOp In" => (k_here; (with_reducible show wpAny _ _ (compareOp CmpOp.In (Value.ref _) (Value.ref _)) _ _ _); k_dflt (refine' in_syms ?k1 ?k2 ?k3 ?k4 ?_; (case k1 => exact News.isTup (by k_asm) (by k_mem)); (case k2 => exact News.isTup (by k_asm) (by k_mem)); (case k3 => exact RdAll.keeps (Fr.keep (by k_asm)) (by assumption)); (case k4 => exact Nat.le_of_ble_eq_true rfl)))
  intro gd cn cs a ccd cl outer A₀ base h₀ L m news s Q E B F X N T hkk hpre hret
  k_dflt ktr_enter
  intro g' L' h' hg F' N' B' X' T'
  (try rw [← hg] at hpre)
  clear hret B F X N T

  obtain ⟨hv, hgot⟩ := hpre
  have hval := hgot.rd
  have hsome := hgot.isSome
  cases o with
  | none =>
    have e9 : heldV P k = .nil := by
      unfold heldV; cases e : heldP P k with
      | none => rfl
      | some V => rw [e] at hsome; cases hsome
    rw [e9]
    (try dsimp only); (try k_fold)
    k_steps
    all_goals (try dsimp only)
    all_goals first
      | exact PEnd.val (by k_asm) rfl
  | some y =>
    have hls : (heldV P k).Ls := by
      unfold heldV; cases e : heldP P k with
      | none => rw [e] at hsome; cases hsome
      | some V => exact hk V e
    simp only [gotV, Option.getD_some] at hval
    generalize heldV P k = V at hval hls ⊢
    rcases hls with rfl | ⟨ns, rfl, hns⟩
    · have e9 := hval.bool_inv
      subst e9
      (try dsimp only); (try k_fold)
      k_steps
      all_goals (try dsimp only)
      all_goals first
        | exact PEnd.val (by k_asm) rfl
    · refine Mine.hide ?_; intro Gq hGq
      obtain ⟨a, vs, rfl, h1, h2⟩ := hval.tuple_inv
      refine hGq ?_; clear hGq Gq
      cases h2 with
      | cons p q => ?_
      obtain ⟨t, rfl⟩ := p.str_inv
      rename_i vs
      have hvs : vs.length = ns.length := by simpa using q.length
      (try dsimp only); (try k_fold)
      k_steps
      all_goals (try dsimp only)
      all_goals first
        | exact PEnd.val (by k_asm) rfl
end
-- C16
inductive BoolAt (g : Heap) (L : Addr) (m : Str → Option Value) (led : List (Addr × Obj)) (s : Shared) (b : Bool) : Value → Shared → Prop
  | mk {h' : Heap} {tk' : Nat} {c : Bool} (F : Fr g L h' m) (N : News g L h' led) (e : c = b) : BoolAt g L m led s b (.bool c) { s with heap := h', toks := tk' }
theorem bool_cut {prog : Program} {w : World} {A : Around} {e : PySem.Expr} {env : Env} {Q E : Value → Shared → Prop} {s : Shared} {g : Heap} {L : Addr} {m : Str → Option Value} {led : List (Addr × Obj)} (b : Bool)
    (_ : Fr g L s.heap m) (_ : News g L s.heap led)
    (h1 : wpAny (model prog w) A (eval e env) (fun v s' => BoolAt g L m led s b v s') E s)
    (h2 : ∀ h' tk', Fr g L h' m → News g L h' led → Q (.bool b) { s with heap := h', toks := tk' }) : wpAny (model prog w) A (eval e env) Q E s :=
  wpAny_mono h1 (fun _ _ h => by cases h with | mk F N e => subst e; exact h2 _ _ F N) fun _ _ e => e
noncomputable def Cutd : Prop := True
theorem cutd : Cutd := trivial
section
theorem due_spec (w : World) (mean : ExcName → Option Value) (mg mb : Str → Option Value) (vl vr : Value) (df : Addr) (V : SV) (n : Int) (tn : Tok) (oL oR : Option Value)
    (hPL : V.L.length ≤ 100) (hPR : V.R.length ≤ 100) (hlf : V.lf = heldV V.L 101) (hlr : V.lr = heldV V.L 102) (hrf : V.rf = heldV V.R 101) (hrr : V.rr = heldV V.R 102)
    (q1 : ∀ x, heldP V.L 101 = some x → x.Ls) (q2 : ∀ x, heldP V.L 102 = some x → x.Ls) (q3 : ∀ x, heldP V.R 101 = some x → x.Ls) (q4 : ∀ x, heldP V.R 102 = some x → x.Ls) (fL : (heldV V.L n).Flat) (fR : (heldV V.R n).Flat) :
    Spec w mean mg mb 600 6000 259 [vl, vr, .ref df, .int n tn] (fun h => Rd h vl (plD V.L) ∧ Rd h vr (plD V.R) ∧ Got h vl V.L n oL ∧ Got h vr V.R n oR ∧ IntTab PySem.Challenge.rw_np0033_01.row.prog w h df (dfD V.d)) (DueP (V.due n)) := by
  unfold Spec
  k_fill
  k_with_none
  k_with "kd_adr" => (first | exact List.forall_mem_nil _ | (refine List.forall_mem_cons.mpr ⟨?kdh, ?kdt⟩; (case kdh => ((try dsimp only); first | kd_ltNe | (refine Ne.symm ?_; kd_ltNe) | (simp only [*, ne_eq, not_false_eq_true]; done) | (refine neN ?_; omega))); (case kdt => kd_adr)) | kd_adrTail | fail "k_dat: an address")
  k_with "k_ne" => (refine neN ?_; (try dsimp only); first | with_reducible assumption | kd_ltNe | (refine Ne.symm ?_; first | with_reducible assumption | kd_ltNe) | (simp only [*, ne_eq, not_false_eq_true]; done) | (refine Ne.symm ?_; simp only [*, ne_eq, not_false_eq_true]; done) | (refine Nat.ne_of_lt ?_; simp only [*]; done) | (refine Nat.ne_of_gt ?_; simp only [*]; done) | omega)
  k_with "k_room" => (exact Nat.le_of_ble_eq_true rfl)
  k_with "ktr_enter" => (
    refine' Mine.enterP ?kP ?k1 ?k2 ?k3 ?k4 ?k5 ?kA ?kF ?kK ?kR ?k6 ?k7 ?k8 ?k9 ?kB ?_ ?c2 ?c3 ?c4 ?c5;
    (case kA => exact rfl); (case kF => exact rfl); (case kK => assumption); (case k1 => k_asm); (case k2 => k_asm); (case k3 => k_asm); (case k4 => k_asm); (case k5 => k_asm); (case kR => assumption);
    (case k6 => k_is); (case k7 => k_is); (case k8 => exact Nat.le_of_ble_eq_true rfl); (case k9 => exact BindsTo.of_eq rfl); (case c5 => decide); (case kB => exact locs rfl); (case c2 => exact rfl); (case c3 => exact rfl); (case c4 => exact rfl); k_whole)
  k_with "ktr_step" => (refine' IsTup.keeps ?ktx (Fr.keep ?ktF); (case ktF => k_asm); (case ktx => first | assumption | exact IsTup.keeps (by assumption) (Fr.keep (by assumption)) | (refine' IsTup.keeps ?kty (Fr.keep ?ktG); (case ktG => assumption); (case kty => exact IsTup.keeps (by assumption) (Fr.keep (by assumption))))))
  k_with "kit_at" => (refine' kitAt_tup ?kaT; (case kaT => ktr_step))
  k_with "ktf_step" => (first | assumption | exact InsF.keeps (by assumption) (Fr.keep (by assumption)) | (refine' InsF.keeps ?kfI (Fr.keep ?kfF); (case kfF => assumption); (case kfI => exact InsF.keeps (by assumption) (Fr.keep (by assumption)))))
  k_with "k_inst" => (refine' InsF.at ?kiI (Fr.keep ?kiF); (case kiF => k_asm); (case kiI => ktf_step))
  k_with "ktd_step" => (refine' Rd.keeps (Fr.keep ?kdF) ?kdx; (case kdF => k_asm); (case kdx => first | assumption | exact Rd.keeps (Fr.keep (by assumption)) (by assumption) | (refine' Rd.keeps (Fr.keep ?kdG) ?kdy; (case kdG => assumption); (case kdy => exact Rd.keeps (Fr.keep (by assumption)) (by assumption)))))
  k_with "ktn_step" => (
    refine' Mine.enterPC ?kP ?k1 ?k2 ?k3 ?k4 ?k5 ?kA ?kF ?kK ?kR ?k6 ?k7 ?k8 ?k9 ?kB ?kD ?_ ?c2 ?c3 ?c4;
    (case kA => exact rfl); (case kF => exact rfl); (case kK => assumption); (case k1 => k_asm); (case k2 => k_asm); (case k3 => k_asm); (case k4 => k_asm); (case k5 => k_asm); (case kR => assumption);
    (case k6 => k_is); (case k7 => k_is); (case k8 => exact Nat.le_of_ble_eq_true rfl); (case k9 => exact BindsTo.of_eq rfl); (case kB => exact rfl); (case kD => decide +kernel); (case c2 => exact rfl); (case c3 => exact rfl); (case c4 => exact rfl); k_whole)
  k_with "subscriptTail" => (k_here; (with_reducible show wpAny _ _ (subscriptTail _ _ (Value.ref _) (Value.int _ _)) _ _ _); k_dflt (refine' item_tupleT ?t ?a ?b ?c ?d ?_; (case t => ktr_step); (case a => decide); (case b => decide); (case c => rfl); (case d => rfl); k_whole))
  k_with "subscriptTail" => (k_here; (with_reducible show wpAny _ _ (subscriptTail _ _ (Value.ref _) (Value.int 0 _)) _ _ _); k_dflt (refine' item_tup0 ?t ?_; (case t => ktr_step); k_whole))
  k_with "k_handed" => (exact Rd.handed (by assumption))
  k_with "ktr_room" => (
    refine' Mine.enterM ?kP ?k1 ?k2 ?k3 ?k4 ?k5 ?kA ?kF ?kK ?kN ?kQ ?kR ?k6 ?k7 ?k8 ?k9 ?kB ?_ ?c2 ?c3 ?c4 ?c5;
    (case kA => exact rfl); (case kF => exact rfl); (case kK => assumption); (case k1 => k_asm); (case k2 => k_asm); (case k3 => k_asm); (case k4 => k_asm); (case k5 => k_asm); (case kN => assumption); (case kQ => assumption); (case kR => assumption);
    (case k6 => k_is); (case k7 => k_is); (case k8 => exact Nat.le_of_ble_eq_true rfl); (case k9 => exact BindsTo.of_eq rfl); (case c5 => decide); (case kB => exact locs rfl); (case c2 => exact rfl); (case c3 => exact rfl); (case c4 => exact rfl); k_whole)
  k_with "eval BoolOp" => (k_here; (fail_if_success (have : Mine.Cutd := by with_reducible assumption)); refine Stop.of ?_)
  k_with "compareOp Is" => (k_here; (with_reducible show wpAny _ _ (compareOp CmpOp.Is _ Value.none) _ _ _); k_dflt (refine' is_none_pv ?k1 ?k2 ?_; (case k1 => with_reducible assumption); (case k2 => with_reducible assumption)))
  k_with "k_tabat" => (exact TabAt.keep (by assumption) (Fr.keep (by k_asm)))
  k_with "call builtin:dict.get" => (k_here; (with_reducible show wpAny _ _ (call (Value.builtin "dict.get") [Value.ref _, Value.int _ _, Value.int 0 _]) _ _ _); k_dflt (refine' get_df ?k1 ?_; (case k1 => exact TabAt.keep (by assumption) (Fr.keep (by k_asm)))); intro t9'; (try dsimp only))
  k_with "call ref" => (k_here; (with_reducible show wpAny _ _ (call (Value.ref 245) _) _ _ _); (show wpAny _ _ (call (Value.ref 245) [_, Value.int _ _]) _ _ _); k_dflt (refine' spec_use (Mine.held_spec _ _ _ _ _ _ _ _ _ ?hn) ?k1 ?k2 ?k3 ?k4 ?k5 ?kA ?kH ?kK ?kd ?ku ?kp ?_; (case kA => exact rfl); (case kH => exact rfl); (case kK => exact rfl); (case k1 => k_asm); (case k2 => k_asm); (case k3 => k_asm); (case k4 => k_asm); (case k5 => k_asm); (case kd => exact Nat.le_of_ble_eq_true rfl); (case ku => exact Nat.le_of_ble_eq_true rfl); (case kp => (refine' And.intro ?kpa ?kpb; (case kpb => (refine' Got.keeps ?kgx (Fr.keep ?kgF); (case kgF => k_asm); (case kgx => first | assumption | exact Got.keeps (by assumption) (Fr.keep (by assumption))))); (case kpa => ktd_step))); (case hn => assumption); intro r9' own9' h9' tk9' F9' N9' k9' ne9' po9'); k_dflt (first | ((obtain ⟨e9', e9x'⟩ := po9'); subst e9'; subst e9x') | ((obtain ⟨a9', e9', e9x'⟩ := po9'); subst e9'; subst e9x')); (try simp only [List.cons_append, List.nil_append] at N9'); (try simp only [List.forall_mem_cons, List.forall_mem_nil, and_true] at ne9'); (try dsimp only); (try k_fold))
  k_with "call ref" => (k_here; (with_reducible show wpAny _ _ (call (Value.ref 252) _) _ _ _); (show wpAny _ _ (call (Value.ref 252) [_, Value.int _ _, Value.int _ _]) _ _ _); k_dflt (refine' spec_useV (Mine.sticks_spec _ _ _ _ _ _ _ _ _ _ _ ?hn ?hq) ?k1 ?k2 ?k3 ?k4 ?k5 ?kA ?kH ?kK ?kd ?ku ?kp ?_; (case kA => exact rfl); (case kH => exact rfl); (case kK => exact rfl); (case k1 => k_asm); (case k2 => k_asm); (case k3 => k_asm); (case k4 => k_asm); (case k5 => k_asm); (case kd => exact Nat.le_of_ble_eq_true rfl); (case ku => exact Nat.le_of_ble_eq_true rfl); (case kp => (refine' And.intro ?kpa ?kpb; (case kpb => (refine' Got.keeps ?kgx (Fr.keep ?kgF); (case kgF => k_asm); (case kgx => first | assumption | exact Got.keeps (by assumption) (Fr.keep (by assumption))))); (case kpa => ktd_step))); (case hn => assumption); (case hq => assumption); intro h9' tk9' F9' N9' k9'); (try dsimp only); (try k_fold))
  intro gd cn cs a ccd cl outer A₀ base h₀ L m news s Q E B F X N T hk hpre hret
  k_dflt ktr_enter
  intro g' L' h' hg F' N' B' X' T'
  (try rw [← hg] at hpre)
  clear hret B F X N T

  refine Mine.hide ?_; intro Gq hGq
  obtain ⟨hvl, hvr, gL, gR, hT⟩ := hpre
  obtain ⟨o1, g1⟩ := got_of hvl hPL 101
  obtain ⟨o2, g2⟩ := got_of hvl hPL 102
  obtain ⟨o3, g3⟩ := got_of hvr hPR 101
  obtain ⟨o4, g4⟩ := got_of hvr hPR 102
  refine hGq ?_; clear hGq Gq
  have hsL := gL.isSome
  have hsR := gR.isSome
  have hvL := gL.rd
  have hvR := gR.rd
  have hyF : ∀ (W : PV) (y : Value), W.Flat → Rd g' y W.py → ∀ H : Heap, Rd H y W.py := fun W y f r H => f.rd r H
  cases oL with
  | none =>
    have eL : heldP V.L n = none := by cases e : heldP V.L n with | none => rfl | some W => rw [e] at hsL; cases hsL
    clear hsL hvL
    cases oR with
    | none =>
      have eR : heldP V.R n = none := by cases e : heldP V.R n with | none => rfl | some W => rw [e] at hsR; cases hsR
      clear hsR hvR
      (try dsimp only); (try k_fold)
      k_steps
      refine Stop.mk ?_
      (rename Fr _ _ _ _ => lF'); (rename News _ _ _ _ => lN')
      refine bool_cut (b := V.dkept n) lF' lN' ?kw1 ?kn1
      case kw1 =>
        have cp := cutd
        k_steps
        all_goals (try dsimp only)
        all_goals ((first | (have f1 : (heldV V.L 102).mem n = true := by with_reducible assumption) | (have f1 : (heldV V.L 102).mem n = false := by with_reducible assumption) | (have f1 : True := trivial)); (first | (have f3 : dv V.d n ≤ 0 := by with_reducible assumption) | (have f3 : ¬ dv V.d n ≤ 0 := by with_reducible assumption) | (have f3 : True := trivial)))
        all_goals exact BoolAt.mk (by k_asm) (by k_asm) (by simp [SV.dkept, hlr, f1, f3])
      clear lF' lN'
      intro h9 tk9 F9 N9
      (try dsimp only); (try k_fold)
      k_steps
      refine Stop.mk ?_
      (rename Fr _ _ _ _ => lF'); (rename News _ _ _ _ => lN')
      refine bool_cut (b := V.dcaught n) lF' lN' ?cw2 ?cn2
      case cw2 =>
        have cp := cutd
        k_steps
        all_goals (try dsimp only)
        all_goals ((first | (have f1 : (heldV V.R 101).mem n = true := by with_reducible assumption) | (have f1 : (heldV V.R 101).mem n = false := by with_reducible assumption) | (have f1 : True := trivial)); (first | (have f3 : dv V.d n < 0 := by with_reducible assumption) | (have f3 : ¬ dv V.d n < 0 := by with_reducible assumption) | (have f3 : True := trivial)))
        all_goals exact BoolAt.mk (by k_asm) (by k_asm) (by simp [SV.dcaught, hrf, f1, f3])
      clear lF' lN'
      intro h9 tk9 F9 N9
      (try dsimp only); (try k_fold)
      have cp := cutd
      k_steps
      all_goals (try dsimp only)
      all_goals ((first | (have f1 : V.dkept n = true := by with_reducible assumption) | (have f1 : V.dkept n = false := by with_reducible assumption) | (have f1 : True := trivial)); (first | (have f2 : V.dcaught n = true := by with_reducible assumption) | (have f2 : V.dcaught n = false := by with_reducible assumption) | (have f2 : True := trivial)); (first | (have f5 : WL = .nil := by with_reducible assumption) | (have f5 : ¬ WL = .nil := by with_reducible assumption) | (have f5 : True := trivial)))
      all_goals first
        | (refine due_end0 (by k_asm) (by k_asm) (by k_mem) ?_ ?_ ?_ <;> (simp [SV.due, hlf, hlr, hrf, hrr, eL, eR, f1, f2, f5]; done))
    | some yR =>
      obtain ⟨WR, eR⟩ : ∃ W, heldP V.R n = some W := by cases e : heldP V.R n with | none => rw [e] at hsR; cases hsR | some W => exact ⟨W, rfl⟩
      simp only [heldV, eR, Option.getD_some] at fR
      simp only [gotV, heldV, eR, Option.getD_some] at hvR
      have hyR := hyF _ _ fR hvR
      clear hsR fR hvR
      (try dsimp only); (try k_fold)
      k_steps
      refine Stop.mk ?_
      (rename Fr _ _ _ _ => lF'); (rename News _ _ _ _ => lN')
      refine bool_cut (b := V.dkept n) lF' lN' ?kw3 ?kn3
      case kw3 =>
        have cp := cutd
        k_steps
        all_goals (try dsimp only)
        all_goals ((first | (have f1 : (heldV V.L 102).mem n = true := by with_reducible assumption) | (have f1 : (heldV V.L 102).mem n = false := by with_reducible assumption) | (have f1 : True := trivial)); (first | (have f3 : dv V.d n ≤ 0 := by with_reducible assumption) | (have f3 : ¬ dv V.d n ≤ 0 := by with_reducible assumption) | (have f3 : True := trivial)))
        all_goals exact BoolAt.mk (by k_asm) (by k_asm) (by simp [SV.dkept, hlr, f1, f3])
      clear lF' lN'
      intro h9 tk9 F9 N9
      (try dsimp only); (try k_fold)
      k_steps
      refine Stop.mk ?_
      (rename Fr _ _ _ _ => lF'); (rename News _ _ _ _ => lN')
      refine bool_cut (b := V.dcaught n) lF' lN' ?cw4 ?cn4
      case cw4 =>
        have cp := cutd
        k_steps
        all_goals (try dsimp only)
        all_goals ((first | (have f1 : (heldV V.R 101).mem n = true := by with_reducible assumption) | (have f1 : (heldV V.R 101).mem n = false := by with_reducible assumption) | (have f1 : True := trivial)); (first | (have f3 : dv V.d n < 0 := by with_reducible assumption) | (have f3 : ¬ dv V.d n < 0 := by with_reducible assumption) | (have f3 : True := trivial)))
        all_goals exact BoolAt.mk (by k_asm) (by k_asm) (by simp [SV.dcaught, hrf, f1, f3])
      clear lF' lN'
      intro h9 tk9 F9 N9
      (try dsimp only); (try k_fold)
      have cp := cutd
      k_steps
      all_goals (try dsimp only)
      all_goals ((first | (have f1 : V.dkept n = true := by with_reducible assumption) | (have f1 : V.dkept n = false := by with_reducible assumption) | (have f1 : True := trivial)); (first | (have f2 : V.dcaught n = true := by with_reducible assumption) | (have f2 : V.dcaught n = false := by with_reducible assumption) | (have f2 : True := trivial)); (first | (have f5 : WL = .nil := by with_reducible assumption) | (have f5 : ¬ WL = .nil := by with_reducible assumption) | (have f5 : True := trivial)))
      all_goals first
        | (refine due_end0 (by k_asm) (by k_asm) (by k_mem) ?_ ?_ ?_ <;> (simp [SV.due, hlf, hlr, hrf, hrr, eL, eR, f1, f2, f5]; done))
        | (refine due_end1 (V := WR) (by k_asm) (by k_asm) (by k_mem) (by k_mem) hyR ?_ ?_ ?_ <;> (simp [SV.due, hlf, hlr, hrf, hrr, eL, eR, f1, f2, f5]; done))
  | some yL =>
    obtain ⟨WL, eL⟩ : ∃ W, heldP V.L n = some W := by cases e : heldP V.L n with | none => rw [e] at hsL; cases hsL | some W => exact ⟨W, rfl⟩
    simp only [heldV, eL, Option.getD_some] at fL
    simp only [gotV, heldV, eL, Option.getD_some] at hvL
    have hyL := hyF _ _ fL hvL
    clear hsL
    cases oR with
    | none =>
      have eR : heldP V.R n = none := by cases e : heldP V.R n with | none => rfl | some W => rw [e] at hsR; cases hsR
      clear hsR hvR
      (try dsimp only); (try k_fold)
      k_steps
      refine Stop.mk ?_
      (rename Fr _ _ _ _ => lF'); (rename News _ _ _ _ => lN')
      refine bool_cut (b := V.dkept n) lF' lN' ?kw5 ?kn5
      case kw5 =>
        have cp := cutd
        k_steps
        all_goals (try dsimp only)
        all_goals ((first | (have f1 : (heldV V.L 102).mem n = true := by with_reducible assumption) | (have f1 : (heldV V.L 102).mem n = false := by with_reducible assumption) | (have f1 : True := trivial)); (first | (have f3 : dv V.d n ≤ 0 := by with_reducible assumption) | (have f3 : ¬ dv V.d n ≤ 0 := by with_reducible assumption) | (have f3 : True := trivial)))
        all_goals exact BoolAt.mk (by k_asm) (by k_asm) (by simp [SV.dkept, hlr, f1, f3])
      clear lF' lN'
      intro h9 tk9 F9 N9
      (try dsimp only); (try k_fold)
      k_steps
      refine Stop.mk ?_
      (rename Fr _ _ _ _ => lF'); (rename News _ _ _ _ => lN')
      refine bool_cut (b := V.dcaught n) lF' lN' ?cw6 ?cn6
      case cw6 =>
        have cp := cutd
        k_steps
        all_goals (try dsimp only)
        all_goals ((first | (have f1 : (heldV V.R 101).mem n = true := by with_reducible assumption) | (have f1 : (heldV V.R 101).mem n = false := by with_reducible assumption) | (have f1 : True := trivial)); (first | (have f3 : dv V.d n < 0 := by with_reducible assumption) | (have f3 : ¬ dv V.d n < 0 := by with_reducible assumption) | (have f3 : True := trivial)))
        all_goals exact BoolAt.mk (by k_asm) (by k_asm) (by simp [SV.dcaught, hrf, f1, f3])
      clear lF' lN'
      intro h9 tk9 F9 N9
      (try dsimp only); (try k_fold)
      have cp := cutd
      k_steps
      all_goals (try dsimp only)
      all_goals ((first | (have f1 : V.dkept n = true := by with_reducible assumption) | (have f1 : V.dkept n = false := by with_reducible assumption) | (have f1 : True := trivial)); (first | (have f2 : V.dcaught n = true := by with_reducible assumption) | (have f2 : V.dcaught n = false := by with_reducible assumption) | (have f2 : True := trivial)); (first | (have f5 : WL = .nil := by with_reducible assumption) | (have f5 : ¬ WL = .nil := by with_reducible assumption) | (have f5 : True := trivial)))
      all_goals first
        | (refine due_end0 (by k_asm) (by k_asm) (by k_mem) ?_ ?_ ?_ <;> (simp [SV.due, hlf, hlr, hrf, hrr, eL, eR, f1, f2, f5]; done))
        | (refine due_end1 (V := WL) (by k_asm) (by k_asm) (by k_mem) (by k_mem) hyL ?_ ?_ ?_ <;> (simp [SV.due, hlf, hlr, hrf, hrr, eL, eR, f1, f2, f5]; done))
    | some yR =>
      obtain ⟨WR, eR⟩ : ∃ W, heldP V.R n = some W := by cases e : heldP V.R n with | none => rw [e] at hsR; cases hsR | some W => exact ⟨W, rfl⟩
      simp only [heldV, eR, Option.getD_some] at fR
      simp only [gotV, heldV, eR, Option.getD_some] at hvR
      have hyR := hyF _ _ fR hvR
      clear hsR fR hvR
      (try dsimp only); (try k_fold)
      k_steps
      refine Stop.mk ?_
      (rename Fr _ _ _ _ => lF'); (rename News _ _ _ _ => lN')
      refine bool_cut (b := V.dkept n) lF' lN' ?kw7 ?kn7
      case kw7 =>
        have cp := cutd
        k_steps
        all_goals (try dsimp only)
        all_goals ((first | (have f1 : (heldV V.L 102).mem n = true := by with_reducible assumption) | (have f1 : (heldV V.L 102).mem n = false := by with_reducible assumption) | (have f1 : True := trivial)); (first | (have f3 : dv V.d n ≤ 0 := by with_reducible assumption) | (have f3 : ¬ dv V.d n ≤ 0 := by with_reducible assumption) | (have f3 : True := trivial)))
        all_goals exact BoolAt.mk (by k_asm) (by k_asm) (by simp [SV.dkept, hlr, f1, f3])
      clear lF' lN'
      intro h9 tk9 F9 N9
      (try dsimp only); (try k_fold)
      k_steps
      refine Stop.mk ?_
      (rename Fr _ _ _ _ => lF'); (rename News _ _ _ _ => lN')
      refine bool_cut (b := V.dcaught n) lF' lN' ?cw8 ?cn8
      case cw8 =>
        have cp := cutd
        k_steps
        all_goals (try dsimp only)
        all_goals ((first | (have f1 : (heldV V.R 101).mem n = true := by with_reducible assumption) | (have f1 : (heldV V.R 101).mem n = false := by with_reducible assumption) | (have f1 : True := trivial)); (first | (have f3 : dv V.d n < 0 := by with_reducible assumption) | (have f3 : ¬ dv V.d n < 0 := by with_reducible assumption) | (have f3 : True := trivial)))
        all_goals exact BoolAt.mk (by k_asm) (by k_asm) (by simp [SV.dcaught, hrf, f1, f3])
      clear lF' lN'
      intro h9 tk9 F9 N9
      (try dsimp only); (try k_fold)
      have cp := cutd
      k_steps
      all_goals (try dsimp only)
      all_goals ((first | (have f1 : V.dkept n = true := by with_reducible assumption) | (have f1 : V.dkept n = false := by with_reducible assumption) | (have f1 : True := trivial)); (first | (have f2 : V.dcaught n = true := by with_reducible assumption) | (have f2 : V.dcaught n = false := by with_reducible assumption) | (have f2 : True := trivial)); (first | (have f5 : WL = .nil := by with_reducible assumption) | (have f5 : ¬ WL = .nil := by with_reducible assumption) | (have f5 : True := trivial)))
      all_goals first
        | (refine due_end0 (by k_asm) (by k_asm) (by k_mem) ?_ ?_ ?_ <;> (simp [SV.due, hlf, hlr, hrf, hrr, eL, eR, f1, f2, f5]; done))
        | (refine due_end1 (V := WR) (by k_asm) (by k_asm) (by k_mem) (by k_mem) hyR ?_ ?_ ?_ <;> (simp [SV.due, hlf, hlr, hrf, hrr, eL, eR, f1, f2, f5]; done))
        | (refine due_end1 (V := WL) (by k_asm) (by k_asm) (by k_mem) (by k_mem) hyL ?_ ?_ ?_ <;> (simp [SV.due, hlf, hlr, hrf, hrr, eL, eR, f1, f2, f5]; done))
end
-- L13
section
variable {prog : Program} {w : World} {A₀ A : Around} {s : Shared} {base h₀ : Heap} {outer : List Env} {L : Addr} {m : Str → Option Value} {env : Env} {dyn rest : List (Addr × Obj)} {K : Frag}
  {name qual : Str} {params : Arguments} {body : List Stmt} {scope : Scope} {dV kV doc pm cdv ct oc : Value} {an od : Option Addr} {osl : Array (Option Value)} {f : Addr} {vs : List Value} {binds : List (Str × Value)}
  {p : Program} {loose : List Str} {mean : ExcName → Option Value} {mg mb : Str → Option Value} {Q E : Value → Shared → Prop} {Pre : Heap → Prop}
theorem enterMC (Post : Value → List (Addr × Obj) → Prop) (B : Below A₀ base outer h₀) (F : Fr h₀ L s.heap m) (X₀ : K.In h₀) (N : News h₀ L s.heap (dyn ++ rest)) (T : Top p loose mean mg mb h₀) (hA : A.frames = some (env :: outer)) (hf : env.frame = some L) (hke : env.scope.kind = .function)
    (ne : ∀ p ∈ dyn, ∀ q ∈ rest, @Ne Nat p.1 q.1) (hpre : ∀ H : Heap, (∀ b o, s.heap.get? b = some o → b ∉ dyn.map (·.1) → H.get? b = some o) → Pre H)
    (ret : ∀ r dyn' h' tk', Fr h₀ L h' m → News h₀ L h' (dyn' ++ rest) → (∀ p ∈ dyn', ∀ q ∈ rest, @Ne Nat p.1 q.1) → Post r dyn' → Q r { s with heap := h', toks := tk' })
    (ho : K.lookup f = some ⟨oc, od, .func (fnOf name qual params body scope dV kV doc pm an cdv ct), osl⟩) (hcd : codeIn K cdv qual = true) (hroom : A.depth < recursionLimit)
    (hbind : BindsTo s (fnOf name qual params body scope dV kV doc pm an cdv ct) ⟨vs, []⟩ binds) (hkind : (binds.all fun y => scope.names.lookup y.1 == some .local || scope.names.lookup y.1 == some .cell) = true)
    (hnd : ((cellsFrom 0 scope.names []).map (·.1)).Nodup)
    (h : ∀ g L' h₁ tk cells, Fr g L' h₁ (bindL (envOfC qual scope L' f cdv).kindOf binds fun _ => none) → News g L' h₁ (cells ++ dyn) → (∀ p ∈ dyn, p.1 < L') →
      CellsAre (bindC (envOfC qual scope L' f cdv).kindOf binds fun _ => none) (cellsFrom (L' + 1) scope.names []) cells → Below A base (env :: outer) g → K.In g → Top p loose mean mg mb g → Pre g →
      wpAny (model prog w) (A.deeper (envOfC qual scope L' f cdv)) (execs body (envOfC qual scope L' f cdv))
        (fun fl s' => MEnd g L' s Post (match fl with | .ret v => v | _ => .none) s')
        (fun _ _ => False)
        { s with heap := h₁, toks := tk })
    (hco : scope.isCoroutine = false) (hgen : scope.isGenerator = false) (hk : scope.kind = .function) : wpAny (model prog w) A (call (.ref f) vs) Q E s := by
  refine wpAny_call ?_
  have N1 : News h₀ L s.heap dyn := fun p hp => N p (List.mem_append.mpr (.inl hp))
  refine Mine.hide ?_; intro Gq hGq
  obtain ⟨FG, BG, st, _⟩ := groundX (R := fun _ _ => True) B F N1 hA hf hke
  refine hGq ?_; clear hGq Gq
  refine codeAny_call_function hroom ((X₀.keeps F.keep) _ _ ho) rfl hco hgen rfl (codeRec_of (X₀.keeps F.keep) hcd) (hbind _ _ _ _ ?_)
  refine wpAny_newFunctionEnv_cells hk (kindsX hkind _) fun env' he s' x => ?_
  subst he
  refine ⟨(T.nolimit.keeps F.keep).keeps x.toInCall.keep, codeAny_func ?_⟩
  refine Mine.hide ?_; intro Gq hGq
  obtain ⟨h₁, tk, rfl, _⟩ := x.done
  have hk₁ := x.toInCall.keep
  obtain ⟨cells, NC, Y⟩ := Cl.news (h₀ := s.heap) (Nat.le_refl _) fun n c hm => ⟨x.cell n c (lookup_of_mem_nodup (cellsFrom_names scope.names 0 (s.heap.objs.size + 1) [] [] rfl ▸ hnd) hm), x.above n c hm⟩
  refine hGq ?_; clear hGq Gq
  have sub : ∀ b o, s.heap.get? b = some o → b ∉ dyn.map (·.1) → (hideAll s.heap (dyn.map (·.1))).get? b = some o := fun b o e n => hideAll_get _ e n
  refine wpAny_mono (h _ s.heap.objs.size h₁ tk cells ⟨x.toInCall.ns, fun b o e => hk₁ b o (of_hideAll _ e), Nat.le_of_eq (hideAll_size _ _)⟩ (fun p hp => ?_) (fun p hp => Heap.lt_size (N1 p hp).1) Y BG (X₀.keeps st) (T.keeps st) (hpre _ sub)) (fun fl s' hl => ?_) fun _ _ y => y.elim
  · rcases List.mem_append.mp hp with hp | hp
    · have z := NC p hp
      refine ⟨z.1, z.2.1, ?_⟩
      cases e : (hideAll s.heap (dyn.map (·.1))).get? p.1 with
      | none => rfl
      | some o => have := of_hideAll _ e; rw [z.2.2] at this; cases this
    · exact ⟨hk₁ _ _ (N1 p hp).1, Nat.ne_of_lt (Heap.lt_size (N1 p hp).1), hideAll_none _ (List.mem_map_of_mem hp)⟩
  · exact mend_ret Post sub (fun b o e => of_hideAll _ e) F N ne ret hl
end
-- C17
section
noncomputable def DrawP (dk ca : Addr) (k many : Int) (r : Value) (dyn' : List (Addr × Obj)) : Prop := ∃ i t t' c, r = .int i t ∧ 0 ≤ i ∧ i < many ∧ dyn' = [(dk, listOf #[.ref ca, .int (k + 1) t'] c)]
theorem draw_spec (w : World) (mean : ExcName → Option Value) (mg mb : Str → Option Value) (dk ca : Addr) (k many : Int) (tk tm : Tok) (c : Nat) (vs : List Value) (ns : List Int) (hk0 : 0 ≤ k) (hk1 : k ≤ 100) (hm : many = 2 ∨ many = 3 ∨ many = 4) (hns : IntsAre vs ns) (hl : vs.length ≤ 63) :
    SpecM w mean mg mb 800 8000 235 [.ref dk, .int many tm] [(dk, listOf #[.ref ca, .int k tk] c)]
      (fun h => h.IsList ca vs.toArray) (DrawP dk ca k many) := by
  unfold SpecM
  k_fill
  k_with_none
  k_with "kd_adr" => (first | exact List.forall_mem_nil _ | (refine List.forall_mem_cons.mpr ⟨?kdh, ?kdt⟩; (case kdh => ((try dsimp only); first | kd_ltNe | (refine Ne.symm ?_; kd_ltNe) | (simp only [*, ne_eq, not_false_eq_true]; done) | (refine neN ?_; omega))); (case kdt => kd_adr)) | kd_adrTail | fail "k_dat: an address")
  k_with "k_ne" => (refine neN ?_; (try dsimp only); first | with_reducible assumption | kd_ltNe | (refine Ne.symm ?_; first | with_reducible assumption | kd_ltNe) | (simp only [*, ne_eq, not_false_eq_true]; done) | (refine Ne.symm ?_; simp only [*, ne_eq, not_false_eq_true]; done) | (refine Nat.ne_of_lt ?_; simp only [*]; done) | (refine Nat.ne_of_gt ?_; simp only [*]; done) | omega)
  k_with "k_room" => (exact Nat.le_of_ble_eq_true rfl)
  k_with "ktr_enter" => (
    refine' Mine.enterP ?kP ?k1 ?k2 ?k3 ?k4 ?k5 ?kA ?kF ?kK ?kR ?k6 ?k7 ?k8 ?k9 ?kB ?_ ?c2 ?c3 ?c4 ?c5;
    (case kA => exact rfl); (case kF => exact rfl); (case kK => assumption); (case k1 => k_asm); (case k2 => k_asm); (case k3 => k_asm); (case k4 => k_asm); (case k5 => k_asm); (case kR => assumption);
    (case k6 => k_is); (case k7 => k_is); (case k8 => exact Nat.le_of_ble_eq_true rfl); (case k9 => exact BindsTo.of_eq rfl); (case c5 => decide); (case kB => exact locs rfl); (case c2 => exact rfl); (case c3 => exact rfl); (case c4 => exact rfl); k_whole)
  k_with "ktr_step" => (refine' IsTup.keeps ?ktx (Fr.keep ?ktF); (case ktF => k_asm); (case ktx => first | assumption | exact IsTup.keeps (by assumption) (Fr.keep (by assumption)) | (refine' IsTup.keeps ?kty (Fr.keep ?ktG); (case ktG => assumption); (case kty => exact IsTup.keeps (by assumption) (Fr.keep (by assumption))))))
  k_with "kit_at" => (refine' kitAt_tup ?kaT; (case kaT => ktr_step))
  k_with "ktf_step" => (first | assumption | exact InsF.keeps (by assumption) (Fr.keep (by assumption)) | (refine' InsF.keeps ?kfI (Fr.keep ?kfF); (case kfF => assumption); (case kfI => exact InsF.keeps (by assumption) (Fr.keep (by assumption)))))
  k_with "k_inst" => (refine' InsF.at ?kiI (Fr.keep ?kiF); (case kiF => k_asm); (case kiI => ktf_step))
  k_with "ktd_step" => (refine' Rd.keeps (Fr.keep ?kdF) ?kdx; (case kdF => k_asm); (case kdx => first | assumption | exact Rd.keeps (Fr.keep (by assumption)) (by assumption) | (refine' Rd.keeps (Fr.keep ?kdG) ?kdy; (case kdG => assumption); (case kdy => exact Rd.keeps (Fr.keep (by assumption)) (by assumption)))))
  k_with "ktn_step" => (
    refine' Mine.enterPC ?kP ?k1 ?k2 ?k3 ?k4 ?k5 ?kA ?kF ?kK ?kR ?k6 ?k7 ?k8 ?k9 ?kB ?kD ?_ ?c2 ?c3 ?c4;
    (case kA => exact rfl); (case kF => exact rfl); (case kK => assumption); (case k1 => k_asm); (case k2 => k_asm); (case k3 => k_asm); (case k4 => k_asm); (case k5 => k_asm); (case kR => assumption);
    (case k6 => k_is); (case k7 => k_is); (case k8 => exact Nat.le_of_ble_eq_true rfl); (case k9 => exact BindsTo.of_eq rfl); (case kB => exact rfl); (case kD => decide +kernel); (case c2 => exact rfl); (case c3 => exact rfl); (case c4 => exact rfl); k_whole)
  k_with "subscriptTail" => (k_here; (with_reducible show wpAny _ _ (subscriptTail _ _ (Value.ref _) (Value.int _ _)) _ _ _); k_dflt (refine' item_tupleT ?t ?a ?b ?c ?d ?_; (case t => ktr_step); (case a => decide); (case b => decide); (case c => rfl); (case d => rfl); k_whole))
  k_with "subscriptTail" => (k_here; (with_reducible show wpAny _ _ (subscriptTail _ _ (Value.ref _) (Value.int 0 _)) _ _ _); k_dflt (refine' item_tup0 ?t ?_; (case t => ktr_step); k_whole))
  k_with "k_handed" => (exact Rd.handed (by assumption))
  k_with "ktr_room" => (
    refine' Mine.enterM ?kP ?k1 ?k2 ?k3 ?k4 ?k5 ?kA ?kF ?kK ?kN ?kQ ?kR ?k6 ?k7 ?k8 ?k9 ?kB ?_ ?c2 ?c3 ?c4 ?c5;
    (case kA => exact rfl); (case kF => exact rfl); (case kK => assumption); (case k1 => k_asm); (case k2 => k_asm); (case k3 => k_asm); (case k4 => k_asm); (case k5 => k_asm); (case kN => assumption); (case kQ => assumption); (case kR => assumption);
    (case k6 => k_is); (case k7 => k_is); (case k8 => exact Nat.le_of_ble_eq_true rfl); (case k9 => exact BindsTo.of_eq rfl); (case c5 => decide); (case kB => exact locs rfl); (case c2 => exact rfl); (case c3 => exact rfl); (case c4 => exact rfl); k_whole)
  k_with "call builtin:len" => (k_here; (with_reducible show wpAny _ _ (call (Value.builtin "len") [Value.ref _]) _ _ _); k_dflt (refine' len_base ?k1 rfl ?k3 ?_; (case k1 => exact list_up (by assumption) (Fr.keep (by k_asm))); (case k3 => omega)); intro t9' tk9'; (try dsimp only); (try k_fold))
  intro gd cn cs a ccd cl outer A₀ base h₀ L m rest s Q E B F X N T hk hne hpre hret
  k_dflt ktr_room
  intro g' L' h' F' N' l1 B' X' T' hpre'
  clear hret hpre B F X N T
  k_lt l1

  (try dsimp only); (try k_fold)
  k_steps
  all_goals (try dsimp only)
  all_goals exact MEnd.intro [_] (by k_asm) (by k_asm) (fun p hp => by rw [List.mem_singleton.mp hp]; exact .head _) ⟨_, _, _, _, rfl, Int.fmod_nonneg_of_pos _ (by omega), Int.fmod_lt_of_pos _ (by omega), rfl⟩
end
-- L14
noncomputable def Off4 (x a b c : Str) (m m' : Str → Option Value) : Prop := ∀ z, z ≠ x → z ≠ a → z ≠ b → z ≠ c → m' z = m z
theorem Off4.eq {x a b c : Str} {m m' : Str → Option Value} (off : Off4 x a b c m m') :
    m' = fun z => if z = x then m' x else if z = a then m' a else if z = b then m' b else if z = c then m' c else m z := by
  funext z
  by_cases h1 : z = x
  · subst h1; simp only [if_true]
  · by_cases h2 : z = a
    · subst h2; simp only [if_neg h1, if_true]
    · by_cases h3 : z = b
      · subst h3; simp only [if_neg h1, if_neg h2, if_true]
      · by_cases h4 : z = c
        · subst h4; simp only [if_neg h1, if_neg h2, if_neg h3, if_true]
        · simp only [if_neg h1, if_neg h2, if_neg h3, if_neg h4]; exact off z h1 h2 h3 h4
theorem Off4.eq2 {x a b c : Str} {m m' : Str → Option Value} {v : Value} (off : Off4 x a b c m m') :
    (fun z => if z = x then some v else m' z) = fun z => if z = x then some v else if z = a then m' a else if z = b then m' b else if z = c then m' c else m z := by
  funext z
  by_cases h1 : z = x
  · subst h1; simp only [if_true]
  · by_cases h2 : z = a
    · subst h2; simp only [if_neg h1, if_true]
    · by_cases h3 : z = b
      · subst h3; simp only [if_neg h1, if_neg h2, if_true]
      · by_cases h4 : z = c
        · subst h4; simp only [if_neg h1, if_neg h2, if_neg h3, if_true]
        · simp only [if_neg h1, if_neg h2, if_neg h3, if_neg h4]; exact off z h1 h2 h3 h4
/-- the end of a turn over a tuple that the call has made -/
noncomputable def VTurn (h₀ : Heap) (L : Addr) (x a b c : Str) (m : Str → Option Value) (I : Addr) (oI : Obj) (T : Addr) (oT : Obj) (J : List (Addr × Obj) → Prop) (s₁ : Shared) (f : Flow) (s₂ : Shared) : Prop :=
  f = .next ∧ ∃ h' tk' m' led', s₂ = { s₁ with heap := h', toks := tk' } ∧ Fr h₀ L h' m' ∧ News h₀ L h' ((I, oI) :: (T, oT) :: led') ∧ (∀ p ∈ led', @Ne Nat p.1 I) ∧ Off4 x a b c m m' ∧ J led'
theorem VTurn.intro {h₀ : Heap} {L : Addr} {x a b c : Str} {m m' : Str → Option Value} {I T : Addr} {oI oT : Obj} {J : List (Addr × Obj) → Prop} {s₁ : Shared} {h' : Heap} {tk' : Nat} {news : List (Addr × Obj)} (led' : List (Addr × Obj))
    (F : Fr h₀ L h' m') (N : News h₀ L h' news) (q : (I, oI) ∈ news) (q2 : (T, oT) ∈ news) (sub : ∀ p ∈ led', p ∈ news) (ne : ∀ p ∈ led', @Ne Nat p.1 I) (off : Off4 x a b c m m') (j : J led') :
    VTurn h₀ L x a b c m I oI T oT J s₁ .next { s₁ with heap := h', toks := tk' } :=
  ⟨rfl, h', tk', m', led', rfl, F, fun p hp => by
    rcases List.mem_cons.mp hp with rfl | hp
    · exact N _ q
    · rcases List.mem_cons.mp hp with rfl | hp
      · exact N _ q2
      · exact N p (sub p hp), ne, off, j⟩
section
variable {prog : Program} {w : World} {A : Around} {E : Value → Shared → Prop} {s : Shared} {env : Env} {h₀ : Heap} {Q : Flow → Shared → Prop} {m : Str → Option Value} {news : List (Addr × Obj)}
theorem iter_tupJ {T : Addr} {oT : Obj} {items : List Value} {x a b c : Str} {body : List Stmt} (J : Nat → List (Addr × Obj) → Prop)
    (hh : A.handled = none) (hT1 : oT.cls = .type "tuple") (hT2 : ∃ n, oT.data = .seq items.toArray n)
    (F : Fr h₀ env.locals s.heap m) (N : News h₀ env.locals s.heap ((T, oT) :: news)) (h0 : J 0 news)
    (turn : ∀ (i : Nat) v led h tk I oI oT va vb vc (s₁ : Shared), items[i]? = some v → J i led → (∀ p ∈ led, @Ne Nat p.1 I) → @Ne Nat T I →
      Fr h₀ env.locals h (fun z => if z = x then some v else if z = a then va else if z = b then vb else if z = c then vc else m z) → News h₀ env.locals h ((I, oI) :: (T, oT) :: led) →
      wpAny (model prog w) A (execs body env) (VTurn h₀ env.locals x a b c m I oI T oT (J (i + 1)) s₁) E { s₁ with heap := h, toks := tk })
    (done : ∀ vx va vb vc led h tk, J items.length led → Fr h₀ env.locals h (fun z => if z = x then vx else if z = a then va else if z = b then vb else if z = c then vc else m z) → News h₀ env.locals h led → Q .next { s with heap := h, toks := tk }) :
    wpAny (model prog w) A (pyIter (.ref T)) (fun it s₂ => LoopAtV prog w A h₀ env x body Q E it s₂) E s := by
  have hT : IsTup s.heap T items.toArray := ⟨oT, (N _ (.head _)).1, hT1, hT2⟩
  have hTs : T < s.heap.objs.size := Heap.lt_size (N _ (.head _)).1
  have hne : T ≠ s.heap.objs.size := Nat.ne_of_lt hTs
  refine iter_tuple hT ?_
  have W := Walks.tuple (prog := prog) (w := w) hh s.heap.objs.size T hne items.toArray
  rw [List.size_toArray] at W
  have hTL : (env.locals : Nat) ≠ T := Ne.symm (N _ (.head _)).2.1
  have hT₀ : h₀.get? T = none := (N _ (.head _)).2.2
  refine ⟨_, _, _, items.length, _, _, m, news, (fun i m₁ led => Off4 x a b c m m₁ ∧ J i led), rfl, W, ?_, ?_, ?_, ⟨⟨_, Heap.get?_push_size _ rfl, rfl, rfl⟩, hT.keeps fun b o e => Heap.get?_push_of_some _ e⟩, F.push _,
    (fun p hp => ⟨Heap.get?_push_of_some _ (N p (.tail _ hp)).1, (N p (.tail _ hp)).2⟩), ⟨fun _ _ _ _ _ => rfl, h0⟩, ?_, ?_⟩
  · intro hm
    rcases List.mem_cons.mp hm with e | hm
    · exact absurd F.ns.lt (e ▸ Nat.lt_irrefl _)
    · exact hTL (List.mem_singleton.mp hm)
  · intro b hb
    rw [List.mem_singleton.mp hb]
    exact next_is_new F
  · intro p hp hI
    exact absurd (Heap.lt_size (N p (.tail _ hp)).1) ((List.mem_singleton.mp hI) ▸ Nat.lt_irrefl _)
  · rintro i v m₁ led s₁ own _ hi hP ⟨hoff, hJ⟩ hnw hsub hown hget hst F₁ N₁
    refine Mine.hide ?_; intro Gq hGq
    obtain ⟨⟨oI, hoI, _⟩, oT', hoT', _⟩ := id hst
    refine hGq ?_; clear hGq Gq
    have hIn : h₀.get? s.heap.objs.size = none := next_is_new F
    have hIown : (s.heap.objs.size, oI) ∈ own := hget _ (List.mem_cons_self ..) hIn _ hoI
    have hTown' : (T, oT') ∈ own := hget _ (List.mem_cons_of_mem _ (List.mem_cons_self ..)) hT₀ _ hoT'
    have ownOnly : ∀ p ∈ own, p = (s.heap.objs.size, oI) ∨ p = (T, oT') := by
      intro p hp
      have z := hown p hp
      obtain ⟨p1, p2⟩ := p
      rcases List.mem_cons.mp (hsub _ hp) with e | e
      · dsimp only at e z; subst e; rw [hoI] at z; cases z; exact .inl rfl
      · have e := List.mem_singleton.mp e
        dsimp only at e z; subst e; rw [hoT'] at z; cases z; exact .inr rfl
    have N₂ : News h₀ env.locals s₁.heap ((s.heap.objs.size, oI) :: (T, oT') :: led) := fun p hp => N₁ p (by
      rcases List.mem_cons.mp hp with rfl | hp
      · exact List.mem_append.mpr (.inl hIown)
      · rcases List.mem_cons.mp hp with rfl | hp
        · exact List.mem_append.mpr (.inl hTown')
        · exact List.mem_append.mpr (.inr hp))
    rw [hoff.eq2] at F₁
    refine wpAny_mono (turn i v led s₁.heap s₁.toks s.heap.objs.size oI oT' (m₁ a) (m₁ b) (m₁ c) s₁ (by simpa using hP) hJ (fun p hp e => hnw p hp (by rw [e]; exact List.mem_singleton.mpr rfl)) hne F₁ N₂) (fun f s₃ h₃ => ?_) fun _ _ e => e
    refine Mine.hide ?_; intro Gq hGq
    obtain ⟨rfl, h', tk', m', led', rfl, F', N', ne', off', j'⟩ := h₃
    refine hGq ?_; clear hGq Gq
    refine ⟨rfl, h', tk', m', led', rfl, F', fun p hp => ?_, fun p hp hI => ne' p hp (List.mem_singleton.mp hI), off', j'⟩
    rcases List.mem_append.mp hp with hp | hp
    · rcases ownOnly p hp with rfl | rfl
      · exact N' _ (.head _)
      · exact N' _ (.tail _ (.head _))
    · exact N' p (.tail _ (.tail _ hp))
  · rintro h' tk m' led F' N' _ ⟨hoff, hJ⟩
    have e := hoff.eq
    rw [e] at F'
    exact done _ _ _ _ led h' tk hJ F' N'
end
-- L15
section
variable {prog : Program} {w : World} {A : Around} {h₀ : Heap} {L : Addr} {m : Str → Option Value} {env : Env} {ct elt : PySem.Expr} {x : Str} {scope : Scope} {cl : List (Str × Addr)} {s : Shared} {S : List (Addr × Obj) → Prop} {P : Nat → Value → Prop}
  {Fin : List Value → List (Addr × Obj) → Prop} {news : List (Addr × Obj)} {n : Nat}
/-- a comprehension with a test, whose ledger turns -/
theorem restTU_ind (J : Nat → List Value → List (Addr × Obj) → Prop) (hS : ∀ i ys led, J i ys led → S led) (h0 : J 0 [] news) (fin : ∀ ys led, J n ys led → Fin ys led)
    (turn : ∀ i ys led v I oI C oC D m₂ h tk (E' : Value → Shared → Prop), i < n → J i ys led → P i v → LCg.NsObj oC m₂ → m₂ x = some v → Fr h₀ L h m → News h₀ L h ((I, oI) :: (C, oC) :: (D, LCg.lst ys) :: led) → LCg.Off3 I C D led → ((@Ne Nat I C) ∧ (@Ne Nat I D) ∧ (@Ne Nat C D)) →
      wpAny (model prog w) A (isTrue ct (compEnvC scope cl C env) (eval ct (compEnvC scope cl C env))) (fun ok s' => if ok = true then
        wpAny (model prog w) A (eval elt (compEnvC scope cl C env)) (fun y s'' => UEnd h₀ L m { s with heap := h, toks := tk } I oI C oC D (LCg.lst ys) (fun led' => J (i + 1) (ys ++ [y]) led') s'') E' s'
        else UEnd h₀ L m { s with heap := h, toks := tk } I oI C oC D (LCg.lst ys) (fun led' => J (i + 1) ys led') s') E' { s with heap := h, toks := tk }) :
    LCt.CompRestT prog w A h₀ L m env ct elt x scope cl s S P Fin n 0 [] news := by
  have key : ∀ (k i : Nat) (ys : List Value) (led : List (Addr × Obj)), i + k = n → J i ys led → LCt.CompRestT prog w A h₀ L m env ct elt x scope cl s S P Fin k i ys led := by
    intro k
    induction k with
    | zero =>
      intro i ys led e hJ
      exact LCt.CompRestT.zero (fin ys led (by rw [← e]; exact hJ))
    | succ k ih =>
      intro i ys led e hJ
      refine LCt.CompRestT.succ fun v I oI C oC D m₂ h tk E' hv hC hx F N off ne => ?_
      refine wpAny_mono (turn i ys led v I oI C oC D m₂ h tk E' (by omega) hJ hv hC hx F N off ne) (fun ok s' hq => ?_) fun _ _ y => y
      cases ok with
      | true =>
        simp only [if_true] at hq ⊢
        refine wpAny_mono hq (fun y s'' hr => ?_) fun _ _ y => y
        refine Mine.hide ?_; intro Gq hGq
        obtain ⟨h', tk', led', e1, F', N', off', hJ'⟩ := hr
        refine hGq ?_; clear hGq Gq
        exact ⟨h', tk', led', e1, F', N', off', hS _ _ _ hJ', ih (i + 1) _ _ (by omega) hJ'⟩
      | false =>
        simp only [Bool.false_eq_true, if_false] at hq ⊢
        refine Mine.hide ?_; intro Gq hGq
        obtain ⟨h', tk', led', e1, F', N', off', hJ'⟩ := hq
        refine hGq ?_; clear hGq Gq
        exact ⟨h', tk', led', e1, F', N', off', hS _ _ _ hJ', ih (i + 1) _ _ (by omega) hJ'⟩
  exact key n 0 [] news (by omega) h0
end
/-- the source: a tuple of the ledger -/
noncomputable def TSrc (prog : Program) (w : World) (A : Around) (h₀ : Heap) (L : Addr) (m : Str → Option Value) (env : Env) (ct elt : PySem.Expr) (x : Str) (scope : Scope) (cl : List (Str × Addr)) (Fin : Shared → List Value → List (Addr × Obj) → Prop) (xv : Value) (s₁ : Shared) : Prop :=
  ∃ (T : Addr) (oT : Obj) (items : List Value) (news : List (Addr × Obj)), xv = .ref T ∧ A.handled = none ∧ Fr h₀ L s₁.heap m ∧ News h₀ L s₁.heap news ∧ (T, oT) ∈ news ∧ oT.cls = .type "tuple" ∧ (∃ n, oT.data = .seq items.toArray n) ∧ items.length ≤ 1000 ∧
    ∀ g : Heap, LCt.CompRestT prog w A h₀ L m env ct elt x scope cl { s₁ with heap := g } (fun led => (T, oT) ∈ led) (fun i v => items[i]? = some v) (Fin { s₁ with heap := g }) items.length 0 [] news
open PyProof.Rows.LCg PyProof.Rows.LCt in
theorem tup_assign {prog : Program} {w : World} {A : Around} {E : Value → Shared → Prop} {s : Shared} {h₀ : Heap} {m : Str → Option Value} {env : Env} {elt iter c : PySem.Expr} {x y : Str} {px py : Pos} {scope : Scope} {cl : List (Str × Addr)} {pos spos : Pos} {Q : Flow → Shared → Prop} (F₀ : Fr h₀ env.locals s.heap m)
    (hsw : swapsWith (.ListComp elt [⟨.Name x px, iter, [c], 0⟩] scope pos) (some (.Name y py)) spos.line env = pure true)
    (hclos : closureFor scope env = pure cl) (hcell : ∀ y ∈ scope.names, y.2 ≠ .cell) (hkind : scope.kind = .function)
    (hnames : ∀ y ∈ scope.names, y.2 = .local → scope.names.lookup y.1 = some .local) (hx : scope.names.lookup x = some .local)
    (hy : env.kindOf y = some .local) (hp : (env.scope.kind == .class || (env.scope.kind == .module && env.locals != env.globals)) = false)
    (h : wpAny (model prog w) A (eval iter env) (TSrc prog w A h₀ env.locals m env c elt x scope cl (fun s₂ => FinA h₀ env.locals m s₂ y Q)) E s)
    (hs : ∀ x, foldedSetIterable iter env x = pure x := by intro _; rfl) :
    wpAny (model prog w) A (exec (.Assign [.Name y py] (.ListComp elt [⟨.Name x px, iter, [c], 0⟩] scope pos) spos) env) Q E s := by
  rw [exec_Assign_Name_used _ _ _ _ hsw]
  refine wpAny_bind (wpAny_standAt (wpAny_bind ?_))
  show wpAny _ A (do let _ ← comprehension (.ListComp elt [⟨.Name x px, iter, [c], 0⟩] scope pos) scope env _ (newList []) false (eval iter env) (some (assign (.Name y py) env))) _ _ s
  refine wpAny_bind (wpAny_mono (wpAny_comprehension_free (use := some (assign (.Name y py) env)) (Q := fun _ s' => Q .next s') rfl hs hclos hkind hnames
    (wpAny_mono h (fun xv s₁ h₁ => ?_) fun _ _ e => e)) (fun _ s' hq => wpAny_pure (wpAny_pure hq)) fun _ _ e => e)
  refine Mine.hide ?_; intro Gq hGq
  obtain ⟨T, oT, items, news, rfl, hh, F, N, hm, hT1, hT2, hsz, R⟩ := h₁
  refine hGq ?_; clear hGq Gq
  have hT : IsTup s₁.heap T items.toArray := ⟨oT, (N _ hm).1, hT1, hT2⟩
  have hlt : T < s₁.heap.objs.size := Heap.lt_size (N _ hm).1
  refine iter_tuple hT ?_
  have up : ∀ b o, s₁.heap.get? b = some o → (s₁.heap.push { cls := .type "tuple_iterator", data := .fields #[.ref T, .int 0 0] }).get? b = some o := fun b o e => Heap.get?_push_of_some _ e
  have W₀ := Walks.tuple (prog := prog) (w := w) hh s₁.heap.objs.size T (Nat.ne_of_lt hlt) items.toArray
  have W : Walks prog w A s₁.heap.objs.size [s₁.heap.objs.size, T] [s₁.heap.objs.size] items.length (fun i v => items[i]? = some v) (fun i h => h.IsTupleIter s₁.heap.objs.size T i ∧ h.IsTuple T items.toArray) :=
    ⟨W₀.sub, W₀.frame, fun i s Q E hi st hQ => W₀.item i s Q E (by simpa using hi) st fun v h' tk hP => hQ v h' tk (by simpa using hP), fun s Q E st hQ => W₀.done s Q E (by simpa using st) hQ, W₀.self⟩
  refine block_T W (by rw [sizeLine_eq]; omega) (fun i h st => by obtain ⟨o, e, _⟩ := st.1; exact ⟨o, e⟩) ?_ hcell hkind hx ⟨⟨_, Heap.get?_push_size _ rfl, rfl, rfl⟩, hT.keeps up⟩ (fun b hb => ?_)
    (F.keeps up) (N.grown up) (Nat.ne_of_lt F.ns.lt) (next_is_new F) (fun p hp => Nat.ne_of_lt (Heap.lt_size (N p hp).1)) hm (R _) ?_
  · intro i h h' o nw st e e' k N' S
    exact ⟨by obtain ⟨o', q, r⟩ := st.1; have q' := e.symm.trans q; cases q'; exact ⟨o, e', r⟩, ⟨oT, (N' _ S).1, hT1, hT2⟩⟩
  · show b < (s₁.heap.push _).objs.size
    rw [Heap.size_push]
    rcases List.mem_cons.mp hb with rfl | hb
    · exact Nat.lt_succ_self _
    · rw [List.mem_singleton.mp hb]; exact Nat.lt_succ_of_lt hlt
  · intro D C h' tk m' ys news' F' N' o1 hn hC₀ hD₀ hCL hDL hCD offC fin
    show wpAny _ A (assign (.Name y py) env (.ref D)) _ _ _
    refine wpAny_assign_Name (wpAny_storeName_local hy F'.ns (fun h₂ hn₂ hs₂ => ?_) hp)
    have hL₀ : h₀.get? env.locals = none := Heap.get?_none_of_le F'.above
    have F₂ : Fr h₀ env.locals h₂ (fun z => if z = y then some (.ref D) else m z) := ⟨hn₂, fun b o e => hs₂.extBut b o (fun q => by rw [q, hL₀] at e; cases e) (F'.keep b o e), F'.above⟩
    refine ⟨m', hn.sameBut hs₂ hCL, fun h'' hs'' => fin D h'' _ (F₂.change hs'' hCL hC₀) (fun p hp => ?_) o1⟩
    have z : h₂.get? p.1 = some p.2 := hs₂.extBut _ _ (N' p hp).2.1 (N' p hp).1
    refine ⟨hs''.extBut _ _ ?_ z, (N' p hp).2⟩
    rcases List.mem_cons.mp hp with rfl | hp
    · exact Ne.symm hCD
    · exact offC p hp
section
variable {w : World} {mean : ExcName → Option Value} {mg mb : Str → Option Value} {A A₀ : Around} {base h₀ : Heap} {outer : List Env} {L a : Addr} {m : Str → Option Value} {s : Shared} {Q E : Value → Shared → Prop} {cn : Str} {cs : Scope} {ccd : Value} {cl : List (Str × Addr)}
  {dk ca : Addr} {k many : Int} {tk tm : Tok} {c : Nat} {vs : List Value} {ns : List Int} {news : List (Addr × Obj)} {g : Obj → List (Addr × Obj)}
theorem draw_use (U : UpdF dk (listOf #[.ref ca, .int k tk] c) news g) (hca : s.heap.IsList ca vs.toArray) (hne : @Ne Nat ca dk) (hk0 : 0 ≤ k) (hk1 : k ≤ 100) (hm : many = 2 ∨ many = 3 ∨ many = 4) (hns : IntsAre vs ns) (hl : vs.length ≤ 63)
    (B : Below A₀ base outer h₀) (F : Fr h₀ L s.heap m) (X : (Mine.hd.heap_39 w.params).In h₀) (N : News h₀ L s.heap news) (T : Top Mine.hd.view_39 (looseW Mine.hd.view_39 []) mean mg mb h₀)
    (hA : A.frames = some (envX cn cs L a ccd cl :: outer)) (hh : A.handled = none) (hk : cs.kind = .function) (hd : A.depth ≤ 800) (hu : A.units ≤ 8000)
    (ret : ∀ i t t' c' h' tk', 0 ≤ i → i < many → Fr h₀ L h' m → News h₀ L h' (g (listOf #[.ref ca, .int (k + 1) t'] c')) → Q (.int i t) { s with heap := h', toks := tk' }) :
    wpAny (model PySem.Challenge.rw_np0033_01.row.prog w) A (call (.ref 235) [.ref dk, .int many tm]) Q E s := by
  refine Mine.hide ?_; intro Gq hGq
  obtain ⟨pre, post, e1, e2, n1, n2⟩ := U.split
  refine hGq ?_; clear hGq Gq
  refine specM_use (rest := pre ++ post) (draw_spec w mean mg mb dk ca k many tk tm c vs ns hk0 hk1 hm hns hl) B F X ?_ T hA hh hk hd hu ?_ ?_ ?_
  · intro p hp
    refine N p ?_
    rw [e1]
    simp only [List.cons_append, List.nil_append, List.mem_cons, List.mem_append] at hp ⊢
    rcases hp with hp | hp | hp <;> simp [hp]
  · intro p hp q hq
    rw [List.mem_singleton.mp hp]
    rcases List.mem_append.mp hq with hq | hq
    · exact Ne.symm (n1 q hq)
    · exact Ne.symm (n2 q hq)
  · intro H hH
    exact hca.at fun o e => hH ca o e (by simpa using hne)
  · intro r dyn' h' tk' F' N' ne' hq1
    refine Mine.hide ?_; intro Gq hGq
    obtain ⟨i, t, t', c', rfl, q1, q2, rfl⟩ := hq1
    refine hGq ?_; clear hGq Gq
    refine ret i t t' c' h' tk' q1 q2 F' fun p hp => N' p ?_
    rw [e2] at hp
    simp only [List.cons_append, List.nil_append, List.mem_cons, List.mem_append] at hp ⊢
    rcases hp with hp | hp | hp <;> simp [hp]
end
-- L16
noncomputable def EntOk (e : Int × PV) : Prop := (e.1 ≠ 101 → e.1 ≠ 102 → e.2.Flat) ∧ (e.1 = 101 ∨ e.1 = 102 → e.2.Ls)
/-- a side's list while it grows -/
noncomputable def SideJ (pl ce dk ca : Addr) (oc : Obj) (k b : Int) (ks : List Int) (led : List (Addr × Obj)) : Prop :=
  ∃ (P : List (Int × PV)) (fs : List Value) (k' : Int) (t' : Tok) (c1 c2 : Nat) (dyns : List (Addr × Obj)), led = (pl, listOf fs.toArray c1) :: (ce, oc) :: (dk, listOf #[.ref ca, .int k' t'] c2) :: dyns ∧ FoundRd dyns fs P ∧ (P.map (·.1)).Sublist ks ∧
    (∀ e ∈ P, EntOk e) ∧ k ≤ k' ∧ k' ≤ k + b ∧ fs.length = P.length ∧ (∀ p ∈ dyns, @Ne Nat p.1 pl ∧ @Ne Nat p.1 ce ∧ @Ne Nat p.1 dk)
section
variable {h₀ h' : Heap} {L I T pl ce dk ca : Addr} {x a b c : Str} {m m' : Str → Option Value} {oI oT oc : Obj} {s₁ : Shared} {tk' : Nat} {news dyns more : List (Addr × Obj)} {P : List (Int × PV)} {fs : List Value} {k k' k2 b1 b2 : Int} {t' : Tok} {c1 c2 : Nat} {ks ks' : List Int}
theorem side_turn0 (F : Fr h₀ L h' m') (N : News h₀ L h' news) (q : (I, oI) ∈ news) (q2 : (T, oT) ∈ news) (hpl : (pl, listOf fs.toArray c1) ∈ news) (hce : (ce, oc) ∈ news) (hdk : (dk, listOf #[.ref ca, .int k2 t'] c2) ∈ news) (hd : ∀ p ∈ dyns, p ∈ news)
    (n1 : @Ne Nat pl I ∧ @Ne Nat ce I ∧ @Ne Nat dk I ∧ ∀ p ∈ dyns, @Ne Nat p.1 I) (off : Off4 x a b c m m') (fr : FoundRd dyns fs P) (sl : (P.map (·.1)).Sublist ks) (hks : ks.Sublist ks') (ok : ∀ e ∈ P, EntOk e) (hk : k ≤ k2) (hk2 : k2 ≤ k + b2) (hf : fs.length = P.length)
    (hn : ∀ p ∈ dyns, @Ne Nat p.1 pl ∧ @Ne Nat p.1 ce ∧ @Ne Nat p.1 dk) :
    VTurn h₀ L x a b c m I oI T oT (fun led => SideJ pl ce dk ca oc k b2 ks' led) s₁ .next { s₁ with heap := h', toks := tk' } := by
  refine VTurn.intro ((pl, listOf fs.toArray c1) :: (ce, oc) :: (dk, listOf #[.ref ca, .int k2 t'] c2) :: dyns) F N q q2 (fun p hp => ?_) (fun p hp => ?_) off ⟨P, fs, k2, t', c1, c2, dyns, rfl, fr, sl.trans hks, ok, hk, hk2, hf, hn⟩
  · simp only [List.mem_cons] at hp
    rcases hp with rfl | rfl | rfl | hp
    · exact hpl
    · exact hce
    · exact hdk
    · exact hd p hp
  · simp only [List.mem_cons] at hp
    rcases hp with rfl | rfl | rfl | hp
    · exact n1.1
    · exact n1.2.1
    · exact n1.2.2.1
    · exact n1.2.2.2 p hp
theorem side_turn1 {T' : Addr} {n : Int} {V : PV} (F : Fr h₀ L h' m') (N : News h₀ L h' news) (q : (I, oI) ∈ news) (q2 : (T, oT) ∈ news) (hpl : (pl, listOf (fs.toArray.push (.ref T')) c1) ∈ news) (hce : (ce, oc) ∈ news) (hdk : (dk, listOf #[.ref ca, .int k2 t'] c2) ∈ news) (hd : ∀ p ∈ dyns, p ∈ news)
    (more : List (Addr × Obj)) (hr : LRd more (.ref T') (entD (n, V))) (hm : ∀ p ∈ more, p ∈ news) (hmn : ∀ p ∈ more, @Ne Nat p.1 I ∧ @Ne Nat p.1 pl ∧ @Ne Nat p.1 ce ∧ @Ne Nat p.1 dk)
    (n1 : @Ne Nat pl I ∧ @Ne Nat ce I ∧ @Ne Nat dk I ∧ ∀ p ∈ dyns, @Ne Nat p.1 I) (off : Off4 x a b c m m') (fr : FoundRd dyns fs P) (sl : (P.map (·.1)).Sublist ks) (hks : ks' = ks ++ [n]) (ok : ∀ e ∈ P, EntOk e) (okn : EntOk (n, V)) (hk : k ≤ k2) (hk2 : k2 ≤ k + b2) (hf : fs.length = P.length)
    (hn : ∀ p ∈ dyns, @Ne Nat p.1 pl ∧ @Ne Nat p.1 ce ∧ @Ne Nat p.1 dk) :
    VTurn h₀ L x a b c m I oI T oT (fun led => SideJ pl ce dk ca oc k b2 ks' led) s₁ .next { s₁ with heap := h', toks := tk' } := by
  subst hks
  refine VTurn.intro ((pl, listOf (fs ++ [Value.ref T']).toArray c1) :: (ce, oc) :: (dk, listOf #[.ref ca, .int k2 t'] c2) :: (more ++ dyns)) F N q q2 (fun p hp => ?_) (fun p hp => ?_) off
    ⟨P ++ [(n, V)], fs ++ [.ref T'], k2, t', c1, c2, more ++ dyns, rfl, fr.add hr, ?_, ?_, hk, hk2, by simp [hf], ?_⟩
  · simp only [List.mem_cons, List.mem_append] at hp
    rcases hp with rfl | rfl | rfl | hp | hp
    · simpa using hpl
    · exact hce
    · exact hdk
    · exact hm p hp
    · exact hd p hp
  · simp only [List.mem_cons, List.mem_append] at hp
    rcases hp with rfl | rfl | rfl | hp | hp
    · exact n1.1
    · exact n1.2.1
    · exact n1.2.2.1
    · exact (hmn p hp).1
    · exact n1.2.2.2 p hp
  · simp only [List.map_append, List.map_cons, List.map_nil]
    exact sl.append (List.Sublist.refl _)
  · intro e he
    rcases List.mem_append.mp he with he | he
    · exact ok e he
    · rw [List.mem_singleton.mp he]; exact okn
  · intro p hp
    rcases List.mem_append.mp hp with hp | hp
    · exact (hmn p hp).2
    · exact hn p hp
end
theorem ent_flat {T' : Addr} {n : Int} {t : Tok} {y : Value} {V : PV} (hy : ∀ H : Heap, Rd H y V.py) : LRd [(T', ({ cls := .type "tuple", data := .seq #[.int n t, y] } : Obj))] (.ref T') (entD (n, V)) := fun H hH =>
  Rd.tuple (vs := [.int n t, y]) ⟨_, hH (T', _) (.head _), rfl, _, rfl⟩ (.cons Rd.int (.cons (hy H) .nil))
theorem num3 {i : Nat} {v : Value} {t1 t2 t3 : Tok} (h : [Value.int 1 t1, .int 2 t2, .int 3 t3][i]? = some v) : ∃ n t, v = .int n t ∧ n = (i : Int) + 1 ∧ i < 3 ∧ ([1, 2, 3] : List Int).take (i + 1) = ([1, 2, 3] : List Int).take i ++ [n] := by
  match i, h with
  | 0, h => simp at h; exact ⟨1, t1, h.symm, rfl, by omega, rfl⟩
  | 1, h => simp at h; exact ⟨2, t2, h.symm, rfl, by omega, rfl⟩
  | 2, h => simp at h; exact ⟨3, t3, h.symm, rfl, by omega, rfl⟩
  | i + 3, h => simp at h
theorem num2 {i : Nat} {v : Value} {t1 t2 : Tok} (h : [Value.int 101 t1, .int 102 t2][i]? = some v) : ∃ n t, v = .int n t ∧ n = (i : Int) + 101 ∧ i < 2 ∧ ([1, 2, 3] ++ ([101, 102] : List Int).take (i + 1)) = ([1, 2, 3] ++ ([101, 102] : List Int).take i) ++ [n] := by
  match i, h with
  | 0, h => simp at h; exact ⟨101, t1, h.symm, rfl, by omega, rfl⟩
  | 1, h => simp at h; exact ⟨102, t2, h.symm, rfl, by omega, rfl⟩
  | i + 2, h => simp at h
theorem side_loop {prog : Program} {w : World} {A : Around} {E : Value → Shared → Prop} {s : Shared} {env : Env} {h₀ : Heap} {Q : Flow → Shared → Prop} {m : Str → Option Value} {dyns : List (Addr × Obj)} {T pl ce dk ca : Addr} {oT oc : Obj} {items fs : List Value} {x a b c : Str} {body : List Stmt}
    {k k' : Int} {t' : Tok} {c1 c2 : Nat} {P : List (Int × PV)} (bd : Nat → Int) (ks : Nat → List Int)
    (hh : A.handled = none) (hT1 : oT.cls = .type "tuple") (hT2 : ∃ n, oT.data = .seq items.toArray n) (F : Fr h₀ env.locals s.heap m) (N : News h₀ env.locals s.heap ((T, oT) :: (pl, listOf fs.toArray c1) :: (ce, oc) :: (dk, listOf #[.ref ca, .int k' t'] c2) :: dyns))
    (h1 : FoundRd dyns fs P) (h2 : (P.map (·.1)).Sublist (ks 0)) (h3 : ∀ e ∈ P, EntOk e) (h4 : k ≤ k') (h5 : k' ≤ k + bd 0) (h6 : fs.length = P.length) (h7 : ∀ p ∈ dyns, @Ne Nat p.1 pl ∧ @Ne Nat p.1 ce ∧ @Ne Nat p.1 dk)
    (turn : ∀ (i : Nat) v led h tk I oI oT va vb vc (s₁ : Shared), items[i]? = some v → SideJ pl ce dk ca oc k (bd i) (ks i) led → (∀ p ∈ led, @Ne Nat p.1 I) → @Ne Nat T I →
      Fr h₀ env.locals h (fun z => if z = x then some v else if z = a then va else if z = b then vb else if z = c then vc else m z) → News h₀ env.locals h ((I, oI) :: (T, oT) :: led) →
      wpAny (model prog w) A (execs body env) (VTurn h₀ env.locals x a b c m I oI T oT (fun led => SideJ pl ce dk ca oc k (bd (i + 1)) (ks (i + 1)) led) s₁) E { s₁ with heap := h, toks := tk })
    (done : ∀ vx va vb vc led h tk, SideJ pl ce dk ca oc k (bd items.length) (ks items.length) led → Fr h₀ env.locals h (fun z => if z = x then vx else if z = a then va else if z = b then vb else if z = c then vc else m z) → News h₀ env.locals h led → Q .next { s with heap := h, toks := tk }) :
    wpAny (model prog w) A (pyIter (.ref T)) (fun it s₂ => LoopAtV prog w A h₀ env x body Q E it s₂) E s :=
  iter_tupJ (fun i led => SideJ pl ce dk ca oc k (bd i) (ks i) led) hh hT1 hT2 F N ⟨P, fs, k', t', c1, c2, dyns, rfl, h1, h2, h3, h4, h5, h6, h7⟩ turn done
theorem item_led2 {prog : Program} {w : World} {A : Around} {E : Value → Shared → Prop} {s : Shared} {value slice : PySem.Expr} {l : Addr} {x y : Value} {k : Int} {u : Tok} {Q : Value → Shared → Prop} (hl : s.heap.IsList l #[x, y]) (h0 : 0 ≤ k) (h1 : k < 2) (h : ∀ v, v = x ∨ v = y → Q v s)
    (hs : subscripted slice false (.ref l) (.int k u) = operate [.ref l, .int k u] (getItem (.ref l) (.int k u)) := by with_unfolding_all rfl) :
    wpAny (model prog w) A (subscriptTail value slice (.ref l) (.int k u)) Q E s := by
  have e : k = 0 ∨ k = 1 := by omega
  rcases e with rfl | rfl
  · exact item_list_at (vs := [x, y]) hl (by decide) (by decide) rfl (h x (.inl rfl)) hs
  · exact item_list_at (vs := [x, y]) hl (by decide) (by decide) rfl (h y (.inr rfl)) hs
theorem two_flat {v : Value} {i : Int} {t : Tok} (h : v = .none ∨ v = .int i t) : ∃ V : PV, V.Flat ∧ ∀ H : Heap, Rd H v V.py := by
  rcases h with rfl | rfl
  · exact ⟨.nil, .inl rfl, fun H => Rd.none⟩
  · exact ⟨.int _, .inr ⟨_, rfl⟩, fun H => Rd.int⟩
theorem ne_more {a I pl ce dk : Addr} {o : Obj} (h : @Ne Nat a I ∧ @Ne Nat a pl ∧ @Ne Nat a ce ∧ @Ne Nat a dk) : ∀ p ∈ [(a, o)], @Ne Nat p.1 I ∧ @Ne Nat p.1 pl ∧ @Ne Nat p.1 ce ∧ @Ne Nat p.1 dk := fun p hp => by rw [List.mem_singleton.mp hp]; exact h
theorem mem_more {a : Addr × Obj} {l : List (Addr × Obj)} (h : a ∈ l) : ∀ p ∈ [a], p ∈ l := fun p hp => by rw [List.mem_singleton.mp hp]; exact h
noncomputable def DrawJ (A : List (Addr × Obj)) (dk ca : Addr) (k0 : Int) (dyns : List (Addr × Obj)) (i : Nat) (ys : List Value) (led : List (Addr × Obj)) : Prop :=
  ∃ ns k2 t2 c3, led = A ++ ((dk, listOf #[.ref ca, .int k2 t2] c3) :: dyns) ∧ IntsAre ys ns ∧ ys.length ≤ i ∧ k0 ≤ k2 ∧ k2 ≤ k0 + i
theorem DrawJ.start {A : List (Addr × Obj)} {dk ca : Addr} {k0 : Int} {t : Tok} {c : Nat} {dyns : List (Addr × Obj)} : DrawJ A dk ca k0 dyns 0 [] (A ++ ((dk, listOf #[.ref ca, .int k0 t] c) :: dyns)) :=
  ⟨[], k0, t, c, rfl, .nil, Nat.le_refl _, Int.le_refl _, by omega⟩
theorem draw_turn {h₀ h' : Heap} {L I C D dk ca : Addr} {m : Str → Option Value} {s₁ : Shared} {tk' : Nat} {oI oC oD o : Obj} {A dyns news : List (Addr × Obj)} {k0 k2 : Int} {t : Tok} {c i : Nat} {ys : List Value} {ns : List Int}
    (F : Fr h₀ L h' m) (N : News h₀ L h' news) (hI : (I, oI) ∈ news) (hC : (C, oC) ∈ news) (hD : (D, oD) ∈ news) (hA : ∀ p ∈ A, p ∈ news) (hdk : (dk, listOf #[.ref ca, .int k2 t] c) ∈ news) (hd : ∀ p ∈ dyns, p ∈ news) (off : LCg.Off3 I C D (A ++ ((dk, o) :: dyns)))
    (hi : IntsAre ys ns) (hl : ys.length ≤ i + 1) (h1 : k0 ≤ k2) (h2 : k2 ≤ k0 + ((i + 1 : Nat) : Int)) : UEnd h₀ L m s₁ I oI C oC D oD (fun led' => DrawJ A dk ca k0 dyns (i + 1) ys led') { s₁ with heap := h', toks := tk' } := by
  have om := off.mem
  refine UEnd.intro (A ++ ((dk, listOf #[.ref ca, .int k2 t] c) :: dyns)) F N (fun p hp => ?_) (fun p hp => ?_) ⟨ns, k2, t, c, rfl, hi, hl, h1, h2⟩
  · simp only [List.mem_cons, List.mem_append] at hp
    rcases hp with rfl | rfl | rfl | hp | rfl | hp
    · exact hI
    · exact hC
    · exact hD
    · exact hA p hp
    · exact hdk
    · exact hd p hp
  · simp only [List.mem_cons, List.mem_append] at hp
    rcases hp with hp | rfl | hp
    · exact om p (by simp [hp])
    · exact om (dk, o) (by simp)
    · exact om p (by simp [hp])
theorem allLt_mem {d : Nat} : ∀ {l : List (Addr × Obj)}, AllLt d l → ∀ p ∈ l, @LT.lt Nat _ p.1 d
  | [], _, _, h => nomatch h
  | a :: r, h, p, hp => by
    rcases List.mem_cons.mp hp with rfl | hp
    · exact h.1
    · exact allLt_mem h.2 p hp
theorem sym_turn2 {h₀ h' : Heap} {L I C D a : Addr} {m : Str → Option Value} {s₁ : Shared} {tk' : Nat} {oI oC oD : Obj} {front dyns own : List (Addr × Obj)} {ns : List Int} {i : Nat} {ys : List Value} {ts t : Tok} {n : Int}
    (F : Fr h₀ L h' m) (N : News h₀ L h' ((a, ({ cls := .type "tuple", data := .seq [Value.str (Str.ofString "symbol") ts, .int n t].toArray } : Obj)) :: (I, oI) :: (C, oC) :: (D, oD) :: (front ++ (own ++ dyns))))
    (nea : AllLt a ((I, oI) :: (C, oC) :: (D, oD) :: (front ++ (own ++ dyns))))
    (off : LCg.Off3 I C D (front ++ (own ++ dyns))) (hl : ys.length = i) (hr : ∀ H : Heap, (∀ p ∈ own, H.get? p.1 = some p.2) → RdAll H ys ((ns.take i).map symD))
    (ho : ∀ p ∈ own, ∀ q ∈ front, @Ne Nat p.1 q.1) (hn : ns[i]? = some n) :
    UEnd h₀ L m s₁ I oI C oC D oD (fun led' => SymsAt front dyns ns (i + 1) (ys ++ [.ref a]) led') { s₁ with heap := h', toks := tk' } :=
  sym_turn F N (fun p hp q hq => by rw [List.mem_singleton.mp hp]; exact Ne.symm (Nat.ne_of_lt (allLt_mem nea q hq))) off hl hr ho hn
section
variable {h₀ h' : Heap} {L I T pl ce dk ca : Addr} {x a b c : Str} {m m' : Str → Option Value} {oI oT oc : Obj} {s₁ : Shared} {tk' : Nat} {news dyns own : List (Addr × Obj)} {P : List (Int × PV)} {fs ys : List Value} {k k2 b2 : Int} {t' t1 t2 : Tok} {c1 c2 : Nat} {ks ks' ns : List Int}
theorem side_turn2 {T' LT : Addr} {n : Int} (F : Fr h₀ L h' m') (N : News h₀ L h' news) (q : (I, oI) ∈ news) (q2 : (T, oT) ∈ news) (hpl : (pl, listOf (fs.toArray.push (.ref T')) c1) ∈ news) (hce : (ce, oc) ∈ news) (hdk : (dk, listOf #[.ref ca, .int k2 t'] c2) ∈ news)
    (hT : (T', ({ cls := .type "tuple", data := .seq #[Value.int n t1, .ref LT] } : Obj)) ∈ news) (hLT : (LT, ({ cls := .type "tuple", data := .seq (Value.str (Str.ofString "list") t2 :: ys).toArray } : Obj)) ∈ news)
    (hd : ∀ p ∈ own ++ dyns, p ∈ news) (hr : ∀ H : Heap, (∀ p ∈ own, H.get? p.1 = some p.2) → RdAll H ys (ns.map symD)) (nT : @Ne Nat T' I ∧ @Ne Nat T' pl ∧ @Ne Nat T' ce ∧ @Ne Nat T' dk) (nLT : @Ne Nat LT I ∧ @Ne Nat LT pl ∧ @Ne Nat LT ce ∧ @Ne Nat LT dk)
    (nown : ∀ p ∈ own ++ dyns, @Ne Nat p.1 I ∧ @Ne Nat p.1 pl ∧ @Ne Nat p.1 ce ∧ @Ne Nat p.1 dk) (n1 : @Ne Nat pl I ∧ @Ne Nat ce I ∧ @Ne Nat dk I) (off : Off4 x a b c m m') (fr : FoundRd dyns fs P) (sl : (P.map (·.1)).Sublist ks) (hks : ks' = ks ++ [n]) (ok : ∀ e ∈ P, EntOk e) (hn : n = 101 ∨ n = 102) (hns : ns.length ≤ 100)
    (hk : k ≤ k2) (hk2 : k2 ≤ k + b2) (hf : fs.length = P.length) :
    VTurn h₀ L x a b c m I oI T oT (fun led => SideJ pl ce dk ca oc k b2 ks' led) s₁ .next { s₁ with heap := h', toks := tk' } := by
  refine side_turn1 F N q q2 hpl hce hdk (fun p hp => hd p (List.mem_append.mpr (.inr hp))) _ (tell_list (T := T') (LT := LT) (k := n) (tk := t1) (ts := t2) hr) (fun p hp => ?_) (fun p hp => ?_) ⟨n1.1, n1.2.1, n1.2.2, fun p hp => (nown p (List.mem_append.mpr (.inr hp))).1⟩ off fr sl hks ok
    ⟨fun h1 h2 => by rcases hn with h | h; exact absurd h h1; exact absurd h h2, fun _ => .inr ⟨ns, rfl, hns⟩⟩ hk hk2 hf (fun p hp => (nown p (List.mem_append.mpr (.inr hp))).2)
  · rcases List.mem_cons.mp hp with rfl | hp
    · exact hT
    · rcases List.mem_cons.mp hp with rfl | hp
      · exact hLT
      · exact hd p (List.mem_append.mpr (.inl hp))
  · rcases List.mem_cons.mp hp with rfl | hp
    · exact nT
    · rcases List.mem_cons.mp hp with rfl | hp
      · exact nLT
      · exact nown p (List.mem_append.mpr (.inl hp))
end
noncomputable def SideP (dk ca : Addr) (k : Int) (r : Value) (dyn' : List (Addr × Obj)) : Prop := ∃ P k' t' c' own, dyn' = (dk, listOf #[.ref ca, .int k' t'] c') :: own ∧ k ≤ k' ∧ k' ≤ k + 11 ∧ (P.map (·.1)).Sublist [1, 2, 3, 101, 102] ∧ (∀ e ∈ P, EntOk e) ∧ LRd own r (plD P) ∧ ∀ p ∈ own, @Ne Nat p.1 dk
theorem side_end {g h' : Heap} {L pl dk ca ce : Addr} {oc : Obj} {s : Shared} {m' : Str → Option Value} {tk' : Nat} {dyns : List (Addr × Obj)} {P : List (Int × PV)} {fs : List Value} {k k' : Int} {t' : Tok} {c1 c2 : Nat} (F : Fr g L h' m')
    (N : News g L h' ((pl, listOf fs.toArray c1) :: (ce, oc) :: (dk, listOf #[.ref ca, .int k' t'] c2) :: dyns)) (hfr : FoundRd dyns fs P) (hsl : (P.map (·.1)).Sublist [1, 2, 3, 101, 102]) (hok : ∀ e ∈ P, EntOk e) (h1 : k ≤ k') (h2 : k' ≤ k + 11) (hdn : ∀ p ∈ dyns, @Ne Nat p.1 pl ∧ @Ne Nat p.1 ce ∧ @Ne Nat p.1 dk) (hpd : @Ne Nat pl dk) :
    MEnd g L s (SideP dk ca k) (.ref pl) { s with heap := h', toks := tk' } := by
  refine MEnd.intro ((dk, listOf #[.ref ca, .int k' t'] c2) :: (pl, listOf fs.toArray c1) :: dyns) F N (fun p hp => ?_) ⟨P, k', t', c2, (pl, listOf fs.toArray c1) :: dyns, rfl, h1, h2, hsl, hok, hfr.lrd, fun p hp => ?_⟩
  · simp only [List.mem_cons] at hp ⊢
    rcases hp with h | h | h <;> simp [h]
  · rcases List.mem_cons.mp hp with rfl | hp
    · exact hpd
    · exact (hdn p hp).2.2
-- C18
section
theorem side_spec (w : World) (mean : ExcName → Option Value) (mg mb : Str → Option Value) (dk ca : Addr) (k first : Int) (tk tf : Tok) (c : Nat) (vs : List Value) (ns : List Int) (hk0 : 0 ≤ k) (hk1 : k ≤ 50) (hns : IntsAre vs ns) (hl : vs.length ≤ 63) :
    SpecM w mean mg mb 700 7000 240 [.ref dk, .int first tf] [(dk, listOf #[.ref ca, .int k tk] c)]
      (fun h => h.IsList ca vs.toArray) (SideP dk ca k) := by
  unfold SpecM
  k_fill
  k_with_none
  k_with "kd_adr" => (first | exact List.forall_mem_nil _ | (refine List.forall_mem_cons.mpr ⟨?kdh, ?kdt⟩; (case kdh => ((try dsimp only); first | kd_ltNe | (refine Ne.symm ?_; kd_ltNe) | (simp only [*, ne_eq, not_false_eq_true]; done) | (refine neN ?_; omega))); (case kdt => kd_adr)) | kd_adrTail | fail "k_dat: an address")
  k_with "k_ne" => (refine neN ?_; (try dsimp only); first | with_reducible assumption | kd_ltNe | (refine Ne.symm ?_; first | with_reducible assumption | kd_ltNe) | (simp only [*, ne_eq, not_false_eq_true]; done) | (refine Ne.symm ?_; simp only [*, ne_eq, not_false_eq_true]; done) | (refine Nat.ne_of_lt ?_; simp only [*]; done) | (refine Nat.ne_of_gt ?_; simp only [*]; done) | omega)
  k_with "k_room" => (exact Nat.le_of_ble_eq_true rfl)
  k_with "ktr_enter" => (
    refine' Mine.enterP ?kP ?k1 ?k2 ?k3 ?k4 ?k5 ?kA ?kF ?kK ?kR ?k6 ?k7 ?k8 ?k9 ?kB ?_ ?c2 ?c3 ?c4 ?c5;
    (case kA => exact rfl); (case kF => exact rfl); (case kK => assumption); (case k1 => k_asm); (case k2 => k_asm); (case k3 => k_asm); (case k4 => k_asm); (case k5 => k_asm); (case kR => assumption);
    (case k6 => k_is); (case k7 => k_is); (case k8 => exact Nat.le_of_ble_eq_true rfl); (case k9 => exact BindsTo.of_eq rfl); (case c5 => decide); (case kB => exact locs rfl); (case c2 => exact rfl); (case c3 => exact rfl); (case c4 => exact rfl); k_whole)
  k_with "ktr_step" => (refine' IsTup.keeps ?ktx (Fr.keep ?ktF); (case ktF => k_asm); (case ktx => first | assumption | exact IsTup.keeps (by assumption) (Fr.keep (by assumption)) | (refine' IsTup.keeps ?kty (Fr.keep ?ktG); (case ktG => assumption); (case kty => exact IsTup.keeps (by assumption) (Fr.keep (by assumption))))))
  k_with "kit_at" => (refine' kitAt_tup ?kaT; (case kaT => ktr_step))
  k_with "ktf_step" => (first | assumption | exact InsF.keeps (by assumption) (Fr.keep (by assumption)) | (refine' InsF.keeps ?kfI (Fr.keep ?kfF); (case kfF => assumption); (case kfI => exact InsF.keeps (by assumption) (Fr.keep (by assumption)))))
  k_with "k_inst" => (refine' InsF.at ?kiI (Fr.keep ?kiF); (case kiF => k_asm); (case kiI => ktf_step))
  k_with "ktd_step" => (refine' Rd.keeps (Fr.keep ?kdF) ?kdx; (case kdF => k_asm); (case kdx => first | assumption | exact Rd.keeps (Fr.keep (by assumption)) (by assumption) | (refine' Rd.keeps (Fr.keep ?kdG) ?kdy; (case kdG => assumption); (case kdy => exact Rd.keeps (Fr.keep (by assumption)) (by assumption)))))
  k_with "ktn_step" => (
    refine' Mine.enterPC ?kP ?k1 ?k2 ?k3 ?k4 ?k5 ?kA ?kF ?kK ?kR ?k6 ?k7 ?k8 ?k9 ?kB ?kD ?_ ?c2 ?c3 ?c4;
    (case kA => exact rfl); (case kF => exact rfl); (case kK => assumption); (case k1 => k_asm); (case k2 => k_asm); (case k3 => k_asm); (case k4 => k_asm); (case k5 => k_asm); (case kR => assumption);
    (case k6 => k_is); (case k7 => k_is); (case k8 => exact Nat.le_of_ble_eq_true rfl); (case k9 => exact BindsTo.of_eq rfl); (case kB => exact rfl); (case kD => decide +kernel); (case c2 => exact rfl); (case c3 => exact rfl); (case c4 => exact rfl); k_whole)
  k_with "subscriptTail" => (k_here; (with_reducible show wpAny _ _ (subscriptTail _ _ (Value.ref _) (Value.int _ _)) _ _ _); k_dflt (refine' item_tupleT ?t ?a ?b ?c ?d ?_; (case t => ktr_step); (case a => decide); (case b => decide); (case c => rfl); (case d => rfl); k_whole))
  k_with "subscriptTail" => (k_here; (with_reducible show wpAny _ _ (subscriptTail _ _ (Value.ref _) (Value.int 0 _)) _ _ _); k_dflt (refine' item_tup0 ?t ?_; (case t => ktr_step); k_whole))
  k_with "k_handed" => (exact Rd.handed (by assumption))
  k_with "ktr_room" => (
    refine' Mine.enterM ?kP ?k1 ?k2 ?k3 ?k4 ?k5 ?kA ?kF ?kK ?kN ?kQ ?kR ?k6 ?k7 ?k8 ?k9 ?kB ?_ ?c2 ?c3 ?c4 ?c5;
    (case kA => exact rfl); (case kF => exact rfl); (case kK => assumption); (case k1 => k_asm); (case k2 => k_asm); (case k3 => k_asm); (case k4 => k_asm); (case k5 => k_asm); (case kN => assumption); (case kQ => assumption); (case kR => assumption);
    (case k6 => k_is); (case k7 => k_is); (case k8 => exact Nat.le_of_ble_eq_true rfl); (case k9 => exact BindsTo.of_eq rfl); (case c5 => decide); (case kB => exact locs rfl); (case c2 => exact rfl); (case c3 => exact rfl); (case c4 => exact rfl); k_whole)
  k_with "pyIter ref" => (refine Stop.of ?_)
  k_with "call type:tuple" => (k_here; (with_reducible show wpAny _ _ (call (Value.type _) [Value.ref _]) _ _ _); k_dflt (refine' kde_tupleOf ?k1 ?k2 ?k3 ?k4 rfl ?_; (case k1 => k_asm); (case k2 => k_asm); (case k3 => exact News.isList (by k_asm) (by k_mem)); (case k4 => (simp only [List.size_toArray]; omega))); intro D' h9' F9' N9' l1; (try k_lt l1); (try dsimp only); (try k_fold))
  k_with "binaryOp Add ref ref" => (k_here; (with_reducible show wpAny _ _ (binaryOp Operator.Add (Value.ref _) (Value.ref _)) _ _ _); k_dflt (refine' kde_addT ?k1 ?k2 ?k3 ?k4 ?k5 ?k6 ?k7 rfl ?_; (case k1 => k_asm); (case k2 => k_asm); (case k3 => exact News.isTup (by k_asm) (by k_mem)); (case k4 => exact News.isTup (by k_asm) (by k_mem)); (case k5 => simp); (case k6 => exact toList_ne (by assumption)); (case k7 => simp; omega)); intro D' h9' F9' N9' l1; (try k_lt l1); (try dsimp only); (try k_fold))
  k_with "subscriptTail" => (k_here; (with_reducible show wpAny _ _ (subscriptTail _ _ (Value.ref _) (Value.int _ _)) _ _ _); k_dflt (refine' item_led2 ?k1 ?k2 ?k3 ?_; (case k1 => exact News.isList (by k_asm) (by k_mem)); (case k2 => omega); (case k3 => omega)); intro v9' hv9'; (try dsimp only); (try k_fold))
  k_with "exec Assign cons ListComp" => (k_here; k_dflt (refine Mine.tup_assign (F₀ := by k_asm) (by with_unfolding_all rfl) (by with_unfolding_all rfl) (by decide) (by rfl) (by decide) (by rfl) (by rfl) (by rfl) ?_))
  k_with "TSrc" => (refine Stop.of ?_)
  k_with "CompSrc" => (refine Stop.of ?_)
  k_with "exec For Name Tuple cons nil" => (k_here; (rename Fr _ _ _ _ => lF'); (with_unfolding_all refine' For_invVF lF' ?k1 ?k2 ?_; (case k1 => exact rfl); (case k2 => exact rfl); k_whole))
  k_with "call ref" => (k_here; (with_reducible show wpAny _ _ (call (Value.ref 235) _) _ _ _); (show wpAny _ _ (call (Value.ref 235) [Value.ref _, Value.int _ _]) _ _ _); k_dflt (refine' draw_use ?U ?hca ?hne ?hk0 ?hk1 ?hm ?hns ?hl ?k1 ?k2 ?k3 ?k4 ?k5 ?kA ?kH ?kK ?kd ?ku ?_; (case kA => exact rfl); (case kH => exact rfl); (case kK => exact rfl); (case k1 => k_asm); (case k2 => k_asm); (case k3 => k_asm); (case k4 => k_asm); (case k5 => k_asm); (case U => k_updF); (case hca => first | exact list_up (by assumption) (Fr.keep (by k_asm)) | exact News.isList (by k_asm) (by k_mem)); (case hne => first | assumption | omega); (case hk0 => omega); (case hk1 => omega); (case hm => first | exact .inl rfl | exact .inr (.inl rfl) | exact .inr (.inr rfl)); (case hns => assumption); (case hl => assumption); (case kd => exact Nat.le_of_ble_eq_true rfl); (case ku => exact Nat.le_of_ble_eq_true rfl)); intro i9' t9' u9' c9' h9' tk9' q9' p9' F9' N9'; (try dsimp only); (try dsimp only at N9'); (try k_fold))
  k_with "k_all" => (first | exact List.forall_mem_nil _ | with_reducible assumption | (refine' List.forall_mem_cons.mpr ⟨?a, ?b⟩; (case a => k_ne); (case b => k_all)))
  intro gd cn cs a ccd cl outer A₀ base h₀ L m rest s Q E B F X N T hk hne hpre hret
  k_dflt (refine' Mine.enterMC ?kP ?k1 ?k2 ?k3 ?k4 ?k5 ?kA ?kF ?kK ?kN ?kQ ?kR ?k6 ?k7 ?k8 ?k9 ?kB ?kD ?_ ?c2 ?c3 ?c4; (case kA => exact rfl); (case kF => exact rfl); (case kK => assumption); (case k1 => k_asm); (case k2 => k_asm); (case k3 => k_asm); (case k4 => k_asm); (case k5 => k_asm); (case kN => assumption); (case kQ => assumption); (case kR => assumption); (case k6 => k_is); (case k7 => k_is); (case k8 => exact Nat.le_of_ble_eq_true rfl); (case k9 => exact BindsTo.of_eq rfl); (case kB => exact rfl); (case kD => decide +kernel); (case c2 => exact rfl); (case c3 => exact rfl); (case c4 => exact rfl); k_whole)
  intro g' L' h' tk' cells' F' N' l1 Y' B' X' T' hpre'
  k_cells Y'
  simp only [List.cons_append, List.nil_append] at N'
  clear hret hpre B F X N T
  k_lt l1
  refine Mine.opq ?_; intro QZ hQZ
  have hcd : @Ne Nat ca dk := fun e => by
    obtain ⟨o, ho, _⟩ := hpre'
    have z := (N' (dk, _) (.tail _ (.head _))).2.2
    rw [e, z] at ho; cases ho
  (try dsimp only); (try k_fold)
  k_steps
  refine Stop.mk ?_
  (rename Fr _ _ _ _ => lF'); (rename News _ _ _ _ => lN')
  refine side_loop (a := Str.ofString "way") (b := Str.ofString "some") (c := Str.ofString "some") (items := [_, _, _]) (fs := []) (P := []) (k := k) (fun i => i) (fun i => ([1, 2, 3] : List Int).take i) (by rfl) rfl ⟨_, rfl⟩ lF' lN'
    FoundRd.nil (List.Sublist.refl _) (fun _ h => nomatch h) (Int.le_refl _) (by show k ≤ k + 0; omega) rfl (fun _ h => nomatch h) ?turn ?done
  case turn =>
    rintro i v led h tk I oI oT va vb vc s₁ hv hJ hne hTI F' N'
    refine Mine.hide ?_; intro Gq hGq
    obtain ⟨n, t, rfl, hn, hi3, hks⟩ := num3 hv
    obtain ⟨P, fs, k', t', c1, c2, dyns, rfl, hfr, hsl, hok, hk1, hk2, hfl, hdn⟩ := hJ
    refine hGq ?_; clear hGq Gq
    have hdn1 := fun p hp => (hdn p hp).1
    have hdn2 := fun p hp => (hdn p hp).2.1
    have hdn3 := fun p hp => (hdn p hp).2.2
    have hne1 := hne _ (.head _)
    have hne2 := hne _ (.tail _ (.head _))
    have hne3 := hne _ (.tail _ (.tail _ (.head _)))
    have hneD : ∀ p ∈ dyns, p.1 ≠ I := fun p hp => hne p (.tail _ (.tail _ (.tail _ hp)))
    dsimp only at hne1 hne2 hne3
    have hfs : fs.length ≤ 3 := by
      have z := hsl.length_le
      rw [List.length_map, List.length_take] at z
      have z2 := Nat.min_le_right i ([1, 2, 3] : List Int).length
      have z3 : ([1, 2, 3] : List Int).length = 3 := rfl
      omega
    refine Mine.opq ?_; intro Qq hQq
    k_steps
    all_goals (try dsimp only)
    · obtain ⟨V, hVf, hVr⟩ := two_flat (by assumption)
      refine hQq _ _ ?_
      refine side_turn1 (by k_asm) (by k_asm) (by k_mem) (by k_mem) (by k_mem) (by k_mem) (by k_mem) (by intro p hp; repeat (first | exact hp | apply List.mem_cons_of_mem)) [_] (ent_flat hVr) (mem_more (by k_mem)) (ne_more ⟨by k_ne, by k_ne, by k_ne, by k_ne⟩)
        ⟨by k_ne, by k_ne, by k_ne, hneD⟩ ?_ hfr hsl hks hok ⟨fun _ _ => hVf, fun e => by exfalso; omega⟩ (by omega) (by omega) hfl hdn
      intro z h1 h2 h3 h4
      simp only [if_neg h1, if_neg h2, if_neg h3]
    · refine hQq _ _ ?_
      refine side_turn0 (by k_asm) (by k_asm) (by k_mem) (by k_mem) (by k_mem) (by k_mem) (by k_mem) (by intro p hp; repeat (first | exact hp | apply List.mem_cons_of_mem)) ⟨by k_ne, by k_ne, by k_ne, hneD⟩ ?_ hfr hsl (hks ▸ List.sublist_append_left _ _) hok (by omega) (by omega) hfl hdn
      intro z h1 h2 h3 h4
      simp only [if_neg h1, if_neg h2, if_neg h3]
  case done =>
    intro vx va vb vc led h tk hJ F N
    refine Mine.hide ?_; intro Gq hGq
    obtain ⟨P, fs, k', t', c1, c2, dyns, rfl, hfr, hsl, hok, hk1', hk2', hfl, hdn⟩ := hJ
    refine hGq ?_; clear hGq Gq
    k_steps
    refine Stop.mk ?_
    clear lF' lN'
    (rename Fr _ _ _ _ => lF'); (rename News _ _ _ _ => lN')
    refine side_loop (a := Str.ofString "way") (b := Str.ofString "some") (c := Str.ofString "some") (items := [_, _]) (k := k) (fun i => 3 + 4 * i) (fun i => [1, 2, 3] ++ ([101, 102] : List Int).take i) (by rfl) rfl ⟨_, rfl⟩ lF' lN'
      hfr (by simpa using hsl) hok hk1' (by show k' ≤ k + (3 + 4 * 0); simp only [List.length_cons, List.length_nil] at hk2'; omega) hfl hdn ?turn2 ?done2
    case turn2 =>
      clear lF' lN' hfr hsl hok hk1' hk2' hfl hdn
      rintro i v led h tk I oI oT va vb vc s₁ hv hJ hne hTI F' N'
      refine Mine.hide ?_; intro Gq hGq
      obtain ⟨n, t, rfl, hn, hi2, hks⟩ := num2 hv
      obtain ⟨P, fs, k', t', c1, c2, dyns, rfl, hfr, hsl, hok, hk1, hk2, hfl, hdn⟩ := hJ
      refine hGq ?_; clear hGq Gq
      have hdn1 := fun p hp => (hdn p hp).1
      have hdn2 := fun p hp => (hdn p hp).2.1
      have hdn3 := fun p hp => (hdn p hp).2.2
      have hne1 := hne _ (.head _)
      have hne2 := hne _ (.tail _ (.head _))
      have hne3 := hne _ (.tail _ (.tail _ (.head _)))
      have hneD : ∀ p ∈ dyns, p.1 ≠ I := fun p hp => hne p (.tail _ (.tail _ (.tail _ hp)))
      dsimp only at hne1 hne2 hne3
      have hfs : fs.length ≤ 5 := by
        have z := hsl.length_le
        rw [List.length_map, List.length_append, List.length_take] at z
        have z2 := Nat.min_le_right i ([101, 102] : List Int).length
        have z3 : ([1, 2, 3] : List Int).length = 3 := rfl
        have z4 : ([101, 102] : List Int).length = 2 := rfl
        omega
      refine Mine.opq ?_; intro Qq hQq
      k_steps
      all_goals (try dsimp only)
      · refine hQq _ _ ?_
        refine side_turn1 (by k_asm) (by k_asm) (by k_mem) (by k_mem) (by k_mem) (by k_mem) (by k_mem) (by intro p hp; repeat (first | exact hp | apply List.mem_cons_of_mem)) [_] (ent_flat (V := .tru) fun H => Rd.bool) (mem_more (by k_mem)) (ne_more ⟨by k_ne, by k_ne, by k_ne, by k_ne⟩)
          ⟨by k_ne, by k_ne, by k_ne, hneD⟩ ?_ hfr hsl hks hok ⟨fun h1 h2 => by exfalso; omega, fun e => .inl rfl⟩ (by omega) (by omega) hfl hdn
        intro z h1 h2 h3 h4
        simp only [if_neg h1, if_neg h2, if_neg h3]
      · refine Stop.mk ?_
        refine ⟨_, _, [_, _, _], _, rfl, by rfl, by k_asm, by k_asm, by k_mem, rfl, ⟨_, rfl⟩, by simp, ?_⟩
        intro g9
        refine restTU_ind (DrawJ [_, _, _, _, _] dk ca (k' + 1) dyns) ?hS DrawJ.start ?finT ?turnT
        case hS => rintro i ys led ⟨ns, k2, t2, c3, rfl, _⟩; exact .head _
        case turnT =>
          rintro j ys led v I2 oI2 C oC D m₂ h2 tk2 E' hj hJ hv2 hC hx F N off ne
          refine Mine.hide ?_; intro Gq hGq
          obtain ⟨ns2, k2, t2, c3, rfl, hi, hyl, hka, hkb⟩ := hJ
          obtain ⟨n2, tt2, rfl, _⟩ := num3 hv2
          refine hGq ?_; clear hGq Gq
          simp only [List.length_cons, List.length_nil] at hj
          simp only [List.cons_append, List.nil_append] at N
          have off' := off
          simp only [List.cons_append, List.nil_append, LCg.Off3, and_true] at off'
          k_steps
          · exact draw_turn (A := [_, _, _, _, _]) (by k_asm) (by k_asm) (by k_mem) (by k_mem) (by k_mem) (fun p hp => by simp only [List.mem_cons, List.not_mem_nil, or_false] at hp; rcases hp with rfl | rfl | rfl | rfl | rfl <;> k_mem) (by k_mem) (by intro p hp; repeat (first | exact hp | apply List.mem_cons_of_mem)) off
              (hi.append (.cons n2 _ .nil)) (by simp; omega) (by omega) (by omega)
          · exact draw_turn (A := [_, _, _, _, _]) (by k_asm) (by k_asm) (by k_mem) (by k_mem) (by k_mem) (fun p hp => by simp only [List.mem_cons, List.not_mem_nil, or_false] at hp; rcases hp with rfl | rfl | rfl | rfl | rfl <;> k_mem) (by k_mem) (by intro p hp; repeat (first | exact hp | apply List.mem_cons_of_mem)) off
              hi (by omega) (by omega) (by omega)
        case finT =>
          intro ysT led hq1
          refine Mine.hide ?_; intro Gq hGq
          obtain ⟨ns2, k2, t2, c3, rfl, hiT, hyl, hka, hkb⟩ := hq1
          refine hGq ?_; clear hGq Gq
          simp only [List.length_cons, List.length_nil] at hyl hkb
          simp only [List.cons_append, List.nil_append]
          k_steps
          refine Stop.mk ?_
          refine LCg.CompSrc.ledger (by rfl) (by k_asm) (by k_asm) (by k_mem) (by simp only [List.size_toArray]; rw [sizeLine_eq]; omega) ?_
          intro g9
          refine restU_ind (SymsAt [_, _, _, _, _, _, _, _] dyns ns2) ?hSS SymsAt.start ?finS ?turnS
          case hSS => rintro i ys led ⟨own, rfl, _, _, _⟩; exact Or.inr ⟨_, List.mem_append.mpr (.inl (by k_mem)), rfl, _, rfl⟩
          case turnS =>
            intro j ys led v I2 oI2 C oC D m₂ h2 tk2 E' hj hJ hv hC hx F N off ne
            refine Mine.hide ?_; intro Gq hGq
            obtain ⟨own, rfl, hyl, hys, hown⟩ := hJ
            obtain ⟨n2, tt2, rfl, hn2⟩ := ints_at hiT j v (by simpa using hv)
            refine hGq ?_; clear hGq Gq
            simp only [List.cons_append, List.nil_append] at N
            k_steps
            exact sym_turn2 (front := [_, _, _, _, _, _, _, _]) (by k_asm) (by k_asm) (by assumption) off hyl hys hown hn2
          case finS =>
            intro ysS led hq1
            refine Mine.hide ?_; intro Gq hGq
            obtain ⟨ownS, rfl, hyS, hysS, hownS⟩ := hq1
            refine hGq ?_; clear hGq Gq
            have hysA := take_all hiT hysS
            have hyl2 : ysS.length ≤ 100 := by simp at hyS; omega
            obtain ⟨dy2, hdy2⟩ : ∃ z, z = ownS ++ dyns := ⟨_, rfl⟩
            have hz : ∀ p ∈ dy2, p.1 ≠ I ∧ p.1 ≠ _ ∧ p.1 ≠ _ ∧ p.1 ≠ dk := fun p hp => by
              rw [hdy2] at hp
              rcases List.mem_append.mp hp with hp | hp
              · exact ⟨hownS p hp _ (.tail _ (.tail _ (.tail _ (.head _)))), hownS p hp _ (.tail _ (.tail _ (.tail _ (.tail _ (.tail _ (.head _)))))), hownS p hp _ (.tail _ (.tail _ (.tail _ (.tail _ (.tail _ (.tail _ (.head _))))))), hownS p hp _ (.tail _ (.tail _ (.tail _ (.tail _ (.tail _ (.tail _ (.tail _ (.head _)))))))) ⟩
              · exact ⟨hneD p hp, (hdn p hp).1, (hdn p hp).2.1, (hdn p hp).2.2⟩
            have hz0 := fun p hp => (hz p hp).1
            have hz1 := fun p hp => (hz p hp).2.1
            have hz2 := fun p hp => (hz p hp).2.2.1
            have hz3 := fun p hp => (hz p hp).2.2.2
            rw [← hdy2]
            simp only [List.cons_append, List.nil_append]
            by_cases hyn : ysS = []
            · subst hyn
              k_steps
              (try dsimp only)
              refine hQq _ _ ?_
              refine side_turn2 (by k_asm) (by k_asm) (by k_mem) (by k_mem) (by k_mem) (by k_mem) (by k_mem) (by k_mem) (by k_mem) (by rw [← hdy2]; intro p hp; repeat (first | exact hp | apply List.mem_cons_of_mem)) hysA ⟨by k_ne, by k_ne, by k_ne, by k_ne⟩ ⟨by k_ne, by k_ne, by k_ne, by k_ne⟩ (hdy2 ▸ hz)
                ⟨by k_ne, by k_ne, by k_ne⟩ ?_ hfr hsl hks hok (by omega) (by have := hiT.length; omega) (by omega) (by omega) hfl
              intro z h1 h2 h3 h4
              simp only [if_neg h1, if_neg h2, if_neg h3]
            · k_steps
              (try dsimp only)
              refine hQq _ _ ?_
              refine side_turn2 (by k_asm) (by k_asm) (by k_mem) (by k_mem) (by k_mem) (by k_mem) (by k_mem) (by k_mem) (by k_mem) (by rw [← hdy2]; intro p hp; repeat (first | exact hp | apply List.mem_cons_of_mem)) hysA ⟨by k_ne, by k_ne, by k_ne, by k_ne⟩ ⟨by k_ne, by k_ne, by k_ne, by k_ne⟩ (hdy2 ▸ hz)
                ⟨by k_ne, by k_ne, by k_ne⟩ ?_ hfr hsl hks hok (by omega) (by have := hiT.length; omega) (by omega) (by omega) hfl
              intro z h1 h2 h3 h4
              simp only [if_neg h1, if_neg h2, if_neg h3]
      · refine hQq _ _ ?_
        refine side_turn0 (by k_asm) (by k_asm) (by k_mem) (by k_mem) (by k_mem) (by k_mem) (by k_mem) (by intro p hp; repeat (first | exact hp | apply List.mem_cons_of_mem)) ⟨by k_ne, by k_ne, by k_ne, hneD⟩ ?_ hfr hsl (by have z := List.sublist_append_left (([1, 2, 3] : List Int) ++ ([101, 102] : List Int).take i) [n]; rw [← hks] at z; exact z) hok (by omega) (by omega) hfl hdn
        intro z h1 h2 h3 h4
        simp only [if_neg h1, if_neg h2, if_neg h3]
    case done2 =>
      intro vx va vb vc led h tk hJ F N
      clear lF' lN' hfr hsl hok hk1' hk2' hfl hdn
      refine Mine.hide ?_; intro Gq hGq
      obtain ⟨P, fs, k', t', c1, c2, dyns, rfl, hfr, hsl, hok, hk1', hk2', hfl, hdn⟩ := hJ
      refine hGq ?_; clear hGq Gq
      k_steps
      (try dsimp only)
      refine hQZ _ _ ?_
      exact side_end (by k_asm) N hfr hsl hok hk1' (by simp only [List.length_cons, List.length_nil] at hk2'; omega) hdn (by omega)
end
-- K1
theorem lk_list_keys : typeLookup (.type "list") "keys" = pure none := am_miss_of_fast (by kernel_rfl)
theorem entry_dict_loop : entryFor table "dict.update.loop" = some Builtin.«dict.update.loop» := entryFor_of_tree (by kernel_rfl)
theorem plain_dict_loop : plainId "dict.update.loop" = true := by decide +kernel
section
variable {prog : Program} {w : World} {A : Around} {E : Value → Shared → Prop} {s : Shared}
theorem getAttrQ_miss_list {a : Addr} {o : Obj} {xs : Array Value} {k : Nat} {name : Str} {Q : Option Value → Shared → Prop}
    (hx : s.heap.get? a = some o) (hc : o.cls = .type "list") (hdat : o.data = .seq xs k) (hd : o.dict = none) (hmiss : typeLookup (.type "list") name = pure none) (hname : (["__module__", "__name__", "__qualname__", "__doc__", "__annotations__"] : List Str).contains name = false) (hA : A.handled = none)
    (h : ∀ h' tk, (∀ b o, s.heap.get? b = some o → h'.get? b = some o) → Q none { s with heap := h', toks := tk }) (hsz : name.length + 100 ≤ sizeLine := by size_fits) :
    wpAny (model prog w) A (getAttr? (.ref a) name) Q E s := by
  refine Mine.hide ?_; intro Gq hGq
  obtain ⟨c, dct, dat, sl⟩ := o
  refine hGq ?_; clear hGq Gq
  simp only at hc hdat hd
  subst hc hdat hd
  refine Mine.hide ?_; intro Gq hGq
  obtain ⟨hp, g, d, tk, os⟩ := s
  refine hGq ?_; clear hGq Gq
  have hT : ∀ tk', (⟨hp, g, d, tk', os⟩ : Shared).TypeIs (.ref a) "list" := fun _ => ⟨_, hx, rfl⟩
  have f1 := sub_AttributeError
  have f3 := F.slot_list_getattribute.lookup
  have f4 := F.slot_list_getattribute.bind (.ref a)
  have f5 := am_list_getattr_none
  unfold getAttr? getAttrBy? getAttrBy
  repeat (any_goals (first | assumption | exact hT _ | ((with_reducible show wpAny _ _ (call (Value.builtin "list.__getattribute__") _ _) _ _ _); refine call_meets F.slot_list_getattribute (hT _) am_entry_list_getattribute (F.args_list_getattribute_2 _ _) (meets_getattribute_miss_list a xs k sl name _ hmiss hname hsz) ⟨hx, hA, fun h' tk' e hx' => ?_⟩) | wp_step))
  obtain ⟨t', u', he⟩ := hx'.there
  have hTe : (⟨h', g, d, tk', os⟩ : Shared).TypeIs (.ref e) "AttributeError" := ⟨_, he, rfl⟩
  show wpAny _ _ (getattributeRaised _ _ _ _ _ _ _) _ _ _
  unfold getattributeRaised
  repeat (any_goals (first | assumption | wp_step))
  exact h _ _ hx'.keeps
end
section
variable {prog : Program} {w : World} {A : Around} {R : Result → Shared → Prop}
theorem dict_update_pairs {I l D : Addr} {items : Array Value} {kvs : List (Int × Value)} {h₀ : Heap} (hh : A.in1.handled = none) (hIl : l ≠ I) (hDI : D ≠ I) (hDl : D ≠ l) (hlen : kvs.length = items.size) (hnd : (kvs.map (·.1)).Nodup) (hsz : kvs.length ≤ sizeLine)
    (hit : ∀ (i : Nat) v, items[i]? = some v → ∃ p k t y, v = .ref p ∧ IsTup h₀ p #[.int k t, y] ∧ kvs[i]? = some (k, y) ∧ @Ne Nat p I ∧ @Ne Nat p D) :
    ∀ (k i : Nat) (s : Shared), items.size - i = k → i ≤ items.size → (∀ b o, b ≠ I → b ≠ D → h₀.get? b = some o → s.heap.get? b = some o) → s.heap.IsListIter I l i → s.heap.IsList l items → s.heap.DictOf (intKind prog w) D (kvs.take i) →
      (∀ h' tk, (∀ b o, b ≠ I → b ≠ D → h₀.get? b = some o → h'.get? b = some o) → h'.DictOf (intKind prog w) D kvs → R (.ok (.ret .none)) { s with heap := h', toks := tk }) →
      codeAny (model prog w) A (.builtin "dict.update.loop" ⟨[.ref D, .ref I, .int i 0, .none], []⟩) R s := by
  have W := Walks.list (prog := prog) (w := w) hh I l hIl items
  intro k
  induction k with
  | zero =>
    intro i s hk hi hkp hst hl hD hR
    have hin : i = items.size := by omega
    subst hin
    refine codeAny_builtin entry_dict_loop ?_
    rw [Around.under_plainId plain_dict_loop _]
    show wpAny _ A.in1 (pyNext (.ref I) >>= _) _ _ s
    refine wpAny_bind (W.done s _ _ ⟨hst, hl⟩ fun h' tk hk' => ?_)
    show wpAny _ A.in1 (Builtin.Dict.addKeywords D [] >>= _) _ _ _
    refine wpAny_bind (wpAny_pure (wpAny_pure (hR h' tk (fun b o h1 h2 e => hk' b o (by simpa using h1) (hkp b o h1 h2 e)) ?_)))
    rw [← hlen, List.take_length] at hD
    obtain ⟨o, es, ep, ho, rest⟩ := hD
    exact ⟨o, es, ep, hk' D o (by simpa using hDI) ho, rest⟩
  | succ k ih =>
    intro i s hk hi hkp hst hl hD hR
    have hlt : i < items.size := by omega
    refine codeAny_builtin entry_dict_loop ?_
    rw [Around.under_plainId plain_dict_loop _]
    show wpAny _ A.in1 (pyNext (.ref I) >>= _) _ _ s
    refine wpAny_bind (W.item i s _ _ hlt ⟨hst, hl⟩ fun v h' tk hP st' hk' => ?_)
    obtain ⟨p, key, t, y, rfl, hT, hkv, hpI, hpD⟩ := hit i v hP
    have hD' : h'.DictOf (intKind prog w) D (kvs.take i) := by
      obtain ⟨o, es, ep, ho, rest⟩ := hD
      exact ⟨o, es, ep, hk' D o (by simpa using hDI) ho, rest⟩
    have hkp' : ∀ b o, b ≠ I → b ≠ D → h₀.get? b = some o → h'.get? b = some o := fun b o h1 h2 e => hk' b o (by simpa using h1) (hkp b o h1 h2 e)
    have hT' : IsTup h' p #[.int key t, y] := by
      obtain ⟨o, ho, r⟩ := hT
      exact ⟨o, hkp' p o hpI hpD ho, r⟩
    show wpAny _ A.in1 (holding [Value.ref p] _ >>= _) _ _ _
    refine wpAny_bind (wpAny_holding (wpAny_bind (wpAny_tryCatch ?_)))
    unfold Builtin.Dict.pairItems
    obtain ⟨oT, hoT, hcT, nT, hdT⟩ := id hT'
    refine wpAny_bind (wpAny_typeOf (s := { s with heap := h', toks := tk }) ⟨oT, hoT, hcT⟩ ?_)
    simp only [show (Value.type "tuple" == Value.type "list" || Value.type "tuple" == Value.type "tuple") = true by decide, if_true]
    refine wpAny_bind (wpAny_seqItems (s := { s with heap := h', toks := tk }) hoT hdT (wpAny_pure ?_))
    show wpAny _ A.in1 (holding [Value.int key t, y] (dictSet D (.int key t) y)) _ _ _
    refine wpAny_holding (wpAny_dictSet_pairs (knd := intKind prog w) (k := key) (s := { s with heap := h', toks := tk }) (intKind_is _ _ _ _) hD' (fun h2 hD2 hs2 => ?_) (by rw [List.length_take]; omega))
    have hst2 : stored (kvs.take i) key y = kvs.take (i + 1) := by
      rw [List.take_add_one, hkv, stored, if_neg]
      · rfl
      · rw [List.any_eq_true]
        rintro ⟨⟨k', y'⟩, hm, he⟩
        have he : k' = key := of_decide_eq_true he
        subst he
        obtain ⟨j, hj, ej⟩ := List.mem_iff_getElem.mp hm
        rw [List.length_take] at hj
        rw [List.getElem_take] at ej
        obtain ⟨hi2, ei⟩ := List.getElem?_eq_some_iff.mp hkv
        have q1 : (kvs.map (·.1))[j]'(by rw [List.length_map]; omega) = k' := by rw [List.getElem_map, ej]
        have q2 : (kvs.map (·.1))[i]'(by rw [List.length_map]; omega) = k' := by rw [List.getElem_map, ei]
        exact List.pairwise_iff_getElem.mp hnd j i _ _ (by omega) (q1.trans q2.symm)
    rw [hst2] at hD2
    refine wpAny_pure ⟨plainId_quiet plain_dict_loop _, ?_⟩
    have k2 : ∀ b o, b ≠ D → h'.get? b = some o → h2.get? b = some o := fun b o h1 e => (hs2.2 b h1).trans e
    show codeAny (model prog w) A (.builtin "dict.update.loop" ⟨[.ref D, .ref I, .int ((i : Int) + 1) 0, .none], []⟩) _ _
    have := ih (i + 1) { s with heap := h2, toks := tk + 1 } (by omega) hlt (fun b o h1 h3 e => k2 b o h3 (hkp' b o h1 h3 e)) (st'.1.at fun o e => k2 I o (Ne.symm hDI) e) (st'.2.at fun o e => k2 l o (Ne.symm hDl) e) hD2 fun h3 tk3 hk3 hD3 => hR h3 tk3 hk3 hD3
    simpa using this
end
section
variable {prog : Program} {w : World} {A : Around} {E : Value → Shared → Prop} {s : Shared}
/-- dict(list of pairs) -/
theorem call_dict_pairs {l : Addr} {vs : List Value} {c : Nat} {kvs : List (Int × Value)} {Q : Value → Shared → Prop} (hh : A.handled = none) (hl : s.heap.get? l = some (listOf vs.toArray c)) (hlen : kvs.length = vs.length) (hnd : (kvs.map (·.1)).Nodup) (hsz : kvs.length ≤ 1000)
    (hit : ∀ (i : Nat) v, vs[i]? = some v → ∃ p k t y, v = .ref p ∧ IsTup s.heap p #[.int k t, y] ∧ kvs[i]? = some (k, y))
    (h : ∀ h' tk, h'.DictOf (intKind prog w) s.heap.objs.size kvs → (∀ b o, s.heap.get? b = some o → h'.get? b = some o) → Q (.ref s.heap.objs.size) { s with heap := h', toks := tk }) :
    wpAny (model prog w) A (call (.type "dict") [.ref l]) Q E s := by
  refine callType_codes (Q₁ := fun obj s₁ => obj = .ref s.heap.objs.size ∧ s₁ = { s with heap := s.heap.push { cls := .type "dict", data := .dict #[] } }) F.kt_called_dict (F.kt_typeCall_dict_1 _) F.entry_dict_init (kt_code_dict_new _ ⟨rfl, rfl⟩) ?_
  rintro obj s₁ ⟨rfl, rfl⟩
  have hnew : (s.heap.push { cls := .type "dict", data := .dict #[] }).DictOf (intKind prog w) s.heap.objs.size [] := Heap.DictOf.new s.heap
  have hlS : l < s.heap.objs.size := Heap.lt_size hl
  have hl1 : (s.heap.push { cls := .type "dict", data := .dict #[] }).get? l = some (listOf vs.toArray c) := Heap.get?_push_of_some _ hl
  refine ⟨hnew.typeIs, F.args_dict_init_2 _ _, ?_⟩
  unfold Builtin.«dict.__init__»
  refine wpAny_bind ?_
  unfold Builtin.Dict.selfAndRest
  refine wpAny_bind (wpAny_notOrdered_dict hnew.typeIs ?_)
  show wpAny _ _ (pure (s.heap.objs.size, [Value.ref l])) _ _ _
  refine wpAny_pure ?_
  show wpAny _ _ (Builtin.Dict.updateFrom "dict.__init__" s.heap.objs.size (.ref l) [] .none) _ _ _
  unfold Builtin.Dict.updateFrom
  refine wpAny_bind (wpAny_typeOf (T := "list") (s := { s with heap := s.heap.push { cls := .type "dict", data := .dict #[] } }) ⟨_, hl1, rfl⟩ ?_)
  rw [if_pos (by decide)]
  refine wpAny_bind (getAttrQ_miss_list hl1 rfl rfl rfl lk_list_keys (by decide +kernel) (by simp [hh]) (fun h1 tk1 hk1 => ?_))
  simp only [Option.isNone_none, if_true]
  refine wpAny_bind (wpAny_rule ?_)
  have hl2 : h1.IsList l vs.toArray := ⟨_, hk1 _ _ hl1, rfl, c, rfl⟩
  refine wpAny_bind (wpAny_pyIter_list (s := { s with heap := h1, toks := tk1 }) hl2 ?_)
  have hle : @LT.lt Nat _ s.heap.objs.size h1.objs.size := by
    refine Mine.hide ?_; intro Gq hGq
    obtain ⟨o, _, _, ho, _⟩ := hnew
    refine hGq ?_; clear hGq Gq
    exact Heap.lt_size (hk1 _ _ ho)
  refine wpAny_pure ⟨plainId_quiet plain_dict_loop _, ?_⟩
  refine dict_update_pairs (h₀ := s.heap) (I := h1.objs.size) (l := l) (items := vs.toArray) (kvs := kvs) (by simp [hh]) (Nat.ne_of_lt (Nat.lt_trans hlS hle)) (Nat.ne_of_lt hle) (Nat.ne_of_gt hlS) (by simpa using hlen) hnd (by rw [sizeLine_eq]; omega) ?_ _ 0 _ rfl (Nat.zero_le _) ?_ ⟨_, Heap.get?_push_size _ rfl, rfl, rfl⟩ (hl2.push _) ?_ ?_
  · intro i v hv
    refine Mine.hide ?_; intro Gq hGq
    obtain ⟨p, k, t, y, rfl, hT, hkv⟩ := hit i v (by simpa using hv)
    refine hGq ?_; clear hGq Gq
    exact ⟨p, k, t, y, rfl, hT, hkv, Nat.ne_of_lt (Nat.lt_trans hT.lt hle), Nat.ne_of_lt hT.lt⟩
  · intro b o _ _ e
    exact Heap.get?_push_of_some _ (hk1 b o (Heap.get?_push_of_some _ e))
  · rw [List.take_zero]
    refine Mine.hide ?_; intro Gq hGq
    obtain ⟨o, es, ep, ho, rest⟩ := hnew
    refine hGq ?_; clear hGq Gq
    exact ⟨o, es, ep, Heap.get?_push_of_some _ (hk1 _ _ ho), rest⟩
  · intro h' tk hk hD
    refine ⟨rfl, h h' tk hD fun b o e => hk b o ?_ ?_ e⟩
    · exact Nat.ne_of_lt (Nat.lt_trans (Heap.lt_size e) hle)
    · exact Nat.ne_of_lt (Heap.lt_size e)
end
section
variable {prog : Program} {w : World} {A : Around} {E : Value → Shared → Prop} {s : Shared} {h₀ : Heap} {L : Addr} {m : Str → Option Value} {news : List (Addr × Obj)}
theorem dict_pairs {l : Addr} {vs : List Value} {c : Nat} {kvs : List (Int × Value)} {Q : Value → Shared → Prop} (F : Fr h₀ L s.heap m) (N : News h₀ L s.heap news) (hbig : sysModules < h₀.objs.size) (hh : A.handled = none) (hl : (l, listOf vs.toArray c) ∈ news) (hlen : kvs.length = vs.length) (hnd : (kvs.map (·.1)).Nodup) (hsz : kvs.length ≤ 1000)
    (hit : ∀ (i : Nat) v, vs[i]? = some v → ∃ p k t y, v = .ref p ∧ IsTup s.heap p #[.int k t, y] ∧ kvs[i]? = some (k, y))
    (h : ∀ d o h' tk, Fr h₀ L h' m → News h₀ L h' ((d, o) :: news) → (d == sysModules) = false → o.IsDictOf (intKind prog w) kvs → (∀ p ∈ news, p.1 < d) → Q (.ref d) { s with heap := h', toks := tk }) :
    wpAny (model prog w) A (call (.type "dict") [.ref l]) Q E s := by
  refine call_dict_pairs hh (N _ hl).1 hlen hnd hsz hit fun h' tk hD hk => ?_
  obtain ⟨o, ho, hd⟩ := Heap.dictOf_iff.mp hD
  refine h _ o h' tk (F.keeps hk) (fun p hp => ?_) (F.notModules hbig) hd fun p hp => Heap.lt_size (N p hp).1
  rcases List.mem_cons.mp hp with rfl | hp
  · exact ⟨ho, Nat.ne_of_gt F.ns.lt, next_is_new F⟩
  · exact N.grown hk p hp
end
-- L17
section
variable {w : World} {mean : ExcName → Option Value} {mg mb : Str → Option Value} {A A₀ : Around} {base h₀ : Heap} {outer : List Env} {L a : Addr} {m : Str → Option Value} {s : Shared} {Q E : Value → Shared → Prop} {cn : Str} {cs : Scope} {ccd : Value} {cl : List (Str × Addr)}
  {dk ca : Addr} {k first : Int} {tk tf : Tok} {c : Nat} {vs : List Value} {ns : List Int} {news : List (Addr × Obj)} {g : Obj → List (Addr × Obj)}
theorem side_use (U : UpdF dk (listOf #[.ref ca, .int k tk] c) news g) (hca : s.heap.IsList ca vs.toArray) (hne : @Ne Nat ca dk) (hk0 : 0 ≤ k) (hk1 : k ≤ 50) (hns : IntsAre vs ns) (hl : vs.length ≤ 63)
    (B : Below A₀ base outer h₀) (F : Fr h₀ L s.heap m) (X : (Mine.hd.heap_39 w.params).In h₀) (N : News h₀ L s.heap news) (T : Top Mine.hd.view_39 (looseW Mine.hd.view_39 []) mean mg mb h₀)
    (hA : A.frames = some (envX cn cs L a ccd cl :: outer)) (hh : A.handled = none) (hk : cs.kind = .function) (hd : A.depth ≤ 700) (hu : A.units ≤ 7000)
    (ret : ∀ b own P k' t' c' h' tk', k ≤ k' → k' ≤ k + 11 → (P.map (·.1)).Sublist [1, 2, 3, 101, 102] → (∀ e ∈ P, EntOk e) → LRd own (.ref b) (plD P) → Fr h₀ L h' m → News h₀ L h' (g (listOf #[.ref ca, .int k' t'] c') ++ own) → OwnOff own ((g (listOf #[.ref ca, .int k' t'] c')).map (·.1)) → Q (.ref b) { s with heap := h', toks := tk' }) :
    wpAny (model PySem.Challenge.rw_np0033_01.row.prog w) A (call (.ref 240) [.ref dk, .int first tf]) Q E s := by
  refine Mine.hide ?_; intro Gq hGq
  obtain ⟨pre, post, e1, e2, n1, n2⟩ := U.split
  refine hGq ?_; clear hGq Gq
  refine specM_use (rest := pre ++ post) (side_spec w mean mg mb dk ca k first tk tf c vs ns hk0 hk1 hns hl) B F X ?_ T hA hh hk hd hu ?_ ?_ ?_
  · intro p hp
    refine N p ?_
    rw [e1]
    simp only [List.cons_append, List.nil_append, List.mem_cons, List.mem_append] at hp ⊢
    rcases hp with hp | hp | hp <;> simp [hp]
  · intro p hp q hq
    rw [List.mem_singleton.mp hp]
    rcases List.mem_append.mp hq with hq | hq
    · exact Ne.symm (n1 q hq)
    · exact Ne.symm (n2 q hq)
  · intro H hH
    exact hca.at fun o e => hH ca o e (by simpa using hne)
  · intro r dyn' h' tk' F' N' ne' hq1
    refine Mine.hide ?_; intro Gq hGq
    obtain ⟨P, k', t', c', own, rfl, q1, q2, q3, q4, q5, q6⟩ := hq1
    have hH : ∀ p ∈ own, h'.get? p.1 = some p.2 := fun p hp => (N' p (by simp [hp])).1
    obtain ⟨b, _, rfl, _⟩ := (q5 h' hH).list_inv
    refine hGq ?_; clear hGq Gq
    refine ret b own P k' t' c' h' tk' q1 q2 q3 q4 q5 F' (fun p hp => N' p ?_) (fun p hp b hb => ?_)
    · rw [e2] at hp
      simp only [List.cons_append, List.nil_append, List.mem_cons, List.mem_append] at hp ⊢
      rcases hp with (hp | hp | hp) | hp <;> simp [hp]
    · rw [e2] at hb
      simp only [List.map_append, List.map_cons, List.mem_append, List.mem_cons] at hb
      have k : ∀ q ∈ pre ++ post, @Ne Nat p.1 q.1 := fun q hq => ne' p (.tail _ hp) q hq
      rcases hb with hb | rfl | hb
      · obtain ⟨q, hq, rfl⟩ := List.mem_map.mp hb
        exact k q (List.mem_append.mpr (.inl hq))
      · exact q6 p hp
      · obtain ⟨q, hq, rfl⟩ := List.mem_map.mp hb
        exact k q (List.mem_append.mpr (.inr hq))
end
/-- a stop is passed -/
noncomputable def Passed (_ : Nat) : Prop := True
theorem passed (n : Nat) : Passed n := trivial
theorem ints_some {vs : List Value} {ns : List Int} (x : IntsAre vs ns) : ∃ ns, IntsAre vs ns := ⟨ns, x⟩
theorem off_sub {own : List (Addr × Obj)} {l l' : List Addr} (x : OwnOff own l) (h : ∀ b ∈ l', b ∈ l) : OwnOff own l' := fun p hp b hb => x p hp b (h b hb)
theorem off_both {own own2 : List (Addr × Obj)} {l : List Addr} (x : OwnOff own l) (y : OwnOff own2 l) : OwnOff (own ++ own2) l := fun p hp b hb => by
  rcases List.mem_append.mp hp with hp | hp
  · exact x p hp b hb
  · exact y p hp b hb
theorem LRd.left {own own2 : List (Addr × Obj)} {v : Value} {d : PyData} (x : LRd own v d) : LRd (own ++ own2) v d := fun H hH => x H fun p hp => hH p (List.mem_append.mpr (.inl hp))
theorem LRd.right {own own2 : List (Addr × Obj)} {v : Value} {d : PyData} (x : LRd own2 v d) : LRd (own ++ own2) v d := fun H hH => x H fun p hp => hH p (List.mem_append.mpr (.inr hp))
/-- a side's list -/
structure PlSide (P : List (Int × PV)) : Prop where
  sub : (P.map (·.1)).Sublist [1, 2, 3, 101, 102]
  ent : ∀ e ∈ P, EntOk e
theorem PlSide.len {P : List (Int × PV)} (x : PlSide P) : P.length ≤ 5 := by
  have := x.sub.length_le
  simpa using this
theorem heldP_key {P : List (Int × PV)} {n : Int} {V : PV} (h : heldP P n = some V) : n ∈ P.map (·.1) := List.mem_map.mpr ⟨(n, V), heldP_mem h, rfl⟩
theorem PlSide.ok {P : List (Int × PV)} (x : PlSide P) : PlOk P where
  len := Nat.le_trans x.len (by decide)
  cat := by
    cases e : heldP P 100 with
    | none => rfl
    | some V => have := x.sub.subset (heldP_key e); simp at this
  lst := by
    intro n ns h
    unfold heldV at h
    cases e : heldP P n with
    | none => rw [e] at h; cases h
    | some V =>
      rw [e] at h
      simp only [Option.getD_some] at h
      subst h
      have k := x.ent _ (heldP_mem e)
      by_cases h1 : n = 101 ∨ n = 102
      · rcases k.2 h1 with h2 | ⟨ms, h2, h3⟩
        · cases h2
        · cases h2; exact h3
      · have h2 := k.1 (fun e => h1 (.inl e)) (fun e => h1 (.inr e))
        rcases h2 with h2 | ⟨i, h2⟩ <;> cases h2
  flat := fun e he h1 h2 => (x.ent e he).1 h1 h2
theorem two_sides {h₀ h : Heap} {L t dk ca sl c4 c3 c2 c1 : Addr} {ot od oa os o4 o3 o2 o1 : Obj} {own1 own2 : List (Addr × Obj)} {v1 v2 : Value} {P1 P2 : List (Int × PV)}
    (N : News h₀ L h ((t, ot) :: (dk, od) :: (ca, oa) :: (sl, os) :: (c4, o4) :: (c3, o3) :: (c2, o2) :: (c1, o1) :: (own1 ++ own2))) (r1 : LRd own1 v1 (plD P1)) (r2 : LRd own2 v2 (plD P2)) (f1 : OwnOff own1 [dk, ca, sl, c4, c3, c2, c1])
    (f2 : OwnOff own2 (dk :: ca :: sl :: c4 :: c3 :: c2 :: c1 :: own1.map (·.1))) (s1 : (P1.map (·.1)).Sublist [1, 2, 3, 101, 102]) (e1 : ∀ e ∈ P1, EntOk e) (s2 : (P2.map (·.1)).Sublist [1, 2, 3, 101, 102]) (e2 : ∀ e ∈ P2, EntOk e) :
    ∃ dyns PL PR, News h₀ L h ((dk, od) :: (ca, oa) :: (c4, o4) :: (c3, o3) :: (c2, o2) :: (c1, o1) :: dyns) ∧ LRd dyns v1 (plD PL) ∧ LRd dyns v2 (plD PR) ∧ OwnOff dyns [dk, ca, c4, c3, c2, c1] ∧ PlSide PL ∧ PlSide PR := by
  refine ⟨own1 ++ own2, P1, P2, fun p hp => N p ?_, r1.left, r2.right, off_both (off_sub f1 fun b hb => ?_) (off_sub f2 fun b hb => ?_), ⟨s1, e1⟩, ⟨s2, e2⟩⟩
  · simp only [List.mem_cons, List.mem_append] at hp ⊢
    rcases hp with hp | hp | hp | hp | hp | hp | hp | hp <;> simp [hp]
  · simp only [List.mem_cons, List.not_mem_nil, or_false] at hb ⊢
    rcases hb with hp | hp | hp | hp | hp | hp <;> simp [hp]
  · simp only [List.mem_cons, List.not_mem_nil, or_false] at hb ⊢
    rcases hb with hp | hp | hp | hp | hp | hp <;> simp [hp]
-- L18
/-- the defaults, as far as they are told -/
noncomputable def DefKv : Nat → List (Int × Value) → Prop
  | 0, kvs => kvs = []
  | 1, kvs => ∃ a s, kvs = [(1, Value.int a s)]
  | 2, kvs => ∃ a s b t, kvs = [(1, Value.int a s), (2, Value.int b t)]
  | _ + 3, kvs => ∃ a s b t c u, kvs = [(1, Value.int a s), (2, Value.int b t), (3, Value.int c u)]
theorem DefKv.step {i : Nat} {kvs : List (Int × Value)} {z : Int} {t : Tok} {n : Int} (x : DefKv i kvs) (hi : i < 3) (hn : n = (i : Int) + 1) : DefKv (i + 1) (stored kvs n (.int z t)) := by
  subst hn
  rcases i with _ | _ | _ | i
  · have x : kvs = [] := x
    subst x; exact ⟨z, t, by simp [stored]⟩
  · obtain ⟨a, s, e⟩ : ∃ a s, kvs = [(1, Value.int a s)] := x
    subst e; exact ⟨a, s, z, t, by simp [stored]⟩
  · obtain ⟨a, s, b, u, e⟩ : ∃ a s b t, kvs = [(1, Value.int a s), (2, Value.int b t)] := x
    subst e; exact ⟨a, s, b, u, z, t, by simp [stored]⟩
  · exact absurd hi (Nat.not_lt.mpr (Nat.le_add_left 3 i))
theorem DefKv.len {i : Nat} {kvs : List (Int × Value)} (x : DefKv i kvs) : kvs.length ≤ 3 := by
  rcases i with _ | _ | _ | i
  · have x : kvs = [] := x
    subst x; decide
  · obtain ⟨a, s, e⟩ : ∃ a s, kvs = [(1, Value.int a s)] := x
    subst e; exact Nat.le_of_ble_eq_true rfl
  · obtain ⟨a, s, b, u, e⟩ : ∃ a s b t, kvs = [(1, Value.int a s), (2, Value.int b t)] := x
    subst e; exact Nat.le_of_ble_eq_true rfl
  · obtain ⟨a, s, b, t, c, u, e⟩ : ∃ a s b t c u, kvs = [(1, Value.int a s), (2, Value.int b t), (3, Value.int c u)] := x
    subst e; exact Nat.le_refl _
theorem DefKv.tab {kvs : List (Int × Value)} (x : DefKv 3 kvs) : ∃ d : Int → Int, PyProof.V.FlatPairs PyData.int kvs (dfD d) := by
  obtain ⟨a, s, b, t, c, u, rfl⟩ := x
  refine ⟨fun n => if n = 1 then a else if n = 2 then b else c, ?_⟩
  simp only [dfD]
  exact .cons (PyProof.V.Flat.int _ _) (.cons (PyProof.V.Flat.int _ _) (.cons (PyProof.V.Flat.int _ _) .nil))
theorem item_led4 {prog : Program} {w : World} {A : Around} {E : Value → Shared → Prop} {s : Shared} {value slice : PySem.Expr} {l : Addr} {a b c d : Int} {t1 t2 t3 t4 : Tok} {k : Int} {u : Tok} {Q : Value → Shared → Prop} (hl : s.heap.IsList l #[.int a t1, .int b t2, .int c t3, .int d t4]) (h0 : 0 ≤ k) (h1 : k < 4) (h : ∀ z t, Q (.int z t) s)
    (hs : subscripted slice false (.ref l) (.int k u) = operate [.ref l, .int k u] (getItem (.ref l) (.int k u)) := by with_unfolding_all rfl) :
    wpAny (model prog w) A (subscriptTail value slice (.ref l) (.int k u)) Q E s := by
  have e : k = 0 ∨ k = 1 ∨ k = 2 ∨ k = 3 := by omega
  rcases e with rfl | rfl | rfl | rfl
  · exact item_list_at (vs := [_, _, _, _]) hl (by decide) (by decide) rfl (h _ _) hs
  · exact item_list_at (vs := [_, _, _, _]) hl (by decide) (by decide) rfl (h _ _) hs
  · exact item_list_at (vs := [_, _, _, _]) hl (by decide) (by decide) rfl (h _ _) hs
  · exact item_list_at (vs := [_, _, _, _]) hl (by decide) (by decide) rfl (h _ _) hs
/-- between the turns of the loop over the defaults -/
noncomputable def DefJ (w : World) (df dk ca : Addr) (k0 : Int) (mid tail : List (Addr × Obj)) (i : Nat) (led : List (Addr × Obj)) : Prop :=
  ∃ o kvs k' t' c, led = (df, o) :: (mid ++ (dk, listOf #[.ref ca, .int k' t'] c) :: tail) ∧ o.IsDictOf (intKind PySem.Challenge.rw_np0033_01.row.prog w) kvs ∧ DefKv i kvs ∧ 0 ≤ k' ∧ k' ≤ k0 + i
section
variable {h₀ h' : Heap} {L I T df dk ca : Addr} {x a b c : Str} {m m' : Str → Option Value} {oI oT o : Obj} {s₁ : Shared} {tk' : Nat} {news mid tail : List (Addr × Obj)} {kvs : List (Int × Value)} {k k0 z n : Int} {t t' : Tok} {cc i : Nat} {w : World}
theorem def_turn (F : Fr h₀ L h' m') (N : News h₀ L h' news) (q : (I, oI) ∈ news) (q2 : (T, oT) ∈ news) (hdf : (df, o) ∈ news) (hmid : ∀ p ∈ mid, p ∈ news) (hdk : (dk, listOf #[.ref ca, .int k t'] cc) ∈ news) (htl : ∀ p ∈ tail, p ∈ news)
    {o₀ odk₀ : Obj} (ne : ∀ p ∈ (df, o₀) :: (mid ++ (dk, odk₀) :: tail), @Ne Nat p.1 I) (off : Off4 x a b c m m') (hd : o.IsDictOf (intKind PySem.Challenge.rw_np0033_01.row.prog w) (stored kvs n (.int z t))) (hk : DefKv i kvs) (hi : i < 3) (hn : n = (i : Int) + 1) (h1 : 0 ≤ k) (h2 : k ≤ k0 + ((i + 1 : Nat) : Int)) :
    VTurn h₀ L x a b c m I oI T oT (DefJ w df dk ca k0 mid tail (i + 1)) s₁ .next { s₁ with heap := h', toks := tk' } := by
  have ne' : ∀ p ∈ (df, o) :: (mid ++ (dk, listOf #[.ref ca, .int k t'] cc) :: tail), @Ne Nat p.1 I := fun p hp => by
    simp only [List.mem_cons, List.mem_append] at hp
    rcases hp with rfl | hp | rfl | hp
    · exact ne (df, o₀) (by simp)
    · exact ne p (by simp [hp])
    · exact ne (dk, odk₀) (by simp)
    · exact ne p (by simp [hp])
  refine VTurn.intro _ F N q q2 (fun p hp => ?_) ne' off ⟨o, _, k, t', cc, rfl, hd, hk.step hi hn, h1, h2⟩
  rcases List.mem_cons.mp hp with rfl | hp
  · exact hdf
  · rcases List.mem_append.mp hp with hp | hp
    · exact hmid p hp
    · rcases List.mem_cons.mp hp with rfl | hp
      · exact hdk
      · exact htl p hp
end
-- C19
section
theorem number_spec0 (w : World) (mean : ExcName → Option Value) (mg mb : Str → Option Value) (lp dx pl : Addr) (t t1 t2 t3 t4 t5 : Tok) (n : Nat) :
    Spec w mean mg mb 800 8000 179 [.ref lp, .str (Str.ofString "category") t] (fun h => InsF h lp 224 dx (lispEs w.params t1 t2 t3 t4 t5 pl) n) (IntP 100) := by
  unfold Spec
  k_fill
  k_with_none
  k_with "kd_adr" => (first | exact List.forall_mem_nil _ | (refine List.forall_mem_cons.mpr ⟨?kdh, ?kdt⟩; (case kdh => ((try dsimp only); first | kd_ltNe | (refine Ne.symm ?_; kd_ltNe) | (simp only [*, ne_eq, not_false_eq_true]; done) | (refine neN ?_; omega))); (case kdt => kd_adr)) | kd_adrTail | fail "k_dat: an address")
  k_with "k_ne" => (refine neN ?_; (try dsimp only); first | with_reducible assumption | kd_ltNe | (refine Ne.symm ?_; first | with_reducible assumption | kd_ltNe) | (simp only [*, ne_eq, not_false_eq_true]; done) | (refine Ne.symm ?_; simp only [*, ne_eq, not_false_eq_true]; done) | (refine Nat.ne_of_lt ?_; simp only [*]; done) | (refine Nat.ne_of_gt ?_; simp only [*]; done) | omega)
  k_with "k_room" => (exact Nat.le_of_ble_eq_true rfl)
  k_with "ktr_enter" => (
    refine' Mine.enterP ?kP ?k1 ?k2 ?k3 ?k4 ?k5 ?kA ?kF ?kK ?kR ?k6 ?k7 ?k8 ?k9 ?kB ?_ ?c2 ?c3 ?c4 ?c5;
    (case kA => exact rfl); (case kF => exact rfl); (case kK => assumption); (case k1 => k_asm); (case k2 => k_asm); (case k3 => k_asm); (case k4 => k_asm); (case k5 => k_asm); (case kR => assumption);
    (case k6 => k_is); (case k7 => k_is); (case k8 => exact Nat.le_of_ble_eq_true rfl); (case k9 => exact BindsTo.of_eq rfl); (case c5 => decide); (case kB => exact locs rfl); (case c2 => exact rfl); (case c3 => exact rfl); (case c4 => exact rfl); k_whole)
  k_with "ktr_step" => (refine' IsTup.keeps ?ktx (Fr.keep ?ktF); (case ktF => k_asm); (case ktx => first | assumption | exact IsTup.keeps (by assumption) (Fr.keep (by assumption)) | (refine' IsTup.keeps ?kty (Fr.keep ?ktG); (case ktG => assumption); (case kty => exact IsTup.keeps (by assumption) (Fr.keep (by assumption))))))
  k_with "kit_at" => (refine' kitAt_tup ?kaT; (case kaT => ktr_step))
  k_with "ktf_step" => (first | assumption | exact InsF.keeps (by assumption) (Fr.keep (by assumption)) | (refine' InsF.keeps ?kfI (Fr.keep ?kfF); (case kfF => assumption); (case kfI => exact InsF.keeps (by assumption) (Fr.keep (by assumption)))))
  k_with "k_inst" => (refine' InsF.at ?kiI (Fr.keep ?kiF); (case kiF => k_asm); (case kiI => ktf_step))
  k_with "ktd_step" => (refine' Rd.keeps (Fr.keep ?kdF) ?kdx; (case kdF => k_asm); (case kdx => first | assumption | exact Rd.keeps (Fr.keep (by assumption)) (by assumption) | (refine' Rd.keeps (Fr.keep ?kdG) ?kdy; (case kdG => assumption); (case kdy => exact Rd.keeps (Fr.keep (by assumption)) (by assumption)))))
  k_with "ktn_step" => (
    refine' Mine.enterPC ?kP ?k1 ?k2 ?k3 ?k4 ?k5 ?kA ?kF ?kK ?kR ?k6 ?k7 ?k8 ?k9 ?kB ?kD ?_ ?c2 ?c3 ?c4;
    (case kA => exact rfl); (case kF => exact rfl); (case kK => assumption); (case k1 => k_asm); (case k2 => k_asm); (case k3 => k_asm); (case k4 => k_asm); (case k5 => k_asm); (case kR => assumption);
    (case k6 => k_is); (case k7 => k_is); (case k8 => exact Nat.le_of_ble_eq_true rfl); (case k9 => exact BindsTo.of_eq rfl); (case kB => exact rfl); (case kD => decide +kernel); (case c2 => exact rfl); (case c3 => exact rfl); (case c4 => exact rfl); k_whole)
  k_with "subscriptTail" => (k_here; (with_reducible show wpAny _ _ (subscriptTail _ _ (Value.ref _) (Value.int _ _)) _ _ _); k_dflt (refine' item_tupleT ?t ?a ?b ?c ?d ?_; (case t => ktr_step); (case a => decide); (case b => decide); (case c => rfl); (case d => rfl); k_whole))
  k_with "subscriptTail" => (k_here; (with_reducible show wpAny _ _ (subscriptTail _ _ (Value.ref _) (Value.int 0 _)) _ _ _); k_dflt (refine' item_tup0 ?t ?_; (case t => ktr_step); k_whole))
  k_with "k_handed" => (exact Rd.handed (by assumption))
  k_with "ktr_room" => (
    refine' Mine.enterM ?kP ?k1 ?k2 ?k3 ?k4 ?k5 ?kA ?kF ?kK ?kN ?kQ ?kR ?k6 ?k7 ?k8 ?k9 ?kB ?_ ?c2 ?c3 ?c4 ?c5;
    (case kA => exact rfl); (case kF => exact rfl); (case kK => assumption); (case k1 => k_asm); (case k2 => k_asm); (case k3 => k_asm); (case k4 => k_asm); (case k5 => k_asm); (case kN => assumption); (case kQ => assumption); (case kR => assumption);
    (case k6 => k_is); (case k7 => k_is); (case k8 => exact Nat.le_of_ble_eq_true rfl); (case k9 => exact BindsTo.of_eq rfl); (case c5 => decide); (case kB => exact locs rfl); (case c2 => exact rfl); (case c3 => exact rfl); (case c4 => exact rfl); k_whole)
  k_with "getMethod ref" => (k_here; (with_reducible show wpAny _ _ (getMethod (Value.ref 158) _ _) _ _ _); k_dflt (refine' names_method ?k1 ?k2 ?_; (case k1 => k_asm); (case k2 => k_asm)))
  k_with "call builtin:tuple.index" => (k_here; (with_reducible show wpAny _ _ (call (Value.builtin "tuple.index") [Value.ref 158, Value.str _ _]) _ _ _); k_dflt ((first | refine' names_index (i := 0) ?k1 ?k2 (by decide) (by decide +kernel) (by decide +kernel) ?_ | refine' names_index (i := 1) ?k1 ?k2 (by decide) (by decide +kernel) (by decide +kernel) ?_ | refine' names_index (i := 2) ?k1 ?k2 (by decide) (by decide +kernel) (by decide +kernel) ?_ | refine' names_index (i := 3) ?k1 ?k2 (by decide) (by decide +kernel) (by decide +kernel) ?_ | refine' names_index (i := 4) ?k1 ?k2 (by decide) (by decide +kernel) (by decide +kernel) ?_); (case k1 => k_asm); (case k2 => k_asm)); intro t9' tk9'; (try dsimp only); (try k_fold))
  intro gd cn cs a ccd cl outer A₀ base h₀ L m news s Q E B F X N T hk hpre hret
  k_dflt ktr_enter
  intro g' L' h' hg F' N' B' X' T'
  (try rw [← hg] at hpre)
  clear hret B F X N T

  (try dsimp only); (try k_fold)
  k_steps
  all_goals (try dsimp only)
  exact PEnd.zero (by k_asm) ⟨rfl, _, rfl⟩

theorem number_spec1 (w : World) (mean : ExcName → Option Value) (mg mb : Str → Option Value) (lp dx pl : Addr) (t t1 t2 t3 t4 t5 : Tok) (n : Nat) :
    Spec w mean mg mb 800 8000 179 [.ref lp, .str (Str.ofString "front-sticky") t] (fun h => InsF h lp 224 dx (lispEs w.params t1 t2 t3 t4 t5 pl) n) (IntP 101) := by
  unfold Spec
  k_fill
  k_with_none
  k_with "kd_adr" => (first | exact List.forall_mem_nil _ | (refine List.forall_mem_cons.mpr ⟨?kdh, ?kdt⟩; (case kdh => ((try dsimp only); first | kd_ltNe | (refine Ne.symm ?_; kd_ltNe) | (simp only [*, ne_eq, not_false_eq_true]; done) | (refine neN ?_; omega))); (case kdt => kd_adr)) | kd_adrTail | fail "k_dat: an address")
  k_with "k_ne" => (refine neN ?_; (try dsimp only); first | with_reducible assumption | kd_ltNe | (refine Ne.symm ?_; first | with_reducible assumption | kd_ltNe) | (simp only [*, ne_eq, not_false_eq_true]; done) | (refine Ne.symm ?_; simp only [*, ne_eq, not_false_eq_true]; done) | (refine Nat.ne_of_lt ?_; simp only [*]; done) | (refine Nat.ne_of_gt ?_; simp only [*]; done) | omega)
  k_with "k_room" => (exact Nat.le_of_ble_eq_true rfl)
  k_with "ktr_enter" => (
    refine' Mine.enterP ?kP ?k1 ?k2 ?k3 ?k4 ?k5 ?kA ?kF ?kK ?kR ?k6 ?k7 ?k8 ?k9 ?kB ?_ ?c2 ?c3 ?c4 ?c5;
    (case kA => exact rfl); (case kF => exact rfl); (case kK => assumption); (case k1 => k_asm); (case k2 => k_asm); (case k3 => k_asm); (case k4 => k_asm); (case k5 => k_asm); (case kR => assumption);
    (case k6 => k_is); (case k7 => k_is); (case k8 => exact Nat.le_of_ble_eq_true rfl); (case k9 => exact BindsTo.of_eq rfl); (case c5 => decide); (case kB => exact locs rfl); (case c2 => exact rfl); (case c3 => exact rfl); (case c4 => exact rfl); k_whole)
  k_with "ktr_step" => (refine' IsTup.keeps ?ktx (Fr.keep ?ktF); (case ktF => k_asm); (case ktx => first | assumption | exact IsTup.keeps (by assumption) (Fr.keep (by assumption)) | (refine' IsTup.keeps ?kty (Fr.keep ?ktG); (case ktG => assumption); (case kty => exact IsTup.keeps (by assumption) (Fr.keep (by assumption))))))
  k_with "kit_at" => (refine' kitAt_tup ?kaT; (case kaT => ktr_step))
  k_with "ktf_step" => (first | assumption | exact InsF.keeps (by assumption) (Fr.keep (by assumption)) | (refine' InsF.keeps ?kfI (Fr.keep ?kfF); (case kfF => assumption); (case kfI => exact InsF.keeps (by assumption) (Fr.keep (by assumption)))))
  k_with "k_inst" => (refine' InsF.at ?kiI (Fr.keep ?kiF); (case kiF => k_asm); (case kiI => ktf_step))
  k_with "ktd_step" => (refine' Rd.keeps (Fr.keep ?kdF) ?kdx; (case kdF => k_asm); (case kdx => first | assumption | exact Rd.keeps (Fr.keep (by assumption)) (by assumption) | (refine' Rd.keeps (Fr.keep ?kdG) ?kdy; (case kdG => assumption); (case kdy => exact Rd.keeps (Fr.keep (by assumption)) (by assumption)))))
  k_with "ktn_step" => (
    refine' Mine.enterPC ?kP ?k1 ?k2 ?k3 ?k4 ?k5 ?kA ?kF ?kK ?kR ?k6 ?k7 ?k8 ?k9 ?kB ?kD ?_ ?c2 ?c3 ?c4;
    (case kA => exact rfl); (case kF => exact rfl); (case kK => assumption); (case k1 => k_asm); (case k2 => k_asm); (case k3 => k_asm); (case k4 => k_asm); (case k5 => k_asm); (case kR => assumption);
    (case k6 => k_is); (case k7 => k_is); (case k8 => exact Nat.le_of_ble_eq_true rfl); (case k9 => exact BindsTo.of_eq rfl); (case kB => exact rfl); (case kD => decide +kernel); (case c2 => exact rfl); (case c3 => exact rfl); (case c4 => exact rfl); k_whole)
  k_with "subscriptTail" => (k_here; (with_reducible show wpAny _ _ (subscriptTail _ _ (Value.ref _) (Value.int _ _)) _ _ _); k_dflt (refine' item_tupleT ?t ?a ?b ?c ?d ?_; (case t => ktr_step); (case a => decide); (case b => decide); (case c => rfl); (case d => rfl); k_whole))
  k_with "subscriptTail" => (k_here; (with_reducible show wpAny _ _ (subscriptTail _ _ (Value.ref _) (Value.int 0 _)) _ _ _); k_dflt (refine' item_tup0 ?t ?_; (case t => ktr_step); k_whole))
  k_with "k_handed" => (exact Rd.handed (by assumption))
  k_with "ktr_room" => (
    refine' Mine.enterM ?kP ?k1 ?k2 ?k3 ?k4 ?k5 ?kA ?kF ?kK ?kN ?kQ ?kR ?k6 ?k7 ?k8 ?k9 ?kB ?_ ?c2 ?c3 ?c4 ?c5;
    (case kA => exact rfl); (case kF => exact rfl); (case kK => assumption); (case k1 => k_asm); (case k2 => k_asm); (case k3 => k_asm); (case k4 => k_asm); (case k5 => k_asm); (case kN => assumption); (case kQ => assumption); (case kR => assumption);
    (case k6 => k_is); (case k7 => k_is); (case k8 => exact Nat.le_of_ble_eq_true rfl); (case k9 => exact BindsTo.of_eq rfl); (case c5 => decide); (case kB => exact locs rfl); (case c2 => exact rfl); (case c3 => exact rfl); (case c4 => exact rfl); k_whole)
  k_with "getMethod ref" => (k_here; (with_reducible show wpAny _ _ (getMethod (Value.ref 158) _ _) _ _ _); k_dflt (refine' names_method ?k1 ?k2 ?_; (case k1 => k_asm); (case k2 => k_asm)))
  k_with "call builtin:tuple.index" => (k_here; (with_reducible show wpAny _ _ (call (Value.builtin "tuple.index") [Value.ref 158, Value.str _ _]) _ _ _); k_dflt ((first | refine' names_index (i := 0) ?k1 ?k2 (by decide) (by decide +kernel) (by decide +kernel) ?_ | refine' names_index (i := 1) ?k1 ?k2 (by decide) (by decide +kernel) (by decide +kernel) ?_ | refine' names_index (i := 2) ?k1 ?k2 (by decide) (by decide +kernel) (by decide +kernel) ?_ | refine' names_index (i := 3) ?k1 ?k2 (by decide) (by decide +kernel) (by decide +kernel) ?_ | refine' names_index (i := 4) ?k1 ?k2 (by decide) (by decide +kernel) (by decide +kernel) ?_); (case k1 => k_asm); (case k2 => k_asm)); intro t9' tk9'; (try dsimp only); (try k_fold))
  intro gd cn cs a ccd cl outer A₀ base h₀ L m news s Q E B F X N T hk hpre hret
  k_dflt ktr_enter
  intro g' L' h' hg F' N' B' X' T'
  (try rw [← hg] at hpre)
  clear hret B F X N T

  (try dsimp only); (try k_fold)
  k_steps
  all_goals (try dsimp only)
  exact PEnd.zero (by k_asm) ⟨rfl, _, rfl⟩

theorem number_spec2 (w : World) (mean : ExcName → Option Value) (mg mb : Str → Option Value) (lp dx pl : Addr) (t t1 t2 t3 t4 t5 : Tok) (n : Nat) :
    Spec w mean mg mb 800 8000 179 [.ref lp, .str (Str.ofString "rear-nonsticky") t] (fun h => InsF h lp 224 dx (lispEs w.params t1 t2 t3 t4 t5 pl) n) (IntP 102) := by
  unfold Spec
  k_fill
  k_with_none
  k_with "kd_adr" => (first | exact List.forall_mem_nil _ | (refine List.forall_mem_cons.mpr ⟨?kdh, ?kdt⟩; (case kdh => ((try dsimp only); first | kd_ltNe | (refine Ne.symm ?_; kd_ltNe) | (simp only [*, ne_eq, not_false_eq_true]; done) | (refine neN ?_; omega))); (case kdt => kd_adr)) | kd_adrTail | fail "k_dat: an address")
  k_with "k_ne" => (refine neN ?_; (try dsimp only); first | with_reducible assumption | kd_ltNe | (refine Ne.symm ?_; first | with_reducible assumption | kd_ltNe) | (simp only [*, ne_eq, not_false_eq_true]; done) | (refine Ne.symm ?_; simp only [*, ne_eq, not_false_eq_true]; done) | (refine Nat.ne_of_lt ?_; simp only [*]; done) | (refine Nat.ne_of_gt ?_; simp only [*]; done) | omega)
  k_with "k_room" => (exact Nat.le_of_ble_eq_true rfl)
  k_with "ktr_enter" => (
    refine' Mine.enterP ?kP ?k1 ?k2 ?k3 ?k4 ?k5 ?kA ?kF ?kK ?kR ?k6 ?k7 ?k8 ?k9 ?kB ?_ ?c2 ?c3 ?c4 ?c5;
    (case kA => exact rfl); (case kF => exact rfl); (case kK => assumption); (case k1 => k_asm); (case k2 => k_asm); (case k3 => k_asm); (case k4 => k_asm); (case k5 => k_asm); (case kR => assumption);
    (case k6 => k_is); (case k7 => k_is); (case k8 => exact Nat.le_of_ble_eq_true rfl); (case k9 => exact BindsTo.of_eq rfl); (case c5 => decide); (case kB => exact locs rfl); (case c2 => exact rfl); (case c3 => exact rfl); (case c4 => exact rfl); k_whole)
  k_with "ktr_step" => (refine' IsTup.keeps ?ktx (Fr.keep ?ktF); (case ktF => k_asm); (case ktx => first | assumption | exact IsTup.keeps (by assumption) (Fr.keep (by assumption)) | (refine' IsTup.keeps ?kty (Fr.keep ?ktG); (case ktG => assumption); (case kty => exact IsTup.keeps (by assumption) (Fr.keep (by assumption))))))
  k_with "kit_at" => (refine' kitAt_tup ?kaT; (case kaT => ktr_step))
  k_with "ktf_step" => (first | assumption | exact InsF.keeps (by assumption) (Fr.keep (by assumption)) | (refine' InsF.keeps ?kfI (Fr.keep ?kfF); (case kfF => assumption); (case kfI => exact InsF.keeps (by assumption) (Fr.keep (by assumption)))))
  k_with "k_inst" => (refine' InsF.at ?kiI (Fr.keep ?kiF); (case kiF => k_asm); (case kiI => ktf_step))
  k_with "ktd_step" => (refine' Rd.keeps (Fr.keep ?kdF) ?kdx; (case kdF => k_asm); (case kdx => first | assumption | exact Rd.keeps (Fr.keep (by assumption)) (by assumption) | (refine' Rd.keeps (Fr.keep ?kdG) ?kdy; (case kdG => assumption); (case kdy => exact Rd.keeps (Fr.keep (by assumption)) (by assumption)))))
  k_with "ktn_step" => (
    refine' Mine.enterPC ?kP ?k1 ?k2 ?k3 ?k4 ?k5 ?kA ?kF ?kK ?kR ?k6 ?k7 ?k8 ?k9 ?kB ?kD ?_ ?c2 ?c3 ?c4;
    (case kA => exact rfl); (case kF => exact rfl); (case kK => assumption); (case k1 => k_asm); (case k2 => k_asm); (case k3 => k_asm); (case k4 => k_asm); (case k5 => k_asm); (case kR => assumption);
    (case k6 => k_is); (case k7 => k_is); (case k8 => exact Nat.le_of_ble_eq_true rfl); (case k9 => exact BindsTo.of_eq rfl); (case kB => exact rfl); (case kD => decide +kernel); (case c2 => exact rfl); (case c3 => exact rfl); (case c4 => exact rfl); k_whole)
  k_with "subscriptTail" => (k_here; (with_reducible show wpAny _ _ (subscriptTail _ _ (Value.ref _) (Value.int _ _)) _ _ _); k_dflt (refine' item_tupleT ?t ?a ?b ?c ?d ?_; (case t => ktr_step); (case a => decide); (case b => decide); (case c => rfl); (case d => rfl); k_whole))
  k_with "subscriptTail" => (k_here; (with_reducible show wpAny _ _ (subscriptTail _ _ (Value.ref _) (Value.int 0 _)) _ _ _); k_dflt (refine' item_tup0 ?t ?_; (case t => ktr_step); k_whole))
  k_with "k_handed" => (exact Rd.handed (by assumption))
  k_with "ktr_room" => (
    refine' Mine.enterM ?kP ?k1 ?k2 ?k3 ?k4 ?k5 ?kA ?kF ?kK ?kN ?kQ ?kR ?k6 ?k7 ?k8 ?k9 ?kB ?_ ?c2 ?c3 ?c4 ?c5;
    (case kA => exact rfl); (case kF => exact rfl); (case kK => assumption); (case k1 => k_asm); (case k2 => k_asm); (case k3 => k_asm); (case k4 => k_asm); (case k5 => k_asm); (case kN => assumption); (case kQ => assumption); (case kR => assumption);
    (case k6 => k_is); (case k7 => k_is); (case k8 => exact Nat.le_of_ble_eq_true rfl); (case k9 => exact BindsTo.of_eq rfl); (case c5 => decide); (case kB => exact locs rfl); (case c2 => exact rfl); (case c3 => exact rfl); (case c4 => exact rfl); k_whole)
  k_with "getMethod ref" => (k_here; (with_reducible show wpAny _ _ (getMethod (Value.ref 158) _ _) _ _ _); k_dflt (refine' names_method ?k1 ?k2 ?_; (case k1 => k_asm); (case k2 => k_asm)))
  k_with "call builtin:tuple.index" => (k_here; (with_reducible show wpAny _ _ (call (Value.builtin "tuple.index") [Value.ref 158, Value.str _ _]) _ _ _); k_dflt ((first | refine' names_index (i := 0) ?k1 ?k2 (by decide) (by decide +kernel) (by decide +kernel) ?_ | refine' names_index (i := 1) ?k1 ?k2 (by decide) (by decide +kernel) (by decide +kernel) ?_ | refine' names_index (i := 2) ?k1 ?k2 (by decide) (by decide +kernel) (by decide +kernel) ?_ | refine' names_index (i := 3) ?k1 ?k2 (by decide) (by decide +kernel) (by decide +kernel) ?_ | refine' names_index (i := 4) ?k1 ?k2 (by decide) (by decide +kernel) (by decide +kernel) ?_); (case k1 => k_asm); (case k2 => k_asm)); intro t9' tk9'; (try dsimp only); (try k_fold))
  intro gd cn cs a ccd cl outer A₀ base h₀ L m news s Q E B F X N T hk hpre hret
  k_dflt ktr_enter
  intro g' L' h' hg F' N' B' X' T'
  (try rw [← hg] at hpre)
  clear hret B F X N T

  (try dsimp only); (try k_fold)
  k_steps
  all_goals (try dsimp only)
  exact PEnd.zero (by k_asm) ⟨rfl, _, rfl⟩

theorem number_spec3 (w : World) (mean : ExcName → Option Value) (mg mb : Str → Option Value) (lp dx pl : Addr) (t t1 t2 t3 t4 t5 : Tok) (n : Nat) :
    Spec w mean mg mb 800 8000 179 [.ref lp, .str (Str.ofString "evaporate") t] (fun h => InsF h lp 224 dx (lispEs w.params t1 t2 t3 t4 t5 pl) n) (IntP 103) := by
  unfold Spec
  k_fill
  k_with_none
  k_with "kd_adr" => (first | exact List.forall_mem_nil _ | (refine List.forall_mem_cons.mpr ⟨?kdh, ?kdt⟩; (case kdh => ((try dsimp only); first | kd_ltNe | (refine Ne.symm ?_; kd_ltNe) | (simp only [*, ne_eq, not_false_eq_true]; done) | (refine neN ?_; omega))); (case kdt => kd_adr)) | kd_adrTail | fail "k_dat: an address")
  k_with "k_ne" => (refine neN ?_; (try dsimp only); first | with_reducible assumption | kd_ltNe | (refine Ne.symm ?_; first | with_reducible assumption | kd_ltNe) | (simp only [*, ne_eq, not_false_eq_true]; done) | (refine Ne.symm ?_; simp only [*, ne_eq, not_false_eq_true]; done) | (refine Nat.ne_of_lt ?_; simp only [*]; done) | (refine Nat.ne_of_gt ?_; simp only [*]; done) | omega)
  k_with "k_room" => (exact Nat.le_of_ble_eq_true rfl)
  k_with "ktr_enter" => (
    refine' Mine.enterP ?kP ?k1 ?k2 ?k3 ?k4 ?k5 ?kA ?kF ?kK ?kR ?k6 ?k7 ?k8 ?k9 ?kB ?_ ?c2 ?c3 ?c4 ?c5;
    (case kA => exact rfl); (case kF => exact rfl); (case kK => assumption); (case k1 => k_asm); (case k2 => k_asm); (case k3 => k_asm); (case k4 => k_asm); (case k5 => k_asm); (case kR => assumption);
    (case k6 => k_is); (case k7 => k_is); (case k8 => exact Nat.le_of_ble_eq_true rfl); (case k9 => exact BindsTo.of_eq rfl); (case c5 => decide); (case kB => exact locs rfl); (case c2 => exact rfl); (case c3 => exact rfl); (case c4 => exact rfl); k_whole)
  k_with "ktr_step" => (refine' IsTup.keeps ?ktx (Fr.keep ?ktF); (case ktF => k_asm); (case ktx => first | assumption | exact IsTup.keeps (by assumption) (Fr.keep (by assumption)) | (refine' IsTup.keeps ?kty (Fr.keep ?ktG); (case ktG => assumption); (case kty => exact IsTup.keeps (by assumption) (Fr.keep (by assumption))))))
  k_with "kit_at" => (refine' kitAt_tup ?kaT; (case kaT => ktr_step))
  k_with "ktf_step" => (first | assumption | exact InsF.keeps (by assumption) (Fr.keep (by assumption)) | (refine' InsF.keeps ?kfI (Fr.keep ?kfF); (case kfF => assumption); (case kfI => exact InsF.keeps (by assumption) (Fr.keep (by assumption)))))
  k_with "k_inst" => (refine' InsF.at ?kiI (Fr.keep ?kiF); (case kiF => k_asm); (case kiI => ktf_step))
  k_with "ktd_step" => (refine' Rd.keeps (Fr.keep ?kdF) ?kdx; (case kdF => k_asm); (case kdx => first | assumption | exact Rd.keeps (Fr.keep (by assumption)) (by assumption) | (refine' Rd.keeps (Fr.keep ?kdG) ?kdy; (case kdG => assumption); (case kdy => exact Rd.keeps (Fr.keep (by assumption)) (by assumption)))))
  k_with "ktn_step" => (
    refine' Mine.enterPC ?kP ?k1 ?k2 ?k3 ?k4 ?k5 ?kA ?kF ?kK ?kR ?k6 ?k7 ?k8 ?k9 ?kB ?kD ?_ ?c2 ?c3 ?c4;
    (case kA => exact rfl); (case kF => exact rfl); (case kK => assumption); (case k1 => k_asm); (case k2 => k_asm); (case k3 => k_asm); (case k4 => k_asm); (case k5 => k_asm); (case kR => assumption);
    (case k6 => k_is); (case k7 => k_is); (case k8 => exact Nat.le_of_ble_eq_true rfl); (case k9 => exact BindsTo.of_eq rfl); (case kB => exact rfl); (case kD => decide +kernel); (case c2 => exact rfl); (case c3 => exact rfl); (case c4 => exact rfl); k_whole)
  k_with "subscriptTail" => (k_here; (with_reducible show wpAny _ _ (subscriptTail _ _ (Value.ref _) (Value.int _ _)) _ _ _); k_dflt (refine' item_tupleT ?t ?a ?b ?c ?d ?_; (case t => ktr_step); (case a => decide); (case b => decide); (case c => rfl); (case d => rfl); k_whole))
  k_with "subscriptTail" => (k_here; (with_reducible show wpAny _ _ (subscriptTail _ _ (Value.ref _) (Value.int 0 _)) _ _ _); k_dflt (refine' item_tup0 ?t ?_; (case t => ktr_step); k_whole))
  k_with "k_handed" => (exact Rd.handed (by assumption))
  k_with "ktr_room" => (
    refine' Mine.enterM ?kP ?k1 ?k2 ?k3 ?k4 ?k5 ?kA ?kF ?kK ?kN ?kQ ?kR ?k6 ?k7 ?k8 ?k9 ?kB ?_ ?c2 ?c3 ?c4 ?c5;
    (case kA => exact rfl); (case kF => exact rfl); (case kK => assumption); (case k1 => k_asm); (case k2 => k_asm); (case k3 => k_asm); (case k4 => k_asm); (case k5 => k_asm); (case kN => assumption); (case kQ => assumption); (case kR => assumption);
    (case k6 => k_is); (case k7 => k_is); (case k8 => exact Nat.le_of_ble_eq_true rfl); (case k9 => exact BindsTo.of_eq rfl); (case c5 => decide); (case kB => exact locs rfl); (case c2 => exact rfl); (case c3 => exact rfl); (case c4 => exact rfl); k_whole)
  k_with "getMethod ref" => (k_here; (with_reducible show wpAny _ _ (getMethod (Value.ref 158) _ _) _ _ _); k_dflt (refine' names_method ?k1 ?k2 ?_; (case k1 => k_asm); (case k2 => k_asm)))
  k_with "call builtin:tuple.index" => (k_here; (with_reducible show wpAny _ _ (call (Value.builtin "tuple.index") [Value.ref 158, Value.str _ _]) _ _ _); k_dflt ((first | refine' names_index (i := 0) ?k1 ?k2 (by decide) (by decide +kernel) (by decide +kernel) ?_ | refine' names_index (i := 1) ?k1 ?k2 (by decide) (by decide +kernel) (by decide +kernel) ?_ | refine' names_index (i := 2) ?k1 ?k2 (by decide) (by decide +kernel) (by decide +kernel) ?_ | refine' names_index (i := 3) ?k1 ?k2 (by decide) (by decide +kernel) (by decide +kernel) ?_ | refine' names_index (i := 4) ?k1 ?k2 (by decide) (by decide +kernel) (by decide +kernel) ?_); (case k1 => k_asm); (case k2 => k_asm)); intro t9' tk9'; (try dsimp only); (try k_fold))
  intro gd cn cs a ccd cl outer A₀ base h₀ L m news s Q E B F X N T hk hpre hret
  k_dflt ktr_enter
  intro g' L' h' hg F' N' B' X' T'
  (try rw [← hg] at hpre)
  clear hret B F X N T

  (try dsimp only); (try k_fold)
  k_steps
  all_goals (try dsimp only)
  exact PEnd.zero (by k_asm) ⟨rfl, _, rfl⟩

theorem number_spec4 (w : World) (mean : ExcName → Option Value) (mg mb : Str → Option Value) (lp dx pl : Addr) (t t1 t2 t3 t4 t5 : Tok) (n : Nat) :
    Spec w mean mg mb 800 8000 179 [.ref lp, .str (Str.ofString "priority") t] (fun h => InsF h lp 224 dx (lispEs w.params t1 t2 t3 t4 t5 pl) n) (IntP 104) := by
  unfold Spec
  k_fill
  k_with_none
  k_with "kd_adr" => (first | exact List.forall_mem_nil _ | (refine List.forall_mem_cons.mpr ⟨?kdh, ?kdt⟩; (case kdh => ((try dsimp only); first | kd_ltNe | (refine Ne.symm ?_; kd_ltNe) | (simp only [*, ne_eq, not_false_eq_true]; done) | (refine neN ?_; omega))); (case kdt => kd_adr)) | kd_adrTail | fail "k_dat: an address")
  k_with "k_ne" => (refine neN ?_; (try dsimp only); first | with_reducible assumption | kd_ltNe | (refine Ne.symm ?_; first | with_reducible assumption | kd_ltNe) | (simp only [*, ne_eq, not_false_eq_true]; done) | (refine Ne.symm ?_; simp only [*, ne_eq, not_false_eq_true]; done) | (refine Nat.ne_of_lt ?_; simp only [*]; done) | (refine Nat.ne_of_gt ?_; simp only [*]; done) | omega)
  k_with "k_room" => (exact Nat.le_of_ble_eq_true rfl)
  k_with "ktr_enter" => (
    refine' Mine.enterP ?kP ?k1 ?k2 ?k3 ?k4 ?k5 ?kA ?kF ?kK ?kR ?k6 ?k7 ?k8 ?k9 ?kB ?_ ?c2 ?c3 ?c4 ?c5;
    (case kA => exact rfl); (case kF => exact rfl); (case kK => assumption); (case k1 => k_asm); (case k2 => k_asm); (case k3 => k_asm); (case k4 => k_asm); (case k5 => k_asm); (case kR => assumption);
    (case k6 => k_is); (case k7 => k_is); (case k8 => exact Nat.le_of_ble_eq_true rfl); (case k9 => exact BindsTo.of_eq rfl); (case c5 => decide); (case kB => exact locs rfl); (case c2 => exact rfl); (case c3 => exact rfl); (case c4 => exact rfl); k_whole)
  k_with "ktr_step" => (refine' IsTup.keeps ?ktx (Fr.keep ?ktF); (case ktF => k_asm); (case ktx => first | assumption | exact IsTup.keeps (by assumption) (Fr.keep (by assumption)) | (refine' IsTup.keeps ?kty (Fr.keep ?ktG); (case ktG => assumption); (case kty => exact IsTup.keeps (by assumption) (Fr.keep (by assumption))))))
  k_with "kit_at" => (refine' kitAt_tup ?kaT; (case kaT => ktr_step))
  k_with "ktf_step" => (first | assumption | exact InsF.keeps (by assumption) (Fr.keep (by assumption)) | (refine' InsF.keeps ?kfI (Fr.keep ?kfF); (case kfF => assumption); (case kfI => exact InsF.keeps (by assumption) (Fr.keep (by assumption)))))
  k_with "k_inst" => (refine' InsF.at ?kiI (Fr.keep ?kiF); (case kiF => k_asm); (case kiI => ktf_step))
  k_with "ktd_step" => (refine' Rd.keeps (Fr.keep ?kdF) ?kdx; (case kdF => k_asm); (case kdx => first | assumption | exact Rd.keeps (Fr.keep (by assumption)) (by assumption) | (refine' Rd.keeps (Fr.keep ?kdG) ?kdy; (case kdG => assumption); (case kdy => exact Rd.keeps (Fr.keep (by assumption)) (by assumption)))))
  k_with "ktn_step" => (
    refine' Mine.enterPC ?kP ?k1 ?k2 ?k3 ?k4 ?k5 ?kA ?kF ?kK ?kR ?k6 ?k7 ?k8 ?k9 ?kB ?kD ?_ ?c2 ?c3 ?c4;
    (case kA => exact rfl); (case kF => exact rfl); (case kK => assumption); (case k1 => k_asm); (case k2 => k_asm); (case k3 => k_asm); (case k4 => k_asm); (case k5 => k_asm); (case kR => assumption);
    (case k6 => k_is); (case k7 => k_is); (case k8 => exact Nat.le_of_ble_eq_true rfl); (case k9 => exact BindsTo.of_eq rfl); (case kB => exact rfl); (case kD => decide +kernel); (case c2 => exact rfl); (case c3 => exact rfl); (case c4 => exact rfl); k_whole)
  k_with "subscriptTail" => (k_here; (with_reducible show wpAny _ _ (subscriptTail _ _ (Value.ref _) (Value.int _ _)) _ _ _); k_dflt (refine' item_tupleT ?t ?a ?b ?c ?d ?_; (case t => ktr_step); (case a => decide); (case b => decide); (case c => rfl); (case d => rfl); k_whole))
  k_with "subscriptTail" => (k_here; (with_reducible show wpAny _ _ (subscriptTail _ _ (Value.ref _) (Value.int 0 _)) _ _ _); k_dflt (refine' item_tup0 ?t ?_; (case t => ktr_step); k_whole))
  k_with "k_handed" => (exact Rd.handed (by assumption))
  k_with "ktr_room" => (
    refine' Mine.enterM ?kP ?k1 ?k2 ?k3 ?k4 ?k5 ?kA ?kF ?kK ?kN ?kQ ?kR ?k6 ?k7 ?k8 ?k9 ?kB ?_ ?c2 ?c3 ?c4 ?c5;
    (case kA => exact rfl); (case kF => exact rfl); (case kK => assumption); (case k1 => k_asm); (case k2 => k_asm); (case k3 => k_asm); (case k4 => k_asm); (case k5 => k_asm); (case kN => assumption); (case kQ => assumption); (case kR => assumption);
    (case k6 => k_is); (case k7 => k_is); (case k8 => exact Nat.le_of_ble_eq_true rfl); (case k9 => exact BindsTo.of_eq rfl); (case c5 => decide); (case kB => exact locs rfl); (case c2 => exact rfl); (case c3 => exact rfl); (case c4 => exact rfl); k_whole)
  k_with "getMethod ref" => (k_here; (with_reducible show wpAny _ _ (getMethod (Value.ref 158) _ _) _ _ _); k_dflt (refine' names_method ?k1 ?k2 ?_; (case k1 => k_asm); (case k2 => k_asm)))
  k_with "call builtin:tuple.index" => (k_here; (with_reducible show wpAny _ _ (call (Value.builtin "tuple.index") [Value.ref 158, Value.str _ _]) _ _ _); k_dflt ((first | refine' names_index (i := 0) ?k1 ?k2 (by decide) (by decide +kernel) (by decide +kernel) ?_ | refine' names_index (i := 1) ?k1 ?k2 (by decide) (by decide +kernel) (by decide +kernel) ?_ | refine' names_index (i := 2) ?k1 ?k2 (by decide) (by decide +kernel) (by decide +kernel) ?_ | refine' names_index (i := 3) ?k1 ?k2 (by decide) (by decide +kernel) (by decide +kernel) ?_ | refine' names_index (i := 4) ?k1 ?k2 (by decide) (by decide +kernel) (by decide +kernel) ?_); (case k1 => k_asm); (case k2 => k_asm)); intro t9' tk9'; (try dsimp only); (try k_fold))
  intro gd cn cs a ccd cl outer A₀ base h₀ L m news s Q E B F X N T hk hpre hret
  k_dflt ktr_enter
  intro g' L' h' hg F' N' B' X' T'
  (try rw [← hg] at hpre)
  clear hret B F X N T

  (try dsimp only); (try k_fold)
  k_steps
  all_goals (try dsimp only)
  exact PEnd.zero (by k_asm) ⟨rfl, _, rfl⟩
end
-- L19
theorem rules_mk {P : Params} {h : Heap} {r dx lp ldx df pl : Addr} {n ln : Nat} {t0 t1 t2 t3 t4 t5 t6 t7 t8 t9 t10 t11 t12 t13 u1 u2 u3 u4 u5 : Tok} (h1 : h.get? r = some (instObj 59 dx))
    (h2 : h.get? dx = some (dictOf [strK P "lisp" t0 (.ref lp), strK P "nil" t1 .none, strK P "true" t2 (.bool true), strK P "category" t3 (.int 100 t4), strK P "front_sticky" t5 (.int 101 t6),
   strK P "rear_nonsticky" t7 (.int 102 t8), strK P "evaporate" t9 (.int 103 t10), strK P "priority" t11 (.int 104 t12), strK P "defaults" t13 (.ref df)] n))
    (h3 : h.get? lp = some (instObj 224 ldx)) (h4 : h.get? ldx = some (dictOf (lispEs P u1 u2 u3 u4 u5 pl) ln)) : RulesAt P h r lp df :=
  ⟨dx, n, fun i => [t0, t1, t2, t3, t4, t5, t6, t7, t8, t9, t10, t11, t12, t13].getD i 0, ldx, ln, u1, u2, u3, u4, u5, pl, ⟨h1, h2⟩, ⟨h3, h4⟩⟩
/-- the defaults, of the ledger -/
noncomputable def LTab (w : World) (own : List (Addr × Obj)) (df : Addr) (d : Int → Int) : Prop := ∀ H : Heap, (∀ p ∈ own, H.get? p.1 = some p.2) → IntTab PySem.Challenge.rw_np0033_01.row.prog w H df (dfD d)
theorem LTab.mk {w : World} {own : List (Addr × Obj)} {df : Addr} {o : Obj} {d : Int → Int} {kvs : List (Int × Value)} (hm : (df, o) ∈ own) (lo : (df == sysModules) = false) (hd : o.IsDictOf (intKind PySem.Challenge.rw_np0033_01.row.prog w) kvs) (hf : PyProof.V.FlatPairs PyData.int kvs (dfD d)) : LTab w own df d :=
  fun H hH => TabAt.ofObj lo (hH _ hm) hd hf
theorem LRd.sub {own own' : List (Addr × Obj)} {v : Value} {d : PyData} (x : LRd own v d) (h : ∀ p ∈ own, p ∈ own') : LRd own' v d := fun H hH => x H fun p hp => hH p (h p hp)
theorem FoundRd.sub {own own' : List (Addr × Obj)} {fs : List Value} {P : List (Int × PV)} (x : FoundRd own fs P) (h : ∀ p ∈ own, p ∈ own') : FoundRd own' fs P := fun H hH => x H fun p hp => hH p (h p hp)
theorem mem_reord {α : Type} {p f df r rd pl lp ld dk ca c4 c3 c2 c1 : α} {dd dyns : List α} (hp : p ∈ f :: r :: rd :: c4 :: c3 :: c2 :: c1 :: (dd ++ (df :: pl :: lp :: ld :: dk :: ca :: dyns))) :
    p ∈ (f :: dd) ++ (df :: r :: rd :: pl :: lp :: ld :: dk :: ca :: c4 :: c3 :: c2 :: c1 :: dyns) := by
  rcases List.mem_cons.mp hp with rfl | hp
  · exact List.mem_append_left _ (.head _)
  rcases List.mem_append.mp (show p ∈ [r, rd, c4, c3, c2, c1] ++ (dd ++ (df :: pl :: lp :: ld :: dk :: ca :: dyns)) from hp) with hp | hp
  · exact List.mem_append_right _ ((show [r, rd, c4, c3, c2, c1].Sublist (df :: r :: rd :: pl :: lp :: ld :: dk :: ca :: c4 :: c3 :: c2 :: c1 :: dyns) from
      .cons _ (.cons_cons _ (.cons_cons _ (.cons _ (.cons _ (.cons _ (.cons _ (.cons _ (.cons_cons _ (.cons_cons _ (.cons_cons _ (.cons_cons _ (List.nil_sublist _))))))))))))).subset hp)
  rcases List.mem_append.mp hp with hp | hp
  · exact List.mem_append_left _ (.tail _ hp)
  · exact List.mem_append_right _ ((show (df :: pl :: lp :: ld :: dk :: ca :: dyns).Sublist (df :: r :: rd :: pl :: lp :: ld :: dk :: ca :: c4 :: c3 :: c2 :: c1 :: dyns) from
      .cons_cons _ (.cons _ (.cons _ (.cons_cons _ (.cons_cons _ (.cons_cons _ (.cons_cons _ (.cons_cons _ (.cons _ (.cons _ (.cons _ (.cons _ (List.Sublist.refl _))))))))))))).subset hp)
theorem after_inh {w : World} {V : SV} {h₀ h : Heap} {L df r rd pl lp ld dk ca c4 c3 c2 c1 : Addr} {o or ord opl olp old odk oca o4 o3 o2 o1 : Obj} {dyns own : List (Addr × Obj)} {v v1 v2 : Value} {d1 d2 : PyData} {H' : Heap} {kvs : List (Int × Value)} {d : Int → Int}
    (N : News h₀ L h (own ++ ((df, o) :: (r, or) :: (rd, ord) :: (pl, opl) :: (lp, olp) :: (ld, old) :: (dk, odk) :: (ca, oca) :: (c4, o4) :: (c3, o3) :: (c2, o2) :: (c1, o1) :: dyns)))
    (ne : ∀ p ∈ own, ∀ q ∈ (df, o) :: (r, or) :: (rd, ord) :: (pl, opl) :: (lp, olp) :: (ld, old) :: (dk, odk) :: (ca, oca) :: (c4, o4) :: (c3, o3) :: (c2, o2) :: (c1, o1) :: dyns, @Ne Nat p.1 q.1)
    (po : InhP V H' v own) (lo : (df == sysModules) = false) (hd : o.IsDictOf (intKind PySem.Challenge.rw_np0033_01.row.prog w) kvs) (hf : PyProof.V.FlatPairs PyData.int kvs (dfD d))
    (r1 : LRd dyns v1 d1) (r2 : LRd dyns v2 d2) (f : OwnOff dyns [dk, ca, c4, c3, c2, c1]) (hdist : ∀ x ∈ [df, pl, lp, ld, dk, ca], ∀ c ∈ [c4, c3, c2, c1], @Ne Nat x c) :
    ∃ fo fs c D, v = .ref fo ∧ News h₀ L h ((fo, listOf fs.toArray c) :: (r, or) :: (rd, ord) :: (c4, o4) :: (c3, o3) :: (c2, o2) :: (c1, o1) :: D) ∧ FoundRd D fs V.told.all ∧ LRd D v1 d1 ∧ LRd D v2 d2 ∧ LTab w D df d ∧ OwnOff D [c4, c3, c2, c1] ∧
      (∀ x ∈ [r, rd, c4, c3, c2, c1], @Ne Nat fo x) ∧ (∀ p ∈ (fo, listOf fs.toArray c) :: (r, or) :: (rd, ord) :: (c4, o4) :: (c3, o3) :: (c2, o2) :: (c1, o1) :: D, p.1 < h.objs.size) := by
  obtain ⟨fo, fs, c, dd, rfl, rfl, hF⟩ := po
  have N2 : News h₀ L h ((fo, listOf fs.toArray c) :: (r, or) :: (rd, ord) :: (c4, o4) :: (c3, o3) :: (c2, o2) :: (c1, o1) :: (dd ++ ((df, o) :: (pl, opl) :: (lp, olp) :: (ld, old) :: (dk, odk) :: (ca, oca) :: dyns))) := fun p hp => N p (mem_reord hp)
  refine ⟨fo, fs, c, dd ++ ((df, o) :: (pl, opl) :: (lp, olp) :: (ld, old) :: (dk, odk) :: (ca, oca) :: dyns), rfl, N2, hF.sub fun p hp => List.mem_append_left _ hp, r1.sub fun p hp => List.mem_append_right _ (by repeat (first | exact hp | apply List.Mem.tail)), r2.sub fun p hp => List.mem_append_right _ (by repeat (first | exact hp | apply List.Mem.tail)), .mk (o := o) (List.mem_append_right _ (.head _)) lo hd hf, ?_, ?_, fun p hp => Heap.lt_size (N2 p hp).1⟩
  · intro p hp b hb
    rcases List.mem_append.mp hp with hp | hp
    · obtain ⟨q, hq, rfl⟩ := List.mem_map.mp (show b ∈ List.map (fun q : Addr × Obj => q.1) [(c4, o4), (c3, o3), (c2, o2), (c1, o1)] from hb)
      exact ne p (.tail _ hp) q ((show [(c4, o4), (c3, o3), (c2, o2), (c1, o1)].Sublist ((df, o) :: (r, or) :: (rd, ord) :: (pl, opl) :: (lp, olp) :: (ld, old) :: (dk, odk) :: (ca, oca) :: (c4, o4) :: (c3, o3) :: (c2, o2) :: (c1, o1) :: dyns) from
        .cons _ (.cons _ (.cons _ (.cons _ (.cons _ (.cons _ (.cons _ (.cons _ (.cons_cons _ (.cons_cons _ (.cons_cons _ (.cons_cons _ (List.nil_sublist _))))))))))))).subset hq)
    rcases List.mem_append.mp (show p ∈ [(df, o), (pl, opl), (lp, olp), (ld, old), (dk, odk), (ca, oca)] ++ dyns from hp) with hp | hp
    · exact hdist p.1 (List.mem_map_of_mem (f := fun q : Addr × Obj => q.1) hp) b hb
    · exact f p hp b (.tail _ (.tail _ hb))
  · intro x hx
    obtain ⟨q, hq, rfl⟩ := List.mem_map.mp (show x ∈ List.map (fun q : Addr × Obj => q.1) [(r, or), (rd, ord), (c4, o4), (c3, o3), (c2, o2), (c1, o1)] from hx)
    exact ne (fo, listOf fs.toArray c) (.head _) q ((show [(r, or), (rd, ord), (c4, o4), (c3, o3), (c2, o2), (c1, o1)].Sublist ((df, o) :: (r, or) :: (rd, ord) :: (pl, opl) :: (lp, olp) :: (ld, old) :: (dk, odk) :: (ca, oca) :: (c4, o4) :: (c3, o3) :: (c2, o2) :: (c1, o1) :: dyns) from
      .cons _ (.cons_cons _ (.cons_cons _ (.cons _ (.cons _ (.cons _ (.cons _ (.cons _ (.cons_cons _ (.cons_cons _ (.cons_cons _ (.cons_cons _ (List.nil_sublist _))))))))))))).subset hq)
-- K3
open PyProof.Rows.LCg
/-- the source of a comprehension over pairs of the ledger -/
noncomputable def PSrcL (prog : Program) (w : World) (A : Around) (h₀ : Heap) (L : Addr) (m : Str → Option Value) (env : Env) (c elt : PySem.Expr) (a b : Str) (scope : Scope) (cl : List (Str × Addr)) (Fin : Shared → List Value → List (Addr × Obj) → Prop) (xv : Value) (s₁ : Shared) : Prop :=
  ∃ (l : Addr) (ol : Obj) (vs : List Value) (news : List (Addr × Obj)) (R : Nat → Value → Value → Prop) (J : Nat → List Value → Prop), xv = .ref l ∧ A.handled = none ∧ (l, ol) ∈ news ∧ ol.cls = .type "list" ∧ (∃ n, ol.data = .seq vs.toArray n) ∧ vs.length ≤ 1000 ∧
    (∀ (i : Nat) v, vs[i]? = some v → ∃ p x y, v = .ref p ∧ (∀ H, News h₀ L H news → IsTup H p #[x, y]) ∧ R i x y) ∧ Fr h₀ L s₁.heap m ∧ News h₀ L s₁.heap news ∧ J 0 [] ∧
    (∀ i ys x y I oI C oC D m₂ h tk (E' : Value → Shared → Prop), i < vs.length → J i ys → R i x y → NsObj oC m₂ → m₂ a = some x → m₂ b = some y → Fr h₀ L h m → News h₀ L h ((I, oI) :: (C, oC) :: (D, lst ys) :: news) → Off3 I C D news → ((@Ne Nat I C) ∧ (@Ne Nat I D) ∧ (@Ne Nat C D)) →
      wpAny (model prog w) A (isTrue c (compEnvC scope cl C env) (eval c (compEnvC scope cl C env))) (fun ok s' => if ok = true then
          wpAny (model prog w) A (eval elt (compEnvC scope cl C env)) (fun z s'' => TEnd h₀ L m { s₁ with heap := h, toks := tk } ((I, oI) :: (C, oC) :: (D, lst ys) :: news) (J (i + 1) (ys ++ [z])) s'') E' s'
        else TEnd h₀ L m { s₁ with heap := h, toks := tk } ((I, oI) :: (C, oC) :: (D, lst ys) :: news) (J (i + 1) ys) s') E' { s₁ with heap := h, toks := tk }) ∧
    (∀ ys g, J vs.length ys → Fin { s₁ with heap := g } ys news)
section
variable {prog : Program} {w : World} {A : Around} {E : Value → Shared → Prop} {s : Shared} {h₀ : Heap} {L : Addr} {m : Str → Option Value} {env : Env}
theorem pairsL_eval {elt iter c : PySem.Expr} {a b : Str} {pa pb tp : Pos} {kk : Nat} {scope : Scope} {cl : List (Str × Addr)} {pos : Pos} {Q : Value → Shared → Prop} (F₀ : Fr h₀ L s.heap m)
    (hclos : closureFor scope env = pure cl) (hcell : ∀ y ∈ scope.names, y.2 ≠ .cell) (hkind : scope.kind = .function)
    (hnames : ∀ y ∈ scope.names, y.2 = .local → scope.names.lookup y.1 = some .local) (hxa : scope.names.lookup a = some .local) (hxb : scope.names.lookup b = some .local) (hab : ¬ a = b)
    (h : wpAny (model prog w) A (eval iter env) (PSrcL prog w A h₀ L m env c elt a b scope cl (fun s₂ => FinE h₀ L m s₂ Q)) E s)
    (hs : ∀ x, foldedSetIterable iter env x = pure x := by intro _; rfl) :
    wpAny (model prog w) A (eval (.ListComp elt [⟨.Tuple [.Name a pa, .Name b pb] kk tp, iter, [c], 0⟩] scope pos) env) Q E s := by
  rw [eval_ListComp]
  refine wpAny_comprehension_free (use := none) rfl hs hclos hkind hnames (wpAny_mono h (fun xv s₁ h₁ => ?_) fun _ _ e => e)
  refine Mine.hide ?_; intro Gq hGq
  obtain ⟨l, ol, vs, news, R, J, rfl, hh, hm, hl1, hl2, hsz, hit, F, N, h0, turn, fin⟩ := h₁
  refine hGq ?_; clear hGq Gq
  have hls : s₁.heap.IsList l vs.toArray := ⟨ol, (N _ hm).1, hl1, hl2⟩
  refine wpAny_pyIter_list hls ?_
  refine pairsG_block R J hh (fun _ off => off _ hm) (fun _ _ N' => ⟨_, (N' _ hm).1, hl1, hl2⟩) hsz (fun i v hv => let ⟨p, x, y, e, t, r⟩ := hit i v hv; ⟨p, x, y, e, fun H _ N' => t H N', r⟩) hcell hkind hxa hxb hab ⟨_, Heap.get?_push_size _ rfl, rfl, rfl⟩ (F.push _) (fun p hp => ⟨Heap.get?_push_of_some _ (N p hp).1, (N p hp).2⟩) (Nat.ne_of_lt F.ns.lt) (next_is_new F) (fun p hp => Nat.ne_of_lt (Heap.lt_size (N p hp).1)) h0 turn ?_
  intro D C h tk m' ys F' N' o1 hn hC₀ hD₀ hCL hDL hCD offC hJ
  refine ⟨m', hn, fun h'' hs'' => fin ys s₁.heap hJ D h'' tk (F'.change hs'' hCL hC₀) (fun p hp => ?_) o1⟩
  refine ⟨hs''.extBut _ _ ?_ (N' p hp).1, (N' p hp).2⟩
  rcases List.mem_cons.mp hp with rfl | hp
  · exact Ne.symm hCD
  · exact offC p hp
end
/-- the source: a tuple of the ledger, no test -/
noncomputable def TSrcU (prog : Program) (w : World) (A : Around) (h₀ : Heap) (L : Addr) (m : Str → Option Value) (env : Env) (elt : PySem.Expr) (x : Str) (scope : Scope) (cl : List (Str × Addr)) (Fin : Shared → List Value → List (Addr × Obj) → Prop) (xv : Value) (s₁ : Shared) : Prop :=
  ∃ (T : Addr) (oT : Obj) (items : List Value) (news : List (Addr × Obj)), xv = .ref T ∧ A.handled = none ∧ Fr h₀ L s₁.heap m ∧ News h₀ L s₁.heap news ∧ (T, oT) ∈ news ∧ oT.cls = .type "tuple" ∧ (∃ n, oT.data = .seq items.toArray n) ∧ items.length ≤ 1000 ∧
    ∀ g : Heap, CompRest prog w A h₀ L m env elt x scope cl { s₁ with heap := g } (fun led => (T, oT) ∈ led) (fun i v => items[i]? = some v) (Fin { s₁ with heap := g }) items.length 0 [] news
/-- the source: a dict's keys, with a test -/
noncomputable def DSrcT (prog : Program) (w : World) (A : Around) (h₀ : Heap) (L : Addr) (m : Str → Option Value) (env : Env) (ct elt : PySem.Expr) (x : Str) (scope : Scope) (cl : List (Str × Addr)) (Fin : Shared → List Value → List (Addr × Obj) → Prop) (xv : Value) (s₁ : Shared) : Prop :=
  ∃ (d : Addr) (od : Obj) (kvs : List (Int × Value)) (news : List (Addr × Obj)), xv = .ref d ∧ A.handled = none ∧ Fr h₀ L s₁.heap m ∧ News h₀ L s₁.heap news ∧ (d, od) ∈ news ∧ (d == sysModules) = false ∧ od.IsDictOf (intKind prog w) kvs ∧ kvs.length ≤ 1000 ∧
    ∀ g : Heap, LCt.CompRestT prog w A h₀ L m env ct elt x scope cl { s₁ with heap := g } (fun led => (d, od) ∈ led) (fun i v => ∃ k y, kvs[i]? = some (k, y) ∧ (intKind prog w).is k v = true) (Fin { s₁ with heap := g }) kvs.length 0 [] news
section
variable {prog : Program} {w : World} {A : Around} {E : Value → Shared → Prop} {s : Shared} {h₀ : Heap} {L : Addr} {m : Str → Option Value} {env : Env}
theorem tup_block {elt iter : PySem.Expr} {x : Str} {px : Pos} {scope : Scope} {cl : List (Str × Addr)} {pos : Pos} {s₁ : Shared} {T : Addr} {oT : Obj} {items : List Value} {news : List (Addr × Obj)} {Fin : Shared → List Value → List (Addr × Obj) → Prop} {RR : Value → Addr → Result → Shared → Prop}
    (hh : A.handled = none) (F : Fr h₀ L s₁.heap m) (N : News h₀ L s₁.heap news) (hm : (T, oT) ∈ news) (hT1 : oT.cls = .type "tuple") (hT2 : ∃ n, oT.data = .seq items.toArray n) (hsz : items.length ≤ 1000)
    (hcell : ∀ y ∈ scope.names, y.2 ≠ .cell) (hkind : scope.kind = .function) (hx : scope.names.lookup x = some .local)
    (R : ∀ g : Heap, CompRest prog w A h₀ L m env elt x scope cl { s₁ with heap := g } (fun led => (T, oT) ∈ led) (fun i v => items[i]? = some v) (Fin { s₁ with heap := g }) items.length 0 [] news)
    (hRR : ∀ g D C h tk m' ys news', Fr h₀ L h m → News h₀ L h ((D, lst ys) :: news') → Off1 D news' → h.Ns C m' → h₀.get? C = none → h₀.get? D = none → C ≠ L → D ≠ L → C ≠ D → (∀ p ∈ news', p.1 ≠ C) → Fin { s₁ with heap := g } ys news' → RR (.ref D) C (.ok .next) { s₁ with heap := h, toks := tk }) :
    wpAny (model prog w) A (pyIter (.ref T)) (fun it s₂ => wpAny (model prog w) A (newList []) (fun acc s₃ => wpAny (model prog w) A (newFunctionEnv scope env.globals cl [] env.qual none .none (some env)) (fun cenv s₄ =>
      codeAny (model prog w) A (.compStart (.ListComp elt [⟨.Name x px, iter, [], 0⟩] scope pos) 0 it acc { cenv with scope := relabel scope env }) (RR acc cenv.locals) s₄) E s₃) E s₂) E s₁ := by
  have hT : IsTup s₁.heap T items.toArray := ⟨oT, (N _ hm).1, hT1, hT2⟩
  have hlt : T < s₁.heap.objs.size := Heap.lt_size (N _ hm).1
  refine iter_tuple hT ?_
  have up : ∀ b o, s₁.heap.get? b = some o → (s₁.heap.push { cls := .type "tuple_iterator", data := .fields #[.ref T, .int 0 0] }).get? b = some o := fun b o e => Heap.get?_push_of_some _ e
  have W₀ := Walks.tuple (prog := prog) (w := w) hh s₁.heap.objs.size T (Nat.ne_of_lt hlt) items.toArray
  have W : Walks prog w A s₁.heap.objs.size [s₁.heap.objs.size, T] [s₁.heap.objs.size] items.length (fun i v => items[i]? = some v) (fun i h => h.IsTupleIter s₁.heap.objs.size T i ∧ h.IsTuple T items.toArray) :=
    ⟨W₀.sub, W₀.frame, fun i s Q E hi st hQ => W₀.item i s Q E (by simpa using hi) st fun v h' tk hP => hQ v h' tk (by simpa using hP), fun s Q E st hQ => W₀.done s Q E (by simpa using st) hQ, W₀.self⟩
  refine block_U W (by rw [sizeLine_eq]; omega) (fun i h st => by obtain ⟨o, e, _⟩ := st.1; exact ⟨o, e⟩) ?_ hcell hkind hx ⟨⟨_, Heap.get?_push_size _ rfl, rfl, rfl⟩, hT.keeps up⟩ (fun b hb => ?_)
    (F.keeps up) (N.grown up) (Nat.ne_of_lt F.ns.lt) (next_is_new F) (fun p hp => Nat.ne_of_lt (Heap.lt_size (N p hp).1)) hm (R _) (hRR _)
  · intro i h h' o nw st e e' k N' S
    exact ⟨by obtain ⟨o', q, r⟩ := st.1; have q' := e.symm.trans q; cases q'; exact ⟨o, e', r⟩, ⟨oT, (N' _ S).1, hT1, hT2⟩⟩
  · show b < (s₁.heap.push _).objs.size
    rw [Heap.size_push]
    rcases List.mem_cons.mp hb with rfl | hb
    · exact Nat.lt_succ_self _
    · rw [List.mem_singleton.mp hb]; exact Nat.lt_succ_of_lt hlt
theorem tupU_eval {elt iter : PySem.Expr} {x : Str} {px : Pos} {scope : Scope} {cl : List (Str × Addr)} {pos : Pos} {Q : Value → Shared → Prop} (F₀ : Fr h₀ L s.heap m)
    (hclos : closureFor scope env = pure cl) (hcell : ∀ y ∈ scope.names, y.2 ≠ .cell) (hkind : scope.kind = .function)
    (hnames : ∀ y ∈ scope.names, y.2 = .local → scope.names.lookup y.1 = some .local) (hx : scope.names.lookup x = some .local)
    (h : wpAny (model prog w) A (eval iter env) (TSrcU prog w A h₀ L m env elt x scope cl (fun s₂ => FinE h₀ L m s₂ Q)) E s)
    (hs : ∀ x, foldedSetIterable iter env x = pure x := by intro _; rfl) :
    wpAny (model prog w) A (eval (.ListComp elt [⟨.Name x px, iter, [], 0⟩] scope pos) env) Q E s := by
  rw [eval_ListComp]
  refine wpAny_comprehension_free (use := none) rfl hs hclos hkind hnames (wpAny_mono h (fun xv s₁ h₁ => ?_) fun _ _ e => e)
  refine Mine.hide ?_; intro Gq hGq
  obtain ⟨T, oT, items, news, rfl, hh, F, N, hm, hT1, hT2, hsz, R⟩ := h₁
  refine hGq ?_; clear hGq Gq
  refine tup_block (Fin := fun s₂ => FinE h₀ L m s₂ Q) hh F N hm hT1 hT2 hsz hcell hkind hx R ?_
  intro g D C h tk m' ys news' F' N' o1 hn hC₀ hD₀ hCL hDL hCD offC fin
  refine ⟨m', hn, fun h'' hs'' => fin D h'' tk (F'.change hs'' hCL hC₀) (fun p hp => ?_) o1⟩
  refine ⟨hs''.extBut _ _ ?_ (N' p hp).1, (N' p hp).2⟩
  rcases List.mem_cons.mp hp with rfl | hp
  · exact Ne.symm hCD
  · exact offC p hp
theorem tupU_assign {elt iter : PySem.Expr} {x y : Str} {px py : Pos} {scope : Scope} {cl : List (Str × Addr)} {pos spos : Pos} {Q : Flow → Shared → Prop} (F₀ : Fr h₀ env.locals s.heap m)
    (hsw : swapsWith (.ListComp elt [⟨.Name x px, iter, [], 0⟩] scope pos) (some (.Name y py)) spos.line env = pure true)
    (hclos : closureFor scope env = pure cl) (hcell : ∀ y ∈ scope.names, y.2 ≠ .cell) (hkind : scope.kind = .function)
    (hnames : ∀ y ∈ scope.names, y.2 = .local → scope.names.lookup y.1 = some .local) (hx : scope.names.lookup x = some .local)
    (hy : env.kindOf y = some .local) (hp : (env.scope.kind == .class || (env.scope.kind == .module && env.locals != env.globals)) = false)
    (h : wpAny (model prog w) A (eval iter env) (TSrcU prog w A h₀ env.locals m env elt x scope cl (fun s₂ => FinA h₀ env.locals m s₂ y Q)) E s)
    (hs : ∀ x, foldedSetIterable iter env x = pure x := by intro _; rfl) :
    wpAny (model prog w) A (exec (.Assign [.Name y py] (.ListComp elt [⟨.Name x px, iter, [], 0⟩] scope pos) spos) env) Q E s := by
  rw [exec_Assign_Name_used _ _ _ _ hsw]
  refine wpAny_bind (wpAny_standAt (wpAny_bind ?_))
  show wpAny _ A (do let _ ← comprehension (.ListComp elt [⟨.Name x px, iter, [], 0⟩] scope pos) scope env _ (newList []) false (eval iter env) (some (assign (.Name y py) env))) _ _ s
  refine wpAny_bind (wpAny_mono (wpAny_comprehension_free (use := some (assign (.Name y py) env)) (Q := fun _ s' => Q .next s') rfl hs hclos hkind hnames
    (wpAny_mono h (fun xv s₁ h₁ => ?_) fun _ _ e => e)) (fun _ s' hq => wpAny_pure (wpAny_pure hq)) fun _ _ e => e)
  refine Mine.hide ?_; intro Gq hGq
  obtain ⟨T, oT, items, news, rfl, hh, F, N, hm, hT1, hT2, hsz, R⟩ := h₁
  refine hGq ?_; clear hGq Gq
  refine tup_block (Fin := fun s₂ => FinA h₀ env.locals m s₂ y Q) hh F N hm hT1 hT2 hsz hcell hkind hx R ?_
  intro g D C h' tk m' ys news' F' N' o1 hn hC₀ hD₀ hCL hDL hCD offC fin
  show wpAny _ A (assign (.Name y py) env (.ref D)) _ _ _
  refine wpAny_assign_Name (wpAny_storeName_local hy F'.ns (fun h₂ hn₂ hs₂ => ?_) hp)
  have hL₀ : h₀.get? env.locals = none := Heap.get?_none_of_le F'.above
  have F₂ : Fr h₀ env.locals h₂ (fun z => if z = y then some (.ref D) else m z) := ⟨hn₂, fun b o e => hs₂.extBut b o (fun q => by rw [q, hL₀] at e; cases e) (F'.keep b o e), F'.above⟩
  refine ⟨m', hn.sameBut hs₂ hCL, fun h'' hs'' => fin D h'' _ (F₂.change hs'' hCL hC₀) (fun p hp => ?_) o1⟩
  have z : h₂.get? p.1 = some p.2 := hs₂.extBut _ _ (N' p hp).2.1 (N' p hp).1
  refine ⟨hs''.extBut _ _ ?_ z, (N' p hp).2⟩
  rcases List.mem_cons.mp hp with rfl | hp
  · exact Ne.symm hCD
  · exact offC p hp
theorem dictT_eval {elt iter ct : PySem.Expr} {x : Str} {px : Pos} {scope : Scope} {cl : List (Str × Addr)} {pos : Pos} {Q : Value → Shared → Prop} (F₀ : Fr h₀ L s.heap m)
    (hclos : closureFor scope env = pure cl) (hcell : ∀ y ∈ scope.names, y.2 ≠ .cell) (hkind : scope.kind = .function)
    (hnames : ∀ y ∈ scope.names, y.2 = .local → scope.names.lookup y.1 = some .local) (hx : scope.names.lookup x = some .local)
    (h : wpAny (model prog w) A (eval iter env) (DSrcT prog w A h₀ L m env ct elt x scope cl (fun s₂ => FinE h₀ L m s₂ Q)) E s)
    (hs : ∀ x, foldedSetIterable iter env x = pure x := by intro _; rfl) :
    wpAny (model prog w) A (eval (.ListComp elt [⟨.Name x px, iter, [ct], 0⟩] scope pos) env) Q E s := by
  rw [eval_ListComp]
  refine wpAny_comprehension_free (use := none) rfl hs hclos hkind hnames (wpAny_mono h (fun xv s₁ h₁ => ?_) fun _ _ e => e)
  refine Mine.hide ?_; intro Gq hGq
  obtain ⟨d, od, kvs, news, rfl, hh, F, N, hm, lo, hd, hsz, R⟩ := h₁
  obtain ⟨ep, hat⟩ := (kda_dict N hm hd).dictAt
  refine hGq ?_; clear hGq Gq
  have hlt : d < s₁.heap.objs.size := Heap.lt_size (N _ hm).1
  have key : ∀ H : Heap, H.get? d = some od → H.DictAt (intKind prog w) d kvs ep := fun H e => by
    refine Mine.hide ?_; intro Gq hGq
    obtain ⟨o, es, ho, r⟩ := hat
    refine hGq ?_; clear hGq Gq
    have q := (N _ hm).1
    rw [ho] at q; cases q
    exact ⟨_, es, e, r⟩
  have up : ∀ b o, s₁.heap.get? b = some o → (s₁.heap.push { cls := .type "dict_keyiterator", data := .fields #[.ref d, .int 0 0, .int kvs.length 0, .int ep 0] }).get? b = some o := fun b o e => Heap.get?_push_of_some _ e
  refine wpAny_pyIter_dict lo hat ?_
  refine LCt.block_T (Walks.dictKeys (knd := intKind prog w) hh s₁.heap.objs.size d (Nat.ne_of_lt hlt) kvs ep) (by rw [sizeLine_eq]; omega) (fun i h st => by obtain ⟨o, e, _⟩ := st.1; exact ⟨o, e⟩) ?_ hcell hkind hx ⟨⟨_, Heap.get?_push_size _ rfl, rfl, rfl⟩, hat.push _⟩ (fun b hb => ?_)
    (F.keeps up) (N.grown up) (Nat.ne_of_lt F.ns.lt) (next_is_new F) (fun p hp => Nat.ne_of_lt (Heap.lt_size (N p hp).1)) hm (R _) ?_
  · intro i h h' o nw st e e' k N' S
    exact ⟨by obtain ⟨o', q, r⟩ := st.1; have q' := e.symm.trans q; cases q'; exact ⟨o, e', r⟩, key _ (N' _ S).1⟩
  · show b < (s₁.heap.push _).objs.size
    rw [Heap.size_push]
    rcases List.mem_cons.mp hb with rfl | hb
    · exact Nat.lt_succ_self _
    · rw [List.mem_singleton.mp hb]; exact Nat.lt_succ_of_lt hlt
  · intro D C h tk m' ys news' F' N' o1 hn hC₀ hD₀ hCL hDL hCD offC fin
    refine ⟨m', hn, fun h'' hs'' => fin D h'' tk (F'.change hs'' hCL hC₀) (fun p hp => ?_) o1⟩
    refine ⟨hs''.extBut _ _ ?_ (N' p hp).1, (N' p hp).2⟩
    rcases List.mem_cons.mp hp with rfl | hp
    · exact Ne.symm hCD
    · exact offC p hp
end
-- L20
/-- what the plain law says -/
structure LawOk (V : SV) : Prop where
  nodup : (V.told.all.map (·.1)).Nodup
  keys : ∀ e ∈ V.told.all, e.1 = 1 ∨ e.1 = 2 ∨ e.1 = 3 ∨ e.1 = 101 ∨ e.1 = 102
  len : V.told.all.length ≤ 100
  held : ∀ n, n = 1 ∨ n = 2 ∨ n = 3 → heldP V.told.all n = (V.due n).v
  a : (heldP V.told.all 101 = none ∧ (([1, 2, 3] : List Int).filter fun n => (V.due n).a) = []) ∨ ∃ ns, heldP V.told.all 101 = some (.lst ns) ∧ ns ≠ [] ∧ ns.length ≤ 100 ∧ ns.Perm (([1, 2, 3] : List Int).filter fun n => (V.due n).a)
  b : (heldP V.told.all 102 = none ∧ (([1, 2, 3] : List Int).filter fun n => (V.due n).b) = []) ∨ ∃ ns, heldP V.told.all 102 = some (.lst ns) ∧ ns ≠ [] ∧ ns.length ≤ 100 ∧ ns.Perm (([1, 2, 3] : List Int).filter fun n => (V.due n).b)
section
variable {prog : Program} {w : World} {A : Around} {E : Value → Shared → Prop} {s : Shared} {h₀ : Heap} {L : Addr} {m : Str → Option Value} {news : List (Addr × Obj)}
theorem found_at {D : List (Addr × Obj)} {fs : List Value} {P : List (Int × PV)} {h : Heap} (x : FoundRd D fs P) (hD : ∀ p ∈ D, h.get? p.1 = some p.2) : ∃ kvs : List (Int × Value), kvs.length = fs.length ∧ kvs.map (·.1) = P.map (·.1) ∧
    ∀ (i : Nat) v, fs[i]? = some v → ∃ p k t y, v = .ref p ∧ IsTup h p #[.int k t, y] ∧ kvs[i]? = some (k, y) := by
  have r := x h hD
  clear x hD
  induction P generalizing fs with
  | nil => cases r; exact ⟨[], rfl, rfl, fun i v e => by cases i <;> cases e⟩
  | cons e P ih =>
    cases r with
    | cons a b =>
      obtain ⟨kvs, h1, h2, h3⟩ := ih b
      obtain ⟨p, t, y, rfl, hT, _⟩ := ent_inv a
      refine ⟨(e.1, y) :: kvs, by simp [h1], by simp [h2], fun i v hv => ?_⟩
      cases i with
      | zero => simp at hv; subst hv; exact ⟨p, _, t, y, rfl, hT, rfl⟩
      | succ i => simpa using h3 i v (by simpa using hv)
theorem dict_found {l : Addr} {fs : List Value} {c : Nat} {D : List (Addr × Obj)} {P : List (Int × PV)} {Q : Value → Shared → Prop} (F : Fr h₀ L s.heap m) (N : News h₀ L s.heap news) (hbig : h₀.NoLimit) (hh : A.handled = none) (hl : (l, listOf fs.toArray c) ∈ news) (hF : FoundRd D fs P) (hD : ∀ p ∈ D, p ∈ news)
    (hnd : (P.map (·.1)).Nodup) (hlen : P.length ≤ 100)
    (h : ∀ d o kvs h' tk, Fr h₀ L h' m → News h₀ L h' ((d, o) :: news) → (d == sysModules) = false → o.IsDictOf (intKind prog w) kvs → kvs.map (·.1) = P.map (·.1) → kvs.length = fs.length → kvs.length ≤ 100 → (∀ p ∈ news, p.1 < d) → Q (.ref d) { s with heap := h', toks := tk }) :
    wpAny (model prog w) A (call (.type "dict") [.ref l]) Q E s := by
  refine Mine.hide ?_; intro Gq hGq
  obtain ⟨kvs, h1, h2, h3⟩ := found_at hF fun p hp => (N p (hD p hp)).1
  refine hGq ?_; clear hGq Gq
  have e1 : kvs.length = P.length := by have := congrArg List.length h2; simpa using this
  exact dict_pairs F N (modules_low hbig) hh hl h1 (by rw [h2]; exact hnd) (by omega) h3 fun d o h' tk F' N' lo hd l1 => h d o kvs h' tk F' N' lo hd h2 h1 (by omega) l1
end
/-- a pair of one, or None -/
noncomputable def oneD : Option PV → PyData
  | none => .none
  | some V => .tuple [V.py]
theorem HeldAt.lrd {rest : List (Addr × Obj)} {x : Value} {o : Option PV} (h : HeldAt rest x o) : LRd rest x (oneD o) := by
  intro H hH
  cases o with
  | none => rw [h.1]; exact Rd.none
  | some V =>
    obtain ⟨e, y, rfl, rfl, hy⟩ := h
    exact Rd.tuple (vs := [y]) ⟨_, hH (e, _) (.head _), rfl, _, rfl⟩ (.cons (hy H) .nil)
noncomputable def DueRow (own : List (Addr × Obj)) (n : Int) (D : Due) (v : Value) : Prop :=
  ∃ p t a x c, v = .ref p ∧ (p, ({ cls := .type "tuple", data := .seq #[Value.int n t, .ref a] } : Obj)) ∈ own ∧ (a, listOf #[x, .bool D.a, .bool D.b] c) ∈ own ∧ LRd own x (oneD D.v)
theorem DueRow.sub {own own' : List (Addr × Obj)} {n : Int} {D : Due} {v : Value} (x : DueRow own n D v) (h : ∀ p ∈ own, p ∈ own') : DueRow own' n D v := by
  obtain ⟨p, t, a, x, c, e, h1, h2, h3⟩ := x
  exact ⟨p, t, a, x, c, e, h _ h1, h _ h2, h3.sub h⟩
/-- while the rows are made -/
noncomputable def DueJ (front D : List (Addr × Obj)) (V : SV) (i : Nat) (ys : List Value) (led : List (Addr × Obj)) : Prop :=
  ∃ own, led = front ++ (own ++ D) ∧ ys.length = i ∧ (∀ (j : Nat) v, ys[j]? = some v → DueRow own ((j : Int) + 1) (V.due ((j : Int) + 1)) v) ∧ OwnOff own (front.map (·.1))
theorem DueJ.start {front D : List (Addr × Obj)} {V : SV} : DueJ front D V 0 [] (front ++ D) := ⟨[], rfl, rfl, (fun j v h => by cases j <;> cases h), fun _ h => nomatch h⟩
theorem due_turn {h₀ h' : Heap} {L I C D p : Addr} {m : Str → Option Value} {s₁ : Shared} {tk' : Nat} {oI oC oD : Obj} {front Ds own own2 : List (Addr × Obj)} {V : SV} {i : Nat} {n : Int} {t : Tok} {a : Addr} {ys : List Value} {H : Heap}
    (F : Fr h₀ L h' m) (N : News h₀ L h' ((p, ({ cls := .type "tuple", data := .seq #[Value.int n t, .ref a] } : Obj)) :: (own2 ++ ((I, oI) :: (C, oC) :: (D, oD) :: (front ++ (own ++ Ds))))))
    (off : LCg.Off3 I C D (front ++ (own ++ Ds))) (hl : ys.length = i) (hr : ∀ (j : Nat) v, ys[j]? = some v → DueRow own ((j : Int) + 1) (V.due ((j : Int) + 1)) v) (ho : OwnOff own (front.map (·.1))) (hn : n = (i : Int) + 1)
    (ne : ∀ q ∈ own2, ∀ r ∈ (I, oI) :: (C, oC) :: (D, oD) :: (front ++ (own ++ Ds)), @Ne Nat q.1 r.1) (nep : ∀ q ∈ own2 ++ ((I, oI) :: (C, oC) :: (D, oD) :: (front ++ (own ++ Ds))), q.1 < p)
    (po : DueP (V.due n) H (.ref a) own2) :
    UEnd h₀ L m s₁ I oI C oC D oD (fun led' => DueJ front Ds V (i + 1) (ys ++ [.ref p]) led') { s₁ with heap := h', toks := tk' } := by
  obtain ⟨a', x, c, rest, e1, rfl, hx⟩ := po
  cases e1
  have om := off.mem
  refine UEnd.intro (front ++ (((p, ({ cls := .type "tuple", data := .seq #[Value.int n t, .ref a] } : Obj)) :: (a, listOf #[x, .bool (V.due n).a, .bool (V.due n).b] c) :: rest ++ own) ++ Ds)) F N (fun q hq => ?_) (fun q hq => ?_) ⟨_, rfl, by simp [hl], fun j v hv => ?_, fun q hq b hb => ?_⟩
  · simp only [List.mem_cons, List.mem_append] at hq ⊢
    rcases hq with h | h | h | h | (((h | h | h) | h) | h) <;> simp [h]
  · have nI : ∀ r ∈ [(I, oI), (C, oC), (D, oD)], ∀ q ∈ (a, listOf #[x, .bool (V.due n).a, .bool (V.due n).b] c) :: rest, @Ne Nat q.1 r.1 := fun r hr q hq => ne q hq r (by
      simp only [List.mem_cons, List.not_mem_nil, or_false] at hr ⊢
      rcases hr with h | h | h <;> simp [h])
    have nP : ∀ r ∈ [(I, oI), (C, oC), (D, oD)], @Ne Nat p r.1 := fun r hr => Nat.ne_of_gt (nep r (by
      simp only [List.mem_cons, List.not_mem_nil, or_false, List.mem_append] at hr ⊢
      rcases hr with h | h | h <;> simp [h]))
    simp only [List.mem_cons, List.mem_append] at hq
    have z : q ∈ front ++ (own ++ Ds) ∨ q = (p, ({ cls := .type "tuple", data := .seq #[Value.int n t, .ref a] } : Obj)) ∨ q ∈ (a, listOf #[x, .bool (V.due n).a, .bool (V.due n).b] c) :: rest := by
      simp only [List.mem_cons, List.mem_append]
      rcases hq with h | (((h | h | h) | h) | h) <;> simp [h]
    rcases z with z | rfl | z
    · exact om q z
    · exact ⟨nP _ (.head _), nP _ (.tail _ (.head _)), nP _ (.tail _ (.tail _ (.head _)))⟩
    · exact ⟨nI _ (.head _) q z, nI _ (.tail _ (.head _)) q z, nI _ (.tail _ (.tail _ (.head _))) q z⟩
  · rw [List.getElem?_append] at hv
    split at hv
    · exact (hr j v hv).sub fun q hq => by simp [hq]
    · rename_i hj
      have ej : j = i := by
        have : j - ys.length < 1 := by
          have := (List.getElem?_eq_some_iff.mp hv).1
          simpa using this
        omega
      subst ej
      rw [hl, Nat.sub_self] at hv
      simp at hv
      subst hv hn
      exact ⟨p, t, a, x, c, rfl, by simp, by simp, hx.lrd.sub fun q hq => by simp [hq]⟩
  · have nF : ∀ b ∈ front.map (·.1), ∀ q ∈ (a, listOf #[x, .bool (V.due n).a, .bool (V.due n).b] c) :: rest, @Ne Nat q.1 b := fun b hb q hq => by
      obtain ⟨r, hr, rfl⟩ := List.mem_map.mp hb
      exact ne q hq r (by simp [hr])
    have nP : ∀ b ∈ front.map (·.1), @Ne Nat p b := fun b hb => by
      obtain ⟨r, hr, rfl⟩ := List.mem_map.mp hb
      exact Nat.ne_of_gt (nep r (by simp [hr]))
    have z : q = (p, ({ cls := .type "tuple", data := .seq #[Value.int n t, .ref a] } : Obj)) ∨ q ∈ (a, listOf #[x, .bool (V.due n).a, .bool (V.due n).b] c) :: rest ∨ q ∈ own := by
      simp only [List.mem_cons, List.mem_append] at hq ⊢
      rcases hq with (h | h | h) | h <;> simp [h]
    rcases z with rfl | z | z
    · exact nP b hb
    · exact nF b hb q z
    · exact ho q z b hb
theorem FoundRd.len {D : List (Addr × Obj)} {fs : List Value} {P : List (Int × PV)} {h₀ h : Heap} {L : Addr} {news : List (Addr × Obj)} (x : FoundRd D fs P) (N : News h₀ L h news) (hD : ∀ p ∈ D, p ∈ news) : fs.length = P.length := by
  have := (x h fun p hp => (N p (hD p hp)).1).length
  simpa using this
-- L21
noncomputable def SV.gB (V : SV) (e : Int × PV) : List (Int × PV) := if e.1 = 101 ∨ e.1 = 102 then [] else put (V.addB e.1 e.2) e.1
noncomputable def SV.gO (V : SV) (e : Int × PV) : List (Int × PV) := if e.1 = 101 ∨ e.1 = 102 ∨ ¬ findP V.R e.1 < 0 then [] else put (V.addO e.1 e.2) e.1
noncomputable def iB (b : Int → Bool) (e : Int × PV) : List Int := if e.1 = 101 ∨ e.1 = 102 then [] else one (b e.1) e.1
noncomputable def SV.iO (V : SV) (b : Int → Bool) (e : Int × PV) : List Int := if e.1 = 101 ∨ e.1 = 102 ∨ ¬ findP V.R e.1 < 0 then [] else one (b e.1) e.1
theorem foldB (V : SV) : ∀ (P : List (Int × PV)) (T : Told), P.foldl V.stepB T = ⟨T.f ++ P.flatMap V.gB, T.fr ++ P.flatMap (iB V.bothFr), T.re ++ P.flatMap (iB V.bothRe)⟩
  | [], T => by simp
  | e :: P, T => by
    rw [List.foldl_cons, foldB V P]
    unfold SV.stepB
    simp only [List.flatMap_cons, SV.gB, iB]
    split <;> simp
theorem foldO (V : SV) : ∀ (P : List (Int × PV)) (T : Told), P.foldl V.stepO T = ⟨T.f ++ P.flatMap V.gO, T.fr ++ P.flatMap (V.iO V.oneFr), T.re ++ P.flatMap (V.iO V.oneRe)⟩
  | [], T => by simp
  | e :: P, T => by
    rw [List.foldl_cons, foldO V P]
    unfold SV.stepO
    simp only [List.flatMap_cons, SV.gO, SV.iO]
    split <;> simp
theorem told_eq (V : SV) : V.told = ⟨V.R.flatMap V.gB ++ V.L.flatMap V.gO, V.R.flatMap (iB V.bothFr) ++ V.L.flatMap (V.iO V.oneFr), V.R.flatMap (iB V.bothRe) ++ V.L.flatMap (V.iO V.oneRe)⟩ := by
  unfold SV.told
  rw [foldB, foldO]
  simp
theorem heldP_append (A B : List (Int × PV)) (n : Int) : heldP (A ++ B) n = (heldP A n).or (heldP B n) := by
  induction A with
  | nil => simp [heldP]
  | cons e r ih =>
    simp only [List.cons_append, heldP]
    split
    · simp
    · exact ih
theorem heldP_none {P : List (Int × PV)} {n : Int} (h : n ∉ P.map (·.1)) : heldP P n = none := by
  cases e : heldP P n with
  | none => rfl
  | some V => exact absurd (heldP_key e) h
theorem heldP_some {P : List (Int × PV)} {n : Int} (h : n ∈ P.map (·.1)) : (heldP P n).isSome = true := by
  induction P with
  | nil => simp at h
  | cons e r ih =>
    simp only [heldP]
    split
    · rfl
    · rename_i h0
      rcases List.mem_cons.mp h with h | h
      · exact absurd h.symm h0
      · exact ih h
theorem find_none (P : List (Int × PV)) (n : Int) : findP P n < 0 ↔ heldP P n = none := by
  rcases heldP_find P n with ⟨h1, h2⟩ | ⟨k, V, h1, _, h3⟩
  · simp [h1, h2]
  · rw [h3]; constructor
    · intro h; omega
    · intro h; cases h
theorem put_key {o : Option PV} {n : Int} : ∀ e ∈ put o n, e.1 = n := by
  intro e he
  cases o with
  | none => cases he
  | some v => rw [List.mem_singleton.mp he]
/-- a list whose entries bear the keys of another's -/
theorem keys_flat {g : Int × PV → List (Int × PV)} (hg : ∀ e, g e = [] ∨ ∃ v, g e = [(e.1, v)]) : ∀ P : List (Int × PV), ((P.flatMap g).map (·.1)).Sublist (P.map (·.1))
  | [] => List.Sublist.refl _
  | e :: P => by
    rw [List.flatMap_cons, List.map_append, List.map_cons]
    rcases hg e with h | ⟨v, h⟩
    · rw [h]; exact (keys_flat hg P).cons _
    · rw [h]; exact (keys_flat hg P).cons_cons _
theorem ints_flat {g : Int × PV → List Int} (hg : ∀ e, g e = [] ∨ g e = [e.1]) : ∀ P : List (Int × PV), (P.flatMap g).Sublist (P.map (·.1))
  | [] => List.Sublist.refl _
  | e :: P => by
    rw [List.flatMap_cons, List.map_cons]
    rcases hg e with h | h
    · rw [h]; exact (ints_flat hg P).cons _
    · rw [h]; exact (ints_flat hg P).cons_cons _
theorem gB_form (V : SV) (e : Int × PV) : V.gB e = [] ∨ ∃ v, V.gB e = [(e.1, v)] := by
  unfold SV.gB
  split
  · exact .inl rfl
  · cases V.addB e.1 e.2 with
    | none => exact .inl rfl
    | some v => exact .inr ⟨v, rfl⟩
theorem gO_form (V : SV) (e : Int × PV) : V.gO e = [] ∨ ∃ v, V.gO e = [(e.1, v)] := by
  unfold SV.gO
  split
  · exact .inl rfl
  · cases V.addO e.1 e.2 with
    | none => exact .inl rfl
    | some v => exact .inr ⟨v, rfl⟩
theorem iB_form (b : Int → Bool) (e : Int × PV) : iB b e = [] ∨ iB b e = [e.1] := by
  unfold iB one
  split
  · exact .inl rfl
  · split
    · exact .inr rfl
    · exact .inl rfl
theorem iO_form (V : SV) (b : Int → Bool) (e : Int × PV) : V.iO b e = [] ∨ V.iO b e = [e.1] := by
  unfold SV.iO one
  split
  · exact .inl rfl
  · split
    · exact .inr rfl
    · exact .inl rfl
theorem heldP_flat {g : Int × PV → List (Int × PV)} (hg : ∀ e, g e = [] ∨ ∃ v, g e = [(e.1, v)]) (n : Int) : ∀ P : List (Int × PV), (P.map (·.1)).Nodup → heldP (P.flatMap g) n = match heldP P n with | none => none | some v => heldP (g (n, v)) n
  | [], _ => rfl
  | e :: P, hn => by
    rw [List.map_cons, List.nodup_cons] at hn
    rw [List.flatMap_cons, heldP_append, heldP_flat hg n P hn.2]
    simp only [heldP]
    by_cases h : e.1 = n
    · subst h
      rw [if_pos rfl, heldP_none hn.1]
      simp
    · rw [if_neg h]
      have : heldP (g e) n = none := by
        rcases hg e with h1 | ⟨v, h1⟩
        · rw [h1]; rfl
        · rw [h1]; simp [heldP, h]
      rw [this]
      simp
theorem mem_iB {b : Int → Bool} {P : List (Int × PV)} {n : Int} : n ∈ P.flatMap (iB b) ↔ (heldP P n).isSome = true ∧ n ≠ 101 ∧ n ≠ 102 ∧ b n = true := by
  rw [List.mem_flatMap]
  constructor
  · rintro ⟨e, he, hm⟩
    unfold iB one at hm
    split at hm
    · cases hm
    · rename_i h
      split at hm
      · rename_i hb
        rw [List.mem_singleton.mp hm]
        exact ⟨heldP_some (List.mem_map_of_mem he), fun x => h (.inl x), fun x => h (.inr x), hb⟩
      · cases hm
  · rintro ⟨h1, h2, h3, h4⟩
    obtain ⟨v, hv⟩ := Option.isSome_iff_exists.mp h1
    refine ⟨(n, v), heldP_mem hv, ?_⟩
    unfold iB one
    simp [h2, h3, h4]
theorem mem_iO {V : SV} {b : Int → Bool} {P : List (Int × PV)} {n : Int} : n ∈ P.flatMap (V.iO b) ↔ (heldP P n).isSome = true ∧ n ≠ 101 ∧ n ≠ 102 ∧ heldP V.R n = none ∧ b n = true := by
  rw [List.mem_flatMap]
  constructor
  · rintro ⟨e, he, hm⟩
    unfold SV.iO one at hm
    split at hm
    · cases hm
    · rename_i h
      split at hm
      · rename_i hb
        rw [List.mem_singleton.mp hm]
        refine ⟨heldP_some (List.mem_map_of_mem he), fun x => h (.inl x), fun x => h (.inr (.inl x)), ?_, hb⟩
        exact (find_none _ _).mp (Decidable.not_not.mp fun x => h (.inr (.inr x)))
      · cases hm
  · rintro ⟨h1, h2, h3, h5, h4⟩
    obtain ⟨v, hv⟩ := Option.isSome_iff_exists.mp h1
    refine ⟨(n, v), heldP_mem hv, ?_⟩
    unfold SV.iO one
    have := (find_none V.R n).mpr h5
    simp [h2, h3, h4, this]
theorem kept_eq (V : SV) (n : Int) : V.dkept n = V.kept n := by
  unfold SV.dkept SV.kept
  congr 1
  by_cases h : 0 < dv V.d n
  · simp [h, Int.not_le.mpr h]
  · simp [h, Int.not_lt.mp h]
theorem caught_eq (V : SV) (n : Int) : V.dcaught n = V.caught n := rfl
/-- the rule, once more -/
theorem due_r {V : SV} {n : Int} {z : PV} (h : heldP V.R n = some z) : V.due n = if V.fromLeft n = true then ⟨heldP V.L n, V.lf.mem n, false⟩ else if V.caught n = true then ⟨some z, V.rf.mem n, V.rr.mem n⟩ else ⟨none, false, false⟩ := by
  unfold SV.due
  rw [h]
  dsimp only
  rw [kept_eq, caught_eq]
  have e : ((heldP V.L n).isSome = true ∧ V.kept n = true ∧ ¬ (V.caught n = true ∧ heldP V.L n = some PV.nil)) ↔ V.fromLeft n = true := by
    unfold SV.fromLeft heldV
    cases hl : heldP V.L n with
    | none => simp
    | some x =>
      simp only [Option.isSome_some, Option.getD_some, Option.some.injEq, true_and, Bool.true_and, Bool.and_eq_true, Bool.not_eq_true', Bool.and_eq_false_iff, decide_eq_false_iff_not]
      by_cases h1 : V.caught n = true <;> by_cases h2 : x = PV.nil <;> simp [h1, h2]
  by_cases h1 : V.fromLeft n = true
  · rw [if_pos (e.mpr h1), if_pos h1]
  · rw [if_neg (fun x => h1 (e.mp x)), if_neg h1]
theorem due_l {V : SV} {n : Int} {x : PV} (h : heldP V.R n = none) (hl : heldP V.L n = some x) : V.due n = if V.kept n = true then ⟨some x, V.lf.mem n, false⟩ else ⟨none, V.caught n, V.caught n && V.rr.mem n⟩ := by
  unfold SV.due
  rw [h, hl]
  dsimp only
  rw [kept_eq, caught_eq]
theorem due_n {V : SV} {n : Int} (h : heldP V.R n = none) (hl : heldP V.L n = none) : V.due n = ⟨none, false, false⟩ := by
  unfold SV.due
  rw [h, hl]
section
variable {V : SV} (hL : PlSide V.L) (hR : PlSide V.R)
include hL hR
theorem told_fr (n : Int) (hn : n = 1 ∨ n = 2 ∨ n = 3) : n ∈ V.told.fr ↔ (V.due n).a = true := by
  rw [told_eq]
  dsimp only
  rw [List.mem_append, mem_iB, mem_iO]
  have h1 : n ≠ 101 := by omega
  have h2 : n ≠ 102 := by omega
  cases hr : heldP V.R n with
  | some z =>
    rw [due_r hr]
    simp only [Option.isSome_some, h1, h2, ne_eq, not_false_eq_true, true_and, SV.bothFr, reduceCtorEq, false_and, and_false, or_false]
    by_cases e1 : V.fromLeft n = true <;> by_cases e2 : V.caught n = true <;> simp [e1, e2]
  | none =>
    cases hl : heldP V.L n with
    | none => rw [due_n hr hl]; simp
    | some x =>
      rw [due_l hr hl]
      simp only [Option.isSome_some, Option.isSome_none, h1, h2, ne_eq, not_false_eq_true, true_and, SV.oneFr, Bool.false_eq_true, false_and, false_or]
      by_cases e1 : V.kept n = true <;> simp [e1]
theorem told_re (n : Int) (hn : n = 1 ∨ n = 2 ∨ n = 3) : n ∈ V.told.re ↔ (V.due n).b = true := by
  rw [told_eq]
  dsimp only
  rw [List.mem_append, mem_iB, mem_iO]
  have h1 : n ≠ 101 := by omega
  have h2 : n ≠ 102 := by omega
  cases hr : heldP V.R n with
  | some z =>
    rw [due_r hr]
    simp only [Option.isSome_some, h1, h2, ne_eq, not_false_eq_true, true_and, SV.bothRe, reduceCtorEq, false_and, and_false, or_false]
    by_cases e1 : V.fromLeft n = true <;> by_cases e2 : V.caught n = true <;> simp [e1, e2]
  | none =>
    cases hl : heldP V.L n with
    | none => rw [due_n hr hl]; simp
    | some x =>
      rw [due_l hr hl]
      simp only [Option.isSome_some, Option.isSome_none, h1, h2, ne_eq, not_false_eq_true, true_and, SV.oneRe, Bool.false_eq_true, false_and, false_or]
      by_cases e1 : V.kept n = true <;> by_cases e2 : V.caught n = true <;> simp [e1, e2]
theorem told_f (n : Int) (hn : n = 1 ∨ n = 2 ∨ n = 3) : heldP V.told.f n = (V.due n).v := by
  have nL : (V.L.map (·.1)).Nodup := hL.sub.nodup (by decide)
  have nR : (V.R.map (·.1)).Nodup := hR.sub.nodup (by decide)
  rw [told_eq]
  dsimp only
  rw [heldP_append, heldP_flat (gB_form V) n _ nR, heldP_flat (gO_form V) n _ nL]
  have h1 : n ≠ 101 := by omega
  have h2 : n ≠ 102 := by omega
  cases hr : heldP V.R n with
  | some z =>
    have hf : ¬ findP V.R n < 0 := fun x => by rw [find_none] at x; rw [x] at hr; cases hr
    have e2 : (match heldP V.L n with | none => none | some v => heldP (V.gO (n, v)) n) = none := by
      cases heldP V.L n with
      | none => rfl
      | some v => simp [SV.gO, hf, heldP]
    rw [e2, due_r hr]
    simp only [SV.gB, h1, h2, or_self, if_false, SV.addB, Option.or_none]
    by_cases e1 : V.fromLeft n = true
    · simp only [e1, if_true, put, heldP]
      have hs : (heldP V.L n).isSome = true := by
        unfold SV.fromLeft at e1
        simp only [Bool.and_eq_true] at e1
        exact e1.1.1
      obtain ⟨x, hx⟩ := Option.isSome_iff_exists.mp hs
      simp [heldV, hx]
    · by_cases e2 : V.caught n = true <;> simp [e1, e2, put, heldP]
  | none =>
    have hf := (find_none V.R n).mpr hr
    cases hl : heldP V.L n with
    | none => rw [due_n hr hl]; simp
    | some x =>
      rw [due_l hr hl]
      simp only [SV.gO, h1, h2, hf, not_true_eq_false, or_self, if_false, SV.addO, Option.none_or]
      by_cases e1 : V.kept n = true <;> simp [e1, put, heldP]
theorem told_keys : (V.told.f.map (·.1)).Nodup ∧ ∀ k ∈ V.told.f.map (·.1), k = 1 ∨ k = 2 ∨ k = 3 := by
  have nL : (V.L.map (·.1)).Nodup := hL.sub.nodup (by decide)
  have nR : (V.R.map (·.1)).Nodup := hR.sub.nodup (by decide)
  have sB := keys_flat (gB_form V) V.R
  have sO := keys_flat (gO_form V) V.L
  have kB : ∀ k ∈ (V.R.flatMap V.gB).map (·.1), k ≠ 101 ∧ k ≠ 102 := by
    intro k hk
    obtain ⟨e, he, rfl⟩ := List.mem_map.mp hk
    obtain ⟨e', _, hm⟩ := List.mem_flatMap.mp he
    unfold SV.gB at hm
    split at hm
    · cases hm
    · rename_i h
      rw [put_key e hm]
      exact ⟨fun x => h (.inl x), fun x => h (.inr x)⟩
  have kO : ∀ k ∈ (V.L.flatMap V.gO).map (·.1), k ≠ 101 ∧ k ≠ 102 ∧ heldP V.R k = none := by
    intro k hk
    obtain ⟨e, he, rfl⟩ := List.mem_map.mp hk
    obtain ⟨e', _, hm⟩ := List.mem_flatMap.mp he
    unfold SV.gO at hm
    split at hm
    · cases hm
    · rename_i h
      rw [put_key e hm]
      exact ⟨fun x => h (.inl x), fun x => h (.inr (.inl x)), (find_none _ _).mp (Decidable.not_not.mp fun x => h (.inr (.inr x)))⟩
  rw [told_eq]
  dsimp only
  rw [List.map_append]
  refine ⟨List.nodup_append.mpr ⟨sB.nodup nR, sO.nodup nL, fun a ha b hb e => ?_⟩, fun k hk => ?_⟩
  · subst e
    have := heldP_some (sB.subset ha)
    rw [(kO a hb).2.2] at this
    cases this
  · rcases List.mem_append.mp hk with h | h
    · have z := hR.sub.subset (sB.subset h)
      have q := kB k h
      simp only [List.mem_cons, List.not_mem_nil, or_false] at z
      omega
    · have z := hL.sub.subset (sO.subset h)
      have q := kO k h
      simp only [List.mem_cons, List.not_mem_nil, or_false] at z
      omega
theorem told_nodup {b c : Int → Bool} : (V.R.flatMap (iB b) ++ V.L.flatMap (V.iO c)).Nodup ∧ ∀ k ∈ V.R.flatMap (iB b) ++ V.L.flatMap (V.iO c), k = 1 ∨ k = 2 ∨ k = 3 := by
  have nL : (V.L.map (·.1)).Nodup := hL.sub.nodup (by decide)
  have nR : (V.R.map (·.1)).Nodup := hR.sub.nodup (by decide)
  have sB := ints_flat (iB_form b) V.R
  have sO := ints_flat (iO_form V c) V.L
  refine ⟨List.nodup_append.mpr ⟨sB.nodup nR, sO.nodup nL, fun x hx y hy e => ?_⟩, fun k hk => ?_⟩
  · subst e
    have h1 := (mem_iB.mp hx).1
    rw [(mem_iO.mp hy).2.2.2.1] at h1
    cases h1
  · rcases List.mem_append.mp hk with h | h
    · have z := hR.sub.subset (sB.subset h)
      have q := mem_iB.mp h
      simp only [List.mem_cons, List.not_mem_nil, or_false] at z
      omega
    · have z := hL.sub.subset (sO.subset h)
      have q := mem_iO.mp h
      simp only [List.mem_cons, List.not_mem_nil, or_false] at z
      omega
theorem told_perm {l : List Int} {f : Int → Bool} (hn : l.Nodup) (hk : ∀ k ∈ l, k = 1 ∨ k = 2 ∨ k = 3) (h : ∀ n, n = 1 ∨ n = 2 ∨ n = 3 → (n ∈ l ↔ f n = true)) : l.Perm (([1, 2, 3] : List Int).filter f) := by
  refine (List.perm_ext_iff_of_nodup hn (List.Pairwise.filter _ (by decide : ([1, 2, 3] : List Int).Nodup))).mpr fun n => ?_
  rw [List.mem_filter]
  constructor
  · intro hm
    have := hk n hm
    exact ⟨by simpa using this, (h n this).mp hm⟩
  · rintro ⟨h1, h2⟩
    exact (h n (by simpa using h1)).mpr h2
theorem law_okV : LawOk V := by
  obtain ⟨k1, k2⟩ := told_keys hL hR
  have n1 : (101 : Int) ∉ V.told.f.map (·.1) := fun h => by have := k2 _ h; omega
  have n2 : (102 : Int) ∉ V.told.f.map (·.1) := fun h => by have := k2 _ h; omega
  have fr := told_nodup hL hR (b := V.bothFr) (c := V.oneFr)
  have re := told_nodup hL hR (b := V.bothRe) (c := V.oneRe)
  have efr : V.told.fr = V.R.flatMap (iB V.bothFr) ++ V.L.flatMap (V.iO V.oneFr) := by rw [told_eq]
  have ere : V.told.re = V.R.flatMap (iB V.bothRe) ++ V.L.flatMap (V.iO V.oneRe) := by rw [told_eq]
  rw [← efr] at fr
  rw [← ere] at re
  have pfr := told_perm hL hR fr.1 fr.2 (told_fr hL hR)
  have pre := told_perm hL hR re.1 re.2 (told_re hL hR)
  have lfr : V.told.fr.length ≤ 3 := pfr.length_eq ▸ List.length_filter_le _ _
  have lre : V.told.re.length ≤ 3 := pre.length_eq ▸ List.length_filter_le _ _
  refine ⟨?_, ?_, ?_, ?_, ?_, ?_⟩
  · unfold Told.all
    by_cases e1 : V.told.re = [] <;> by_cases e2 : V.told.fr = [] <;> simp only [e1, e2, if_true, if_false, List.append_nil, List.map_append, List.map_cons, List.map_nil]
    · exact k1
    · exact List.nodup_append.mpr ⟨k1, by simp, fun a ha b hb e => by rw [List.mem_singleton.mp hb] at e; subst e; exact n1 ha⟩
    · exact List.nodup_append.mpr ⟨k1, by simp, fun a ha b hb e => by rw [List.mem_singleton.mp hb] at e; subst e; exact n2 ha⟩
    · refine List.nodup_append.mpr ⟨List.nodup_append.mpr ⟨k1, by simp, fun a ha b hb e => by rw [List.mem_singleton.mp hb] at e; subst e; exact n2 ha⟩, by simp, fun a ha b hb e => ?_⟩
      rw [List.mem_singleton.mp hb] at e
      subst e
      rcases List.mem_append.mp ha with h | h
      · exact n1 h
      · simp at h
  · intro e he
    unfold Told.all at he
    simp only [List.mem_append] at he
    rcases he with (h | h) | h
    · have := k2 _ (List.mem_map_of_mem h)
      omega
    · split at h
      · cases h
      · rw [List.mem_singleton.mp h]; simp
    · split at h
      · cases h
      · rw [List.mem_singleton.mp h]; simp
  · have hs : V.told.f.length ≤ 10 := by
      rw [told_eq]
      dsimp only
      rw [List.length_append]
      have a := (keys_flat (gB_form V) V.R).length_le
      have b := (keys_flat (gO_form V) V.L).length_le
      simp only [List.length_map] at a b
      have := hL.len
      have := hR.len
      omega
    unfold Told.all
    simp only [List.length_append]
    split <;> split <;> simp <;> omega
  · intro n hn
    unfold Told.all
    rw [heldP_append, heldP_append, told_f hL hR n hn]
    have e1 : heldP (if V.told.re = [] then [] else [((102 : Int), PV.lst V.told.re)]) n = none := by
      split
      · rfl
      · simp only [heldP]; rw [if_neg (by omega)]
    have e2 : heldP (if V.told.fr = [] then [] else [((101 : Int), PV.lst V.told.fr)]) n = none := by
      split
      · rfl
      · simp only [heldP]; rw [if_neg (by omega)]
    rw [e1, e2]
    simp
  · have e : heldP V.told.all 101 = if V.told.fr = [] then none else some (.lst V.told.fr) := by
      unfold Told.all
      rw [heldP_append, heldP_append, heldP_none n1]
      by_cases e1 : V.told.re = [] <;> by_cases e2 : V.told.fr = [] <;> simp [e1, e2, heldP]
    by_cases e2 : V.told.fr = []
    · refine .inl ⟨by rw [e, if_pos e2], ?_⟩
      rw [e2] at pfr
      exact pfr.nil_eq.symm
    · exact .inr ⟨_, by rw [e, if_neg e2], e2, by omega, pfr⟩
  · have e : heldP V.told.all 102 = if V.told.re = [] then none else some (.lst V.told.re) := by
      unfold Told.all
      rw [heldP_append, heldP_append, heldP_none n2]
      by_cases e1 : V.told.re = [] <;> by_cases e2 : V.told.fr = [] <;> simp [e1, e2, heldP]
    by_cases e2 : V.told.re = []
    · refine .inl ⟨by rw [e, if_pos e2], ?_⟩
      rw [e2] at pre
      exact pre.nil_eq.symm
    · exact .inr ⟨_, by rw [e, if_neg e2], e2, by omega, pre⟩
end
theorem law_ok {PL PR : List (Int × PV)} {d : Int → Int} (hL : PlSide PL) (hR : PlSide PR) : LawOk (SV.of PL PR d) := law_okV (V := SV.of PL PR d) hL hR
-- L22
theorem PlSide.ls {P : List (Int × PV)} (x : PlSide P) {n : Int} (hn : n = 101 ∨ n = 102) : ∀ V, heldP P n = some V → V.Ls := fun V h => (x.ent _ (heldP_mem h)).2 hn
section
variable {w : World} {mean : ExcName → Option Value} {mg mb : Str → Option Value} {A A₀ : Around} {base h₀ : Heap} {outer : List Env} {L a : Addr} {m : Str → Option Value} {s : Shared} {Q E : Value → Shared → Prop} {cn : Str} {cs : Scope} {ccd : Value} {cl : List (Str × Addr)}
  {news D : List (Addr × Obj)} {PL PR : List (Int × PV)} {dd : Int → Int} {v1 v2 : Value} {df : Addr} {n : Int} {tn : Tok}
theorem due_use (hL : PlSide PL) (hR : PlSide PR) (l1 : LRd D v1 (plD PL)) (l2 : LRd D v2 (plD PR)) (lt : LTab w D df dd) (hn : n = 1 ∨ n = 2 ∨ n = 3) (hD : ∀ p ∈ D, p ∈ news)
    (B : Below A₀ base outer h₀) (F : Fr h₀ L s.heap m) (X : (Mine.hd.heap_39 w.params).In h₀) (N : News h₀ L s.heap news) (T : Top Mine.hd.view_39 (looseW Mine.hd.view_39 []) mean mg mb h₀)
    (hA : A.frames = some (envX cn cs L a ccd cl :: outer)) (hh : A.handled = none) (hk : cs.kind = .function) (hd : A.depth ≤ 600) (hu : A.units ≤ 6000)
    (ret : ∀ b own h' tk', Fr h₀ L h' m → News h₀ L h' (own ++ news) → (∀ p ∈ own, ∀ q ∈ news, @Ne Nat p.1 q.1) → DueP ((SV.of PL PR dd).due n) h' (.ref b) own → Q (.ref b) { s with heap := h', toks := tk' }) :
    wpAny (model PySem.Challenge.rw_np0033_01.row.prog w) A (call (.ref 259) [v1, v2, .ref df, .int n tn]) Q E s := by
  have hH : ∀ p ∈ D, s.heap.get? p.1 = some p.2 := fun p hp => (N p (hD p hp)).1
  have r1 := l1 _ hH
  have r2 := l2 _ hH
  have hLn : PL.length ≤ 100 := Nat.le_trans hL.len (by decide)
  have hRn : PR.length ≤ 100 := Nat.le_trans hR.len (by decide)
  obtain ⟨oL, gL⟩ := got_of r1 hLn n
  obtain ⟨oR, gR⟩ := got_of r2 hRn n
  refine spec_use (due_spec w mean mg mb v1 v2 df (SV.of PL PR dd) n tn oL oR hLn hRn rfl rfl rfl rfl (hL.ls (.inl rfl)) (hL.ls (.inr rfl)) (hR.ls (.inl rfl)) (hR.ls (.inr rfl)) (hL.ok.heldFlat (by omega) (by omega)) (hR.ok.heldFlat (by omega) (by omega)))
    B F X N T hA hh hk hd hu ⟨r1, r2, gL, gR, lt _ hH⟩ fun r own h' tk' F' N' _ ne po => ?_
  refine Mine.hide ?_; intro Gq hGq
  obtain ⟨b, x, c, rest, rfl, e, hx⟩ := po
  refine hGq ?_; clear hGq Gq
  exact ret b own h' tk' F' N' ne ⟨b, x, c, rest, rfl, e, hx⟩
/-- what _law_held finds in what is told -/
noncomputable def HeldOne (D own : List (Addr × Obj)) (r : Value) (o : Option PV) : Prop :=
  match o with
  | none => r = .none ∧ own = []
  | some V => ∃ a y, r = .ref a ∧ own = [(a, ({ cls := .type "tuple", data := .seq #[y] } : Obj))] ∧ LRd D y V.py
theorem found_item {fs : List Value} {P : List (Int × PV)} {h : Heap} {k : Nat} {p : Addr} {n n' : Int} {t : Tok} {y : Value} {V : PV} (x : FoundRd D fs P) (hD : ∀ p ∈ D, h.get? p.1 = some p.2) (hk : fs[k]? = some (.ref p)) (hT : IsTup h p #[.int n t, y]) (hP : P[k]? = some (n', V)) :
    LRd D y V.py := by
  have at' : ∀ H : Heap, (∀ p ∈ D, H.get? p.1 = some p.2) → ∃ t' y', IsTup H p #[.int n' t', y'] ∧ Rd H y' V.py := fun H hH => by
    obtain ⟨d, hd, hr⟩ := (x H hH).get k _ hk
    simp only [List.getElem?_map, hP, Option.map_some, Option.some.injEq] at hd
    subst hd
    obtain ⟨a, t', y', e, h1, h2⟩ := ent_inv hr
    cases e
    exact ⟨t', y', h1, h2⟩
  have hq : ∃ q ∈ D, q.1 = p := by
    refine Classical.byContradiction fun hno => ?_
    have hno' : ∀ q ∈ D, q.1 ≠ p := fun q hq e => hno ⟨q, hq, e⟩
    obtain ⟨t', y', ⟨o, ho, _⟩, _⟩ := at' (hideAll h [p]) fun q hq => hideAll_get _ (hD q hq) (by simpa using hno' q hq)
    rw [show (hideAll h [p]).get? p = none from hideAll_none _ (List.mem_singleton.mpr rfl)] at ho
    cases ho
  obtain ⟨q, hqD, rfl⟩ := hq
  intro H hH
  obtain ⟨t', y', ⟨o1, q1, _, n1, q2⟩, hr⟩ := at' H hH
  obtain ⟨o2, r1, _, n2, r2⟩ := hT
  rw [hH q hqD] at q1
  rw [hD q hqD] at r1
  cases q1; cases r1
  rw [q2] at r2
  cases r2
  exact hr
theorem held_use {fo : Addr} {fs : List Value} {c : Nat} {P : List (Int × PV)} (hF : FoundRd D fs P) (hfo : (fo, listOf fs.toArray c) ∈ news) (hP : P.length ≤ 100) (hD : ∀ p ∈ D, p ∈ news)
    (B : Below A₀ base outer h₀) (F : Fr h₀ L s.heap m) (X : (Mine.hd.heap_39 w.params).In h₀) (N : News h₀ L s.heap news) (T : Top Mine.hd.view_39 (looseW Mine.hd.view_39 []) mean mg mb h₀)
    (hA : A.frames = some (envX cn cs L a ccd cl :: outer)) (hh : A.handled = none) (hk : cs.kind = .function) (hd : A.depth ≤ 800) (hu : A.units ≤ 8000)
    (ret : ∀ r own h' tk', Fr h₀ L h' m → News h₀ L h' (own ++ news) → (∀ p ∈ own, ∀ q ∈ news, @Ne Nat p.1 q.1) → HeldOne D own r (heldP P n) → Q r { s with heap := h', toks := tk' }) :
    wpAny (model PySem.Challenge.rw_np0033_01.row.prog w) A (call (.ref 245) [.ref fo, .int n tn]) Q E s := by
  have hH : ∀ p ∈ D, s.heap.get? p.1 = some p.2 := fun p hp => (N p (hD p hp)).1
  have hl : s.heap.IsList fo fs.toArray := ⟨_, (N _ hfo).1, rfl, c, rfl⟩
  have r1 : Rd s.heap (.ref fo) (plD P) := Rd.list hl (hF _ hH)
  obtain ⟨o, g⟩ := got_of r1 hP n
  refine spec_use (held_spec w mean mg mb (.ref fo) P n tn o hP) B F X N T hA hh hk hd hu ⟨r1, g⟩ fun r own h' tk' F' N' _ ne po => ret r own h' tk' F' N' ne ?_
  unfold HeldOne
  rcases g with ⟨rfl, e2, _⟩ | ⟨k, V, b, vs, ea, et, y, rfl, e2, e3, _, e4, e5, e6, e7, e8⟩
  · rw [e2]
    obtain ⟨h1, h2⟩ := po
    exact ⟨h2, h1⟩
  · rw [e2]
    obtain ⟨a', h1, h2⟩ := po
    refine ⟨a', y, h1, h2, ?_⟩
    cases e4
    have ev : vs = fs := by
      refine Mine.hide ?_; intro Gq hGq
      obtain ⟨o1, q1, _, n1, q2⟩ := e5
      obtain ⟨o2, r1, _, n2, r2⟩ := hl
      refine hGq ?_; clear hGq Gq
      rw [q1] at r1; cases r1
      rw [q2] at r2; cases r2; rfl
    subst ev
    rcases heldP_find P n with ⟨hlt, _⟩ | ⟨k', V', f1, f2, f3⟩
    · omega
    · have ek : k' = k := by omega
      subst ek
      rw [e2] at f3; cases f3
      exact found_item hF hH e6 e7 f2
end
theorem HeldOne.lrd {D own : List (Addr × Obj)} {r : Value} {o : Option PV} (h : HeldOne D own r o) : LRd (own ++ D) r (oneD o) := by
  intro H hH
  cases o with
  | none => rw [h.1]; exact Rd.none
  | some V =>
    obtain ⟨a, y, rfl, rfl, hy⟩ := h
    exact Rd.tuple (vs := [y]) ⟨_, hH (a, _) (.head _), rfl, _, rfl⟩ (.cons (hy H fun p hp => hH p (.tail _ hp)) .nil)
-- L23
section
variable {prog : Program} {w : World} {A : Around} {E : Value → Shared → Prop} {s : Shared} {env : Env} {h₀ : Heap} {Q : Flow → Shared → Prop} {m : Str → Option Value} {news : List (Addr × Obj)}
/-- a loop over pairs of the ledger, that changes no object -/
theorem iter_pairsK {l : Addr} {ol : Obj} {vs : List Value} {xa xb : Str} {pa pb tp : Pos} {kk : Nat} {body : List Stmt} (R : Nat → Value → Value → Prop)
    (hh : A.handled = none) (hlm : (l, ol) ∈ news) (hl1 : ol.cls = .type "list") (hl2 : ∃ n, ol.data = .seq vs.toArray n) (hab : ¬ xa = xb) (ha : env.kindOf xa = some .local) (hb : env.kindOf xb = some .local) (hp : (env.scope.kind == .class || (env.scope.kind == .module && env.locals != env.globals)) = false)
    (hit : ∀ (i : Nat) v, vs[i]? = some v → ∃ a x y, v = .ref a ∧ (∀ H, News h₀ env.locals H news → IsTup H a #[x, y]) ∧ R i x y)
    (F : Fr h₀ env.locals s.heap m) (N : News h₀ env.locals s.heap news)
    (turn : ∀ (i : Nat) x y h tk I oI (s₁ : Shared), i < vs.length → R i x y → (∀ p ∈ news, @Ne Nat p.1 I) →
      Fr h₀ env.locals h (fun z => if z = xb then some y else if z = xa then some x else m z) → News h₀ env.locals h ((I, oI) :: news) →
      wpAny (model prog w) A (execs body env) (PTurn h₀ env.locals xa xb m I oI (fun led => led = news) s₁) E { s₁ with heap := h, toks := tk })
    (done : ∀ m' h tk, OffTwo xa xb m m' → Fr h₀ env.locals h m' → News h₀ env.locals h news → Q .next { s with heap := h, toks := tk }) :
    wpAny (model prog w) A (pyIter (.ref l)) (fun it s₂ => LoopAtT prog w A h₀ env (.Tuple [.Name xa pa, .Name xb pb] kk tp) body Q E it s₂) E s := by
  have hls : s.heap.IsList l vs.toArray := ⟨ol, (N _ hlm).1, hl1, hl2⟩
  have hlt : l < s.heap.objs.size := Heap.lt_size (N _ hlm).1
  have hne : l ≠ s.heap.objs.size := Nat.ne_of_lt hlt
  refine wpAny_pyIter_list hls ?_
  have W := Walks.list (prog := prog) (w := w) hh s.heap.objs.size l hne vs.toArray
  have hlen : vs.toArray.size = vs.length := by simp
  rw [hlen] at W
  refine ⟨_, _, _, vs.length, _, _, m, news, (fun i m₁ led => OffTwo xa xb m m₁ ∧ led = news), rfl, W, ?_, ?_, ?_, ⟨⟨_, Heap.get?_push_size _ rfl, rfl, rfl⟩, hls.at fun o e => Heap.get?_push_of_some _ e⟩, F.push _,
    (fun p hp => ⟨Heap.get?_push_of_some _ (N p hp).1, (N p hp).2⟩), (fun i s' v Q' st hQ' => letGo_listiter st.1 hQ'), ⟨fun _ _ _ => rfl, rfl⟩, ?_, ?_⟩
  · intro hm
    rcases List.mem_cons.mp hm with e | hm
    · exact absurd F.ns.lt (e ▸ Nat.lt_irrefl _)
    · exact (N _ hlm).2.1 (List.mem_singleton.mp hm).symm
  · intro b hb
    rw [List.mem_singleton.mp hb]
    exact next_is_new F
  · intro p hp hI
    exact absurd (Heap.lt_size (N p hp).1) ((List.mem_singleton.mp hI) ▸ Nat.lt_irrefl _)
  · rintro i v m₁ led s₁ own hi hP ⟨hoff, rfl⟩ hnw hsub hown hget hst F₁ N₁
    have hvi : vs[i]? = some v := by simpa using hP
    refine Mine.hide ?_; intro Gq hGq
    obtain ⟨a, x, y, rfl, hT, hR⟩ := hit i v hvi
    obtain ⟨⟨oI, hoI, _⟩, _⟩ := id hst
    refine hGq ?_; clear hGq Gq
    have hIn : h₀.get? s.heap.objs.size = none := next_is_new F
    have hIown : (s.heap.objs.size, oI) ∈ own := hget _ (List.mem_cons_self ..) hIn _ hoI
    have Nn : News h₀ env.locals s₁.heap led := fun p hp => N₁ p (List.mem_append.mpr (.inr hp))
    have ownI : ∀ p ∈ own, p = (s.heap.objs.size, oI) ∨ p = (l, ol) := by
      intro p hp
      have z := hown p hp
      obtain ⟨p1, p2⟩ := p
      rcases List.mem_cons.mp (hsub _ hp) with e | e
      · dsimp only at e z; subst e; rw [hoI] at z; cases z; exact .inl rfl
      · have e := List.mem_singleton.mp e
        dsimp only at e z; subst e; rw [(Nn _ hlm).1] at z; cases z; exact .inr rfl
    refine kcp_assign (x := x) (y := y) (m := m₁) hh (hT _ Nn) ha hb hp F₁.ns fun h₂ tk₂ hn₂ hk₂ => ?_
    have hL₀ : h₀.get? env.locals = none := Heap.get?_none_of_le F₁.above
    have F₂ : Fr h₀ env.locals h₂ (fun z => if z = xb then some y else if z = xa then some x else m z) := by
      have em : (fun z => if z = xb then some y else if z = xa then some x else m₁ z) = fun z => if z = xb then some y else if z = xa then some x else m z := by
        funext z
        by_cases h1 : z = xb
        · simp [h1]
        · by_cases h2 : z = xa
          · simp [h2]
          · simp only [if_neg h1, if_neg h2]; exact hoff z h2 h1
      rw [em] at hn₂
      exact ⟨hn₂, fun b o e => hk₂ b o (fun q => by rw [q, hL₀] at e; cases e) (F₁.keep b o e), F₁.above⟩
    have N₂ : News h₀ env.locals h₂ ((s.heap.objs.size, oI) :: led) := fun p hp => by
      have z : p ∈ own ++ led := by
        rcases List.mem_cons.mp hp with rfl | hp
        · exact List.mem_append.mpr (.inl hIown)
        · exact List.mem_append.mpr (.inr hp)
      have q := N₁ p z
      exact ⟨hk₂ _ _ q.2.1 q.1, q.2⟩
    refine wpAny_mono (turn i x y h₂ tk₂ s.heap.objs.size oI s₁ hi hR (fun p hp e => hnw p hp (by rw [e]; exact List.mem_singleton.mpr rfl)) F₂ N₂) (fun f s₃ h₃ => ?_) fun _ _ e => e
    refine Mine.hide ?_; intro Gq hGq
    obtain ⟨rfl, h', tk', m', led', rfl, F', N', ne', off', rfl⟩ := h₃
    refine hGq ?_; clear hGq Gq
    refine ⟨rfl, h', tk', m', led', rfl, F', fun p hp => ?_, fun p hp hI => ne' p hp (List.mem_singleton.mp hI), off', rfl⟩
    rcases List.mem_append.mp hp with hp | hp
    · rcases ownI p hp with rfl | rfl
      · exact N' _ (List.mem_cons_self ..)
      · exact N' _ (List.mem_cons_of_mem _ hlm)
    · exact N' p (List.mem_cons_of_mem _ hp)
  · rintro h' tk m' led F' N' _ ⟨hoff, rfl⟩
    exact done m' h' tk hoff F' N'
theorem row_hit {D3 : List (Addr × Obj)} {V : SV} {ys : List Value} {L : Addr} (hD : ∀ p ∈ D3, p ∈ news) (hr : ∀ (j : Nat) v, ys[j]? = some v → DueRow D3 ((j : Int) + 1) (V.due ((j : Int) + 1)) v) :
    ∀ (i : Nat) v, ys[i]? = some v → ∃ p x y, v = .ref p ∧ (∀ H, News h₀ L H news → IsTup H p #[x, y]) ∧ (∃ n t a z c, x = .int n t ∧ n = (i : Int) + 1 ∧ y = .ref a ∧ (a, listOf #[z, .bool (V.due n).a, .bool (V.due n).b] c) ∈ news ∧ LRd D3 z (oneD (V.due n).v)) := by
  intro i v hv
  obtain ⟨p, t, a, x, c, rfl, h1, h2, h3⟩ := hr i v hv
  exact ⟨p, _, _, rfl, fun H N => ⟨_, (N _ (hD _ h1)).1, rfl, _, rfl⟩, _, t, a, x, c, rfl, rfl, rfl, hD _ h2, h3⟩
theorem oneD_lay (o : Option PV) : PyData.canLay0 (oneD o) = true := by
  cases o with
  | none => rfl
  | some V => simp only [oneD, PyData.canLay0, PyData.canLayAll0, pv_lay, Bool.and_true]
theorem pv_depth (V : PV) : V.py.depth ≤ 2 := by
  cases V with
  | lst ns =>
    have : ∀ ns : List Int, PyData.depthAll (ns.map symD) ≤ 1 := by
      intro ns
      induction ns with
      | nil => exact Nat.zero_le _
      | cons n r ih => simp only [List.map_cons, PyData.depthAll]; exact Nat.max_le.mpr ⟨Nat.le_refl _, ih⟩
    have k := this ns
    simp only [PV.py, PyData.depth, PyData.depthAll]
    omega
  | nil => exact Nat.zero_le _
  | int i => exact Nat.zero_le _
  | tru => exact Nat.zero_le _
theorem ne_one {r x : Value} {o : Option PV} {Q : Value → Shared → Prop} (r1 : Rd s.heap r (oneD o)) (r2 : Rd s.heap x (oneD o)) (hu : A.units + 64 < cLine) (h : Q (.bool false) s) : wpAny (model prog w) A (compareOp .NotEq r x) Q E s := by
  obtain ⟨as, r1⟩ := r1
  obtain ⟨bs, r2⟩ := r2
  refine SeqAt.compareNe_reads r1 r2 (oneD_lay o) (oneD_lay o) ?_ ?_
  · have hd : (oneD o).depth ≤ 4 := by
      cases o with
      | none => exact Nat.zero_le _
      | some V =>
        have := pv_depth V
        simp only [oneD, PyData.depth, PyData.depthAll]
        omega
    omega
  · rw [SeqAt.eqv_refl _ (oneD_lay o)]
    exact h
end
theorem isList_of {h₀ h : Heap} {L a : Addr} {news : List (Addr × Obj)} {xs : Array Value} {c : Nat} (N : News h₀ L h news) (hm : (a, listOf xs c) ∈ news) : h.IsList a xs := ⟨_, (N _ hm).1, rfl, c, rfl⟩
-- L24
/-- the end of a turn over a tuple that the call has made, any target -/
noncomputable def TTurn (h₀ : Heap) (L : Addr) (I : Addr) (oI : Obj) (T : Addr) (oT : Obj) (J : (Str → Option Value) → List (Addr × Obj) → Prop) (s₁ : Shared) (f : Flow) (s₂ : Shared) : Prop :=
  f = .next ∧ ∃ h' tk' m' led', s₂ = { s₁ with heap := h', toks := tk' } ∧ Fr h₀ L h' m' ∧ News h₀ L h' ((I, oI) :: (T, oT) :: led') ∧ (∀ p ∈ led', @Ne Nat p.1 I) ∧ J m' led'
section
variable {prog : Program} {w : World} {A : Around} {E : Value → Shared → Prop} {s : Shared} {env : Env} {h₀ : Heap} {Q : Flow → Shared → Prop} {m : Str → Option Value} {news : List (Addr × Obj)}
theorem iter_tupT {T : Addr} {oT : Obj} {items : List Value} {target : PySem.Expr} {body : List Stmt} (J : Nat → (Str → Option Value) → List (Addr × Obj) → Prop)
    (hh : A.handled = none) (hT1 : oT.cls = .type "tuple") (hT2 : ∃ n, oT.data = .seq items.toArray n)
    (F : Fr h₀ env.locals s.heap m) (N : News h₀ env.locals s.heap ((T, oT) :: news)) (h0 : J 0 m news)
    (turn : ∀ (i : Nat) v m₁ led h tk I oI oT (s₁ : Shared), items[i]? = some v → J i m₁ led → (∀ p ∈ led, @Ne Nat p.1 I) → @Ne Nat T I →
      Fr h₀ env.locals h m₁ → News h₀ env.locals h ((I, oI) :: (T, oT) :: led) →
      wpAny (model prog w) A (assign target env v) (fun _ s₃ => wpAny (model prog w) A (execs body env) (TTurn h₀ env.locals I oI T oT (J (i + 1)) s₁) E s₃) E { s₁ with heap := h, toks := tk })
    (done : ∀ m' led h tk, J items.length m' led → Fr h₀ env.locals h m' → News h₀ env.locals h led → Q .next { s with heap := h, toks := tk }) :
    wpAny (model prog w) A (pyIter (.ref T)) (fun it s₂ => LoopAtT prog w A h₀ env target body Q E it s₂) E s := by
  have hT : IsTup s.heap T items.toArray := ⟨oT, (N _ (.head _)).1, hT1, hT2⟩
  have hTs : T < s.heap.objs.size := Heap.lt_size (N _ (.head _)).1
  have hne : T ≠ s.heap.objs.size := Nat.ne_of_lt hTs
  refine iter_tuple hT ?_
  have W := Walks.tuple (prog := prog) (w := w) hh s.heap.objs.size T hne items.toArray
  rw [List.size_toArray] at W
  have hTL : (env.locals : Nat) ≠ T := Ne.symm (N _ (.head _)).2.1
  have hT₀ : h₀.get? T = none := (N _ (.head _)).2.2
  refine ⟨_, _, _, items.length, _, _, m, news, J, rfl, W, ?_, ?_, ?_, ⟨⟨_, Heap.get?_push_size _ rfl, rfl, rfl⟩, hT.keeps fun b o e => Heap.get?_push_of_some _ e⟩, F.push _,
    (fun p hp => ⟨Heap.get?_push_of_some _ (N p (.tail _ hp)).1, (N p (.tail _ hp)).2⟩), (fun i s' v Q' st hQ' => letGo_tupleiter st.1 hQ'), h0, ?_, ?_⟩
  · intro hm
    rcases List.mem_cons.mp hm with e | hm
    · exact absurd F.ns.lt (e ▸ Nat.lt_irrefl _)
    · exact hTL (List.mem_singleton.mp hm)
  · intro b hb
    rw [List.mem_singleton.mp hb]
    exact next_is_new F
  · intro p hp hI
    exact absurd (Heap.lt_size (N p (.tail _ hp)).1) ((List.mem_singleton.mp hI) ▸ Nat.lt_irrefl _)
  · rintro i v m₁ led s₁ own hi hP hJ hnw hsub hown hget hst F₁ N₁
    refine Mine.hide ?_; intro Gq hGq
    obtain ⟨⟨oI, hoI, _⟩, oT', hoT', _⟩ := id hst
    refine hGq ?_; clear hGq Gq
    have hIn : h₀.get? s.heap.objs.size = none := next_is_new F
    have hIown : (s.heap.objs.size, oI) ∈ own := hget _ (List.mem_cons_self ..) hIn _ hoI
    have hTown' : (T, oT') ∈ own := hget _ (List.mem_cons_of_mem _ (List.mem_cons_self ..)) hT₀ _ hoT'
    have ownOnly : ∀ p ∈ own, p = (s.heap.objs.size, oI) ∨ p = (T, oT') := by
      intro p hp
      have z := hown p hp
      obtain ⟨p1, p2⟩ := p
      rcases List.mem_cons.mp (hsub _ hp) with e | e
      · dsimp only at e z; subst e; rw [hoI] at z; cases z; exact .inl rfl
      · have e := List.mem_singleton.mp e
        dsimp only at e z; subst e; rw [hoT'] at z; cases z; exact .inr rfl
    have N₂ : News h₀ env.locals s₁.heap ((s.heap.objs.size, oI) :: (T, oT') :: led) := fun p hp => N₁ p (by
      rcases List.mem_cons.mp hp with rfl | hp
      · exact List.mem_append.mpr (.inl hIown)
      · rcases List.mem_cons.mp hp with rfl | hp
        · exact List.mem_append.mpr (.inl hTown')
        · exact List.mem_append.mpr (.inr hp))
    refine wpAny_mono (turn i v m₁ led s₁.heap s₁.toks s.heap.objs.size oI oT' s₁ (by simpa using hP) hJ (fun p hp e => hnw p hp (by rw [e]; exact List.mem_singleton.mpr rfl)) hne F₁ N₂) (fun _ s₃ h₃ => wpAny_mono h₃ (fun f s₄ h₄ => ?_) fun _ _ e => e) fun _ _ e => e
    refine Mine.hide ?_; intro Gq hGq
    obtain ⟨rfl, h', tk', m', led', rfl, F', N', ne', j'⟩ := h₄
    refine hGq ?_; clear hGq Gq
    refine ⟨rfl, h', tk', m', led', rfl, F', fun p hp => ?_, fun p hp hI => ne' p hp (List.mem_singleton.mp hI), j'⟩
    rcases List.mem_append.mp hp with hp | hp
    · rcases ownOnly p hp with rfl | rfl
      · exact N' _ (.head _)
      · exact N' _ (.tail _ (.head _))
    · exact N' p (.tail _ (.tail _ hp))
  · rintro h' tk m' led F' N' _ hJ
    exact done m' led h' tk hJ F' N'
end
/-- a tuple of the ledger's tail -/
noncomputable def LTup (D : List (Addr × Obj)) (b : Addr) (vs : List Value) : Prop := ∃ o, (b, o) ∈ D ∧ o.cls = .type "tuple" ∧ ∃ n, o.data = .seq vs.toArray n
theorem LTup.at {D news : List (Addr × Obj)} {b : Addr} {vs : List Value} {h₀ h : Heap} {L : Addr} (x : LTup D b vs) (N : News h₀ L h news) (hD : ∀ p ∈ D, p ∈ news) : IsTup h b vs.toArray :=
  let ⟨o, hm, h1, h2⟩ := x; ⟨o, (N _ (hD _ hm)).1, h1, h2⟩
theorem LRd.tup {D : List (Addr × Obj)} {y : Value} {ds : List PyData} {H : Heap} (x : LRd D y (.tuple ds)) (hD : ∀ p ∈ D, H.get? p.1 = some p.2) :
    ∃ b vs, y = .ref b ∧ LTup D b vs ∧ ∀ H' : Heap, (∀ p ∈ D, H'.get? p.1 = some p.2) → RdAll H' vs ds := by
  obtain ⟨b, vs, rfl, hT, hr⟩ := (x H hD).tuple_inv
  have hq : ∃ q ∈ D, q.1 = b := by
    refine Classical.byContradiction fun hno => ?_
    have hno' : ∀ q ∈ D, q.1 ≠ b := fun q hq e => hno ⟨q, hq, e⟩
    obtain ⟨b', vs', e, ⟨o, ho, _⟩, _⟩ := (x (hideAll H [b]) fun q hq => hideAll_get _ (hD q hq) (by simpa using hno' q hq)).tuple_inv
    cases e
    rw [show (hideAll H [b]).get? b = none from hideAll_none _ (List.mem_singleton.mpr rfl)] at ho
    cases ho
  obtain ⟨⟨q1, q2⟩, hqD, rfl⟩ := hq
  obtain ⟨o, ho, hc, n, hd⟩ := hT
  have e := hD _ hqD
  rw [ho] at e
  cases e
  refine ⟨q1, vs, rfl, ⟨_, hqD, hc, n, hd⟩, fun H' hH' => ?_⟩
  obtain ⟨b', vs', e, ⟨o', ho', _, n', hd'⟩, hr'⟩ := (x H' hH').tuple_inv
  cases e
  rw [hH' _ hqD] at ho'
  cases ho'
  rw [hd] at hd'
  cases hd'
  exact hr'
/-- which list a turn asks for -/
noncomputable def WP (wh pl : Int) : Prop := (wh = 101 ∧ pl = 1) ∨ (wh = 102 ∧ pl = 2)
noncomputable def SV.flag (V : SV) (pl : Int) (n : Int) : Bool := if pl = 1 then (V.due n).a else (V.due n).b
theorem LawOk.wp {V : SV} (x : LawOk V) {wh pl : Int} (h : WP wh pl) : (heldP V.told.all wh = none ∧ (([1, 2, 3] : List Int).filter (V.flag pl)) = []) ∨ ∃ ns, heldP V.told.all wh = some (.lst ns) ∧ ns ≠ [] ∧ ns.length ≤ 100 ∧ ns.Perm (([1, 2, 3] : List Int).filter (V.flag pl)) := by
  rcases h with ⟨rfl, rfl⟩ | ⟨rfl, rfl⟩
  · exact x.a
  · exact x.b
section
variable {prog : Program} {w : World} {A : Around} {E : Value → Shared → Prop} {s : Shared}
theorem item_row {value slice : PySem.Expr} {l : Addr} {z : Value} {b1 b2 : Bool} {pl : Int} {u : Tok} {Q : Value → Shared → Prop} (hl : s.heap.IsList l #[z, .bool b1, .bool b2]) (hp : pl = 1 ∨ pl = 2) (h : ∀ bb, bb = (if pl = 1 then b1 else b2) → Q (.bool bb) s)
    (hs : subscripted slice false (.ref l) (.int pl u) = operate [.ref l, .int pl u] (getItem (.ref l) (.int pl u)) := by with_unfolding_all rfl) :
    wpAny (model prog w) A (subscriptTail value slice (.ref l) (.int pl u)) Q E s := by
  rcases hp with rfl | rfl
  · exact item_list_at (vs := [z, .bool b1, .bool b2]) hl (by decide) (by decide) rfl (h b1 rfl) hs
  · exact item_list_at (vs := [z, .bool b1, .bool b2]) hl (by decide) (by decide) rfl (h b2 rfl) hs
end
theorem filt_take {f : Int → Bool} {i : Nat} {n : Int} (hi : i < 3) (hn : n = (i : Int) + 1) : (([1, 2, 3] : List Int).take (i + 1)).filter f = (([1, 2, 3] : List Int).take i).filter f ++ (if f n = true then [n] else []) := by
  subst hn
  match i, hi with
  | 0, _ => simp [List.filter]; split <;> simp_all
  | 1, _ => simp [List.filter]; repeat (first | (split <;> simp_all) | simp_all)
  | 2, _ => simp [List.filter]; repeat (first | (split <;> simp_all) | simp_all)
/-- between the turns: the frame's names but four, and one cell of the ledger -/
noncomputable def CellJ (x a b c : Str) (m : Str → Option Value) (pre : List (Addr × Obj)) (cp : Addr) (post : List (Addr × Obj)) (m₁ : Str → Option Value) (led : List (Addr × Obj)) : Prop :=
  Off4 x a b c m m₁ ∧ ∃ oc v₀, oc.data = .cell v₀ ∧ led = pre ++ (cp, oc) :: post
theorem iter_cell {prog : Program} {w : World} {A : Around} {E : Value → Shared → Prop} {s : Shared} {env : Env} {h₀ : Heap} {Q : Flow → Shared → Prop} {m : Str → Option Value} {T cp : Addr} {oT oc : Obj} {items : List Value} {target : PySem.Expr} {body : List Stmt} {pre post : List (Addr × Obj)} {x a b c : Str} {v₀ : Option Value}
    (hh : A.handled = none) (hT1 : oT.cls = .type "tuple") (hT2 : ∃ n, oT.data = .seq items.toArray n)
    (F : Fr h₀ env.locals s.heap m) (N : News h₀ env.locals s.heap ((T, oT) :: (pre ++ (cp, oc) :: post))) (hc : oc.data = .cell v₀)
    (turn : ∀ (i : Nat) v m₁ led h tk I oI oT (s₁ : Shared), items[i]? = some v → CellJ x a b c m pre cp post m₁ led → (∀ p ∈ led, @Ne Nat p.1 I) → @Ne Nat T I →
      Fr h₀ env.locals h (fun z => if z = x then m₁ x else if z = a then m₁ a else if z = b then m₁ b else if z = c then m₁ c else m z) → News h₀ env.locals h ((I, oI) :: (T, oT) :: led) →
      wpAny (model prog w) A (assign target env v) (fun _ s₃ => wpAny (model prog w) A (execs body env) (TTurn h₀ env.locals I oI T oT (CellJ x a b c m pre cp post) s₁) E s₃) E { s₁ with heap := h, toks := tk })
    (done : ∀ vx va vb vc led h tk, (∃ oc v₀, oc.data = .cell v₀ ∧ led = pre ++ (cp, oc) :: post) → Fr h₀ env.locals h (fun z => if z = x then vx else if z = a then va else if z = b then vb else if z = c then vc else m z) → News h₀ env.locals h led → Q .next { s with heap := h, toks := tk }) :
    wpAny (model prog w) A (pyIter (.ref T)) (fun it s₂ => LoopAtT prog w A h₀ env target body Q E it s₂) E s :=
  iter_tupT (fun _ m₁ led => CellJ x a b c m pre cp post m₁ led) hh hT1 hT2 F N ⟨fun _ _ _ _ _ => rfl, oc, v₀, hc, rfl⟩
    (fun i v m₁ led h tk I oI oT s₁ hv hJ hne hTI F' N' => turn i v m₁ led h tk I oI oT s₁ hv hJ hne hTI (hJ.1.eq ▸ F') N')
    (fun m' led h tk hJ F' N' => done _ _ _ _ led h tk hJ.2 (hJ.1.eq ▸ F') N')
theorem two_ways {p1 p2 v : Value} {i : Nat} (h : [p1, p2][i]? = some v) : v = p1 ∨ v = p2 := by
  match i, h with
  | 0, h => simp at h; exact .inl h.symm
  | 1, h => simp at h; exact .inr h.symm
  | i + 2, h => simp at h
open PyProof.Rows.LCg in
theorem PSrcL.mk {prog : Program} {w : World} {A : Around} {h₀ : Heap} {L : Addr} {m : Str → Option Value} {env : Env} {c elt : PySem.Expr} {a b : Str} {scope : Scope} {cl : List (Str × Addr)} {Fin : Shared → List Value → List (Addr × Obj) → Prop} {s₁ : Shared} {l : Addr} {ol : Obj} {vs : List Value} {news : List (Addr × Obj)} {R : Nat → Value → Value → Prop} (J : Nat → List Value → Prop)
    (hh : A.handled = none) (F : Fr h₀ L s₁.heap m) (N : News h₀ L s₁.heap news) (hm : (l, ol) ∈ news) (h1 : ol.cls = .type "list") (h2 : ∃ n, ol.data = .seq vs.toArray n) (hsz : vs.length ≤ 1000)
    (hit : ∀ (i : Nat) v, vs[i]? = some v → ∃ p x y, v = .ref p ∧ (∀ H, News h₀ L H news → IsTup H p #[x, y]) ∧ R i x y) (h0 : J 0 [])
    (turn : ∀ i ys x y I oI C oC D m₂ h tk (E' : Value → Shared → Prop), i < vs.length → J i ys → R i x y → NsObj oC m₂ → m₂ a = some x → m₂ b = some y → Fr h₀ L h m → News h₀ L h ((I, oI) :: (C, oC) :: (D, lst ys) :: news) → Off3 I C D news → ((@Ne Nat I C) ∧ (@Ne Nat I D) ∧ (@Ne Nat C D)) →
      wpAny (model prog w) A (isTrue c (compEnvC scope cl C env) (eval c (compEnvC scope cl C env))) (fun ok s' => if ok = true then
          wpAny (model prog w) A (eval elt (compEnvC scope cl C env)) (fun z s'' => TEnd h₀ L m { s₁ with heap := h, toks := tk } ((I, oI) :: (C, oC) :: (D, lst ys) :: news) (J (i + 1) (ys ++ [z])) s'') E' s'
        else TEnd h₀ L m { s₁ with heap := h, toks := tk } ((I, oI) :: (C, oC) :: (D, lst ys) :: news) (J (i + 1) ys) s') E' { s₁ with heap := h, toks := tk })
    (fin : ∀ ys g, J vs.length ys → Fin { s₁ with heap := g } ys news) : PSrcL prog w A h₀ L m env c elt a b scope cl Fin (.ref l) s₁ :=
  ⟨l, ol, vs, news, R, J, rfl, hh, hm, h1, h2, hsz, hit, F, N, h0, turn, fin⟩
-- L25
theorem cell_turn {h₀ h' : Heap} {L I T cp : Addr} {x a b c : Str} {m m' : Str → Option Value} {oI oT oc oc₀ : Obj} {s₁ : Shared} {tk' : Nat} {news pre post : List (Addr × Obj)} {v : Option Value} (F : Fr h₀ L h' m') (N : News h₀ L h' news) (q : (I, oI) ∈ news) (q2 : (T, oT) ∈ news)
    (hpre : ∀ p ∈ pre, p ∈ news) (hc : (cp, oc) ∈ news) (hpost : ∀ p ∈ post, p ∈ news) (ne : ∀ p ∈ pre ++ (cp, oc₀) :: post, @Ne Nat p.1 I) (off : Off4 x a b c m m') (hd : oc.data = .cell v) :
    TTurn h₀ L I oI T oT (CellJ x a b c m pre cp post) s₁ .next { s₁ with heap := h', toks := tk' } := by
  refine ⟨rfl, h', tk', m', pre ++ (cp, oc) :: post, rfl, F, fun p hp => N p ?_, fun p hp => ?_, off, oc, v, hd, rfl⟩
  · simp only [List.mem_cons, List.mem_append] at hp
    rcases hp with rfl | rfl | hp | rfl | hp
    · exact q
    · exact q2
    · exact hpre p hp
    · exact hc
    · exact hpost p hp
  · simp only [List.mem_append, List.mem_cons] at hp
    rcases hp with hp | rfl | hp
    · exact ne p (by simp [hp])
    · exact ne (cp, oc₀) (by simp)
    · exact ne p (by simp [hp])
/-- what is held, as a tuple of the tail -/
theorem held_list {D : List (Addr × Obj)} {y : Value} {ns : List Int} {H : Heap} (x : LRd D y (PV.lst ns).py) (hD : ∀ p ∈ D, H.get? p.1 = some p.2) :
    ∃ b t vs, y = .ref b ∧ LTup D b (Value.str (Str.ofString "list") t :: vs) ∧ vs.length = ns.length ∧ ∀ H' : Heap, (∀ p ∈ D, H'.get? p.1 = some p.2) → RdAll H' vs (ns.map symD) := by
  obtain ⟨b, vs, rfl, hT, hr⟩ := x.tup hD
  have r0 := hr H hD
  cases r0 with
  | cons p q =>
    obtain ⟨t, rfl⟩ := p.str_inv
    refine ⟨b, t, _, rfl, hT, by simpa using q.length, fun H' hH' => ?_⟩
    cases hr H' hH' with
    | cons _ q' => exact q'
/-- a symbol among the tail's -/
theorem sym_at {h : Heap} {vs : List Value} {ns : List Int} (r : RdAll h vs (ns.map symD)) : ∀ (i : Nat) v, vs[i]? = some v → ∃ p t n u, v = .ref p ∧ ns[i]? = some n ∧ IsTup h p #[Value.str (Str.ofString "symbol") t, .int n u] := by
  intro i v hv
  obtain ⟨d, hd, hr⟩ := r.get i v hv
  simp only [List.getElem?_map, Option.map_eq_some_iff] at hd
  obtain ⟨n, hn, rfl⟩ := hd
  obtain ⟨p, vs', rfl, hT, hq⟩ := hr.tuple_inv
  cases hq with
  | cons a b =>
    obtain ⟨t, rfl⟩ := a.str_inv
    cases b with
    | cons a b =>
      obtain ⟨u, rfl⟩ := a.int_inv
      cases b
      exact ⟨p, t, n, u, rfl, hn, hT⟩
noncomputable def IntJ (news : List (Addr × Obj)) (ns : List Int) (i : Nat) (zs : List Value) (led : List (Addr × Obj)) : Prop := led = news ∧ IntsAre zs (ns.take i)
theorem IntJ.start {news : List (Addr × Obj)} {ns : List Int} : IntJ news ns 0 [] news := ⟨rfl, .nil⟩
theorem int_turn {h₀ h' : Heap} {L I C D : Addr} {m : Str → Option Value} {s₁ : Shared} {tk' : Nat} {oI oC oD : Obj} {news : List (Addr × Obj)} {ns : List Int} {i : Nat} {zs : List Value} {n : Int} {u : Tok}
    (F : Fr h₀ L h' m) (N : News h₀ L h' ((I, oI) :: (C, oC) :: (D, oD) :: news)) (off : LCg.Off3 I C D news) (hi : IntsAre zs (ns.take i)) (hn : ns[i]? = some n) :
    UEnd h₀ L m s₁ I oI C oC D oD (fun led' => IntJ news ns (i + 1) (zs ++ [.int n u]) led') { s₁ with heap := h', toks := tk' } :=
  UEnd.intro news F N (fun p hp => hp) off.mem ⟨rfl, by rw [List.take_add_one, hn]; exact hi.append (.cons n u .nil)⟩
theorem sorted_want {prog : Program} {w : World} {A : Around} {E : Value → Shared → Prop} {s : Shared} {h₀ : Heap} {L l : Addr} {m : Str → Option Value} {news : List (Addr × Obj)} {vs : List Value} {ns ws : List Int} {Q : Value → Shared → Prop} (F : Fr h₀ L s.heap m) (N : News h₀ L s.heap news) (hl : s.heap.IsList l vs.toArray) (hi : IntsAre vs ns) (hperm : ns.Perm ws) (hw : ws.Pairwise (· ≤ ·)) (h64 : ns.length < 64)
    (h : ∀ D vs' c h', Fr h₀ L h' m → News h₀ L h' ((D, PySem.W.listOf vs'.toArray c) :: news) → (∀ q ∈ news, q.1 < D) → IntsAre vs' ws → Q (.ref D) { s with heap := h' }) :
    wpAny (model prog w) A (call (.builtin "sorted") [.ref l]) Q E s :=
  kso_sorted F N hl hi h64 fun D vs' ns' c h' F' N' l1 i' _ p' o' _ => by
    have e : ns' = ws := (p'.trans hperm).eq_of_pairwise (fun a b _ _ h1 h2 => Int.le_antisymm h1 h2) o' hw
    subst e
    exact h D vs' c h' F' N' l1 i'
-- L26
section
variable {prog : Program} {w : World} {A : Around} {E : Value → Shared → Prop} {s : Shared}
theorem int_key {k : Int} {v : Value} (h : (intKind prog w).is k v = true) : ∃ t, v = .int k t := Value.isInt_shape h
theorem notin_five {t : Addr} {n : Int} {u t1 t2 t3 t4 t5 : Tok} {Q : Value → Shared → Prop} (ht : IsTup s.heap t #[.int 1 t1, .int 2 t2, .int 3 t3, .int 101 t4, .int 102 t5]) (hk : n = 1 ∨ n = 2 ∨ n = 3 ∨ n = 101 ∨ n = 102)
    (h : Q (.bool false) s) : wpAny (model prog w) A (compareOp .NotIn (.int n u) (.ref t)) Q E s :=
  notin_tuple_ints ht (.cons 1 t1 (.cons 2 t2 (.cons 3 t3 (.cons 101 t4 (.cons 102 t5 .nil))))) (by
    have e : (!([1, 2, 3, 101, 102].any (· == n))) = false := by rcases hk with rfl | rfl | rfl | rfl | rfl <;> decide
    rw [e]; exact h)
end
open PyProof.Rows.LCg in
theorem DSrcT.mk {prog : Program} {w : World} {A : Around} {h₀ : Heap} {L : Addr} {m : Str → Option Value} {env : Env} {ct elt : PySem.Expr} {x : Str} {scope : Scope} {cl : List (Str × Addr)} {Fin : Shared → List Value → List (Addr × Obj) → Prop} {s₁ : Shared} {d : Addr} {od : Obj} {kvs : List (Int × Value)} {news : List (Addr × Obj)}
    (hh : A.handled = none) (F : Fr h₀ L s₁.heap m) (N : News h₀ L s₁.heap news) (hm : (d, od) ∈ news) (lo : (d == sysModules) = false) (hd : od.IsDictOf (intKind prog w) kvs) (hsz : kvs.length ≤ 1000)
    (turn : ∀ g i v I oI C oC D m₂ h tk (E' : Value → Shared → Prop), i < kvs.length → (∃ k y t, kvs[i]? = some (k, y) ∧ v = .int k t) → NsObj oC m₂ → m₂ x = some v → Fr h₀ L h m → News h₀ L h ((I, oI) :: (C, oC) :: (D, lst []) :: news) → Off3 I C D news → ((@Ne Nat I C) ∧ (@Ne Nat I D) ∧ (@Ne Nat C D)) →
      wpAny (model prog w) A (isTrue ct (compEnvC scope cl C env) (eval ct (compEnvC scope cl C env))) (fun ok s' => if ok = true then
        wpAny (model prog w) A (eval elt (compEnvC scope cl C env)) (fun y s'' => UEnd h₀ L m { s₁ with heap := h, toks := tk } I oI C oC D (lst []) (fun led' => led' = news ∧ [] ++ [y] = []) s'') E' s'
        else UEnd h₀ L m { s₁ with heap := h, toks := tk } I oI C oC D (lst []) (fun led' => led' = news) s') E' { { s₁ with heap := g } with heap := h, toks := tk })
    (fin : ∀ g, Fin { s₁ with heap := g } [] news) : DSrcT prog w A h₀ L m env ct elt x scope cl Fin (.ref d) s₁ := by
  refine ⟨d, od, kvs, news, rfl, hh, F, N, hm, lo, hd, hsz, fun g => ?_⟩
  refine restTU_ind (fun i ys led => led = news ∧ ys = []) (fun i ys led h => h.1 ▸ hm) ⟨rfl, rfl⟩ (fun ys led h => by obtain ⟨rfl, rfl⟩ := h; exact fin g) ?_
  intro i ys led v I oI C oC D m₂ h tk E' hi hq1 hq2 hC hx F N off ne
  refine Mine.hide ?_; intro Gq hGq
  obtain ⟨rfl, rfl⟩ := hq1
  obtain ⟨k, y, hk, hv⟩ := hq2
  obtain ⟨t, rfl⟩ := int_key hv
  refine hGq ?_; clear hGq Gq
  refine wpAny_mono (turn g i _ I oI C oC D m₂ h tk E' hi ⟨k, y, t, hk, rfl⟩ hC hx F N off ne) (fun ok s' hq => ?_) fun _ _ y => y
  cases ok with
  | true =>
    simp only [if_true] at hq ⊢
    exact wpAny_mono hq (fun y s'' hr => hr) fun _ _ y => y
  | false =>
    simp only [Bool.false_eq_true, if_false] at hq ⊢
    refine Mine.hide ?_; intro Gq hGq
    obtain ⟨h', tk', led', e1, F', N', off', e2⟩ := hq
    refine hGq ?_; clear hGq Gq
    exact ⟨h', tk', led', e1, F', N', off', e2, by first | rfl | trivial⟩
theorem key_five {V : SV} (x : LawOk V) {kvs : List (Int × Value)} (hk : kvs.map (·.1) = V.told.all.map (·.1)) {i : Nat} {k : Int} {y : Value} (h : kvs[i]? = some (k, y)) : k = 1 ∨ k = 2 ∨ k = 3 ∨ k = 101 ∨ k = 102 := by
  have hm : k ∈ kvs.map (·.1) := List.mem_map.mpr ⟨(k, y), List.mem_of_getElem? h, rfl⟩
  rw [hk] at hm
  obtain ⟨e, he, rfl⟩ := List.mem_map.mp hm
  exact x.keys e he
-- the law
theorem hdist_of {df pl lp ld dk ca c4 c3 c2 c1 : Nat} (a1 : c1 < c2) (a2 : c2 < c3) (a3 : c3 < c4) (b1 : c4 < df) (b2 : c4 < pl) (b3 : c4 < lp) (b4 : c4 < ld) (b5 : c4 < dk) (b6 : @Ne Nat ca c4 ∧ @Ne Nat ca c3 ∧ @Ne Nat ca c2 ∧ @Ne Nat ca c1) :
    ∀ x ∈ [df, pl, lp, ld, dk, ca], ∀ c ∈ [c4, c3, c2, c1], @Ne Nat x c := by
  intro x hx c hc
  have hc2 : c ≤ c4 := by
    simp only [List.mem_cons, List.not_mem_nil, or_false] at hc
    rcases hc with rfl | rfl | rfl | rfl <;> omega
  have hx2 : c4 < x ∨ x = ca := by
    simp only [List.mem_cons, List.not_mem_nil, or_false] at hx
    rcases hx with h | h | h | h | h | h <;> (rw [h]; first | (left; assumption) | (right; rfl))
  refine hx2.elim (fun h => Nat.ne_of_gt (Nat.lt_of_le_of_lt hc2 h)) (fun h => ?_)
  subst h
  obtain ⟨q1, q2, q3, q4⟩ := b6
  simp only [List.mem_cons, List.not_mem_nil, or_false] at hc
  rcases hc with rfl | rfl | rfl | rfl <;> assumption
section
theorem top_holds : PySem.Challenge.rw_np0033_01.Holds := by
  clear top_holds
  w_on; refine holds_law said_ok fun said => ?_
  refine holds_open (q := Mine.hd.view_39) (loose := []) (Xt := fun s => xlAt Mine.hd.view_39 [] s && recOk (RowW.records _) s) (XP := XL Mine.hd.view_39 []) (Yf := Hook.obs (kHook Mine.hd.heap_39 hAs hk_ok)) (Ya := Hook.val (kHook Mine.hd.heap_39 hAs hk_ok)) (YP := Hook.says (kHook Mine.hd.heap_39 hAs hk_ok)) (N := 3342) left_ok (Hook.of _) (Hook.keeps _) (fun s e => xl_of s (Bool.and_eq_true_iff.mp e).1) XL.keeps (by rfl) (by rfl) (by rfl) (fun s e => recFacts_of (Bool.and_eq_true_iff.mp e).2) (by rfl) (by first | assumption | decide +kernel) (by decide +kernel) ⟨rfl, rfl, rfl, rfl, rfl, by decide +kernel⟩ ?hw ?hc
  case hw => w_witness2
  clear said
  k_with_none
  k_with "kd_adr" => (first | exact List.forall_mem_nil _ | (refine List.forall_mem_cons.mpr ⟨?kdh, ?kdt⟩; (case kdh => ((try dsimp only); first | kd_ltNe | (refine Ne.symm ?_; kd_ltNe) | (simp only [*, ne_eq, not_false_eq_true]; done) | (refine neN ?_; omega))); (case kdt => kd_adr)) | kd_adrTail | fail "k_dat: an address")
  k_with "k_ne" => (refine neN ?_; (try dsimp only); first | with_reducible assumption | kd_ltNe | (refine Ne.symm ?_; first | with_reducible assumption | kd_ltNe) | (simp only [*, ne_eq, not_false_eq_true]; done) | (refine Ne.symm ?_; simp only [*, ne_eq, not_false_eq_true]; done) | (refine Nat.ne_of_lt ?_; simp only [*]; done) | (refine Nat.ne_of_gt ?_; simp only [*]; done) | omega)
  k_with "k_room" => (exact Nat.le_of_ble_eq_true rfl)
  k_with "ktr_enter" => (
    refine' Mine.enterP ?kP ?k1 ?k2 ?k3 ?k4 ?k5 ?kA ?kF ?kK ?kR ?k6 ?k7 ?k8 ?k9 ?kB ?_ ?c2 ?c3 ?c4 ?c5;
    (case kA => exact rfl); (case kF => exact rfl); (case kK => assumption); (case k1 => k_asm); (case k2 => k_asm); (case k3 => k_asm); (case k4 => k_asm); (case k5 => k_asm); (case kR => assumption);
    (case k6 => k_is); (case k7 => k_is); (case k8 => exact Nat.le_of_ble_eq_true rfl); (case k9 => exact BindsTo.of_eq rfl); (case c5 => decide); (case kB => exact locs rfl); (case c2 => exact rfl); (case c3 => exact rfl); (case c4 => exact rfl); k_whole)
  k_with "ktr_step" => (refine' IsTup.keeps ?ktx (Fr.keep ?ktF); (case ktF => k_asm); (case ktx => first | assumption | exact IsTup.keeps (by assumption) (Fr.keep (by assumption)) | (refine' IsTup.keeps ?kty (Fr.keep ?ktG); (case ktG => assumption); (case kty => exact IsTup.keeps (by assumption) (Fr.keep (by assumption))))))
  k_with "kit_at" => (refine' kitAt_tup ?kaT; (case kaT => ktr_step))
  k_with "ktf_step" => (first | assumption | exact InsF.keeps (by assumption) (Fr.keep (by assumption)) | (refine' InsF.keeps ?kfI (Fr.keep ?kfF); (case kfF => assumption); (case kfI => exact InsF.keeps (by assumption) (Fr.keep (by assumption)))))
  k_with "k_inst" => (refine' InsF.at ?kiI (Fr.keep ?kiF); (case kiF => k_asm); (case kiI => ktf_step))
  k_with "ktd_step" => (refine' Rd.keeps (Fr.keep ?kdF) ?kdx; (case kdF => k_asm); (case kdx => first | assumption | exact Rd.keeps (Fr.keep (by assumption)) (by assumption) | (refine' Rd.keeps (Fr.keep ?kdG) ?kdy; (case kdG => assumption); (case kdy => exact Rd.keeps (Fr.keep (by assumption)) (by assumption)))))
  k_with "ktn_step" => (
    refine' Mine.enterPC ?kP ?k1 ?k2 ?k3 ?k4 ?k5 ?kA ?kF ?kK ?kR ?k6 ?k7 ?k8 ?k9 ?kB ?kD ?_ ?c2 ?c3 ?c4;
    (case kA => exact rfl); (case kF => exact rfl); (case kK => assumption); (case k1 => k_asm); (case k2 => k_asm); (case k3 => k_asm); (case k4 => k_asm); (case k5 => k_asm); (case kR => assumption);
    (case k6 => k_is); (case k7 => k_is); (case k8 => exact Nat.le_of_ble_eq_true rfl); (case k9 => exact BindsTo.of_eq rfl); (case kB => exact rfl); (case kD => decide +kernel); (case c2 => exact rfl); (case c3 => exact rfl); (case c4 => exact rfl); k_whole)
  k_with "subscriptTail" => (k_here; (with_reducible show wpAny _ _ (subscriptTail _ _ (Value.ref _) (Value.int _ _)) _ _ _); k_dflt (refine' item_tupleT ?t ?a ?b ?c ?d ?_; (case t => ktr_step); (case a => decide); (case b => decide); (case c => rfl); (case d => rfl); k_whole))
  k_with "subscriptTail" => (k_here; (with_reducible show wpAny _ _ (subscriptTail _ _ (Value.ref _) (Value.int 0 _)) _ _ _); k_dflt (refine' item_tup0 ?t ?_; (case t => ktr_step); k_whole))
  k_with "k_handed" => (exact Rd.handed (by assumption))
  k_with "ktr_room" => (
    refine' Mine.enterM ?kP ?k1 ?k2 ?k3 ?k4 ?k5 ?kA ?kF ?kK ?kN ?kQ ?kR ?k6 ?k7 ?k8 ?k9 ?kB ?_ ?c2 ?c3 ?c4 ?c5;
    (case kA => exact rfl); (case kF => exact rfl); (case kK => assumption); (case k1 => k_asm); (case k2 => k_asm); (case k3 => k_asm); (case k4 => k_asm); (case k5 => k_asm); (case kN => assumption); (case kQ => assumption); (case kR => assumption);
    (case k6 => k_is); (case k7 => k_is); (case k8 => exact Nat.le_of_ble_eq_true rfl); (case k9 => exact BindsTo.of_eq rfl); (case c5 => decide); (case kB => exact locs rfl); (case c2 => exact rfl); (case c3 => exact rfl); (case c4 => exact rfl); k_whole)
  k_with "k_all" => (first | exact List.forall_mem_nil _ | exact OwnOff.ne (by assumption) (by k_memK) | kd_allNe | (refine' List.forall_mem_cons.mpr ⟨?a, ?b⟩; (case a => k_ne); (case b => k_all)))
  k_with "call ref" => (k_here; (with_reducible show wpAny _ _ (call (Value.ref 240) _) _ _ _); (show wpAny _ _ (call (Value.ref 240) [Value.ref _, Value.int _ _]) _ _ _); k_dflt (refine' side_use ?U ?hca ?hne ?hk0 ?hk1 ?hns ?hl ?k1 ?k2 ?k3 ?k4 ?k5 ?kA ?kH ?kK ?kd ?ku ?_; (case kA => exact rfl); (case kH => exact rfl); (case kK => exact rfl); (case k1 => k_asm); (case k2 => k_asm); (case k3 => k_asm); (case k4 => k_asm); (case k5 => k_asm); (case U => k_updF); (case hca => exact News.isList (by k_asm) (by k_mem)); (case hne => omega); (case hk0 => omega); (case hk1 => omega); (case hns => with_reducible assumption); (case hl => first | omega | (simp only [List.length_map, List.length_take] at *; omega)); (case kd => exact Nat.le_of_ble_eq_true rfl); (case ku => exact Nat.le_of_ble_eq_true rfl)); intro b9' own9' P9' k9' t9' c9' h9' tk9' q9' p9' sl9' ok9' lr9' F9' N9' of9'; (try simp only [List.cons_append, List.nil_append, List.append_assoc] at N9'); (try simp only [List.map_cons, List.map_nil] at of9'); (try dsimp only); (try k_fold))
  k_with "call ref" => (k_here; (with_reducible show wpAny _ _ (call (Value.ref 224) _) _ _ _); (fail_if_success (have : Mine.Passed 224 := by with_reducible assumption)); refine Stop.of ?_)
  k_with "call ref" => (k_here; (with_reducible show wpAny _ _ (call (Value.ref 157) _) _ _ _); (fail_if_success (have : Mine.Passed 157 := by with_reducible assumption)); refine Stop.of ?_)
  k_with "call ref" => (k_here; (with_reducible show wpAny _ _ (call (Value.ref 235) _) _ _ _); (show wpAny _ _ (call (Value.ref 235) [Value.ref _, Value.int _ _]) _ _ _); k_dflt (refine' draw_use ?U ?hca ?hne ?hk0 ?hk1 ?hm ?hns ?hl ?k1 ?k2 ?k3 ?k4 ?k5 ?kA ?kH ?kK ?kd ?ku ?_; (case kA => exact rfl); (case kH => exact rfl); (case kK => exact rfl); (case k1 => k_asm); (case k2 => k_asm); (case k3 => k_asm); (case k4 => k_asm); (case k5 => k_asm); (case U => k_updF); (case hca => first | exact list_up (by assumption) (Fr.keep (by k_asm)) | exact News.isList (by k_asm) (by k_mem)); (case hne => omega); (case hk0 => omega); (case hk1 => omega); (case hm => first | exact .inl rfl | exact .inr (.inl rfl) | exact .inr (.inr rfl)); (case hns => with_reducible assumption); (case hl => with_reducible assumption); (case kd => exact Nat.le_of_ble_eq_true rfl); (case ku => exact Nat.le_of_ble_eq_true rfl)); intro i9' t9' u9' c9' h9' tk9' q9' p9' F9' N9'; (try dsimp only); (try dsimp only at N9'); (try k_fold))
  k_with "call ref" => (k_here; (with_reducible show wpAny _ _ (call (Value.ref 179) _) _ _ _); (show wpAny _ _ (call (Value.ref 179) [_, Value.str (Str.ofString "category") _]) _ _ _); k_dflt (refine' spec_useI (Mine.number_spec0 _ _ _ _ _ _ _ _ _ _ _ _ _ _) ?k1 ?k2 ?k3 ?k4 ?k5 ?kA ?kH ?kK ?kd ?ku ?kp ?_; (case kA => exact rfl); (case kH => exact rfl); (case kK => exact rfl); (case k1 => k_asm); (case k2 => k_asm); (case k3 => k_asm); (case k4 => k_asm); (case k5 => k_asm); (case kd => exact Nat.le_of_ble_eq_true rfl); (case ku => exact Nat.le_of_ble_eq_true rfl); (case kp => exact InsF.mk (News.get (by k_asm) (by k_mem)) (News.get (by k_asm) (by k_mem))); intro t9' h9' tk9' F9' N9' k9'); (try dsimp only); (try k_fold))
  k_with "call ref" => (k_here; (with_reducible show wpAny _ _ (call (Value.ref 179) _) _ _ _); (show wpAny _ _ (call (Value.ref 179) [_, Value.str (Str.ofString "front-sticky") _]) _ _ _); k_dflt (refine' spec_useI (Mine.number_spec1 _ _ _ _ _ _ _ _ _ _ _ _ _ _) ?k1 ?k2 ?k3 ?k4 ?k5 ?kA ?kH ?kK ?kd ?ku ?kp ?_; (case kA => exact rfl); (case kH => exact rfl); (case kK => exact rfl); (case k1 => k_asm); (case k2 => k_asm); (case k3 => k_asm); (case k4 => k_asm); (case k5 => k_asm); (case kd => exact Nat.le_of_ble_eq_true rfl); (case ku => exact Nat.le_of_ble_eq_true rfl); (case kp => exact InsF.mk (News.get (by k_asm) (by k_mem)) (News.get (by k_asm) (by k_mem))); intro t9' h9' tk9' F9' N9' k9'); (try dsimp only); (try k_fold))
  k_with "call ref" => (k_here; (with_reducible show wpAny _ _ (call (Value.ref 179) _) _ _ _); (show wpAny _ _ (call (Value.ref 179) [_, Value.str (Str.ofString "rear-nonsticky") _]) _ _ _); k_dflt (refine' spec_useI (Mine.number_spec2 _ _ _ _ _ _ _ _ _ _ _ _ _ _) ?k1 ?k2 ?k3 ?k4 ?k5 ?kA ?kH ?kK ?kd ?ku ?kp ?_; (case kA => exact rfl); (case kH => exact rfl); (case kK => exact rfl); (case k1 => k_asm); (case k2 => k_asm); (case k3 => k_asm); (case k4 => k_asm); (case k5 => k_asm); (case kd => exact Nat.le_of_ble_eq_true rfl); (case ku => exact Nat.le_of_ble_eq_true rfl); (case kp => exact InsF.mk (News.get (by k_asm) (by k_mem)) (News.get (by k_asm) (by k_mem))); intro t9' h9' tk9' F9' N9' k9'); (try dsimp only); (try k_fold))
  k_with "call ref" => (k_here; (with_reducible show wpAny _ _ (call (Value.ref 179) _) _ _ _); (show wpAny _ _ (call (Value.ref 179) [_, Value.str (Str.ofString "evaporate") _]) _ _ _); k_dflt (refine' spec_useI (Mine.number_spec3 _ _ _ _ _ _ _ _ _ _ _ _ _ _) ?k1 ?k2 ?k3 ?k4 ?k5 ?kA ?kH ?kK ?kd ?ku ?kp ?_; (case kA => exact rfl); (case kH => exact rfl); (case kK => exact rfl); (case k1 => k_asm); (case k2 => k_asm); (case k3 => k_asm); (case k4 => k_asm); (case k5 => k_asm); (case kd => exact Nat.le_of_ble_eq_true rfl); (case ku => exact Nat.le_of_ble_eq_true rfl); (case kp => exact InsF.mk (News.get (by k_asm) (by k_mem)) (News.get (by k_asm) (by k_mem))); intro t9' h9' tk9' F9' N9' k9'); (try dsimp only); (try k_fold))
  k_with "call ref" => (k_here; (with_reducible show wpAny _ _ (call (Value.ref 179) _) _ _ _); (show wpAny _ _ (call (Value.ref 179) [_, Value.str (Str.ofString "priority") _]) _ _ _); k_dflt (refine' spec_useI (Mine.number_spec4 _ _ _ _ _ _ _ _ _ _ _ _ _ _) ?k1 ?k2 ?k3 ?k4 ?k5 ?kA ?kH ?kK ?kd ?ku ?kp ?_; (case kA => exact rfl); (case kH => exact rfl); (case kK => exact rfl); (case k1 => k_asm); (case k2 => k_asm); (case k3 => k_asm); (case k4 => k_asm); (case k5 => k_asm); (case kd => exact Nat.le_of_ble_eq_true rfl); (case ku => exact Nat.le_of_ble_eq_true rfl); (case kp => exact InsF.mk (News.get (by k_asm) (by k_mem)) (News.get (by k_asm) (by k_mem))); intro t9' h9' tk9' F9' N9' k9'); (try dsimp only); (try k_fold))
  k_with "exec For Name Tuple cons nil" => (k_here; (with_reducible rename Fr _ _ _ _ => lF'); (with_unfolding_all refine' For_invVF lF' ?k1 ?k2 ?_; (case k1 => exact rfl); (case k2 => exact rfl); k_whole))
  k_with "subscriptTail" => ((have : Mine.Passed 1004 := by with_reducible assumption); k_here; (with_reducible show wpAny _ _ (subscriptTail _ _ (Value.ref _) (Value.int _ _)) _ _ _); k_dflt (refine' item_led4 ?k1 ?k2 ?k3 ?_; (case k1 => exact News.isList (by k_asm) (by k_mem)); (case k2 => omega); (case k3 => omega)); intro z9' t9'; (try dsimp only); (try k_fold))
  k_with "setItem ref int" => ((have : Mine.Passed 1004 := by with_reducible assumption); k_here; (with_reducible show wpAny _ _ (setItem (Value.ref _) (Value.int _ _) (Value.int _ _)) _ _ _); k_dflt (refine' kda_set (knd := PySem.intKind _ _) ?F ?N ?U ?d (intKind_is _ _ _ _) ?z ?_; (case F => k_asm); (case N => k_asm); (case U => k_updF); (case d => with_reducible assumption); (case z => rw [sizeLine_eq]; exact Nat.le_trans (DefKv.len (by assumption)) (by decide))); intro h' o' F' N' hd'; (try dsimp only at N'))
  k_with "pyIter ref" => (refine Stop.of ?_)
  k_with "call builtin:len" => (k_here; (with_reducible show wpAny _ _ (call (Value.builtin "len") [Value.ref _]) _ _ _); k_dflt (refine' len_base ?k1 rfl ?k3 ?_; (case k1 => exact News.isList (by k_asm) (by k_mem)); (case k3 => omega)); intro t9' tk9'; (try dsimp only); (try k_fold))
  k_with "call builtin:len" => (k_here; (with_reducible show wpAny _ _ (call (Value.builtin "len") [Value.ref _]) _ _ _); k_dflt (refine' kda_len (knd := PySem.intKind _ _) ?k1 ?k2 ?k3 ?k4 ?k5 ?_; (case k1 => k_asm); (case k2 => k_mem); (case k3 => with_reducible assumption); (case k4 => with_reducible assumption); (case k5 => omega)); (try dsimp only); (try k_fold))
  k_with "call type:dict" => (k_here; (with_reducible show wpAny _ _ (call (Value.type _) [Value.ref _]) _ _ _); k_dflt (refine' dict_found ?F ?N ?hb (by rfl) ?hl ?hF ?hD ?hnd ?hlen ?_; (case F => k_asm); (case N => k_asm); (case hb => exact TopRead.nolimit (by k_asm)); (case hl => k_mem); (case hF => with_reducible assumption); (case hD => (intro p hp; repeat (first | exact hp | apply List.mem_cons_of_mem))); (case hnd => exact LawOk.nodup (by assumption)); (case hlen => exact LawOk.len (by assumption))); intro d9' o9' kvs9' h9' tk9' F9' N9' lo9' hd9' hk9' hl9' hm9' l1; (try k_lt l1); (try dsimp only); (try k_fold))
  k_with "exec Assign cons ListComp" => (k_here; k_dflt (refine Mine.tupU_assign (F₀ := by k_asm) (by with_unfolding_all rfl) (by with_unfolding_all rfl) (by decide) (by rfl) (by decide) (by rfl) (by rfl) (by rfl) ?_))
  k_with "TSrcU" => (refine Stop.of ?_)
  k_with "call ref" => (k_here; (with_reducible show wpAny _ _ (call (Value.ref 259) _) _ _ _); (show wpAny _ _ (call (Value.ref 259) [Value.ref _, Value.ref _, Value.ref _, Value.int _ _]) _ _ _); k_dflt (refine' due_use ?hL ?hR ?l1 ?l2 ?lt ?hn ?hD ?k1 ?k2 ?k3 ?k4 ?k5 ?kA ?kH ?kK ?kd ?ku ?_; (case kA => exact rfl); (case kH => exact rfl); (case kK => exact rfl); (case k1 => k_asm); (case k2 => k_asm); (case k3 => k_asm); (case k4 => k_asm); (case k5 => k_asm); (case kd => exact Nat.le_of_ble_eq_true rfl); (case ku => exact Nat.le_of_ble_eq_true rfl); (case l1 => with_reducible assumption); (case l2 => with_reducible assumption); (case lt => with_reducible assumption); (case hL => with_reducible assumption); (case hR => with_reducible assumption); (case hn => omega); (case hD => (intro p hp; repeat (first | exact hp | apply List.mem_cons_of_mem | exact List.mem_append.mpr (.inr hp))))); intro b9' own9' h9' tk9' F9' N9' ne9' po9'; (try dsimp only); (try k_fold))
  k_with "exec For Tuple Name cons nil" => (k_here; (with_reducible rename Fr _ _ _ _ => lF'); (with_unfolding_all refine' For_invTF lF' ?_ ?k1; (case k1 => (intro _; with_unfolding_all rfl))); k_whole)
  k_with "call ref" => (k_here; (with_reducible show wpAny _ _ (call (Value.ref 245) _) _ _ _); (show wpAny _ _ (call (Value.ref 245) [Value.ref _, Value.int _ _]) _ _ _); k_dflt (refine' held_use ?hF ?hfo ?hP ?hD ?k1 ?k2 ?k3 ?k4 ?k5 ?kA ?kH ?kK ?kd ?ku ?_; (case kA => exact rfl); (case kH => exact rfl); (case kK => exact rfl); (case k1 => k_asm); (case k2 => k_asm); (case k3 => k_asm); (case k4 => k_asm); (case k5 => k_asm); (case kd => exact Nat.le_of_ble_eq_true rfl); (case ku => exact Nat.le_of_ble_eq_true rfl); (case hfo => k_mem); (case hF => with_reducible assumption); (case hP => with_reducible assumption); (case hD => (intro p hp; repeat (first | exact hp | apply List.mem_cons_of_mem)))); intro r9' own9' h9' tk9' F9' N9' ne9' po9'; (try dsimp only); (try k_fold))
  k_with "subscriptTail" => ((have : Mine.Passed 1007 := by with_reducible assumption); k_here; (with_reducible show wpAny _ _ (subscriptTail _ _ (Value.ref _) (Value.int 0 _)) _ _ _); k_dflt (refine' item_led0 ?k1 ?_; (case k1 => ((with_reducible rename News _ _ _ _ => lN'); first | exact isList_of lN' (List.mem_append.mpr (.inr (.tail _ (by assumption)))) | exact isList_of lN' (List.mem_append.mpr (.inr (by assumption)))));  k_whole))
  k_with "compareOp NotEq" => ((have : Mine.Passed 1007 := by with_reducible assumption); k_here; (with_reducible show wpAny _ _ (compareOp CmpOp.NotEq _ _) _ _ _); (fail_if_success (have : Mine.Passed 2 := by with_reducible assumption)); refine Stop.of ?_)
  k_with "exec For Tuple Tuple cons nil" => (k_here; (with_reducible rename Fr _ _ _ _ => lF'); (with_unfolding_all refine' For_invTF lF' ?_ ?k1; (case k1 => (intro _; with_unfolding_all rfl))); k_whole)
  k_with "eval ListComp" => ((have : Mine.Passed 1008 := by with_reducible assumption); k_here; k_dflt (refine Mine.pairsL_eval (F₀ := by k_asm) (by with_unfolding_all rfl) (by decide) (by rfl) (by decide) (by rfl) (by rfl) (by decide) ?_))
  k_with "PSrcL" => (refine Stop.of ?_)
  k_with "subscriptTail" => ((have : Mine.Passed 1008 := by with_reducible assumption); k_here; (with_reducible show wpAny _ _ (subscriptTail _ _ (Value.ref _) (Value.int _ _)) _ _ _); k_dflt (refine' item_row ?k1 ?k2 ?_; (case k1 => ((with_reducible rename News _ _ _ _ => lN'); exact isList_of lN' (.tail _ (.tail _ (.tail _ (by assumption)))))); (case k2 => with_reducible assumption)); intro bb9' hbb9'; (try dsimp only); (try k_fold))
  k_with "compareOp Is" => ((have : Mine.Passed 1008 := by with_reducible assumption); k_here; (with_reducible show wpAny _ _ (compareOp CmpOp.Is _ _) _ _ _); (fail_if_success (have : Mine.Passed 3 := by with_reducible assumption)); refine Stop.of ?_)
  k_with "eval ListComp" => ((have : Mine.Passed 1009 := by with_reducible assumption); k_here; k_dflt (refine Mine.tupU_eval (F₀ := by k_asm) (by with_unfolding_all rfl) (by decide) (by rfl) (by decide) (by rfl) ?_))
  k_with "subscriptTail" => ((have : Mine.Passed 1009 := by with_reducible assumption); k_here; (with_reducible show wpAny _ _ (subscriptTail _ _ (Value.ref _) (Value.ref _)) _ _ _); (with_unfolding_all refine' sliceT1 ?k1 ?k2 ?k3 ?k4 ?_); (case k1 => k_asm); (case k2 => k_asm); (case k3 => ((with_reducible rename News _ _ _ _ => lN'); exact LTup.at (by with_reducible assumption) lN' (by intro p hp; repeat (first | exact hp | apply List.mem_cons_of_mem)))); (case k4 => omega); intro D' h9' F9' N9' l1; (try k_lt l1); (try dsimp only); (try k_fold))
  k_with "subscriptTail" => ((have : Mine.Passed 1009 := by with_reducible assumption); k_here; (with_reducible show wpAny _ _ (subscriptTail _ _ (Value.ref _) (Value.int 1 _)) _ _ _); k_dflt (refine' item_tupleT ?t ?a ?b ?c ?d ?_; (case t => with_reducible assumption); (case a => decide); (case b => decide); (case c => rfl); (case d => rfl); k_whole))
  k_with "eval ListComp" => ((have : Mine.Passed 1010 := by with_reducible assumption); k_here; k_dflt (refine Mine.dictT_eval (F₀ := by k_asm) (by with_unfolding_all rfl) (by decide) (by rfl) (by decide) (by rfl) ?_))
  k_with "DSrcT" => (refine Stop.of ?_)
  k_fill
  intro w s₀ s₁ mg mb G Y fa o pm cd doc dV kV ho hd hcd hD hmg hg args vals as hpre hlay hrd hwl hlo
  have KX := kIn_of Y
  have X := (Ground.X G).1
  have V := (Ground.X G).2
  refine Ground.open G ?_
  intro T B D TE TW
  try (refine guard_noD D (by decide +kernel) ?_; clear D)
  refine Mine.hide ?_; intro Gq hGq
  obtain ⟨_, _, M⟩ := bmod_of_top T
  have TA := at_of_top T
  obtain ⟨_, _, he, B0⟩ := based_of_top T rfl hmg ho hd
  have he' : cd = _ := he
  subst he'
  refine hGq ?_; clear hGq Gq
  clear he hmg
  wrow_args hpre hlay hrd hwl hlo
  all_goals (first | refine callC_kw (enter_call ?_) | refine enter_call ?_)
  all_goals w_top on
  all_goals (try refine codeAny_mono ?_ (fun _ _ g => GoodW.toG g))
  have K0 := below_caller (Top.heap T)
  w_call any ho hd hcd hD T F
  clear hd TA
  k_drop
  all_goals (try ((with_reducible rename Flt.MathXP _ _ _ => hx9); clear hx9))
  all_goals try k_fold
  k_steps
  refine Stop.mk ?_
  (with_reducible rename News _ _ _ _ => lN')
  refine Mine.hide ?_; intro Gq hGq
  obtain ⟨dyns, PL, PR, dN, dL, dR, dO, dPL, dPR⟩ := two_sides lN' (by with_reducible assumption) (by with_reducible assumption) (by with_reducible assumption) (by with_reducible assumption) (by with_reducible assumption) (by with_reducible assumption) (by with_reducible assumption) (by with_reducible assumption)
  refine hGq ?_; clear hGq Gq
  clear lN'
  (with_reducible rename IntsAre _ _ => hns9)
  have hlen9 := IntsAre.length hns9
  simp only [List.length_map, List.length_take] at hlen9
  have hlen8 := Nat.le_trans (Nat.le_of_eq hlen9) (Nat.min_le_left _ _)
  obtain ⟨ns9, hn9⟩ := ints_some hns9
  clear hns9 hlen9
  have p224 := passed 224
  k_steps
  refine Stop.mk ?_
  have f1004 := passed 1004
  (with_reducible rename Fr _ _ _ _ => lF'); (with_reducible rename News _ _ _ _ => lN')
  refine iter_tupJ (a := Str.ofString "number") (b := Str.ofString "number") (c := Str.ofString "number") (items := [_, _, _]) (DefJ _ _ _ _ 22 [_, _, _, _, _] _) (by rfl) rfl ⟨_, rfl⟩ lF' lN' ⟨_, [], _, _, _, rfl, by with_reducible assumption, rfl, by omega, by omega⟩ ?turnA ?doneA
  case turnA =>
    rintro i v led h tk I oI oT va vb vc s₁ hv hJ hne hTI F' N'
    refine Mine.hide ?_; intro Gq hGq
    obtain ⟨n, t, rfl, hn, hi3, _⟩ := num3 hv
    obtain ⟨o, kvs, k', t', c, rfl, hd9, hk9, hk0, hk1⟩ := hJ
    refine hGq ?_; clear hGq Gq
    simp only [List.cons_append, List.nil_append] at N'
    have hne1 := hne _ (.head _)
    have hne2 := hne _ (.tail _ (.head _))
    have hne3 := hne _ (.tail _ (.tail _ (.head _)))
    have hne4 := hne _ (.tail _ (.tail _ (.tail _ (.head _))))
    have hne5 := hne _ (.tail _ (.tail _ (.tail _ (.tail _ (.head _)))))
    have hne6 := hne _ (.tail _ (.tail _ (.tail _ (.tail _ (.tail _ (.head _))))))
    have hne7 := hne _ (.tail _ (.tail _ (.tail _ (.tail _ (.tail _ (.tail _ (.head _)))))))
    have hne8 := hne _ (.tail _ (.tail _ (.tail _ (.tail _ (.tail _ (.tail _ (.tail _ (.head _))))))))
    dsimp only at hne1 hne2 hne3 hne4 hne5 hne6 hne7 hne8
    clear lF' lN'
    refine Mine.opq ?_; intro Qq hQq
    k_steps
    (try dsimp only)
    refine hQq _ _ ?_
    refine def_turn (mid := [_, _, _, _, _]) (by k_asm) (by k_asm) (by k_mem) (by k_mem) (by k_mem) (fun p hp => by simp only [List.mem_cons, List.not_mem_nil, or_false] at hp; rcases hp with rfl | rfl | rfl | rfl | rfl <;> k_mem) (by k_mem) (by intro p hp; repeat (first | exact hp | apply List.mem_cons_of_mem)) hne ?_ (by with_reducible assumption) hk9 hi3 hn (by omega) (by omega)
    intro z h1 h2 h3 h4
    simp only [if_neg h1]
  case doneA =>
    intro vx va vb vc led h tk hJ F N
    refine Mine.hide ?_; intro Gq hGq
    obtain ⟨o, kvs, k', t', c, rfl, hd9, hk9, hk0, hk1⟩ := hJ
    simp only [List.cons_append, List.nil_append] at N
    clear lF' lN'
    obtain ⟨dd, hdd⟩ := hk9.tab
    refine hGq ?_; clear hGq Gq
    k_steps
    refine Stop.mk ?_
    k_dflt (refine' spec_use (Mine.inherited_spec _ _ _ _ _ _ _ _ _ PL PR dd dPL.ok dPR.ok) ?k1 ?k2 ?k3 ?k4 ?k5 ?kA ?kH ?kK ?kd ?ku ?kp ?_; (case kA => exact rfl); (case kH => exact rfl); (case kK => exact rfl); (case k1 => k_asm); (case k2 => k_asm); (case k3 => k_asm); (case k4 => exact N); (case k5 => k_asm); (case kd => exact Nat.le_of_ble_eq_true rfl); (case ku => exact Nat.le_of_ble_eq_true rfl))
    case kp => 
      refine ⟨rules_mk (News.get N (by k_mem)) (News.get N (by k_mem)) (News.get N (by k_mem)) (News.get N (by k_mem)), TabAt.ofNews N (by k_mem) (by with_reducible assumption) hd9 hdd, dL _ fun p hp => News.get N ?_, dR _ fun p hp => News.get N ?_⟩
      · repeat (first | exact hp | apply List.mem_cons_of_mem)
      · repeat (first | exact hp | apply List.mem_cons_of_mem)
    intro r9 own9 h9 tk9 F9 N9 kk9 ne9 po9
    refine Mine.hide ?_; intro Gq hGq
    obtain ⟨fo, fs, fc, D, rfl, N1, dF, dL1, dR1, dT, dO1, dne, dlt⟩ := after_inh N9 ne9 po9 (by with_reducible assumption) hd9 hdd dL dR dO (hdist_of (by first | assumption | omega) (by first | assumption | omega) (by first | assumption | omega) (by first | assumption | omega) (by first | assumption | omega) (by first | assumption | omega) (by first | assumption | omega) (by first | assumption | omega) ⟨by first | k_ne | omega, by first | k_ne | omega, by first | k_ne | omega, by first | k_ne | omega⟩)
    refine hGq ?_; clear hGq Gq
    have hok := law_ok (d := dd) dPL dPR
    have hfl := dF.len N1 (fun p hp => by repeat (first | exact hp | apply List.mem_cons_of_mem))
    have hol := hok.len
    clear N9 ne9 po9 kk9 N hd9 hdd dL dR dO
    simp only [List.forall_mem_cons, List.forall_mem_nil, and_true] at dne
    (try dsimp only); (try k_fold)
    k_steps
    refine Stop.mk ?_
    refine ⟨_, _, [_, _, _], _, rfl, by rfl, by k_asm, by k_asm, by k_mem, rfl, ⟨_, rfl⟩, by simp, ?_⟩
    intro g9
    refine restU_ind (DueJ [_, _, _, _, _, _, _, _, _] D (SV.of PL PR dd)) ?hSB DueJ.start ?finB ?turnB
    case hSB => rintro i ys led ⟨own, rfl, _⟩; exact .head _
    case turnB =>
      intro i ys led v I oI C oC D2 m₂ h tk E' hi hJ hv hC hx F N off ne
      refine Mine.hide ?_; intro Gq hGq
      obtain ⟨own, rfl, hyl, hys, hown⟩ := hJ
      obtain ⟨n, t, rfl, hn, hi3, _⟩ := num3 hv
      refine hGq ?_; clear hGq Gq
      simp only [List.cons_append, List.nil_append] at N
      k_steps
      (try dsimp only)
      exact due_turn (front := [_, _, _, _, _, _, _, _, _]) (by k_asm) (by k_asm) off hyl hys hown hn (by assumption) (by assumption) (by assumption)
    case finB =>
      intro ys led hq1
      refine Mine.hide ?_; intro Gq hGq
      obtain ⟨own, rfl, hyl, hys, hown⟩ := hq1
      refine hGq ?_; clear hGq Gq
      obtain ⟨D3, hD3⟩ : ∃ z, z = own ++ D := ⟨_, rfl⟩
      have dO3 := off_both (off_sub hown fun b hb => by simp only [List.mem_cons, List.not_mem_nil, or_false] at hb; simp only [List.map_cons, List.map_nil, List.mem_cons, List.not_mem_nil, or_false]; rcases hb with h | h | h | h <;> simp [h]) dO1
      have dF3 := dF.sub (own' := D3) (fun p hp => by rw [hD3]; exact List.mem_append.mpr (.inr hp))
      have hrow : ∀ (j : Nat) v, ys[j]? = some v → DueRow D3 ((j : Int) + 1) ((SV.of PL PR dd).due ((j : Int) + 1)) v := fun j v e => (hys j v e).sub fun p hp => by rw [hD3]; exact List.mem_append.mpr (.inl hp)
      rw [← hD3] at dO3
      have hyl3 : ys.length = 3 := hyl
      rw [← hD3]
      clear dF dL1 dR1 dT hys hown hyl hD3
      simp only [List.cons_append, List.nil_append]
      k_steps
      refine Stop.mk ?_
      (with_reducible rename Fr _ _ _ _ => lF'); (with_reducible rename News _ _ _ _ => lN')
      refine iter_pairsK _ (by rfl) (.head _) rfl ⟨_, rfl⟩ (by decide) (by rfl) (by rfl) (by rfl) (row_hit (D3 := D3) (fun p hp => by repeat (first | exact hp | apply List.mem_cons_of_mem)) hrow) lF' lN' ?turnC ?doneC
      case turnC =>
        intro i x y h tk I oI s₁ hi hq1 hne F' N'
        refine Mine.hide ?_; intro Gq hGq
        obtain ⟨n, t, a, z, c, rfl, hn, rfl, ham, hz⟩ := hq1
        refine hGq ?_; clear hGq Gq
        have f1007 := passed 1007
        clear lF' lN'
        have hn3 : n = 1 ∨ n = 2 ∨ n = 3 := by omega
        refine Mine.opq ?_; intro Qq hQq
        k_steps
        refine Stop.mk ?_
        (with_reducible rename HeldOne _ _ _ _ => po)
        rw [hok.held n hn3] at po
        k_dflt (refine' ne_one (o := ((SV.of PL PR dd).due n).v) (po.lrd _ ?p1) (hz _ ?p2) ?p3 ?_)
        case p1 =>
          intro p hp
          rcases List.mem_append.mp hp with hp | hp
          · exact News.get (by k_asm) (List.mem_append.mpr (.inl hp))
          · exact News.get (by k_asm) (List.mem_append.mpr (.inr (by repeat (first | exact hp | apply List.mem_cons_of_mem))))
        case p2 =>
          intro p hp
          exact News.get (by k_asm) (List.mem_append.mpr (.inr (by repeat (first | exact hp | apply List.mem_cons_of_mem))))
        case p3 => exact Nat.le_of_ble_eq_true rfl
        have p2 := passed 2
        (try dsimp only)
        k_steps
        (try dsimp only)
        refine hQq _ _ ?_
        exact PTurn.intro _ (by k_asm) (by k_asm) (List.mem_append.mpr (.inr (.head _))) (fun p hp => List.mem_append.mpr (.inr (.tail _ hp))) hne off_two rfl
      case doneC =>
        intro m' h tk off F N
        clear lF' lN'
        have F := fr_off F off
        (try dsimp only); (try k_fold)
        k_steps
        refine Stop.mk ?_
        clear off
        have f1008 := passed 1008
        (with_reducible rename Fr _ _ _ _ => lF'); (with_reducible rename News _ _ _ _ => lN')
        refine iter_cell (items := [_, _]) (x := Str.ofString "which") (a := Str.ofString "my_wanted") (b := Str.ofString "my_held") (c := Str.ofString "my_held") (pre := [_, _, _, _, _, _, _, _]) (by rfl) rfl ⟨_, rfl⟩ lF' lN' (by assumption) ?turnD ?doneD
        case turnD =>
          intro i v m₁ led h tk I oI oT s₁ hv hq1 hne hTI F' N'
          refine Mine.hide ?_; intro Gq hGq
          obtain ⟨hoff, oc, v₀, hcell, rfl⟩ := hq1
          refine hGq ?_; clear hGq Gq
          simp only [List.cons_append, List.nil_append] at N'
          obtain ⟨p, wh, pl, t1, t2, rfl, hwp, hpT⟩ : ∃ p wh pl t1 t2, v = .ref p ∧ WP wh pl ∧ IsTup h p #[.int wh t1, .int pl t2] := by
            rcases two_ways hv with rfl | rfl
            · exact ⟨_, 101, 1, _, _, rfl, .inl ⟨rfl, rfl⟩, News.isTup N' (by k_mem)⟩
            · exact ⟨_, 102, 2, _, _, rfl, .inr ⟨rfl, rfl⟩, News.isTup N' (by k_mem)⟩
          have hpl : pl = 1 ∨ pl = 2 := hwp.imp (·.2) (·.2)
          have hneL := hne
          simp only [List.cons_append, List.nil_append, List.forall_mem_cons] at hneL
          clear lF' lN' hv
          refine Mine.opq ?_; intro Qq hQq
          k_steps
          refine hQq _ _ ?_
          clear hQq Qq
          (try dsimp only)
          refine Mine.opq ?_; intro Qq hQq
          k_steps
          refine Stop.mk ?_
          refine PSrcL.mk (vs := ys) (fun i zs => IntsAre zs ((([1, 2, 3] : List Int).take i).filter ((SV.of PL PR dd).flag pl)) ∧ zs.length ≤ i) (by rfl) (by k_asm) (by k_asm) (by k_mem) rfl ⟨_, rfl⟩ (by omega)
            (row_hit (D3 := D3) (fun p hp => by repeat (first | exact hp | apply List.mem_cons_of_mem)) hrow) ⟨.nil, Nat.le_refl _⟩ ?turnP ?finP
          case turnP =>
            intro i zs x y I2 oI2 C oC D2 m₂ h2 tk2 E' hi hq1 hq2 hC hx hy F N off ne
            refine Mine.hide ?_; intro Gq hGq
            obtain ⟨hzI, hzl⟩ := hq1
            obtain ⟨n, t, a, z, c, rfl, hn, rfl, ham, hz⟩ := hq2
            refine hGq ?_; clear hGq Gq
            (try simp only [LCg.Off3, and_true] at off)
            k_steps
            · (with_reducible rename @Eq Bool _ (ite _ _ _) => hbb)
              (with_reducible rename @Eq Bool _ true => hbt)
              have e9 : (SV.of PL PR dd).flag pl n = true := hbb.symm.trans hbt
              refine TEnd.same (by k_asm) (by k_asm) ⟨?_, by simp; omega⟩
              rw [filt_take (by omega) hn, if_pos e9]
              exact hzI.append (.cons n t .nil)
            · (with_reducible rename @Eq Bool _ (ite _ _ _) => hbb)
              (with_reducible rename @Eq Bool _ false => hbt)
              have e9 : (SV.of PL PR dd).flag pl n = false := hbb.symm.trans hbt
              refine TEnd.same (by k_asm) (by k_asm) ⟨?_, by omega⟩
              rw [filt_take (by omega) hn, if_neg (by rw [e9]; decide), List.append_nil]
              exact hzI
          case finP =>
            rintro zs g ⟨hzI, hzl⟩
            rw [hyl3] at hzI hzl
            have hzI : IntsAre zs (([1, 2, 3] : List Int).filter ((SV.of PL PR dd).flag pl)) := hzI
            k_steps
            refine Stop.mk ?_
            have f1009 := passed 1009
            have p3 := passed 3
            (with_reducible rename HeldOne _ _ _ _ => po)
            rcases hok.wp hwp with ⟨h1, h2⟩ | ⟨ns, h1, hns0, hnsl, hperm⟩
            · rw [h1] at po
              obtain ⟨rfl, rfl⟩ := po
              rw [h2] at hzI
              cases hzI
              (with_reducible rename News _ _ _ _ => lN')
              simp only [List.nil_append] at lN'
              k_steps
              (try dsimp only)
              refine hQq _ _ ?_
              refine cell_turn (pre := [_, _, _, _, _, _, _, _]) (by k_asm) (by k_asm) (by k_mem) (by k_mem) (fun p hp => by simp only [List.mem_cons, List.not_mem_nil, or_false] at hp; rcases hp with rfl | rfl | rfl | rfl | rfl | rfl | rfl | rfl <;> k_mem) (by k_mem) (by intro p hp; repeat (first | exact hp | apply List.mem_cons_of_mem)) hne ?_ (by with_reducible assumption)
              intro z h1 h2 h3 h4
              simp only [if_neg h1, if_neg h2, if_neg h3]
            · rw [h1] at po
              refine Mine.hide ?_; intro Gq hGq
              obtain ⟨a, y, rfl, rfl, hy⟩ := po
              refine hGq ?_; clear hGq Gq
              (with_reducible rename News _ _ _ _ => lN')
              simp only [List.cons_append, List.nil_append] at lN'
              refine Mine.hide ?_; intro Gq hGq
              obtain ⟨b, bt, vs, rfl, hLT, hvl, hRA⟩ := held_list hy (fun p hp => News.get lN' (by repeat (first | exact hp | apply List.mem_cons_of_mem)))
              refine hGq ?_; clear hGq Gq
              have hzl9 : zs.length ≤ 3 := hzl
              have hz0 : zs ≠ [] := by
                intro e
                rw [e] at hzI
                have q := hzI.length
                have q2 := hperm.length_eq
                rw [List.length_nil] at q
                exact hns0 (List.length_eq_zero_iff.mp (q2.trans q.symm))
              have hf0 : ¬ (List.filter ((SV.of PL PR dd).flag pl) [1, 2, 3] = []) := fun e => hns0 (by rw [e] at hperm; exact hperm.eq_nil)
              k_steps
              refine Stop.mk ?_
              refine ⟨_, _, vs, _, rfl, by rfl, by k_asm, by k_asm, by k_mem, rfl, ⟨_, rfl⟩, by omega, ?_⟩
              intro g9
              refine restU_ind (IntJ _ ns) ?hSy IntJ.start ?finy ?turny
              case hSy => rintro i zs2 led ⟨rfl, _⟩; k_mem
              case turny =>
                rintro i zs2 led v I2 oI2 C oC D2 m₂ h2 tk2 E' hi ⟨rfl, hJ⟩ hv hC hx F N off ne
                have r2 := hRA h2 (fun p hp => News.get N (by repeat (first | exact hp | apply List.mem_cons_of_mem)))
                refine Mine.hide ?_; intro Gq hGq
                obtain ⟨p9, t9, n9, u9, rfl, hn9, hpT9⟩ := sym_at r2 i v hv
                refine hGq ?_; clear hGq Gq
                have hpT9 : IsTup h2 p9 #[Value.str (Str.ofString "symbol") t9, .int n9 u9] := hpT9
                k_steps
                (try dsimp only)
                exact int_turn (by k_asm) (by k_asm) off hJ hn9
              case finy =>
                rintro zs2 led ⟨rfl, hJ⟩
                rw [hvl, List.take_length] at hJ
                have hws : (List.filter ((SV.of PL PR dd).flag pl) [1, 2, 3]).Pairwise (· ≤ ·) := List.Pairwise.filter _ (by decide)
                have hn64 : ns.length ≤ 3 := hperm.length_eq ▸ List.length_filter_le _ _
                k_steps
                all_goals (try dsimp only)
                · refine hQq _ _ ?_
                  refine cell_turn (pre := [_, _, _, _, _, _, _, _]) (by k_asm) (by k_asm) (by k_mem) (by k_mem) (fun p hp => by simp only [List.mem_cons, List.not_mem_nil, or_false] at hp; rcases hp with rfl | rfl | rfl | rfl | rfl | rfl | rfl | rfl <;> k_mem) (by k_mem) (by intro p hp; repeat (first | exact hp | apply List.mem_cons_of_mem)) hne ?_ (by with_reducible assumption)
                  intro z h1 h2 h3 h4
                  simp only [if_neg h1, if_neg h2, if_neg h3]
                · exfalso
                  (with_reducible rename List.Perm _ _ => pp)
                  (with_reducible rename List.Pairwise _ _ => oo)
                  (with_reducible rename Not _ => nn)
                  exact nn ((pp.trans hperm).eq_of_pairwise (fun a b _ _ h1 h2 => Int.le_antisymm h1 h2) oo hws)
        case doneD =>
          intro vx va vb vc led h tk hq1 F N
          refine Mine.hide ?_; intro Gq hGq
          obtain ⟨oc, v₀, hcell, rfl⟩ := hq1
          refine hGq ?_; clear hGq Gq
          clear lF' lN'
          simp only [List.cons_append, List.nil_append] at N
          have f1010 := passed 1010
          (try dsimp only); (try k_fold)
          k_steps
          refine Stop.mk ?_
          refine DSrcT.mk (by rfl) (by k_asm) (by k_asm) (by k_mem) (by with_reducible assumption) (by with_reducible assumption) (by omega) ?turnd ?find
          case turnd =>
            intro g i v I2 oI2 C oC D2 m₂ h2 tk2 E' hi hq1 hC hx F N off ne
            refine Mine.hide ?_; intro Gq hGq
            obtain ⟨k, y, t, hk, rfl⟩ := hq1
            refine hGq ?_; clear hGq Gq
            have h5 := key_five hok (by assumption) hk
            k_steps
            all_goals (try dsimp only)
            · exact UEnd.intro _ (by k_asm) (by k_asm) (fun p hp => .tail _ hp) off.mem rfl
            · exfalso
              (with_reducible rename @Eq Bool _ false => hany)
              rcases h5 with rfl | rfl | rfl | rfl | rfl <;> exact absurd hany (by decide)
          case find =>
            intro g
            k_steps

end

end Mine
theorem PySem.Challenge.cw_np0033_01_holds : PySem.Challenge.rw_np0033_01.Holds := by
  exact Mine.top_holds
