/- What runs of functions ask, as propositions with named values (printed by a program of this work). No statement of the seat is proved here. -/
import Derived.Test.YtmimnelcopgcpaaGreatT
set_option linter.unusedVariables false
set_option linter.unusedSimpArgs false
set_option maxRecDepth 100000
namespace Go.Sl
open Go
/-- staithe/staithelaw13.LoomCompacts -/
def W3 (x0 : Value) (h : Heap) (R : Value → Heap → Prop) : Prop :=
BOX 25 x0 h fun t1 h1 =>
JN 1 (fun J =>
RDN h1 5 t1 fun t10 =>
HT P 4 [t10] h1 fun t11 h2 =>
GD t11 false h2 (fun K => RDN h2 5 t1 fun v => K v h2) fun t13 h3 =>
GD t11 false h3 (fun K_1 => HT P 5 [t13] h3 K_1) fun t14 h4 =>
GD t11 false h4 (fun K_2 => binW .neq t14 (int 0) fun v => K_2 v h4) fun t15 h5 =>
PICK t11 (.bool true) t15 fun t16 =>
J t16 h5) fun t16_1 h6 =>
∀ _ : Env, COND t16_1 (
HT P 6 [] h6 fun t17 h7 =>
R t17 h7) (
RDN h6 5 t1 fun t19 =>
HT P 7 [t19] h6 fun t20 h8 =>
EXT t20 0 fun t21 =>
EXT t20 1 fun t22 =>
RDN h8 5 t1 fun t24 =>
HT P 8 [t24] h8 fun t25 h9 =>
HT P 7 [t25] h9 fun t26 h10 =>
EXT t26 0 fun t27 =>
EXT t26 1 fun t28 =>
LEN t21 fun t30 =>
LP 2 (fun I => I (.slice none 0 0) (int 0) h10) fun L t7_1 t31_1 h11 =>
∀ _ : Env, binW .lss t31_1 t30 fun t32 =>
COND t32 (
JN 1 (fun J_1 =>
IADDR 8 t21 t31_1 fun t33 =>
RDN h11 8 t33 fun t34 =>
NEW 34 [.int .i64 0, .int .i64 0, .int .i64 0, .int .i64 0, .int .i64 0, .int .i64 0, .bool false, .bool false] h11 fun t9 h12 =>
WR h12 8 t9 t34 fun h13 =>
FADDR 0 t9 fun t35 =>
RD1 h13 t35 fun t36 =>
binW .neq t36 (int 13) fun t37 =>
COND t37 (
RDN h13 8 t9 fun t39 =>
ROW 34 [.int .i64 0, .int .i64 0, .int .i64 0, .int .i64 0, .int .i64 0, .int .i64 0, .bool false, .bool false] [((0, 8), t39)] 1 h13 fun t40 h14 =>
APP h14 34 8 56 [.int .i64 0, .int .i64 0, .int .i64 0, .int .i64 0, .int .i64 0, .int .i64 0, .bool false, .bool false] t7_1 t40 fun t41 h15 =>
J_1 t41 h15) (
J_1 t7_1 h13)) fun t7_3 h16 =>
∀ _ : Env, binW .add t31_1 (int 1) fun t42 =>
L t7_3 t42 h16) (
JN 1 (fun J_2 =>
HT P 9 [t7_1, t27] h11 fun t45 h17 =>
GD t45 true h17 (fun K_3 => K_3 t22 h17) fun t47 h18 =>
GD t45 true h18 (fun K_4 => K_4 t28 h18) fun t48 h19 =>
GD t45 true h19 (fun K_5 => binW .eql t47 t48 fun v => K_5 v h19) fun t49 h20 =>
PICK t45 t49 (.bool false) fun t50 =>
GD t50 true h20 (fun K_6 => HT P 6 [] h20 K_6) fun t52 h21 =>
PICK t50 t52 (.bool false) fun t53 =>
J_2 t53 h21) fun t2_3 h22 =>
∀ _ : Env, R t2_3 h22))
theorem u3 {x0 : Value} {h : Heap} {R : Value → Heap → Prop} (k : W3 x0 h R) : HT P 3 [x0] h R :=
  HT.print mixed Tok (n := 54) (H := [(6, [16]), (506, [7, 31]), (4051, [7]), (127, [2])]) (rs := [.tmp 2]) Go.Proofs.Tryz.func3 (by kernel_rfl) (by kernel_rfl) (by kernel_rfl) (by kernel_rfl) rfl (by kernel_rfl) k

/-- staithe/staithelaw13.large -/
def W4 (x0 : Value) (h : Heap) (R : Value → Heap → Prop) : Prop :=
BOX 25 x0 h fun t1 h1 =>
JN 1 (fun J =>
FADDR 2 t1 fun t8 =>
RD1 h1 t8 fun t9 =>
LEN t9 fun t10 =>
binW .gtr t10 (int 20) fun t11 =>
GD t11 false h1 (fun K => FADDR 3 t1 fun v => K v h1) fun t13 h2 =>
GD t11 false h2 (fun K_1 => RD1 h2 t13 fun v => K_1 v h2) fun t14 h3 =>
GD t11 false h3 (fun K_2 => LEN t14 fun v => K_2 v h3) fun t15 h4 =>
GD t11 false h4 (fun K_3 => binW .gtr t15 (int 1000) fun v => K_3 v h4) fun t16 h5 =>
PICK t11 (.bool true) t16 fun t17 =>
GD t17 false h5 (fun K_4 => FADDR 4 t1 fun v => K_4 v h5) fun t19 h6 =>
GD t17 false h6 (fun K_5 => RD1 h6 t19 fun v => K_5 v h6) fun t20 h7 =>
GD t17 false h7 (fun K_6 => LEN t20 fun v => K_6 v h7) fun t21 h8 =>
GD t17 false h8 (fun K_7 => binW .gtr t21 (int 1000) fun v => K_7 v h8) fun t22 h9 =>
PICK t17 (.bool true) t22 fun t23 =>
J t23 h9) fun t23_1 h10 =>
∀ _ : Env, COND t23_1 (
R (.bool true) h10) (
FADDR 2 t1 fun t24 =>
RD1 h10 t24 fun t25 =>
LEN t25 fun t26 =>
LP 2 (fun I => I (int 0) (int 0) h10) fun L t3_1 t27_1 h11 =>
∀ _ : Env, binW .lss t27_1 t26 fun t28 =>
COND t28 (
IADDR 1 t25 t27_1 fun t29 =>
RD1 h11 t29 fun t30 =>
LEN t30 fun t32 =>
binW .gtr t32 (int 100) fun t33 =>
COND t33 (
R (.bool true) h11) (
LEN t30 fun t35 =>
LP 2 (fun I_1 => I_1 t3_1 (int 0) h11) fun L_1 t3_2 t36_1 h12 =>
∀ _ : Env, binW .lss t36_1 t35 fun t37 =>
COND t37 (
IADDR 5 t30 t36_1 fun t38 =>
RDN h12 5 t38 fun t39 =>
NEW 39 [.int .i64 0, .int .i64 0, .int .i64 0, .slice none 0 0, .bool false] h12 fun t7 h13 =>
WR h13 5 t7 t39 fun h14 =>
FADDR 3 t7 fun t41 =>
RD1 h14 t41 fun t42 =>
LEN t42 fun t43 =>
binW .add t3_2 t43 fun t44 =>
binW .gtr t44 (int 3000) fun t46 =>
COND t46 (
R (.bool true) h14) (
binW .add t36_1 (int 1) fun t47 =>
L_1 t44 t47 h14)) (
binW .add t27_1 (int 1) fun t48 =>
L t3_2 t48 h12))) (
R (.bool false) h11))
theorem u4 {x0 : Value} {h : Heap} {R : Value → Heap → Prop} (k : W4 x0 h R) : HT P 4 [x0] h R :=
  HT.print mixed Tok (n := 49) (H := [(6, [23]), (122, [3, 27]), (62670, [3, 36])]) (rs := [.tmp 2]) Go.Proofs.Tryz.func4 (by kernel_rfl) (by kernel_rfl) (by kernel_rfl) (by kernel_rfl) rfl (by kernel_rfl) k

/-- staithe/staitheref05.Check -/
def W5 (x0 : Value) (h : Heap) (R : Value → Heap → Prop) : Prop :=
BOX 25 x0 h fun t1 h1 =>
JN 1 (fun J =>
FADDR 0 t1 fun t13 =>
RD1 h1 t13 fun t14 =>
binW .lss t14 (int 1) fun t15 =>
GD t15 false h1 (fun K => FADDR 0 t1 fun v => K v h1) fun t17 h2 =>
GD t15 false h2 (fun K_1 => RD1 h2 t17 fun v => K_1 v h2) fun t18 h3 =>
GD t15 false h3 (fun K_2 => binW .gtr t18 (int 256) fun v => K_2 v h3) fun t19 h4 =>
PICK t15 (.bool true) t19 fun t20 =>
GD t20 false h4 (fun K_3 => FADDR 1 t1 fun v => K_3 v h4) fun t22 h5 =>
GD t20 false h5 (fun K_4 => RD1 h5 t22 fun v => K_4 v h5) fun t23 h6 =>
GD t20 false h6 (fun K_5 => binW .lss t23 (int 1) fun v => K_5 v h6) fun t24 h7 =>
PICK t20 (.bool true) t24 fun t25 =>
GD t25 false h7 (fun K_6 => FADDR 1 t1 fun v => K_6 v h7) fun t27 h8 =>
GD t25 false h8 (fun K_7 => RD1 h8 t27 fun v => K_7 v h8) fun t28 h9 =>
GD t25 false h9 (fun K_8 => binW .gtr t28 (int 1048576) fun v => K_8 v h9) fun t29 h10 =>
PICK t25 (.bool true) t29 fun t30 =>
J t30 h10) fun t30_1 h11 =>
∀ _ : Env, COND t30_1 (
R (int 1) h11) (
JN 1 (fun J_1 =>
FADDR 2 t1 fun t31 =>
RD1 h11 t31 fun t32 =>
LEN t32 fun t33 =>
binW .gtr t33 (int 8) fun t34 =>
GD t34 false h11 (fun K_9 => FADDR 3 t1 fun v => K_9 v h11) fun t36 h12 =>
GD t34 false h12 (fun K_10 => RD1 h12 t36 fun v => K_10 v h12) fun t37 h13 =>
GD t34 false h13 (fun K_11 => LEN t37 fun v => K_11 v h13) fun t38 h14 =>
GD t34 false h14 (fun K_12 => binW .gtr t38 (int 200) fun v => K_12 v h14) fun t39 h15 =>
PICK t34 (.bool true) t39 fun t40 =>
GD t40 false h15 (fun K_13 => FADDR 4 t1 fun v => K_13 v h15) fun t42 h16 =>
GD t40 false h16 (fun K_14 => RD1 h16 t42 fun v => K_14 v h16) fun t43 h17 =>
GD t40 false h17 (fun K_15 => LEN t43 fun v => K_15 v h17) fun t44 h18 =>
GD t40 false h18 (fun K_16 => binW .gtr t44 (int 64) fun v => K_16 v h18) fun t45 h19 =>
PICK t40 (.bool true) t45 fun t46 =>
J_1 t46 h19) fun t46_1 h20 =>
∀ _ : Env, COND t46_1 (
R (int 2) h20) (
FADDR 2 t1 fun t47 =>
RD1 h20 t47 fun t48 =>
LEN t48 fun t49 =>
LP 1 (fun I => I (int 0) h20) fun L t50_1 h21 =>
∀ _ : Env, binW .lss t50_1 t49 fun t51 =>
COND t51 (
IADDR 1 t48 t50_1 fun t52 =>
RD1 h21 t52 fun t53 =>
LEN t53 fun t55 =>
binW .gtr t55 (int 32) fun t56 =>
COND t56 (
R (int 2) h21) (
binW .add t50_1 (int 1) fun t57 =>
L t57 h21)) (
FADDR 2 t1 fun t58 =>
RD1 h21 t58 fun t59 =>
LEN t59 fun t60 =>
binW .eql t60 (int 0) fun t61 =>
COND t61 (
R (int 4) h21) (
FADDR 2 t1 fun t62 =>
RD1 h21 t62 fun t63 =>
LEN t63 fun t64 =>
LP 1 (fun I_1 => I_1 (int 0) h21) fun L_1 t65_1 h22 =>
∀ _ : Env, binW .lss t65_1 t64 fun t66 =>
COND t66 (
IADDR 1 t63 t65_1 fun t67 =>
RD1 h22 t67 fun t68 =>
LEN t68 fun t70 =>
LP 1 (fun I_2 => I_2 (int 0) h22) fun L_2 t71_1 h23 =>
∀ _ : Env, binW .lss t71_1 t70 fun t72 =>
COND t72 (
IADDR 5 t68 t71_1 fun t73 =>
RDN h23 5 t73 fun t74 =>
NEW 39 [.int .i64 0, .int .i64 0, .int .i64 0, .slice none 0 0, .bool false] h23 fun t8 h24 =>
WR h24 5 t8 t74 fun h25 =>
RDN h25 5 t8 fun t75 =>
FADDR 2 t1 fun t76 =>
RD1 h25 t76 fun t77 =>
LEN t77 fun t78 =>
HT P 10 [t75, t78] h25 fun t79 h26 =>
binW .neq t79 (int 0) fun t80 =>
COND t80 (
R (int 4) h26) (
binW .add t71_1 (int 1) fun t81 =>
L_2 t81 h26)) (
binW .add t65_1 (int 1) fun t82 =>
L_1 t82 h23)) (
FADDR 3 t1 fun t83 =>
RD1 h22 t83 fun t84 =>
LEN t84 fun t85 =>
LP 1 (fun I_3 => I_3 (int 0) h22) fun L_3 t86_1 h27 =>
∀ _ : Env, binW .lss t86_1 t85 fun t87 =>
COND t87 (
IADDR 1 t84 t86_1 fun t88 =>
RD1 h27 t88 fun t89 =>
JN 1 (fun J_2 =>
binW .lss t89 (int (-1)) fun t91 =>
GD t91 false h27 (fun K_17 => K_17 t89 h27) fun t93 h28 =>
GD t91 false h28 (fun K_18 => binW .gtr t93 (int 1000) fun v => K_18 v h28) fun t94 h29 =>
PICK t91 (.bool true) t94 fun t95 =>
J_2 t95 h29) fun t95_1 h30 =>
∀ _ : Env, COND t95_1 (
R (int 4) h30) (
binW .add t86_1 (int 1) fun t96 =>
L_3 t96 h30)) (
FADDR 4 t1 fun t97 =>
RD1 h27 t97 fun t98 =>
LEN t98 fun t99 =>
LP 1 (fun I_4 => I_4 (int 0) h27) fun L_4 t100_1 h31 =>
∀ _ : Env, binW .lss t100_1 t99 fun t101 =>
COND t101 (
IADDR 1 t98 t100_1 fun t102 =>
RD1 h31 t102 fun t103 =>
JN 1 (fun J_3 =>
binW .lss t103 (int 0) fun t105 =>
GD t105 false h31 (fun K_19 => K_19 t103 h31) fun t107 h32 =>
GD t105 false h32 (fun K_20 => binW .gtr t107 (int 1000) fun v => K_20 v h32) fun t108 h33 =>
PICK t105 (.bool true) t108 fun t109 =>
J_3 t109 h33) fun t109_1 h34 =>
∀ _ : Env, COND t109_1 (
R (int 4) h34) (
binW .add t100_1 (int 1) fun t110 =>
L_4 t110 h34)) (
R (int 0) h31)))))))
theorem u5 {x0 : Value} {h : Heap} {R : Value → Heap → Prop} (k : W5 x0 h R) : HT P 5 [x0] h R :=
  HT.print mixed Tok (n := 111) (H := [(6, [30]), (14, [46]), (122, [50]), (506, [65]), (129638, [71]), (1018, [86]), (65177, [95]), (2042, [100]), (130713, [109])]) (rs := [.tmp 2]) Go.Proofs.Tryz.func5 (by kernel_rfl) (by kernel_rfl) (by kernel_rfl) (by kernel_rfl) rfl (by kernel_rfl) k

/-- staithe/staithelaw13.hands -/
def W6 (h : Heap) (R : Value → Heap → Prop) : Prop :=
BUILD [.int .i64 0, .int .i64 0, .int .i64 0, .slice none 0 0, .bool false] [((0, 1), (int 2))] fun t4 =>
BUILD [.int .i64 0, .int .i64 0, .int .i64 0, .slice none 0 0, .bool false] [((0, 1), (int 1)), ((1, 1), (int 1))] fun t5 =>
BUILD [.int .i64 0, .int .i64 0, .int .i64 0, .slice none 0 0, .bool false] [((0, 1), (int 4))] fun t6 =>
ROW 39 [.int .i64 0, .int .i64 0, .int .i64 0, .slice none 0 0, .bool false, .int .i64 0, .int .i64 0, .int .i64 0, .slice none 0 0, .bool false, .int .i64 0, .int .i64 0, .int .i64 0, .slice none 0 0, .bool false] [((0, 5), t4), ((5, 5), t5), ((10, 5), t6)] 3 h fun t7 h1 =>
BUILD [.int .i64 0, .int .i64 0, .int .i64 0, .slice none 0 0, .bool false] [((0, 1), (int 3)), ((2, 1), (int 5))] fun t8 =>
ROW 39 [.int .i64 0, .int .i64 0, .int .i64 0, .slice none 0 0, .bool false] [((0, 5), t8)] 1 h1 fun t9 h2 =>
ROW 36 [.slice none 0 0, .slice none 0 0] [((0, 1), t7), ((1, 1), t9)] 2 h2 fun t10 h3 =>
ROW 3 [.int .i64 0, .int .i64 0, .int .i64 0, .int .i64 0] [((0, 1), (int 0)), ((1, 1), (int 0)), ((2, 1), (int 0)), ((3, 1), (int 0))] 4 h3 fun t11 h4 =>
BUILD [.int .i64 0, .int .i64 0, .slice none 0 0, .slice none 0 0, .slice none 0 0] [((0, 1), (int 9)), ((1, 1), (int 9)), ((2, 1), t10), ((3, 1), t11)] fun t12 =>
HT P 7 [t12] h4 fun t13 h5 =>
EXT t13 0 fun t14 =>
EXT t13 1 fun t15 =>
JN 1 (fun J =>
binW .eql t15 (int 4) fun t17 =>
GD t17 true h5 (fun K => K t14 h5) fun t19 h6 =>
GD t17 true h6 (fun K_1 => LEN t19 fun v => K_1 v h6) fun t20 h7 =>
GD t17 true h7 (fun K_2 => binW .eql t20 (int 5) fun v => K_2 v h7) fun t21 h8 =>
PICK t17 t21 (.bool false) fun t22 =>
GD t22 true h8 (fun K_3 => K_3 t14 h8) fun t24 h9 =>
GD t22 true h9 (fun K_4 => IADDR 8 t24 (int 2) fun v => K_4 v h9) fun t25 h10 =>
GD t22 true h10 (fun K_5 => FADDR 0 t25 fun v => K_5 v h10) fun t26 h11 =>
GD t22 true h11 (fun K_6 => RD1 h11 t26 fun v => K_6 v h11) fun t27 h12 =>
GD t22 true h12 (fun K_7 => binW .eql t27 (int 6) fun v => K_7 v h12) fun t28 h13 =>
PICK t22 t28 (.bool false) fun t29 =>
GD t29 true h13 (fun K_8 => K_8 t14 h13) fun t31 h14 =>
GD t29 true h14 (fun K_9 => IADDR 8 t31 (int 3) fun v => K_9 v h14) fun t32 h15 =>
GD t29 true h15 (fun K_10 => FADDR 0 t32 fun v => K_10 v h15) fun t33 h16 =>
GD t29 true h16 (fun K_11 => RD1 h16 t33 fun v => K_11 v h16) fun t34 h17 =>
GD t29 true h17 (fun K_12 => binW .eql t34 (int 3) fun v => K_12 v h17) fun t35 h18 =>
PICK t29 t35 (.bool false) fun t36 =>
GD t36 true h18 (fun K_13 => K_13 t14 h18) fun t38 h19 =>
GD t36 true h19 (fun K_14 => IADDR 8 t38 (int 3) fun v => K_14 v h19) fun t39 h20 =>
GD t36 true h20 (fun K_15 => FADDR 5 t39 fun v => K_15 v h20) fun t40 h21 =>
GD t36 true h21 (fun K_16 => RD1 h21 t40 fun v => K_16 v h21) fun t41 h22 =>
GD t36 true h22 (fun K_17 => binW .eql t41 (int 0) fun v => K_17 v h22) fun t42 h23 =>
PICK t36 t42 (.bool false) fun t43 =>
GD t43 true h23 (fun K_18 => K_18 t14 h23) fun t45 h24 =>
GD t43 true h24 (fun K_19 => IADDR 8 t45 (int 4) fun v => K_19 v h24) fun t46 h25 =>
GD t43 true h25 (fun K_20 => FADDR 0 t46 fun v => K_20 v h25) fun t47 h26 =>
GD t43 true h26 (fun K_21 => RD1 h26 t47 fun v => K_21 v h26) fun t48 h27 =>
GD t43 true h27 (fun K_22 => binW .eql t48 (int 7) fun v => K_22 v h27) fun t49 h28 =>
PICK t43 t49 (.bool false) fun t50 =>
GD t50 true h28 (fun K_23 => K_23 t14 h28) fun t52 h29 =>
GD t50 true h29 (fun K_24 => IADDR 8 t52 (int 4) fun v => K_24 v h29) fun t53 h30 =>
GD t50 true h30 (fun K_25 => FADDR 4 t53 fun v => K_25 v h30) fun t54 h31 =>
GD t50 true h31 (fun K_26 => RD1 h31 t54 fun v => K_26 v h31) fun t55 h32 =>
GD t50 true h32 (fun K_27 => binW .eql t55 (int 5) fun v => K_27 v h32) fun t56 h33 =>
PICK t50 t56 (.bool false) fun t57 =>
J t57 h33) fun t0_2 h34 =>
∀ _ : Env, R t0_2 h34
theorem u6 {h : Heap} {R : Value → Heap → Prop} (k : W6  h R) : HT P 6 [] h R :=
  HT.print mixed Tok (n := 58) (H := [(7, [0])]) (rs := [.tmp 0]) Go.Proofs.Tryz.func6 (by kernel_rfl) (by kernel_rfl) (by kernel_rfl) (by kernel_rfl) rfl (by kernel_rfl) k

/-- staithe/loom.Run -/
def W7 (x0 : Value) (h : Heap) (R : Value → Heap → Prop) : Prop :=
BOX 25 x0 h fun t1 h1 =>
RDN h1 5 t1 fun t7 =>
HT P 11 [t7] h1 fun t8 h2 =>
EXT t8 0 fun t9 =>
EXT t8 1 fun t10 =>
binW .neq t10 (int 0) fun t12 =>
COND t12 (
R (.tuple #[(.slice none 0 0), (int 0)]) h2) (
LP 0 (fun I => I h2) fun L h3 =>
∀ _ : Env, HT P 12 [t9] h3 fun t14 h4 =>
binW .eql t14 (int 0) fun t15 =>
COND t15 (
HT P 13 [t9] h4 fun t17 h5 =>
L h5) (
HT P 14 [t9] h4 fun t19 h6 =>
HT P 12 [t9] h6 fun t21 h7 =>
R (.tuple #[t19, t21]) h7))
theorem u7 {x0 : Value} {h : Heap} {R : Value → Heap → Prop} (k : W7 x0 h R) : HT P 7 [x0] h R :=
  HT.print mixed Tok (n := 22) (H := [(60, [])]) (rs := [.tmp 2, .tmp 3]) Go.Proofs.Tryz.func7 (by kernel_rfl) (by kernel_rfl) (by kernel_rfl) (by kernel_rfl) rfl (by kernel_rfl) k

/-- staithe/sheet.Bare -/
def W8 (x0 : Value) (h : Heap) (R : Value → Heap → Prop) : Prop :=
BOX 25 x0 h fun t1 h1 =>
NEW 25 [.int .i64 0, .int .i64 0, .slice none 0 0, .slice none 0 0, .slice none 0 0] h1 fun t2 h2 =>
RDN h2 5 t1 fun t3 =>
HT P 15 [t3] h2 fun t4 h3 =>
WR h3 5 t1 t4 fun h4 =>
FADDR 3 t1 fun t5 =>
RD1 h4 t5 fun t6 =>
HT P 16 [t6, (fnv 17)] h4 fun t7 h5 =>
FADDR 3 t1 fun t8 =>
WR h5 1 t8 t7 fun h6 =>
RDN h6 5 t1 fun t9 =>
WR h6 5 t2 t9 fun h7 =>
RDN h7 5 t2 fun r =>
R r h7
theorem u8 {x0 : Value} {h : Heap} {R : Value → Heap → Prop} (k : W8 x0 h R) : HT P 8 [x0] h R :=
  HT.print mixed Tok (n := 10) (H := []) (rs := [.cell 2 true 5]) Go.Proofs.Tryz.func8 (by kernel_rfl) (by kernel_rfl) (by kernel_rfl) (by kernel_rfl) rfl (by kernel_rfl) k

/-- staithe/staitheplain.Events -/
def W9 (x0 x1 : Value) (h : Heap) (R : Value → Heap → Prop) : Prop :=
LEN x0 fun t7 =>
LP 1 (fun I => I (int 0) h) fun L t8_1 h1 =>
∀ _ : Env, binW .lss t8_1 t7 fun t9 =>
COND t9 (
JN 1 (fun J =>
LEN x1 fun t13 =>
binW .geq t8_1 t13 fun t14 =>
GQ t14 false (fun K => K x0) fun t16 =>
GQ t14 false (fun K_1 => K_1 t8_1) fun t17 =>
GQ t14 false (fun K_2 => IADDR 8 t16 t17 K_2) fun t18 =>
GQ t14 false (fun K_3 => RDN h1 8 t18 K_3) fun t19 =>
GQ t14 false (fun K_4 => K_4 x1) fun t20 =>
GQ t14 false (fun K_5 => K_5 t8_1) fun t21 =>
GQ t14 false (fun K_6 => IADDR 8 t20 t21 K_6) fun t22 =>
GQ t14 false (fun K_7 => RDN h1 8 t22 K_7) fun t23 =>
GQ t14 false (fun K_8 => SEQ P true 34 t19 t23 K_8) fun t24 =>
PICK t14 (.bool true) t24 fun t25 =>
J t25 h1) fun t25_1 h2 =>
∀ _ : Env, COND t25_1 (
R (.bool false) h2) (
binW .add t8_1 (int 1) fun t26 =>
L t26 h2)) (
LEN x0 fun t28 =>
LEN x1 fun t30 =>
binW .eql t28 t30 fun t31 =>
R t31 h1)
theorem u9 {x0 x1 : Value} {h : Heap} {R : Value → Heap → Prop} (k : W9 x0 x1 h R) : HT P 9 [x0, x1] h R :=
  HT.print mixed Tok (n := 32) (H := [(26, [8]), (1689, [25])]) (rs := [.tmp 4]) Go.Proofs.Tryz.func9 (by kernel_rfl) (by kernel_rfl) (by kernel_rfl) (by kernel_rfl) rfl (by kernel_rfl) k

/-- staithe/staitheref04.Check -/
def W10 (x0 x1 : Value) (h : Heap) (R : Value → Heap → Prop) : Prop :=
BOX 39 x0 h fun t2 h1 =>
JN 1 (fun J =>
binW .lss x1 (int 1) fun t9 =>
GD t9 false h1 (fun K => K x1 h1) fun t11 h2 =>
GD t9 false h2 (fun K_1 => binW .gtr t11 (int 8) fun v => K_1 v h2) fun t12 h3 =>
PICK t9 (.bool true) t12 fun t13 =>
GD t13 false h3 (fun K_2 => FADDR 0 t2 fun v => K_2 v h3) fun t15 h4 =>
GD t13 false h4 (fun K_3 => RD1 h4 t15 fun v => K_3 v h4) fun t16 h5 =>
GD t13 false h5 (fun K_4 => binW .lss t16 (int 1) fun v => K_4 v h5) fun t17 h6 =>
PICK t13 (.bool true) t17 fun t18 =>
GD t18 false h6 (fun K_5 => FADDR 0 t2 fun v => K_5 v h6) fun t20 h7 =>
GD t18 false h7 (fun K_6 => RD1 h7 t20 fun v => K_6 v h7) fun t21 h8 =>
GD t18 false h8 (fun K_7 => binW .gtr t21 (int 9) fun v => K_7 v h8) fun t22 h9 =>
PICK t18 (.bool true) t22 fun t23 =>
J t23 h9) fun t23_1 h10 =>
∀ _ : Env, COND t23_1 (
R (int 1) h10) (
FADDR 3 t2 fun t24 =>
RD1 h10 t24 fun t25 =>
LEN t25 fun t26 =>
binW .gtr t26 (int 4) fun t27 =>
COND t27 (
R (int 2) h10) (
FADDR 0 t2 fun t28 =>
RD1 h10 t28 fun t29 =>
HT P 18 [t29] h10 fun t30 h11 =>
JN 1 (fun J_1 =>
FADDR 1 t2 fun t31 =>
RD1 h11 t31 fun t32 =>
IDXS t30 (int 0) fun t34 =>
HT P 19 [t32, t34, x1] h11 fun t36 h12 =>
NOT t36 fun t37 =>
GQ t37 false (fun K_8 => FADDR 2 t2 K_8) fun t39 =>
GQ t37 false (fun K_9 => RD1 h12 t39 K_9) fun t40 =>
GQ t37 false (fun K_10 => K_10 t30) fun t41 =>
GQ t37 false (fun K_11 => IDXS t41 (int 1) K_11) fun t42 =>
GQ t37 false (fun K_12 => K_12 x1) fun t43 =>
GD t37 false h12 (fun K_13 => HT P 19 [t40, t42, t43] h12 K_13) fun t44 h13 =>
GQ t37 false (fun K_14 => NOT t44 K_14) fun t45 =>
PICK t37 (.bool true) t45 fun t46 =>
J_1 t46 h13) fun t46_1 h14 =>
∀ _ : Env, COND t46_1 (
R (int 4) h14) (
JN 1 (fun J_2 =>
FADDR 0 t2 fun t47 =>
RD1 h14 t47 fun t48 =>
binW .neq t48 (int 6) fun t49 =>
GD t49 true h14 (fun K_15 => FADDR 3 t2 fun v => K_15 v h14) fun t51 h15 =>
GD t49 true h15 (fun K_16 => RD1 h15 t51 fun v => K_16 v h15) fun t52 h16 =>
GD t49 true h16 (fun K_17 => LEN t52 fun v => K_17 v h16) fun t53 h17 =>
GD t49 true h17 (fun K_18 => binW .neq t53 (int 0) fun v => K_18 v h17) fun t54 h18 =>
GD t49 true h18 (fun K_19 => K_19 t54 h18) fun t55 h19 =>
GD t55 false h19 (fun K_20 => FADDR 4 t2 fun v => K_20 v h19) fun t56 h20 =>
GD t55 false h20 (fun K_21 => RD1 h20 t56 fun v => K_21 v h20) fun t57 h21 =>
GD t49 true h21 (fun K_22 => PICK t55 (.bool true) t57 fun v => K_22 v h21) fun t58 h22 =>
PICK t49 t58 (.bool false) fun t59 =>
J_2 t59 h22) fun t59_1 h23 =>
∀ _ : Env, COND t59_1 (
R (int 4) h23) (
FADDR 3 t2 fun t60 =>
RD1 h23 t60 fun t61 =>
LEN t61 fun t62 =>
LP 1 (fun I => I (int 0) h23) fun L t63_1 h24 =>
∀ _ : Env, binW .lss t63_1 t62 fun t64 =>
COND t64 (
IADDR 3 t61 t63_1 fun t65 =>
RDN h24 3 t65 fun t66 =>
NEW 52 [.bool false, .int .i64 0, .int .i64 0] h24 fun t7 h25 =>
WR h25 3 t7 t66 fun h26 =>
JN 1 (fun J_3 =>
FADDR 1 t7 fun t67 =>
RD1 h26 t67 fun t68 =>
HT P 19 [t68, (.int .u8 99), (int 0)] h26 fun t69 h27 =>
NOT t69 fun t70 =>
GD t70 false h27 (fun K_23 => FADDR 0 t7 fun v => K_23 v h27) fun t72 h28 =>
GD t70 false h28 (fun K_24 => RD1 h28 t72 fun v => K_24 v h28) fun t73 h29 =>
GD t70 false h29 (fun K_25 => K_25 t73 h29) fun t74 h30 =>
GD t74 true h30 (fun K_26 => FADDR 2 t7 fun v => K_26 v h30) fun t75 h31 =>
GD t74 true h31 (fun K_27 => RD1 h31 t75 fun v => K_27 v h31) fun t76 h32 =>
GD t74 true h32 (fun K_28 => HT P 19 [t76, (.int .u8 118), (int 0)] h32 K_28) fun t77 h33 =>
GD t74 true h33 (fun K_29 => NOT t77 fun v => K_29 v h33) fun t78 h34 =>
GD t70 false h34 (fun K_30 => PICK t74 t78 (.bool false) fun v => K_30 v h34) fun t79 h35 =>
PICK t70 (.bool true) t79 fun t80 =>
GD t80 false h35 (fun K_31 => FADDR 0 t7 fun v => K_31 v h35) fun t82 h36 =>
GD t80 false h36 (fun K_32 => RD1 h36 t82 fun v => K_32 v h36) fun t83 h37 =>
GD t80 false h37 (fun K_33 => NOT t83 fun v => K_33 v h37) fun t84 h38 =>
GD t80 false h38 (fun K_34 => K_34 t84 h38) fun t85 h39 =>
GD t85 true h39 (fun K_35 => FADDR 2 t7 fun v => K_35 v h39) fun t86 h40 =>
GD t85 true h40 (fun K_36 => RD1 h40 t86 fun v => K_36 v h40) fun t87 h41 =>
GD t85 true h41 (fun K_37 => binW .neq t87 (int 0) fun v => K_37 v h41) fun t88 h42 =>
GD t80 false h42 (fun K_38 => PICK t85 t88 (.bool false) fun v => K_38 v h42) fun t89 h43 =>
PICK t80 (.bool true) t89 fun t90 =>
J_3 t90 h43) fun t90_1 h44 =>
∀ _ : Env, COND t90_1 (
R (int 4) h44) (
binW .add t63_1 (int 1) fun t91 =>
L t91 h44)) (
R (int 0) h24)))))
theorem u10 {x0 x1 : Value} {h : Heap} {R : Value → Heap → Prop} (k : W10 x0 x1 h R) : HT P 10 [x0, x1] h R :=
  HT.print mixed Tok (n := 92) (H := [(6, [23]), (62, [46]), (126, [59]), (1018, [63]), (65177, [90])]) (rs := [.tmp 4]) Go.Proofs.Tryz.func10 (by kernel_rfl) (by kernel_rfl) (by kernel_rfl) (by kernel_rfl) rfl (by kernel_rfl) k

/-- staithe/loom.New -/
def W11 (x0 : Value) (h : Heap) (R : Value → Heap → Prop) : Prop :=
BOX 25 x0 h fun t1 h1 =>
RDN h1 5 t1 fun t9 =>
HT P 20 [t9] h1 fun t10 h2 =>
binW .neq t10 (int 0) fun t12 =>
COND t12 (
R (.tuple #[(.pointer none), t10]) h2) (
FADDR 3 t1 fun t15 =>
RD1 h2 t15 fun t16 =>
FADDR 4 t1 fun t17 =>
RD1 h2 t17 fun t18 =>
HT P 21 [t16, t18] h2 fun t19 h3 =>
EXT t19 0 fun t20 =>
EXT t19 1 fun t21 =>
JN 1 (fun J =>
RDN h3 5 t1 fun t22 =>
(HT P 15 [t22] h3 fun t23 h4 =>
(HT P 22 [] h4 fun t25 h5 =>
MKS h5 101 1 8 [.pointer none] (int 8) (int 8) fun t26 h6 =>
(RDN h6 5 t1 fun v => v = t22) ∧
BUILD [.int .i64 0, .int .i64 0, .slice none 0 0, .slice none 0 0, .slice none 0 0, .pointer none, .pointer none, .slice none 0 0, .int .i64 0, .int .i64 0, .int .i64 0, .int .i64 0, .int .i64 0, .int .i64 0, .int .i64 0, .int .i64 0, .slice none 0 0, .slice none 0 0, .bool false] [((0, 5), t23), ((5, 1), t20), ((6, 1), t25), ((7, 1), t26)] fun t27 =>
BOX 62 t27 h6 fun t28 h7 =>
J t28 h7) ∧
(MKS h4 101 1 8 [.pointer none] (int 8) (int 8) fun t26_1 h8 =>
(RDN h8 5 t1 fun v => v = t22) ∧
HT P 22 [] h8 fun t25_1 h9 =>
BUILD [.int .i64 0, .int .i64 0, .slice none 0 0, .slice none 0 0, .slice none 0 0, .pointer none, .pointer none, .slice none 0 0, .int .i64 0, .int .i64 0, .int .i64 0, .int .i64 0, .int .i64 0, .int .i64 0, .int .i64 0, .int .i64 0, .slice none 0 0, .slice none 0 0, .bool false] [((0, 5), t23), ((5, 1), t20), ((6, 1), t25_1), ((7, 1), t26_1)] fun t27_1 =>
BOX 62 t27_1 h9 fun t28_1 h10 =>
J t28_1 h10)) ∧
(MKS h3 101 1 8 [.pointer none] (int 8) (int 8) fun t26_2 h11 =>
(RDN h11 5 t1 fun v => v = t22) ∧
HT P 15 [t22] h11 fun t23_1 h12 =>
HT P 22 [] h12 fun t25_2 h13 =>
BUILD [.int .i64 0, .int .i64 0, .slice none 0 0, .slice none 0 0, .slice none 0 0, .pointer none, .pointer none, .slice none 0 0, .int .i64 0, .int .i64 0, .int .i64 0, .int .i64 0, .int .i64 0, .int .i64 0, .int .i64 0, .int .i64 0, .slice none 0 0, .slice none 0 0, .bool false] [((0, 5), t23_1), ((5, 1), t20), ((6, 1), t25_2), ((7, 1), t26_2)] fun t27_2 =>
BOX 62 t27_2 h13 fun t28_2 h14 =>
J t28_2 h14)) fun t7_3 h15 =>
∀ _ : Env, LP 1 (fun I => I (int 0) h15) fun L t29_1 h16 =>
∀ _ : Env, binW .lss t29_1 (int 8) fun t30 =>
COND t30 (
NILC t7_3 fun t34 =>
FADDR 8 t34 fun t35 =>
IADDRA 8 1 t35 t29_1 fun t36 =>
WR h16 1 t36 (int (-1)) fun h17 =>
binW .add t29_1 (int 1) fun t37 =>
L t37 h17) (
NILC t7_3 fun t39 =>
FADDR 6 t39 fun t40 =>
RD1 h16 t40 fun t41 =>
HT P 23 [t41, (int 0)] h16 fun t42 h18 =>
R (.tuple #[t7_3, t21]) h18))
theorem u11 {x0 : Value} {h : Heap} {R : Value → Heap → Prop} (k : W11 x0 h R) : HT P 11 [x0] h R :=
  HT.print mixed Tok (n := 45) (H := [(15, [7]), (250, [29])]) (rs := [.tmp 2, .tmp 3]) Go.Proofs.Tryz.func11 (by kernel_rfl) (by kernel_rfl) (by kernel_rfl) (by kernel_rfl) rfl (by kernel_rfl) k

/-- (*staithe/loom.Loom).Verdict -/
def W12 (x0 : Value) (h : Heap) (R : Value → Heap → Prop) : Prop :=
EQP false x0 (.pointer none) fun t8 =>
COND t8 (
R (int 0) h) (
NILC x0 fun t11 =>
FADDR 18 t11 fun t12 =>
RD1 h t12 fun t13 =>
COND t13 (
R (int 3) h) (
NILC x0 fun t15 =>
FADDR 6 t15 fun t16 =>
RD1 h t16 fun t17 =>
HT P 24 [t17] h fun t18 h1 =>
binW .neq t18 (int 0) fun t20 =>
COND t20 (
R t18 h1) (
NILC x0 fun t24 =>
FADDR 5 t24 fun t25 =>
RD1 h1 t25 fun t26 =>
HT P 25 [t26] h1 fun t27 h2 =>
EXT t27 0 fun t28 =>
EXT t27 1 fun t29 =>
binW .eql t28 (int 0) fun t31 =>
COND t31 (
R (int 4) h2) (
R (int 0) h2))))
theorem u12 {x0 : Value} {h : Heap} {R : Value → Heap → Prop} (k : W12 x0 h R) : HT P 12 [x0] h R :=
  HT.print mixed Tok (n := 32) (H := []) (rs := [.tmp 2]) Go.Proofs.Tryz.func12 (by kernel_rfl) (by kernel_rfl) (by kernel_rfl) (by kernel_rfl) rfl (by kernel_rfl) k

/-- (*staithe/loom.Loom).Step -/
def W13 (x0 : Value) (h : Heap) (R : Value → Heap → Prop) : Prop :=
HT P 26 [x0] h fun t9 h1 =>
EXT t9 0 fun t10 =>
EXT t9 1 fun t11 =>
EXT t9 2 fun t12 =>
NEW 39 [.int .i64 0, .int .i64 0, .int .i64 0, .slice none 0 0, .bool false] h1 fun t4 h2 =>
WR h2 5 t4 t11 fun h3 =>
NOT t12 fun t14 =>
COND t14 (
R (.slice none 0 0) h3) (
NILC x0 fun t16 =>
FADDR 5 t16 fun t17 =>
RD1 h3 t17 fun t18 =>
HT P 27 [t18] h3 fun t19 h4 =>
NILC x0 fun t21 =>
FADDR 17 t21 fun t22 =>
RD1 h4 t22 fun t23 =>
LEN t23 fun t24 =>
binW .lss t10 (int 0) fun t26 =>
COND t26 (
HT P 29 [(int 13), (int (-1))] h4 fun t28 h5 =>
HT P 28 [x0, t28] h5 fun t29 h6 =>
NILC x0 fun t39 =>
FADDR 17 t39 fun t40 =>
RD1 h6 t40 fun t41 =>
SLCV 8 t41 (some t24) none none fun t43 =>
HT P 31 [t43] h6 fun t44 h7 =>
R t44 h7) (
JN 0 (fun J =>
RDN h4 5 t4 fun t32 =>
HT P 30 [x0, t10, t32] h4 fun t33 h8 =>
NOT t33 fun t34 =>
COND t34 (
NILC x0 fun t36 =>
FADDR 18 t36 fun t37 =>
WR h8 1 t37 (.bool true) fun h9 =>
J h9) (
J h8)) fun h10 =>
∀ _ : Env, NILC x0 fun t39_1 =>
FADDR 17 t39_1 fun t40_1 =>
RD1 h10 t40_1 fun t41_1 =>
SLCV 8 t41_1 (some t24) none none fun t43_1 =>
HT P 31 [t43_1] h10 fun t44_1 h11 =>
R t44_1 h11))
theorem u13 {x0 : Value} {h : Heap} {R : Value → Heap → Prop} (k : W13 x0 h R) : HT P 13 [x0] h R :=
  HT.print mixed Tok (n := 45) (H := [(223, [])]) (rs := [.tmp 2]) Go.Proofs.Tryz.func13 (by kernel_rfl) (by kernel_rfl) (by kernel_rfl) (by kernel_rfl) rfl (by kernel_rfl) k

/-- (*staithe/loom.Loom).Trace -/
def W14 (x0 : Value) (h : Heap) (R : Value → Heap → Prop) : Prop :=
EQP false x0 (.pointer none) fun t4 =>
COND t4 (
R (.slice none 0 0) h) (
NILC x0 fun t6 =>
FADDR 17 t6 fun t7 =>
RD1 h t7 fun t8 =>
HT P 31 [t8] h fun t9 h1 =>
R t9 h1)
theorem u14 {x0 : Value} {h : Heap} {R : Value → Heap → Prop} (k : W14 x0 h R) : HT P 14 [x0] h R :=
  HT.print mixed Tok (n := 10) (H := []) (rs := [.tmp 2]) Go.Proofs.Tryz.func14 (by kernel_rfl) (by kernel_rfl) (by kernel_rfl) (by kernel_rfl) rfl (by kernel_rfl) k

/-- staithe/sheet.Copy -/
def W15 (x0 : Value) (h : Heap) (R : Value → Heap → Prop) : Prop :=
BOX 25 x0 h fun t1 h1 =>
NEW 25 [.int .i64 0, .int .i64 0, .slice none 0 0, .slice none 0 0, .slice none 0 0] h1 fun t2 h2 =>
FADDR 2 t1 fun t3 =>
RD1 h2 t3 fun t4 =>
HT P 32 [t4, (fnv 33)] h2 fun t5 h3 =>
FADDR 2 t1 fun t6 =>
WR h3 1 t6 t5 fun h4 =>
FADDR 3 t1 fun t7 =>
RD1 h4 t7 fun t8 =>
FADDR 4 t1 fun t10 =>
RD1 h4 t10 fun t11 =>
HT P 37 [t8] h4 fun t9 h5 =>
(RD1 h5 t10 fun v => v = t11) ∧
FADDR 3 t1 fun t13 =>
HT P 37 [t11] h5 fun t12 h6 =>
WR h6 1 t13 t9 fun h7 =>
FADDR 4 t1 fun t14 =>
WR h7 1 t14 t12 fun h8 =>
RDN h8 5 t1 fun t15 =>
WR h8 5 t2 t15 fun h9 =>
RDN h9 5 t2 fun r =>
R r h9
theorem u15 {x0 : Value} {h : Heap} {R : Value → Heap → Prop} (k : W15 x0 h R) : HT P 15 [x0] h R :=
  HT.print mixed Tok (n := 16) (H := []) (rs := [.cell 2 true 5]) Go.Proofs.Tryz.func15 (by kernel_rfl) (by kernel_rfl) (by kernel_rfl) (by kernel_rfl) rfl (by kernel_rfl) k

/-- slices.DeleteFunc[[]int,int] -/
def W16 (x0 x1 : Value) (h : Heap) (R : Value → Heap → Prop) : Prop :=
HT P 38 [x0, x1] h fun t10 h1 =>
binW .eql t10 (int (-1)) fun t12 =>
COND t12 (
R x0 h1) (
binW .add t10 (int 1) fun t15 =>
LP 2 (fun I => I t10 t15 h1) fun L t5_1 t6_1 h2 =>
∀ _ : Env, LEN x0 fun t18 =>
binW .lss t6_1 t18 fun t19 =>
COND t19 (
JN 1 (fun J =>
IADDR 1 x0 t6_1 fun t24 =>
RD1 h2 t24 fun t25 =>
CALLV P x1 [t25] h2 fun t28 h3 =>
NOT t28 fun t29 =>
COND t29 (
IADDR 1 x0 t5_1 fun t33 =>
WR h3 1 t33 t25 fun h4 =>
binW .add t5_1 (int 1) fun t35 =>
J t35 h4) (
J t5_1 h3)) fun t5_3 h5 =>
∀ _ : Env, binW .add t6_1 (int 1) fun t21 =>
L t5_3 t21 h5) (
SLCV 1 x0 (some t5_1) none none fun t38 =>
CLR h2 1 [.int .i64 0] t38 fun _ h6 =>
SLCV 1 x0 none (some t5_1) none fun t41 =>
R t41 h6))
theorem u16 {x0 x1 : Value} {h : Heap} {R : Value → Heap → Prop} (k : W16 x0 x1 h R) : HT P 16 [x0, x1] h R :=
  HT.print mixed Tok (n := 42) (H := [(122, [5, 6]), (489, [5])]) (rs := [.tmp 4]) Go.Proofs.Tryz.func16 (by kernel_rfl) (by kernel_rfl) (by kernel_rfl) (by kernel_rfl) rfl (by kernel_rfl) k

/-- staithe/sheet.Bare$1 -/
def W17 (x0 : Value) (h : Heap) (R : Value → Heap → Prop) : Prop :=
binW .eql x0 (int (-1)) fun t4 =>
R t4 h
theorem u17 {x0 : Value} {h : Heap} {R : Value → Heap → Prop} (k : W17 x0 h R) : HT P 17 [x0] h R :=
  HT.print mixed Tok (n := 5) (H := []) (rs := [.tmp 2]) Go.Proofs.Tryz.func17 (by kernel_rfl) (by kernel_rfl) (by kernel_rfl) (by kernel_rfl) rfl (by kernel_rfl) k

/-- staithe/staitheref04.row -/
def W18 (x0 : Value) (h : Heap) (R : Value → Heap → Prop) : Prop :=
ROW 9 [.string ByteArray.empty, .string ByteArray.empty, .string ByteArray.empty, .string ByteArray.empty, .string ByteArray.empty, .string ByteArray.empty, .string ByteArray.empty, .string ByteArray.empty, .string ByteArray.empty, .string ByteArray.empty] [((0, 1), (.string ⟨#[]⟩)), ((1, 1), (.string ⟨#[112, 46]⟩)), ((2, 1), (.string ⟨#[99, 109]⟩)), ((3, 1), (.string ⟨#[99, 118]⟩)), ((4, 1), (.string ⟨#[99, 46]⟩)), ((5, 1), (.string ⟨#[99, 46]⟩)), ((6, 1), (.string ⟨#[46, 46]⟩)), ((7, 1), (.string ⟨#[120, 46]⟩)), ((8, 1), (.string ⟨#[120, 46]⟩)), ((9, 1), (.string ⟨#[46, 46]⟩))] 10 h fun t3 h1 =>
IADDR 1 t3 x0 fun t5 =>
RD1 h1 t5 fun t6 =>
R t6 h1
theorem u18 {x0 : Value} {h : Heap} {R : Value → Heap → Prop} (k : W18 x0 h R) : HT P 18 [x0] h R :=
  HT.print mixed Tok (n := 7) (H := []) (rs := [.tmp 2]) Go.Proofs.Tryz.func18 (by kernel_rfl) (by kernel_rfl) (by kernel_rfl) (by kernel_rfl) rfl (by kernel_rfl) k

/-- staithe/staitheref04.within -/
def W19 (x0 x1 x2 : Value) (h : Heap) (R : Value → Heap → Prop) : Prop :=
binW .eql x1 (.int .u8 112) fun t9 =>
COND t9 (
JN 1 (fun J =>
binW .geq x0 (int 0) fun t11 =>
GD t11 true h (fun K => K x0 h) fun t13 h1 =>
GD t11 true h1 (fun K_1 => K_1 x2 h1) fun t14 h2 =>
GD t11 true h2 (fun K_2 => binW .lss t13 t14 fun v => K_2 v h2) fun t15 h3 =>
PICK t11 t15 (.bool false) fun t16 =>
J t16 h3) fun t6_2 h4 =>
∀ _ : Env, R t6_2 h4) (
JN 1 (fun J_1 =>
binW .eql x1 (.int .u8 99) fun t18 =>
COND t18 (
J_1 t18 h) (
binW .eql x1 (.int .u8 120) fun t19 =>
J_1 t19 h)) fun t17_2 h5 =>
∀ _ : Env, COND t17_2 (
JN 1 (fun J_2 =>
binW .geq x0 (int 0) fun t21 =>
GD t21 true h5 (fun K_3 => K_3 x0 h5) fun t23 h6 =>
GD t21 true h6 (fun K_4 => binW .lss t23 (int 8) fun v => K_4 v h6) fun t24 h7 =>
PICK t21 t24 (.bool false) fun t25 =>
J_2 t25 h7) fun t6_4 h8 =>
∀ _ : Env, R t6_4 h8) (
binW .eql x1 (.int .u8 109) fun t27 =>
COND t27 (
JN 1 (fun J_3 =>
binW .geq x0 (int 0) fun t29 =>
GD t29 true h5 (fun K_5 => K_5 x0 h5) fun t31 h9 =>
GD t29 true h9 (fun K_6 => binW .leq t31 (int 4) fun v => K_6 v h9) fun t32 h10 =>
PICK t29 t32 (.bool false) fun t33 =>
J_3 t33 h10) fun t6_6 h11 =>
∀ _ : Env, R t6_6 h11) (
binW .eql x1 (.int .u8 118) fun t35 =>
COND t35 (
JN 1 (fun J_4 =>
binW .geq x0 (int 0) fun t37 =>
GD t37 true h5 (fun K_7 => K_7 x0 h5) fun t39 h12 =>
GD t37 true h12 (fun K_8 => binW .leq t39 (int 99) fun v => K_8 v h12) fun t40 h13 =>
PICK t37 t40 (.bool false) fun t41 =>
J_4 t41 h13) fun t6_8 h14 =>
∀ _ : Env, R t6_8 h14) (
binW .eql x0 (int 0) fun t43 =>
R t43 h5))))
theorem u19 {x0 x1 x2 : Value} {h : Heap} {R : Value → Heap → Prop} (k : W19 x0 x1 x2 h R) : HT P 19 [x0, x1, x2] h R :=
  HT.print mixed Tok (n := 44) (H := [(106, [6]), (107, [17]), (430, [6]), (1726, [6]), (6910, [6])]) (rs := [.tmp 6]) Go.Proofs.Tryz.func19 (by kernel_rfl) (by kernel_rfl) (by kernel_rfl) (by kernel_rfl) rfl (by kernel_rfl) k

/-- staithe/sheet.Check -/
def W20 (x0 : Value) (h : Heap) (R : Value → Heap → Prop) : Prop :=
BOX 25 x0 h fun t1 h1 =>
JN 1 (fun J =>
FADDR 0 t1 fun t8 =>
RD1 h1 t8 fun t9 =>
binW .lss t9 (int 1) fun t10 =>
GD t10 false h1 (fun K => FADDR 0 t1 fun v => K v h1) fun t12 h2 =>
GD t10 false h2 (fun K_1 => RD1 h2 t12 fun v => K_1 v h2) fun t13 h3 =>
GD t10 false h3 (fun K_2 => binW .gtr t13 (int 256) fun v => K_2 v h3) fun t14 h4 =>
PICK t10 (.bool true) t14 fun t15 =>
GD t15 false h4 (fun K_3 => FADDR 1 t1 fun v => K_3 v h4) fun t17 h5 =>
GD t15 false h5 (fun K_4 => RD1 h5 t17 fun v => K_4 v h5) fun t18 h6 =>
GD t15 false h6 (fun K_5 => binW .lss t18 (int 1) fun v => K_5 v h6) fun t19 h7 =>
PICK t15 (.bool true) t19 fun t20 =>
GD t20 false h7 (fun K_6 => FADDR 1 t1 fun v => K_6 v h7) fun t22 h8 =>
GD t20 false h8 (fun K_7 => RD1 h8 t22 fun v => K_7 v h8) fun t23 h9 =>
GD t20 false h9 (fun K_8 => binW .gtr t23 (int 1048576) fun v => K_8 v h9) fun t24 h10 =>
PICK t20 (.bool true) t24 fun t25 =>
J t25 h10) fun t7_1 h11 =>
∀ _ : Env, COND t7_1 (
R (int 1) h11) (
RDN h11 5 t1 fun t27 =>
HT P 39 [t27] h11 fun t28 h12 =>
COND t28 (
R (int 2) h12) (
JN 1 (fun J_1 =>
FADDR 2 t1 fun t30 =>
RD1 h12 t30 fun t31 =>
LEN t31 fun t32 =>
binW .eql t32 (int 0) fun t33 =>
GD t33 false h12 (fun K_9 => FADDR 3 t1 fun v => K_9 v h12) fun t35 h13 =>
GD t33 false h13 (fun K_10 => RD1 h13 t35 fun v => K_10 v h13) fun t36 h14 =>
GD t33 false h14 (fun K_11 => HT P 40 [t36, (int (-1)), (int 1000)] h14 K_11) fun t37 h15 =>
PICK t33 (.bool true) t37 fun t38 =>
GD t38 false h15 (fun K_12 => FADDR 4 t1 fun v => K_12 v h15) fun t40 h16 =>
GD t38 false h16 (fun K_13 => RD1 h16 t40 fun v => K_13 v h16) fun t41 h17 =>
GD t38 false h17 (fun K_14 => HT P 40 [t41, (int 0), (int 1000)] h17 K_14) fun t42 h18 =>
PICK t38 (.bool true) t42 fun t43 =>
J_1 t43 h18) fun t29_1 h19 =>
∀ _ : Env, COND t29_1 (
R (int 4) h19) (
FADDR 2 t1 fun t44 =>
RD1 h19 t44 fun t45 =>
LEN t45 fun t46 =>
LP 1 (fun I => I (int 0) h19) fun L t47_1 h20 =>
∀ _ : Env, binW .lss t47_1 t46 fun t48 =>
COND t48 (
IADDR 1 t45 t47_1 fun t49 =>
RD1 h20 t49 fun t50 =>
LEN t50 fun t52 =>
LP 1 (fun I_1 => I_1 (int 0) h20) fun L_1 t53_1 h21 =>
∀ _ : Env, binW .lss t53_1 t52 fun t54 =>
COND t54 (
IADDR 5 t50 t53_1 fun t55 =>
RDN h21 5 t55 fun t56 =>
NEW 39 [.int .i64 0, .int .i64 0, .int .i64 0, .slice none 0 0, .bool false] h21 fun t6 h22 =>
WR h22 5 t6 t56 fun h23 =>
RDN h23 5 t6 fun t57 =>
FADDR 2 t1 fun t58 =>
RD1 h23 t58 fun t59 =>
LEN t59 fun t60 =>
HT P 41 [t57, t60] h23 fun t61 h24 =>
binW .neq t61 (int 0) fun t62 =>
COND t62 (
R (int 4) h24) (
binW .add t53_1 (int 1) fun t63 =>
L_1 t63 h24)) (
binW .add t47_1 (int 1) fun t64 =>
L t64 h21)) (
R (int 0) h20))))
theorem u20 {x0 : Value} {h : Heap} {R : Value → Heap → Prop} (k : W20 x0 h R) : HT P 20 [x0] h R :=
  HT.print mixed Tok (n := 65) (H := [(12, [7]), (207, [29]), (58, [47]), (14950, [53])]) (rs := [.tmp 2]) Go.Proofs.Tryz.func20 (by kernel_rfl) (by kernel_rfl) (by kernel_rfl) (by kernel_rfl) rfl (by kernel_rfl) k

/-- staithe/pick.New -/
def W21 (x0 x1 : Value) (h : Heap) (R : Value → Heap → Prop) : Prop :=
JN 1 (fun J =>
LEN x0 fun t8 =>
binW .gtr t8 (int 200) fun t9 =>
GD t9 false h (fun K => K x1 h) fun t11 h1 =>
GD t9 false h1 (fun K_1 => LEN t11 fun v => K_1 v h1) fun t12 h2 =>
GD t9 false h2 (fun K_2 => binW .gtr t12 (int 64) fun v => K_2 v h2) fun t13 h3 =>
PICK t9 (.bool true) t13 fun t14 =>
J t14 h3) fun t14_1 h4 =>
∀ _ : Env, COND t14_1 (
R (.tuple #[(.pointer none), (int 2)]) h4) (
JN 1 (fun J_1 =>
HT P 42 [(int (-1))] h4 fun t17 h5 =>
HT P 44 [x0, t17] h5 fun t18 h6 =>
GD t18 false h6 (fun K_3 => K_3 x1 h6) fun t20 h7 =>
GD t18 false h7 (fun K_4 => K_4 (fnv 42) h7) fun t21 h8 =>
GD t18 false h8 (fun K_5 => CALLV P t21 [(int 0)] h8 K_5) fun t22 h9 =>
GD t18 false h9 (fun K_6 => HT P 44 [t20, t22] h9 K_6) fun t23 h10 =>
PICK t18 (.bool true) t23 fun t24 =>
J_1 t24 h10) fun t24_1 h11 =>
∀ _ : Env, COND t24_1 (
R (.tuple #[(.pointer none), (int 4)]) h11) (
HT P 37 [x0] h11 fun t26 h12 =>
BUILD [.slice none 0 0] [((0, 1), t26)] fun t27 =>
HT P 37 [x1] h12 fun t29 h13 =>
BUILD [.slice none 0 0] [((0, 1), t29)] fun t30 =>
BUILD [.slice none 0 0, .slice none 0 0] [((0, 1), t27), ((1, 1), t30)] fun t31 =>
BOX 90 t31 h13 fun t32 h14 =>
R (.tuple #[t32, (int 0)]) h14))
theorem u21 {x0 x1 : Value} {h : Heap} {R : Value → Heap → Prop} (k : W21 x0 x1 h R) : HT P 21 [x0, x1] h R :=
  HT.print mixed Tok (n := 33) (H := [(6, [14]), (30, [24])]) (rs := [.tmp 4, .tmp 5]) Go.Proofs.Tryz.func21 (by kernel_rfl) (by kernel_rfl) (by kernel_rfl) (by kernel_rfl) rfl (by kernel_rfl) k

/-- staithe/crew.New -/
def W22 (h : Heap) (R : Value → Heap → Prop) : Prop :=
BUILD [.slice none 0 0] [] fun t1 =>
BOX 93 t1 h fun t2 h1 =>
R t2 h1
theorem u22 {h : Heap} {R : Value → Heap → Prop} (k : W22  h R) : HT P 22 [] h R :=
  HT.print mixed Tok (n := 3) (H := []) (rs := [.tmp 0]) Go.Proofs.Tryz.func22 (by kernel_rfl) (by kernel_rfl) (by kernel_rfl) (by kernel_rfl) rfl (by kernel_rfl) k

/-- (*staithe/crew.Crew).Spawn -/
def W23 (x0 x1 : Value) (h : Heap) (R : Value → Heap → Prop) : Prop :=
binW .lss x1 (int 0) fun t8 =>
COND t8 (
R (.tuple #[(int 0), (int 1)]) h) (
EQP false x0 (.pointer none) fun t11 =>
COND t11 (
R (.tuple #[(int 0), (int 7)]) h) (
NILC x0 fun t14 =>
FADDR 0 t14 fun t15 =>
RD1 h t15 fun t16 =>
LEN t16 fun t17 =>
binW .eql t17 (int 512) fun t18 =>
COND t18 (
R (.tuple #[(int 0), (int 5)]) h) (
NILC x0 fun t21 =>
FADDR 0 t21 fun t22 =>
RD1 h t22 fun t23 =>
BUILD [.int .i64 0, .int .i64 0, .int .i64 0] [((0, 1), x1)] fun t25 =>
ROW 95 [.int .i64 0, .int .i64 0, .int .i64 0] [((0, 3), t25)] 1 h fun t26 h1 =>
APP h1 95 3 24 [.int .i64 0, .int .i64 0, .int .i64 0] t23 t26 fun t27 h2 =>
NILC x0 fun t28 =>
FADDR 0 t28 fun t29 =>
WR h2 1 t29 t27 fun h3 =>
NILC x0 fun t31 =>
FADDR 0 t31 fun t32 =>
RD1 h3 t32 fun t33 =>
LEN t33 fun t34 =>
binW .sub t34 (int 1) fun t35 =>
R (.tuple #[t35, (int 0)]) h3)))
theorem u23 {x0 x1 : Value} {h : Heap} {R : Value → Heap → Prop} (k : W23 x0 x1 h R) : HT P 23 [x0, x1] h R :=
  HT.print mixed Tok (n := 36) (H := []) (rs := [.tmp 4, .tmp 5]) Go.Proofs.Tryz.func23 (by kernel_rfl) (by kernel_rfl) (by kernel_rfl) (by kernel_rfl) rfl (by kernel_rfl) k

/-- (*staithe/crew.Crew).Over -/
def W24 (x0 : Value) (h : Heap) (R : Value → Heap → Prop) : Prop :=
HT P 45 [x0] h fun t5 h1 =>
LEN t5 fun t6 =>
binW .gtr t6 (int 0) fun t7 =>
COND t7 (
R (int 0) h1) (
HT P 46 [x0, (int 1)] h1 fun t10 h2 =>
LEN t10 fun t11 =>
binW .gtr t11 (int 0) fun t12 =>
COND t12 (
R (int 2) h2) (
R (int 1) h2))
theorem u24 {x0 : Value} {h : Heap} {R : Value → Heap → Prop} (k : W24 x0 h R) : HT P 24 [x0] h R :=
  HT.print mixed Tok (n := 13) (H := []) (rs := [.tmp 2]) Go.Proofs.Tryz.func24 (by kernel_rfl) (by kernel_rfl) (by kernel_rfl) (by kernel_rfl) rfl (by kernel_rfl) k

/-- (*staithe/pick.Cursor).Left -/
def W25 (x0 : Value) (h : Heap) (R : Value → Heap → Prop) : Prop :=
EQP false x0 (.pointer none) fun t5 =>
COND t5 (
R (.tuple #[(int 0), (int 0)]) h) (
NILC x0 fun t7 =>
FADDR 0 t7 fun t8 =>
FADDR 0 t8 fun t9 =>
RD1 h t9 fun t10 =>
LEN t10 fun t11 =>
NILC x0 fun t13 =>
FADDR 1 t13 fun t14 =>
FADDR 0 t14 fun t15 =>
RD1 h t15 fun t16 =>
LEN t16 fun t17 =>
R (.tuple #[t11, t17]) h)
theorem u25 {x0 : Value} {h : Heap} {R : Value → Heap → Prop} (k : W25 x0 h R) : HT P 25 [x0] h R :=
  HT.print mixed Tok (n := 18) (H := []) (rs := [.tmp 2, .tmp 3]) Go.Proofs.Tryz.func25 (by kernel_rfl) (by kernel_rfl) (by kernel_rfl) (by kernel_rfl) rfl (by kernel_rfl) k

/-- (*staithe/loom.Loom).Next -/
def W26 (x0 : Value) (h : Heap) (R : Value → Heap → Prop) : Prop :=
NEW 39 [.int .i64 0, .int .i64 0, .int .i64 0, .slice none 0 0, .bool false] h fun t3 h1 =>
JN 1 (fun J =>
EQP false x0 (.pointer none) fun t9 =>
GD t9 false h1 (fun K => K x0 h1) fun t11 h2 =>
GD t9 false h2 (fun K_1 => HT P 12 [t11] h2 K_1) fun t12 h3 =>
GD t9 false h3 (fun K_2 => binW .neq t12 (int 0) fun v => K_2 v h3) fun t13 h4 =>
PICK t9 (.bool true) t13 fun t14 =>
J t14 h4) fun t14_1 h5 =>
∀ _ : Env, COND t14_1 (
BUILD [.int .i64 0, .int .i64 0, .int .i64 0, .slice none 0 0, .bool false] [] fun t15 =>
WR h5 5 t3 t15 fun h6 =>
RDN h6 5 t3 fun r =>
R (.tuple #[(int 0), r, (.bool false)]) h6) (
NILC x0 fun t18 =>
FADDR 5 t18 fun t19 =>
RD1 h5 t19 fun t20 =>
HT P 47 [t20] h5 fun t21 h7 =>
HT P 27 [t21] h7 fun t22 h8 =>
EXT t22 0 fun t23 =>
EXT t22 1 fun t24 =>
HT P 48 [x0, t23] h8 fun t27 h9 =>
binW .lss t27 (int 0) fun t29 =>
COND t29 (
BUILD [.int .i64 0, .int .i64 0, .int .i64 0, .slice none 0 0, .bool false] [] fun t30 =>
WR h9 5 t3 t30 fun h10 =>
RDN h10 5 t3 fun r_1 =>
R (.tuple #[(int (-1)), r_1, (.bool true)]) h10) (
HT P 49 [x0, t27] h9 fun t34 h11 =>
WR h11 5 t3 t34 fun h12 =>
RDN h12 5 t3 fun r_2 =>
R (.tuple #[t27, r_2, (.bool true)]) h12))
theorem u26 {x0 : Value} {h : Heap} {R : Value → Heap → Prop} (k : W26 x0 h R) : HT P 26 [x0] h R :=
  HT.print mixed Tok (n := 35) (H := [(6, [14])]) (rs := [.tmp 2, .cell 3 true 5, .tmp 4]) Go.Proofs.Tryz.func26 (by kernel_rfl) (by kernel_rfl) (by kernel_rfl) (by kernel_rfl) rfl (by kernel_rfl) k

/-- (*staithe/pick.Cursor).Next -/
def W27 (x0 : Value) (h : Heap) (R : Value → Heap → Prop) : Prop :=
EQP false x0 (.pointer none) fun t6 =>
COND t6 (
R (.tuple #[(int 0), (.bool false)]) h) (
NILC x0 fun t8 =>
FADDR 0 t8 fun t9 =>
HT P 50 [t9] h fun t12 h1 =>
EXT t12 0 fun t13 =>
EXT t12 1 fun t14 =>
R (.tuple #[t13, t14]) h1)
theorem u27 {x0 : Value} {h : Heap} {R : Value → Heap → Prop} (k : W27 x0 h R) : HT P 27 [x0] h R :=
  HT.print mixed Tok (n := 15) (H := []) (rs := [.tmp 2, .tmp 3]) Go.Proofs.Tryz.func27 (by kernel_rfl) (by kernel_rfl) (by kernel_rfl) (by kernel_rfl) rfl (by kernel_rfl) k

/-- (*staithe/loom.Loom).note -/
def W28 (x0 x1 : Value) (h : Heap) (R : Value → Heap → Prop) : Prop :=
BOX 34 x1 h fun t3 h1 =>
NILC x0 fun t6 =>
FADDR 17 t6 fun t7 =>
RD1 h1 t7 fun t8 =>
RDN h1 8 t3 fun t9 =>
ROW 34 [.int .i64 0, .int .i64 0, .int .i64 0, .int .i64 0, .int .i64 0, .int .i64 0, .bool false, .bool false] [((0, 8), t9)] 1 h1 fun t10 h2 =>
(RD1 h2 t7 fun v => v = t8) ∧
APP h2 34 8 56 [.int .i64 0, .int .i64 0, .int .i64 0, .int .i64 0, .int .i64 0, .int .i64 0, .bool false, .bool false] t8 t10 fun t11 h3 =>
NILC x0 fun t12 =>
FADDR 17 t12 fun t13 =>
WR h3 1 t13 t11 fun h4 =>
R (.tuple #[]) h4
theorem u28 {x0 x1 : Value} {h : Heap} {R : Value → Heap → Prop} (k : W28 x0 x1 h R) : HT P 28 [x0, x1] h R :=
  HT.print mixed Tok (n := 14) (H := []) (rs := []) Go.Proofs.Tryz.func28 (by kernel_rfl) (by kernel_rfl) (by kernel_rfl) (by kernel_rfl) rfl (by kernel_rfl) k

/-- staithe/entry.Bare -/
def W29 (x0 x1 : Value) (h : Heap) (R : Value → Heap → Prop) : Prop :=
NEW 34 [.int .i64 0, .int .i64 0, .int .i64 0, .int .i64 0, .int .i64 0, .int .i64 0, .bool false, .bool false] h fun t4 h1 =>
BUILD [.int .i64 0, .int .i64 0, .int .i64 0, .int .i64 0, .int .i64 0, .int .i64 0, .bool false, .bool false] [((0, 1), x0), ((1, 1), x1), ((2, 1), (int (-1))), ((3, 1), (int (-1))), ((4, 1), (int (-1))), ((5, 1), (int (-1)))] fun t7 =>
WR h1 8 t4 t7 fun h2 =>
RDN h2 8 t4 fun r =>
R r h2
theorem u29 {x0 x1 : Value} {h : Heap} {R : Value → Heap → Prop} (k : W29 x0 x1 h R) : HT P 29 [x0, x1] h R :=
  HT.print mixed Tok (n := 8) (H := []) (rs := [.cell 4 true 8]) Go.Proofs.Tryz.func29 (by kernel_rfl) (by kernel_rfl) (by kernel_rfl) (by kernel_rfl) rfl (by kernel_rfl) k

/-- (*staithe/loom.Loom).does -/
def W30 (x0 x1 x2 : Value) (h : Heap) (R : Value → Heap → Prop) : Prop :=
BOX 39 x2 h fun t5 h1 =>
HT P 29 [(int 0), x1] h1 fun t10 h2 =>
NEW 34 [.int .i64 0, .int .i64 0, .int .i64 0, .int .i64 0, .int .i64 0, .int .i64 0, .bool false, .bool false] h2 fun t7 h3 =>
WR h3 8 t7 t10 fun h4 =>
JN 0 (fun J =>
FADDR 0 t5 fun t11 =>
RD1 h4 t11 fun t12 =>
JN 1 (fun J_1 =>
binW .eql t12 (int 3) fun t14 =>
COND t14 (
J_1 t14 h4) (
binW .eql t12 (int 4) fun t15 =>
J_1 t15 h4)) fun t13_2 h5 =>
∀ _ : Env, COND t13_2 (
FADDR 0 t5 fun t16 =>
RD1 h5 t16 fun t17 =>
binW .eql t17 (int 3) fun t18 =>
FADDR 1 t5 fun t19 =>
RD1 h5 t19 fun t20 =>
FADDR 2 t5 fun t21 =>
RD1 h5 t21 fun t22 =>
BUILD [.bool false, .int .i64 0, .int .i64 0] [((0, 1), t18), ((1, 1), t20), ((2, 1), t22)] fun t23 =>
NEW 52 [.bool false, .int .i64 0, .int .i64 0] h5 fun t8 h6 =>
WR h6 3 t8 t23 fun h7 =>
NILC x0 fun t25 =>
FADDR 7 t25 fun t26 =>
RD1 h7 t26 fun t27 =>
FADDR 1 t5 fun t28 =>
RD1 h7 t28 fun t29 =>
IADDR 1 t27 t29 fun t30 =>
RD1 h7 t30 fun t31 =>
FADDR 0 t8 fun t32 =>
RD1 h7 t32 fun t33 =>
HT P 51 [t31, t33] h7 fun t34 h8 =>
COND t34 (
RDN h8 3 t8 fun t37 =>
HT P 52 [x0, x1, t37, (int (-1))] h8 fun t38 h9 =>
R t38 h9) (
RDN h8 3 t8 fun t41 =>
HT P 53 [x0, x1, t41] h8 fun t42 h10 =>
R (.bool true) h10)) (
binW .eql t12 (int 5) fun t44 =>
COND t44 (
FADDR 1 t5 fun t47 =>
RD1 h5 t47 fun t48 =>
HT P 54 [x0, x1, t48] h5 fun t49 h11 =>
R t49 h11) (
binW .eql t12 (int 6) fun t51 =>
COND t51 (
RDN h5 5 t5 fun t54 =>
HT P 55 [x0, x1, t54] h5 fun t55 h12 =>
R t55 h12) (
binW .eql t12 (int 1) fun t57 =>
COND t57 (
FADDR 1 t5 fun t58 =>
RD1 h5 t58 fun t59 =>
FADDR 0 t7 fun t60 =>
WR h5 1 t60 (int 1) fun h13 =>
(RD1 h13 t58 fun v => v = t59) ∧
FADDR 4 t7 fun t61 =>
WR h13 1 t61 t59 fun h14 =>
NILC x0 fun t64 =>
FADDR 6 t64 fun t65 =>
RD1 h14 t65 fun t66 =>
FADDR 1 t5 fun t67 =>
RD1 h14 t67 fun t68 =>
HT P 23 [t66, t68] h14 fun t69 h15 =>
EXT t69 0 fun t70 =>
EXT t69 1 fun t71 =>
FADDR 5 t7 fun t72 =>
WR h15 1 t72 t70 fun h16 =>
J h16) (
binW .eql t12 (int 2) fun t74 =>
COND t74 (
FADDR 2 t5 fun t75 =>
RD1 h5 t75 fun t76 =>
NILC x0 fun t78 =>
FADDR 16 t78 fun t79 =>
RD1 h5 t79 fun t80 =>
LEN t80 fun t81 =>
FADDR 0 t7 fun t82 =>
WR h5 1 t82 (int 2) fun h17 =>
(RD1 h17 t79 fun v => v = t80) ∧
(RD1 h17 t75 fun v => v = t76) ∧
FADDR 4 t7 fun t83 =>
WR h17 1 t83 t76 fun h18 =>
(RD1 h18 t79 fun v => v = t80) ∧
FADDR 2 t7 fun t84 =>
WR h18 1 t84 t81 fun h19 =>
NILC x0 fun t87 =>
FADDR 7 t87 fun t88 =>
RD1 h19 t88 fun t89 =>
FADDR 1 t5 fun t90 =>
RD1 h19 t90 fun t91 =>
FADDR 2 t5 fun t92 =>
RD1 h19 t92 fun t93 =>
HT P 56 [t93] h19 fun t94 h20 =>
(RD1 h20 t90 fun v => v = t91) ∧
(RD1 h20 t88 fun v => v = t89) ∧
EXT t94 0 fun t95 =>
EXT t94 1 fun t96 =>
IADDR 1 t89 t91 fun t97 =>
WR h20 1 t97 t95 fun h21 =>
FADDR 1 t5 fun t99 =>
RD1 h21 t99 fun t100 =>
NILC x0 fun t102 =>
FADDR 16 t102 fun t103 =>
RD1 h21 t103 fun t104 =>
LEN t104 fun t105 =>
NILC x0 fun t106 =>
FADDR 8 t106 fun t107 =>
IADDRA 8 1 t107 t100 fun t108 =>
WR h21 1 t108 t105 fun h22 =>
NILC x0 fun t111 =>
FADDR 16 t111 fun t112 =>
RD1 h22 t112 fun t113 =>
NILC x0 fun t115 =>
FADDR 7 t115 fun t116 =>
RD1 h22 t116 fun t117 =>
FADDR 1 t5 fun t118 =>
RD1 h22 t118 fun t119 =>
IADDR 1 t117 t119 fun t120 =>
RD1 h22 t120 fun t121 =>
ROW 101 [.pointer none] [((0, 1), t121)] 1 h22 fun t122 h23 =>
(RD1 h23 t112 fun v => v = t113) ∧
APP h23 101 1 8 [.pointer none] t113 t122 fun t123 h24 =>
NILC x0 fun t124 =>
FADDR 16 t124 fun t125 =>
WR h24 1 t125 t123 fun h25 =>
J h25) (
binW .eql t12 (int 7) fun t127 =>
COND t127 (
FADDR 1 t5 fun t128 =>
RD1 h5 t128 fun t129 =>
FADDR 0 t7 fun t130 =>
WR h5 1 t130 (int 9) fun h26 =>
(RD1 h26 t128 fun v => v = t129) ∧
FADDR 4 t7 fun t131 =>
WR h26 1 t131 t129 fun h27 =>
J h27) (
binW .eql t12 (int 8) fun t133 =>
COND t133 (
FADDR 1 t5 fun t134 =>
RD1 h5 t134 fun t135 =>
FADDR 0 t7 fun t136 =>
WR h5 1 t136 (int 10) fun h28 =>
(RD1 h28 t134 fun v => v = t135) ∧
FADDR 4 t7 fun t137 =>
WR h28 1 t137 t135 fun h29 =>
J h29) (
binW .eql t12 (int 9) fun t139 =>
COND t139 (
FADDR 0 t7 fun t140 =>
WR h5 1 t140 (int 11) fun h30 =>
NILC x0 fun t142 =>
FADDR 6 t142 fun t143 =>
RD1 h30 t143 fun t144 =>
HT P 57 [t144, x1] h30 fun t146 h31 =>
J h31) (
J h5))))))))) fun h32 =>
∀ _ : Env, RDN h32 8 t7 fun t148 =>
HT P 28 [x0, t148] h32 fun t149 h33 =>
NILC x0 fun t151 =>
FADDR 6 t151 fun t152 =>
RD1 h33 t152 fun t153 =>
HT P 58 [t153, x1] h33 fun t155 h34 =>
R (.bool true) h34
theorem u30 {x0 x1 x2 : Value} {h : Heap} {R : Value → Heap → Prop} (k : W30 x0 x1 x2 h R) : HT P 30 [x0, x1, x2] h R :=
  HT.print mixed Tok (n := 156) (H := [(7, []), (58, [13])]) (rs := [.tmp 6]) Go.Proofs.Tryz.func30 (by kernel_rfl) (by kernel_rfl) (by kernel_rfl) (by kernel_rfl) rfl (by kernel_rfl) k

/-- slices.Clone[[]staithe/api.Event,staithe/api.Event] -/
def W31 (x0 : Value) (h : Heap) (R : Value → Heap → Prop) : Prop :=
EQN false x0 (.slice none 0 0) fun t4 =>
COND t4 (
R (.slice none 0 0) h) (
ROW 34 [] [] 0 h fun t5 h1 =>
APP h1 34 8 56 [.int .i64 0, .int .i64 0, .int .i64 0, .int .i64 0, .int .i64 0, .int .i64 0, .bool false, .bool false] t5 x0 fun t7 h2 =>
R t7 h2)
theorem u31 {x0 : Value} {h : Heap} {R : Value → Heap → Prop} (k : W31 x0 h R) : HT P 31 [x0] h R :=
  HT.print mixed Tok (n := 8) (H := []) (rs := [.tmp 2]) Go.Proofs.Tryz.func31 (by kernel_rfl) (by kernel_rfl) (by kernel_rfl) (by kernel_rfl) rfl (by kernel_rfl) k

/-- staithe/sheet.each[[]staithe/api.Op,[]staithe/api.Op] -/
def W32 (x0 x1 : Value) (h : Heap) (R : Value → Heap → Prop) : Prop :=
LEN x0 fun t9 =>
LP 2 (fun I => I (.slice none 0 0) (int 0) h) fun L t5_1 t10_1 h1 =>
∀ _ : Env, binW .lss t10_1 t9 fun t11 =>
COND t11 (
IADDR 1 x0 t10_1 fun t12 =>
RD1 h1 t12 fun t13 =>
CALLV P x1 [t13] h1 fun t17 h2 =>
ROW 36 [.slice none 0 0] [((0, 1), t17)] 1 h2 fun t18 h3 =>
APP h3 36 1 24 [.slice none 0 0] t5_1 t18 fun t19 h4 =>
binW .add t10_1 (int 1) fun t20 =>
L t19 t20 h4) (
R t5_1 h1)
theorem u32 {x0 x1 : Value} {h : Heap} {R : Value → Heap → Prop} (k : W32 x0 x1 h R) : HT P 32 [x0, x1] h R :=
  HT.print mixed Tok (n := 22) (H := [(58, [5, 10])]) (rs := [.tmp 4]) Go.Proofs.Tryz.func32 (by kernel_rfl) (by kernel_rfl) (by kernel_rfl) (by kernel_rfl) rfl (by kernel_rfl) k

/-- staithe/sheet.Copy$1 -/
def W33 (x0 : Value) (h : Heap) (R : Value → Heap → Prop) : Prop :=
HT P 34 [x0, (fnv 35)] h fun t4 h1 =>
R t4 h1
theorem u33 {x0 : Value} {h : Heap} {R : Value → Heap → Prop} (k : W33 x0 h R) : HT P 33 [x0] h R :=
  HT.print mixed Tok (n := 5) (H := []) (rs := [.tmp 2]) Go.Proofs.Tryz.func33 (by kernel_rfl) (by kernel_rfl) (by kernel_rfl) (by kernel_rfl) rfl (by kernel_rfl) k

/-- staithe/sheet.each[staithe/api.Op,staithe/api.Op] -/
def W34 (x0 x1 : Value) (h : Heap) (R : Value → Heap → Prop) : Prop :=
LEN x0 fun t9 =>
LP 2 (fun I => I (.slice none 0 0) (int 0) h) fun L t5_1 t10_1 h1 =>
∀ _ : Env, binW .lss t10_1 t9 fun t11 =>
COND t11 (
IADDR 5 x0 t10_1 fun t12 =>
RDN h1 5 t12 fun t13 =>
NEW 39 [.int .i64 0, .int .i64 0, .int .i64 0, .slice none 0 0, .bool false] h1 fun t7 h2 =>
WR h2 5 t7 t13 fun h3 =>
RDN h3 5 t7 fun t16 =>
CALLV P x1 [t16] h3 fun t17 h4 =>
ROW 39 [.int .i64 0, .int .i64 0, .int .i64 0, .slice none 0 0, .bool false] [((0, 5), t17)] 1 h4 fun t18 h5 =>
APP h5 39 5 56 [.int .i64 0, .int .i64 0, .int .i64 0, .slice none 0 0, .bool false] t5_1 t18 fun t19 h6 =>
binW .add t10_1 (int 1) fun t20 =>
L t19 t20 h6) (
R t5_1 h1)
theorem u34 {x0 x1 : Value} {h : Heap} {R : Value → Heap → Prop} (k : W34 x0 x1 h R) : HT P 34 [x0, x1] h R :=
  HT.print mixed Tok (n := 22) (H := [(58, [5, 10])]) (rs := [.tmp 4]) Go.Proofs.Tryz.func34 (by kernel_rfl) (by kernel_rfl) (by kernel_rfl) (by kernel_rfl) rfl (by kernel_rfl) k

/-- staithe/sheet.Copy$1$1 -/
def W35 (x0 : Value) (h : Heap) (R : Value → Heap → Prop) : Prop :=
BOX 39 x0 h fun t1 h1 =>
NEW 39 [.int .i64 0, .int .i64 0, .int .i64 0, .slice none 0 0, .bool false] h1 fun t2 h2 =>
FADDR 3 t1 fun t3 =>
RD1 h2 t3 fun t4 =>
HT P 36 [t4] h2 fun t5 h3 =>
FADDR 3 t1 fun t6 =>
WR h3 1 t6 t5 fun h4 =>
RDN h4 5 t1 fun t7 =>
WR h4 5 t2 t7 fun h5 =>
RDN h5 5 t2 fun r =>
R r h5
theorem u35 {x0 : Value} {h : Heap} {R : Value → Heap → Prop} (k : W35 x0 h R) : HT P 35 [x0] h R :=
  HT.print mixed Tok (n := 8) (H := []) (rs := [.cell 2 true 5]) Go.Proofs.Tryz.func35 (by kernel_rfl) (by kernel_rfl) (by kernel_rfl) (by kernel_rfl) rfl (by kernel_rfl) k

/-- slices.Clone[[]staithe/api.Case,staithe/api.Case] -/
def W36 (x0 : Value) (h : Heap) (R : Value → Heap → Prop) : Prop :=
EQN false x0 (.slice none 0 0) fun t4 =>
COND t4 (
R (.slice none 0 0) h) (
ROW 52 [] [] 0 h fun t5 h1 =>
APP h1 52 3 24 [.bool false, .int .i64 0, .int .i64 0] t5 x0 fun t7 h2 =>
R t7 h2)
theorem u36 {x0 : Value} {h : Heap} {R : Value → Heap → Prop} (k : W36 x0 h R) : HT P 36 [x0] h R :=
  HT.print mixed Tok (n := 8) (H := []) (rs := [.tmp 2]) Go.Proofs.Tryz.func36 (by kernel_rfl) (by kernel_rfl) (by kernel_rfl) (by kernel_rfl) rfl (by kernel_rfl) k

/-- slices.Clone[[]int,int] -/
def W37 (x0 : Value) (h : Heap) (R : Value → Heap → Prop) : Prop :=
EQN false x0 (.slice none 0 0) fun t4 =>
COND t4 (
R (.slice none 0 0) h) (
ROW 3 [] [] 0 h fun t5 h1 =>
APP h1 3 1 8 [.int .i64 0] t5 x0 fun t7 h2 =>
R t7 h2)
theorem u37 {x0 : Value} {h : Heap} {R : Value → Heap → Prop} (k : W37 x0 h R) : HT P 37 [x0] h R :=
  HT.print mixed Tok (n := 8) (H := []) (rs := [.tmp 2]) Go.Proofs.Tryz.func37 (by kernel_rfl) (by kernel_rfl) (by kernel_rfl) (by kernel_rfl) rfl (by kernel_rfl) k

/-- slices.IndexFunc[[]int,int] -/
def W38 (x0 x1 : Value) (h : Heap) (R : Value → Heap → Prop) : Prop :=
LEN x0 fun t7 =>
LP 1 (fun I => I (int 0) h) fun L t8_1 h1 =>
∀ _ : Env, binW .lss t8_1 t7 fun t9 =>
COND t9 (
IADDR 1 x0 t8_1 fun t14 =>
RD1 h1 t14 fun t15 =>
CALLV P x1 [t15] h1 fun t16 h2 =>
COND t16 (
R t8_1 h2) (
binW .add t8_1 (int 1) fun t18 =>
L t18 h2)) (
R (int (-1)) h1)
theorem u38 {x0 x1 : Value} {h : Heap} {R : Value → Heap → Prop} (k : W38 x0 x1 h R) : HT P 38 [x0, x1] h R :=
  HT.print mixed Tok (n := 19) (H := [(26, [8])]) (rs := [.tmp 4]) Go.Proofs.Tryz.func38 (by kernel_rfl) (by kernel_rfl) (by kernel_rfl) (by kernel_rfl) rfl (by kernel_rfl) k

/-- staithe/sheet.long -/
def W39 (x0 : Value) (h : Heap) (R : Value → Heap → Prop) : Prop :=
BOX 25 x0 h fun t1 h1 =>
JN 1 (fun J =>
FADDR 2 t1 fun t3 =>
RD1 h1 t3 fun t4 =>
LEN t4 fun t5 =>
binW .gtr t5 (int 8) fun t6 =>
GD t6 false h1 (fun K => FADDR 3 t1 fun v => K v h1) fun t8 h2 =>
GD t6 false h2 (fun K_1 => RD1 h2 t8 fun v => K_1 v h2) fun t9 h3 =>
GD t6 false h3 (fun K_2 => LEN t9 fun v => K_2 v h3) fun t10 h4 =>
GD t6 false h4 (fun K_3 => binW .gtr t10 (int 200) fun v => K_3 v h4) fun t11 h5 =>
PICK t6 (.bool true) t11 fun t12 =>
GD t12 false h5 (fun K_4 => FADDR 4 t1 fun v => K_4 v h5) fun t14 h6 =>
GD t12 false h6 (fun K_5 => RD1 h6 t14 fun v => K_5 v h6) fun t15 h7 =>
GD t12 false h7 (fun K_6 => LEN t15 fun v => K_6 v h7) fun t16 h8 =>
GD t12 false h8 (fun K_7 => binW .gtr t16 (int 64) fun v => K_7 v h8) fun t17 h9 =>
PICK t12 (.bool true) t17 fun t18 =>
GD t18 false h9 (fun K_8 => FADDR 2 t1 fun v => K_8 v h9) fun t20 h10 =>
GD t18 false h10 (fun K_9 => RD1 h10 t20 fun v => K_9 v h10) fun t21 h11 =>
GD t18 false h11 (fun K_10 => HT P 59 [t21, (fnv 60)] h11 K_10) fun t22 h12 =>
PICK t18 (.bool true) t22 fun t23 =>
J t23 h12) fun t2_2 h13 =>
∀ _ : Env, R t2_2 h13
theorem u39 {x0 : Value} {h : Heap} {R : Value → Heap → Prop} (k : W39 x0 h R) : HT P 39 [x0] h R :=
  HT.print mixed Tok (n := 24) (H := [(3, [2])]) (rs := [.tmp 2]) Go.Proofs.Tryz.func39 (by kernel_rfl) (by kernel_rfl) (by kernel_rfl) (by kernel_rfl) rfl (by kernel_rfl) k

/-- staithe/sheet.outside -/
def W40 (x0 x1 x2 : Value) (h : Heap) (R : Value → Heap → Prop) : Prop :=
BOX 3 x1 h fun t4 h1 =>
BOX 3 x2 h1 fun t5 h2 =>
HT P 44 [x0, (.func (.func 61) [].toArray [t4, t5].toArray)] h2 fun t9 h3 =>
R t9 h3
theorem u40 {x0 x1 x2 : Value} {h : Heap} {R : Value → Heap → Prop} (k : W40 x0 x1 x2 h R) : HT P 40 [x0, x1, x2] h R :=
  HT.print mixed Tok (n := 10) (H := []) (rs := [.tmp 6]) Go.Proofs.Tryz.func40 (by kernel_rfl) (by kernel_rfl) (by kernel_rfl) (by kernel_rfl) rfl (by kernel_rfl) k

/-- staithe/deed.Check -/
def W41 (x0 x1 : Value) (h : Heap) (R : Value → Heap → Prop) : Prop :=
BOX 39 x0 h fun t2 h1 =>
JN 1 (fun J =>
binW .lss x1 (int 1) fun t10 =>
GD t10 false h1 (fun K => K x1 h1) fun t12 h2 =>
GD t10 false h2 (fun K_1 => binW .gtr t12 (int 8) fun v => K_1 v h2) fun t13 h3 =>
PICK t10 (.bool true) t13 fun t14 =>
GD t14 false h3 (fun K_2 => FADDR 0 t2 fun v => K_2 v h3) fun t16 h4 =>
GD t14 false h4 (fun K_3 => RD1 h4 t16 fun v => K_3 v h4) fun t17 h5 =>
GD t14 false h5 (fun K_4 => binW .lss t17 (int 1) fun v => K_4 v h5) fun t18 h6 =>
PICK t14 (.bool true) t18 fun t19 =>
GD t19 false h6 (fun K_5 => FADDR 0 t2 fun v => K_5 v h6) fun t21 h7 =>
GD t19 false h7 (fun K_6 => RD1 h7 t21 fun v => K_6 v h7) fun t22 h8 =>
GD t19 false h8 (fun K_7 => binW .gtr t22 (int 9) fun v => K_7 v h8) fun t23 h9 =>
PICK t19 (.bool true) t23 fun t24 =>
J t24 h9) fun t24_1 h10 =>
∀ _ : Env, COND t24_1 (
R (int 1) h10) (
FADDR 3 t2 fun t25 =>
RD1 h10 t25 fun t26 =>
LEN t26 fun t27 =>
binW .gtr t27 (int 4) fun t28 =>
COND t28 (
R (int 2) h10) (
FADDR 0 t2 fun t30 =>
RD1 h10 t30 fun t31 =>
HT P 62 [t31, x1] h10 fun t33 h11 =>
EXT t33 0 fun t34 =>
EXT t33 1 fun t35 =>
JN 1 (fun J_1 =>
FADDR 1 t2 fun t36 =>
RD1 h11 t36 fun t37 =>
HT P 63 [t37, t34] h11 fun t39 h12 =>
NOT t39 fun t40 =>
GD t40 false h12 (fun K_8 => FADDR 2 t2 fun v => K_8 v h12) fun t42 h13 =>
GD t40 false h13 (fun K_9 => RD1 h13 t42 fun v => K_9 v h13) fun t43 h14 =>
GD t40 false h14 (fun K_10 => K_10 t35 h14) fun t44 h15 =>
GD t40 false h15 (fun K_11 => HT P 63 [t43, t44] h15 K_11) fun t45 h16 =>
GD t40 false h16 (fun K_12 => NOT t45 fun v => K_12 v h16) fun t46 h17 =>
PICK t40 (.bool true) t46 fun t47 =>
GD t47 false h17 (fun K_13 => FADDR 0 t2 fun v => K_13 v h17) fun t49 h18 =>
GD t47 false h18 (fun K_14 => RD1 h18 t49 fun v => K_14 v h18) fun t50 h19 =>
GD t47 false h19 (fun K_15 => binW .neq t50 (int 6) fun v => K_15 v h19) fun t51 h20 =>
GD t47 false h20 (fun K_16 => K_16 t51 h20) fun t52 h21 =>
GD t52 true h21 (fun K_17 => FADDR 3 t2 fun v => K_17 v h21) fun t53 h22 =>
GD t52 true h22 (fun K_18 => RD1 h22 t53 fun v => K_18 v h22) fun t54 h23 =>
GD t52 true h23 (fun K_19 => LEN t54 fun v => K_19 v h23) fun t55 h24 =>
GD t52 true h24 (fun K_20 => binW .gtr t55 (int 0) fun v => K_20 v h24) fun t56 h25 =>
GD t52 true h25 (fun K_21 => K_21 t56 h25) fun t57 h26 =>
GD t57 false h26 (fun K_22 => FADDR 4 t2 fun v => K_22 v h26) fun t58 h27 =>
GD t57 false h27 (fun K_23 => RD1 h27 t58 fun v => K_23 v h27) fun t59 h28 =>
GD t52 true h28 (fun K_24 => PICK t57 (.bool true) t59 fun v => K_24 v h28) fun t60 h29 =>
GD t47 false h29 (fun K_25 => PICK t52 t60 (.bool false) fun v => K_25 v h29) fun t61 h30 =>
PICK t47 (.bool true) t61 fun t62 =>
J_1 t62 h30) fun t62_1 h31 =>
∀ _ : Env, COND t62_1 (
R (int 4) h31) (
FADDR 3 t2 fun t63 =>
RD1 h31 t63 fun t64 =>
LEN t64 fun t65 =>
LP 1 (fun I => I (int 0) h31) fun L t66_1 h32 =>
∀ _ : Env, binW .lss t66_1 t65 fun t67 =>
COND t67 (
IADDR 3 t64 t66_1 fun t68 =>
RDN h32 3 t68 fun t69 =>
NEW 52 [.bool false, .int .i64 0, .int .i64 0] h32 fun t8 h33 =>
WR h33 3 t8 t69 fun h34 =>
JN 1 (fun J_2 =>
FADDR 1 t8 fun t70 =>
RD1 h34 t70 fun t71 =>
HT P 64 [t71, (int 8)] h34 fun t72 h35 =>
NOT t72 fun t73 =>
GD t73 false h35 (fun K_26 => FADDR 2 t8 fun v => K_26 v h35) fun t75 h36 =>
GD t73 false h36 (fun K_27 => RD1 h36 t75 fun v => K_27 v h36) fun t76 h37 =>
GD t73 false h37 (fun K_28 => HT P 64 [t76, (int 100)] h37 K_28) fun t77 h38 =>
GD t73 false h38 (fun K_29 => NOT t77 fun v => K_29 v h38) fun t78 h39 =>
PICK t73 (.bool true) t78 fun t79 =>
GD t79 false h39 (fun K_30 => FADDR 0 t8 fun v => K_30 v h39) fun t81 h40 =>
GD t79 false h40 (fun K_31 => RD1 h40 t81 fun v => K_31 v h40) fun t82 h41 =>
GD t79 false h41 (fun K_32 => NOT t82 fun v => K_32 v h41) fun t83 h42 =>
GD t79 false h42 (fun K_33 => K_33 t83 h42) fun t84 h43 =>
GD t84 true h43 (fun K_34 => FADDR 2 t8 fun v => K_34 v h43) fun t85 h44 =>
GD t84 true h44 (fun K_35 => RD1 h44 t85 fun v => K_35 v h44) fun t86 h45 =>
GD t84 true h45 (fun K_36 => binW .neq t86 (int 0) fun v => K_36 v h45) fun t87 h46 =>
GD t79 false h46 (fun K_37 => PICK t84 t87 (.bool false) fun v => K_37 v h46) fun t88 h47 =>
PICK t79 (.bool true) t88 fun t89 =>
J_2 t89 h47) fun t89_1 h48 =>
∀ _ : Env, COND t89_1 (
R (int 4) h48) (
binW .add t66_1 (int 1) fun t90 =>
L t90 h48)) (
R (int 0) h32))))
theorem u41 {x0 x1 : Value} {h : Heap} {R : Value → Heap → Prop} (k : W41 x0 x1 h R) : HT P 41 [x0, x1] h R :=
  HT.print mixed Tok (n := 91) (H := [(6, [24]), (62, [62]), (506, [66]), (32409, [89])]) (rs := [.tmp 4]) Go.Proofs.Tryz.func41 (by kernel_rfl) (by kernel_rfl) (by kernel_rfl) (by kernel_rfl) rfl (by kernel_rfl) k

/-- staithe/pick.New$1 -/
def W42 (x0 : Value) (h : Heap) (R : Value → Heap → Prop) : Prop :=
BOX 3 x0 h fun t1 h1 =>
R (.func (.func 43) [].toArray [t1].toArray) h1
theorem u42 {x0 : Value} {h : Heap} {R : Value → Heap → Prop} (k : W42 x0 h R) : HT P 42 [x0] h R :=
  HT.print mixed Tok (n := 4) (H := []) (rs := [.tmp 2]) Go.Proofs.Tryz.func42 (by kernel_rfl) (by kernel_rfl) (by kernel_rfl) (by kernel_rfl) rfl (by kernel_rfl) k

/-- staithe/pick.New$1$1 -/
def W43 (x0 x1 : Value) (h : Heap) (R : Value → Heap → Prop) : Prop :=
JN 1 (fun J =>
RD1 h x1 fun t5 =>
binW .lss x0 t5 fun t6 =>
GD t6 false h (fun K => K x0 h) fun t8 h1 =>
GD t6 false h1 (fun K_1 => binW .gtr t8 (int 1000) fun v => K_1 v h1) fun t9 h2 =>
PICK t6 (.bool true) t9 fun t10 =>
J t10 h2) fun t3_2 h3 =>
∀ _ : Env, R t3_2 h3
theorem u43 {x0 x1 : Value} {h : Heap} {R : Value → Heap → Prop} (k : W43 x0 x1 h R) : HT P 43 [x0, x1] h R :=
  HT.print mixed Tok (n := 11) (H := [(3, [3])]) (rs := [.tmp 3]) Go.Proofs.Tryz.func43 (by kernel_rfl) (by kernel_rfl) (by kernel_rfl) (by kernel_rfl) rfl (by kernel_rfl) k

/-- slices.ContainsFunc[[]int,int] -/
def W44 (x0 x1 : Value) (h : Heap) (R : Value → Heap → Prop) : Prop :=
HT P 38 [x0, x1] h fun t7 h1 =>
binW .geq t7 (int 0) fun t8 =>
R t8 h1
theorem u44 {x0 x1 : Value} {h : Heap} {R : Value → Heap → Prop} (k : W44 x0 x1 h R) : HT P 44 [x0, x1] h R :=
  HT.print mixed Tok (n := 9) (H := []) (rs := [.tmp 4]) Go.Proofs.Tryz.func44 (by kernel_rfl) (by kernel_rfl) (by kernel_rfl) (by kernel_rfl) rfl (by kernel_rfl) k

/-- (*staithe/crew.Crew).Able -/
def W45 (x0 : Value) (h : Heap) (R : Value → Heap → Prop) : Prop :=
HT P 46 [x0, (int 0)] h fun t4 h1 =>
R t4 h1
theorem u45 {x0 : Value} {h : Heap} {R : Value → Heap → Prop} (k : W45 x0 h R) : HT P 45 [x0] h R :=
  HT.print mixed Tok (n := 5) (H := []) (rs := [.tmp 2]) Go.Proofs.Tryz.func45 (by kernel_rfl) (by kernel_rfl) (by kernel_rfl) (by kernel_rfl) rfl (by kernel_rfl) k

/-- (*staithe/crew.Crew).in -/
def W46 (x0 x1 : Value) (h : Heap) (R : Value → Heap → Prop) : Prop :=
HT P 65 [x0] h fun t8 h1 =>
LP 2 (fun I => I (.slice none 0 0) (int 0) h1) fun L t5_1 t9_1 h2 =>
∀ _ : Env, binW .lss t9_1 t8 fun t10 =>
COND t10 (
JN 1 (fun J =>
NILC x0 fun t13 =>
FADDR 0 t13 fun t14 =>
RD1 h2 t14 fun t15 =>
IADDR 3 t15 t9_1 fun t17 =>
FADDR 2 t17 fun t18 =>
RD1 h2 t18 fun t19 =>
binW .eql t19 x1 fun t21 =>
COND t21 (
ROW 3 [.int .i64 0] [((0, 1), t9_1)] 1 h2 fun t24 h3 =>
APP h3 3 1 8 [.int .i64 0] t5_1 t24 fun t25 h4 =>
J t25 h4) (
J t5_1 h2)) fun t5_3 h5 =>
∀ _ : Env, binW .add t9_1 (int 1) fun t26 =>
L t5_3 t26 h5) (
R t5_1 h2)
theorem u46 {x0 x1 : Value} {h : Heap} {R : Value → Heap → Prop} (k : W46 x0 x1 h R) : HT P 46 [x0, x1] h R :=
  HT.print mixed Tok (n := 28) (H := [(58, [5, 9]), (467, [5])]) (rs := [.tmp 4]) Go.Proofs.Tryz.func46 (by kernel_rfl) (by kernel_rfl) (by kernel_rfl) (by kernel_rfl) rfl (by kernel_rfl) k

/-- (*staithe/pick.Cursor).Copy -/
def W47 (x0 : Value) (h : Heap) (R : Value → Heap → Prop) : Prop :=
EQP false x0 (.pointer none) fun t5 =>
COND t5 (
R (.pointer none) h) (
NILC x0 fun t7 =>
RDN h 2 t7 fun t8 =>
NEW 90 [.slice none 0 0, .slice none 0 0] h fun t3 h1 =>
WR h1 2 t3 t8 fun h2 =>
R t3 h2)
theorem u47 {x0 : Value} {h : Heap} {R : Value → Heap → Prop} (k : W47 x0 h R) : HT P 47 [x0] h R :=
  HT.print mixed Tok (n := 9) (H := []) (rs := [.tmp 2]) Go.Proofs.Tryz.func47 (by kernel_rfl) (by kernel_rfl) (by kernel_rfl) (by kernel_rfl) rfl (by kernel_rfl) k

/-- (*staithe/loom.Loom).chosen -/
def W48 (x0 x1 : Value) (h : Heap) (R : Value → Heap → Prop) : Prop :=
binW .eql x1 (int (-1)) fun t8 =>
COND t8 (
R (int (-1)) h) (
NILC x0 fun t12 =>
FADDR 6 t12 fun t13 =>
RD1 h t13 fun t14 =>
HT P 45 [t14] h fun t15 h1 =>
HT P 66 [x1, t15] h1 fun t16 h2 =>
EXT t16 0 fun t17 =>
EXT t16 1 fun t18 =>
R t17 h2)
theorem u48 {x0 x1 : Value} {h : Heap} {R : Value → Heap → Prop} (k : W48 x0 x1 h R) : HT P 48 [x0, x1] h R :=
  HT.print mixed Tok (n := 20) (H := []) (rs := [.tmp 4]) Go.Proofs.Tryz.func48 (by kernel_rfl) (by kernel_rfl) (by kernel_rfl) (by kernel_rfl) rfl (by kernel_rfl) k

/-- (*staithe/loom.Loom).op -/
def W49 (x0 x1 : Value) (h : Heap) (R : Value → Heap → Prop) : Prop :=
NEW 39 [.int .i64 0, .int .i64 0, .int .i64 0, .slice none 0 0, .bool false] h fun t4 h1 =>
NILC x0 fun t11 =>
FADDR 6 t11 fun t12 =>
RD1 h1 t12 fun t13 =>
HT P 67 [t13, x1] h1 fun t15 h2 =>
EXT t15 0 fun t16 =>
EXT t15 1 fun t17 =>
EXT t15 2 fun t18 =>
NILC x0 fun t21 =>
FADDR 0 t21 fun t22 =>
FADDR 2 t22 fun t23 =>
RD1 h2 t23 fun t24 =>
IADDR 1 t24 t16 fun t26 =>
RD1 h2 t26 fun t27 =>
LEN t27 fun t28 =>
binW .geq t17 t28 fun t29 =>
COND t29 (
BUILD [.int .i64 0, .int .i64 0, .int .i64 0, .slice none 0 0, .bool false] [((0, 1), (int 9))] fun t30 =>
WR h2 5 t4 t30 fun h3 =>
RDN h3 5 t4 fun r =>
R r h3) (
NILC x0 fun t32 =>
FADDR 0 t32 fun t33 =>
FADDR 2 t33 fun t34 =>
RD1 h2 t34 fun t35 =>
IADDR 1 t35 t16 fun t37 =>
RD1 h2 t37 fun t38 =>
IADDR 5 t38 t17 fun t40 =>
RDN h2 5 t40 fun t41 =>
NEW 39 [.int .i64 0, .int .i64 0, .int .i64 0, .slice none 0 0, .bool false] h2 fun t8 h4 =>
WR h4 5 t8 t41 fun h5 =>
FADDR 3 t8 fun t42 =>
RD1 h5 t42 fun t43 =>
HT P 36 [t43] h5 fun t44 h6 =>
FADDR 3 t8 fun t45 =>
WR h6 1 t45 t44 fun h7 =>
RDN h7 5 t8 fun t46 =>
WR h7 5 t4 t46 fun h8 =>
RDN h8 5 t4 fun r_1 =>
R r_1 h8)
theorem u49 {x0 x1 : Value} {h : Heap} {R : Value → Heap → Prop} (k : W49 x0 x1 h R) : HT P 49 [x0, x1] h R :=
  HT.print mixed Tok (n := 47) (H := []) (rs := [.cell 4 true 5]) Go.Proofs.Tryz.func49 (by kernel_rfl) (by kernel_rfl) (by kernel_rfl) (by kernel_rfl) rfl (by kernel_rfl) k

/-- (*staithe/pick.queue).take -/
def W50 (x0 : Value) (h : Heap) (R : Value → Heap → Prop) : Prop :=
NILC x0 fun t6 =>
FADDR 0 t6 fun t7 =>
RD1 h t7 fun t8 =>
LEN t8 fun t9 =>
binW .eql t9 (int 0) fun t10 =>
COND t10 (
R (.tuple #[(int 0), (.bool false)]) h) (
NILC x0 fun t12 =>
FADDR 0 t12 fun t13 =>
RD1 h t13 fun t14 =>
IADDR 1 t14 (int 0) fun t15 =>
RD1 h t15 fun t16 =>
NILC x0 fun t19 =>
FADDR 0 t19 fun t20 =>
RD1 h t20 fun t21 =>
SLCV 1 t21 (some (int 1)) none none fun t22 =>
NILC x0 fun t23 =>
FADDR 0 t23 fun t24 =>
WR h 1 t24 t22 fun h1 =>
R (.tuple #[t16, (.bool true)]) h1)
theorem u50 {x0 : Value} {h : Heap} {R : Value → Heap → Prop} (k : W50 x0 h R) : HT P 50 [x0] h R :=
  HT.print mixed Tok (n := 26) (H := []) (rs := [.tmp 2, .tmp 3]) Go.Proofs.Tryz.func50 (by kernel_rfl) (by kernel_rfl) (by kernel_rfl) (by kernel_rfl) rfl (by kernel_rfl) k

/-- (*staithe/pipe.Pipe).Ready -/
def W51 (x0 x1 : Value) (h : Heap) (R : Value → Heap → Prop) : Prop :=
EQP false x0 (.pointer none) fun t7 =>
COND t7 (
R (.bool false) h) (
NOT x1 fun t10 =>
HT P 68 [x0, t10] h fun t11 h1 =>
HT P 69 [t11] h1 fun t12 h2 =>
COND x1 (
JN 1 (fun J =>
NILC x0 fun t15 =>
FADDR 3 t15 fun t16 =>
RD1 h2 t16 fun t17 =>
GD t17 false h2 (fun K => K t12 h2) fun t19 h3 =>
GD t17 false h3 (fun K_1 => binW .gtr t19 (int 0) fun v => K_1 v h3) fun t20 h4 =>
PICK t17 (.bool true) t20 fun t21 =>
GD t21 false h4 (fun K_2 => K_2 x0 h4) fun t23 h5 =>
GD t21 false h5 (fun K_3 => HT P 70 [t23] h5 K_3) fun t24 h6 =>
GD t21 false h6 (fun K_4 => K_4 x0 h6) fun t25 h7 =>
GD t21 false h7 (fun K_5 => HT P 71 [t25] h7 K_5) fun t26 h8 =>
GD t21 false h8 (fun K_6 => binW .lss t24 t26 fun v => K_6 v h8) fun t27 h9 =>
PICK t21 (.bool true) t27 fun t28 =>
J t28 h9) fun t4_3 h10 =>
∀ _ : Env, R t4_3 h10) (
JN 1 (fun J_1 =>
NILC x0 fun t30 =>
FADDR 3 t30 fun t31 =>
RD1 h2 t31 fun t32 =>
GD t32 false h2 (fun K_7 => K_7 t12 h2) fun t34 h11 =>
GD t32 false h11 (fun K_8 => binW .gtr t34 (int 0) fun v => K_8 v h11) fun t35 h12 =>
PICK t32 (.bool true) t35 fun t36 =>
GD t36 false h12 (fun K_9 => K_9 x0 h12) fun t38 h13 =>
GD t36 false h13 (fun K_10 => HT P 70 [t38] h13 K_10) fun t39 h14 =>
GD t36 false h14 (fun K_11 => binW .gtr t39 (int 0) fun v => K_11 v h14) fun t40 h15 =>
PICK t36 (.bool true) t40 fun t41 =>
J_1 t41 h15) fun t4_5 h16 =>
∀ _ : Env, R t4_5 h16))
theorem u51 {x0 x1 : Value} {h : Heap} {R : Value → Heap → Prop} (k : W51 x0 x1 h R) : HT P 51 [x0, x1] h R :=
  HT.print mixed Tok (n := 42) (H := [(122, [4]), (31, [4])]) (rs := [.tmp 4]) Go.Proofs.Tryz.func51 (by kernel_rfl) (by kernel_rfl) (by kernel_rfl) (by kernel_rfl) rfl (by kernel_rfl) k

/-- (*staithe/loom.Loom).communicate -/
def W52 (x0 x1 x2 x3 : Value) (h : Heap) (R : Value → Heap → Prop) : Prop :=
BOX 52 x2 h fun t6 h1 =>
FADDR 1 t6 fun t15 =>
RD1 h1 t15 fun t16 =>
NILC x0 fun t17 =>
FADDR 8 t17 fun t18 =>
IADDRA 8 1 t18 t16 fun t19 =>
RD1 h1 t19 fun t20 =>
JN 2 (fun J =>
RDN h1 3 t6 fun t22 =>
NILC x0 fun t24 =>
FADDR 7 t24 fun t25 =>
RD1 h1 t25 fun t26 =>
(HT P 72 [t22, t26] h1 fun t27 h2 =>
EXT t27 0 fun t28 =>
EXT t27 1 fun t29 =>
NEW 124 [.bool false, .bool false, .bool false, .int .i64 0, .int .i64 0, .int .i64 0, .int .i64 0] h2 fun t10 h3 =>
(RD1 h3 t25 fun v => v = t26) ∧
(RDN h3 3 t6 fun v => v = t22) ∧
WR h3 7 t10 t28 fun h4 =>
J t10 t29 h4) ∧
(NEW 124 [.bool false, .bool false, .bool false, .int .i64 0, .int .i64 0, .int .i64 0, .int .i64 0] h1 fun t10_1 h5 =>
(RD1 h5 t25 fun v => v = t26) ∧
(RDN h5 3 t6 fun v => v = t22) ∧
HT P 72 [t22, t26] h5 fun t27_1 h6 =>
EXT t27_1 0 fun t28_1 =>
EXT t27_1 1 fun t29_1 =>
WR h6 7 t10_1 t28_1 fun h7 =>
J t10_1 t29_1 h7)) fun t10_2 t11_2 h8 =>
∀ _ : Env, binW .neq t11_2 (int 0) fun t31 =>
COND t31 (
HT P 29 [(int 12), x1] h8 fun t34 h9 =>
HT P 28 [x0, t34] h9 fun t35 h10 =>
R (.bool false) h10) (
FADDR 3 t10_2 fun t39 =>
RD1 h8 t39 fun t40 =>
FADDR 1 t10_2 fun t41 =>
RD1 h8 t41 fun t42 =>
BUILD [.int .i64 0, .int .i64 0, .int .i64 0, .int .i64 0, .int .i64 0, .int .i64 0, .bool false, .bool false] [((0, 1), (int 4)), ((1, 1), x1), ((2, 1), t20), ((3, 1), x3), ((4, 1), t40), ((5, 1), (int (-1))), ((7, 1), t42)] fun t43 =>
NEW 34 [.int .i64 0, .int .i64 0, .int .i64 0, .int .i64 0, .int .i64 0, .int .i64 0, .bool false, .bool false] h8 fun t12 h11 =>
WR h11 8 t12 t43 fun h12 =>
JN 0 (fun J_1 =>
FADDR 0 t6 fun t44 =>
RD1 h12 t44 fun t45 =>
COND t45 (
FADDR 2 t6 fun t46 =>
RD1 h12 t46 fun t47 =>
FADDR 0 t12 fun t48 =>
WR h12 1 t48 (int 3) fun h13 =>
(RD1 h13 t46 fun v => v = t47) ∧
FADDR 4 t12 fun t49 =>
WR h13 1 t49 t47 fun h14 =>
FADDR 6 t12 fun t50 =>
WR h14 1 t50 (.bool true) fun h15 =>
J_1 h15) (
J_1 h12)) fun h16 =>
∀ _ : Env, JN 0 (fun J_2 =>
FADDR 2 t10_2 fun t51 =>
RD1 h16 t51 fun t52 =>
COND t52 (
FADDR 4 t10_2 fun t53 =>
FADDR 0 t53 fun t54 =>
RD1 h16 t54 fun t55 =>
FADDR 5 t12 fun t56 =>
WR h16 1 t56 t55 fun h17 =>
J_2 h17) (
J_2 h16)) fun h18 =>
∀ _ : Env, RDN h18 8 t12 fun t58 =>
HT P 28 [x0, t58] h18 fun t59 h19 =>
NILC x0 fun t61 =>
FADDR 6 t61 fun t62 =>
RD1 h19 t62 fun t63 =>
HT P 58 [t63, x1] h19 fun t65 h20 =>
JN 0 (fun J_3 =>
FADDR 2 t10_2 fun t66 =>
RD1 h20 t66 fun t67 =>
COND t67 (
FADDR 4 t10_2 fun t68 =>
FADDR 0 t68 fun t69 =>
RD1 h20 t69 fun t70 =>
FADDR 4 t10_2 fun t72 =>
FADDR 1 t72 fun t73 =>
RD1 h20 t73 fun t74 =>
FADDR 4 t10_2 fun t75 =>
FADDR 2 t75 fun t76 =>
RD1 h20 t76 fun t77 =>
FADDR 0 t6 fun t79 =>
RD1 h20 t79 fun t80 =>
NOT t80 fun t81 =>
BUILD [.int .i64 0, .int .i64 0, .int .i64 0, .int .i64 0, .int .i64 0, .int .i64 0, .bool false, .bool false] [((1, 1), t70), ((2, 1), t20), ((3, 1), t74), ((4, 1), t77), ((5, 1), x1), ((6, 1), t81), ((7, 1), (.bool true))] fun t82 =>
NEW 34 [.int .i64 0, .int .i64 0, .int .i64 0, .int .i64 0, .int .i64 0, .int .i64 0, .bool false, .bool false] h20 fun t13 h21 =>
WR h21 8 t13 t82 fun h22 =>
JN 0 (fun J_4 =>
FADDR 0 t6 fun t83 =>
RD1 h22 t83 fun t84 =>
COND t84 (
FADDR 2 t6 fun t85 =>
RD1 h22 t85 fun t86 =>
FADDR 4 t13 fun t87 =>
WR h22 1 t87 t86 fun h23 =>
J_4 h23) (
J_4 h22)) fun h24 =>
∀ _ : Env, RDN h24 8 t13 fun t89 =>
HT P 73 [x0, t89] h24 fun t90 h25 =>
J_3 h25) (
J_3 h20)) fun h26 =>
∀ _ : Env, R (.bool true) h26)
theorem u52 {x0 x1 x2 x3 : Value} {h : Heap} {R : Value → Heap → Prop} (k : W52 x0 x1 x2 x3 h R) : HT P 52 [x0, x1, x2, x3] h R :=
  HT.print mixed Tok (n := 91) (H := [(7, [10, 11]), (63, []), (127, []), (1023, []), (16373, [])]) (rs := [.tmp 8]) Go.Proofs.Tryz.func52 (by kernel_rfl) (by kernel_rfl) (by kernel_rfl) (by kernel_rfl) rfl (by kernel_rfl) k

/-- (*staithe/loom.Loom).park -/
def W53 (x0 x1 x2 : Value) (h : Heap) (R : Value → Heap → Prop) : Prop :=
BOX 52 x2 h fun t5 h1 =>
HT P 29 [(int 6), x1] h1 fun t8 h2 =>
NEW 34 [.int .i64 0, .int .i64 0, .int .i64 0, .int .i64 0, .int .i64 0, .int .i64 0, .bool false, .bool false] h2 fun t6 h3 =>
WR h3 8 t6 t8 fun h4 =>
FADDR 1 t5 fun t10 =>
RD1 h4 t10 fun t11 =>
NILC x0 fun t12 =>
FADDR 8 t12 fun t13 =>
IADDRA 8 1 t13 t11 fun t14 =>
RD1 h4 t14 fun t15 =>
FADDR 2 t5 fun t16 =>
RD1 h4 t16 fun t17 =>
FADDR 0 t5 fun t18 =>
RD1 h4 t18 fun t19 =>
FADDR 2 t6 fun t20 =>
WR h4 1 t20 t15 fun h5 =>
(RD1 h5 t18 fun v => v = t19) ∧
(RD1 h5 t16 fun v => v = t17) ∧
FADDR 4 t6 fun t21 =>
WR h5 1 t21 t17 fun h6 =>
(RD1 h6 t18 fun v => v = t19) ∧
FADDR 6 t6 fun t22 =>
WR h6 1 t22 t19 fun h7 =>
RDN h7 8 t6 fun t24 =>
HT P 28 [x0, t24] h7 fun t25 h8 =>
NILC x0 fun t27 =>
FADDR 7 t27 fun t28 =>
RD1 h8 t28 fun t29 =>
FADDR 1 t5 fun t30 =>
RD1 h8 t30 fun t31 =>
IADDR 1 t29 t31 fun t32 =>
RD1 h8 t32 fun t33 =>
FADDR 0 t5 fun t34 =>
RD1 h8 t34 fun t35 =>
FADDR 2 t5 fun t37 =>
RD1 h8 t37 fun t38 =>
BUILD [.int .i64 0, .int .i64 0, .int .i64 0] [((0, 1), x1), ((1, 1), (int (-1))), ((2, 1), t38)] fun t39 =>
HT P 74 [t33, t35, t39] h8 fun t40 h9 =>
NILC x0 fun t42 =>
FADDR 6 t42 fun t43 =>
RD1 h9 t43 fun t44 =>
HT P 75 [t44, x1] h9 fun t46 h10 =>
R (.tuple #[]) h10
theorem u53 {x0 x1 x2 : Value} {h : Heap} {R : Value → Heap → Prop} (k : W53 x0 x1 x2 h R) : HT P 53 [x0, x1, x2] h R :=
  HT.print mixed Tok (n := 47) (H := []) (rs := []) Go.Proofs.Tryz.func53 (by kernel_rfl) (by kernel_rfl) (by kernel_rfl) (by kernel_rfl) rfl (by kernel_rfl) k

/-- (*staithe/loom.Loom).shut -/
def W54 (x0 x1 x2 : Value) (h : Heap) (R : Value → Heap → Prop) : Prop :=
NILC x0 fun t21 =>
FADDR 7 t21 fun t22 =>
RD1 h t22 fun t23 =>
IADDR 1 t23 x2 fun t25 =>
RD1 h t25 fun t26 =>
HT P 76 [t26] h fun t27 h1 =>
EXT t27 0 fun t28 =>
EXT t27 1 fun t29 =>
EXT t27 2 fun t30 =>
binW .neq t30 (int 0) fun t32 =>
COND t32 (
HT P 29 [(int 12), x1] h1 fun t35 h2 =>
HT P 28 [x0, t35] h2 fun t36 h3 =>
R (.bool false) h3) (
HT P 29 [(int 5), x1] h1 fun t38 h4 =>
NEW 34 [.int .i64 0, .int .i64 0, .int .i64 0, .int .i64 0, .int .i64 0, .int .i64 0, .bool false, .bool false] h4 fun t10 h5 =>
WR h5 8 t10 t38 fun h6 =>
NILC x0 fun t41 =>
FADDR 8 t41 fun t42 =>
IADDRA 8 1 t42 x2 fun t43 =>
RD1 h6 t43 fun t44 =>
FADDR 2 t10 fun t45 =>
WR h6 1 t45 t44 fun h7 =>
RDN h7 8 t10 fun t47 =>
HT P 28 [x0, t47] h7 fun t48 h8 =>
NILC x0 fun t50 =>
FADDR 6 t50 fun t51 =>
RD1 h8 t51 fun t52 =>
HT P 58 [t52, x1] h8 fun t54 h9 =>
LEN t28 fun t56 =>
LP 1 (fun I => I (int 0) h9) fun L t57_1 h10 =>
∀ _ : Env, binW .lss t57_1 t56 fun t58 =>
COND t58 (
JN 0 (fun J =>
IADDR 3 t28 t57_1 fun t59 =>
RDN h10 3 t59 fun t60 =>
NEW 122 [.int .i64 0, .int .i64 0, .int .i64 0] h10 fun t12 h11 =>
WR h11 3 t12 t60 fun h12 =>
NILC x0 fun t63 =>
FADDR 6 t63 fun t64 =>
RD1 h12 t64 fun t65 =>
FADDR 0 t12 fun t66 =>
RD1 h12 t66 fun t67 =>
HT P 77 [t65, t67] h12 fun t68 h13 =>
EXT t68 0 fun t69 =>
EXT t68 1 fun t70 =>
binW .eql t69 (int 1) fun t72 =>
COND t72 (
FADDR 0 t12 fun t74 =>
RD1 h13 t74 fun t75 =>
FADDR 2 t10 fun t76 =>
RD1 h13 t76 fun t77 =>
FADDR 1 t12 fun t78 =>
RD1 h13 t78 fun t79 =>
BUILD [.int .i64 0, .int .i64 0, .int .i64 0, .int .i64 0, .int .i64 0, .int .i64 0, .bool false, .bool false] [((1, 1), t75), ((2, 1), t77), ((3, 1), t79), ((5, 1), x1)] fun t81 =>
HT P 73 [x0, t81] h13 fun t82 h14 =>
J h14) (
J h13)) fun h15 =>
∀ _ : Env, binW .add t57_1 (int 1) fun t83 =>
L t83 h15) (
LEN t29 fun t85 =>
LP 1 (fun I_1 => I_1 (int 0) h10) fun L_1 t86_1 h16 =>
∀ _ : Env, binW .lss t86_1 t85 fun t87 =>
COND t87 (
IADDR 3 t29 t86_1 fun t88 =>
RDN h16 3 t88 fun t89 =>
NEW 122 [.int .i64 0, .int .i64 0, .int .i64 0] h16 fun t16 h17 =>
WR h17 3 t16 t89 fun h18 =>
NILC x0 fun t92 =>
FADDR 6 t92 fun t93 =>
RD1 h18 t93 fun t94 =>
FADDR 0 t16 fun t95 =>
RD1 h18 t95 fun t96 =>
HT P 77 [t94, t96] h18 fun t97 h19 =>
EXT t97 0 fun t98 =>
EXT t97 1 fun t99 =>
binW .eql t98 (int 1) fun t101 =>
COND t101 (
FADDR 0 t16 fun t103 =>
RD1 h19 t103 fun t104 =>
HT P 29 [(int 12), t104] h19 fun t105 h20 =>
HT P 28 [x0, t105] h20 fun t106 h21 =>
R (.bool false) h21) (
binW .add t86_1 (int 1) fun t107 =>
L_1 t107 h19)) (
R (.bool true) h16)))
theorem u54 {x0 x1 x2 : Value} {h : Heap} {R : Value → Heap → Prop} (k : W54 x0 x1 x2 h R) : HT P 54 [x0, x1, x2] h R :=
  HT.print mixed Tok (n := 108) (H := [(2042, [57]), (16339, []), (4090, [86])]) (rs := [.tmp 6]) Go.Proofs.Tryz.func54 (by kernel_rfl) (by kernel_rfl) (by kernel_rfl) (by kernel_rfl) rfl (by kernel_rfl) k

/-- (*staithe/loom.Loom).choose -/
def W55 (x0 x1 x2 : Value) (h : Heap) (R : Value → Heap → Prop) : Prop :=
BOX 39 x2 h fun t5 h1 =>
FADDR 3 t5 fun t11 =>
RD1 h1 t11 fun t12 =>
NILC x0 fun t14 =>
FADDR 7 t14 fun t15 =>
RD1 h1 t15 fun t16 =>
HT P 78 [t12, t16] h1 fun t17 h2 =>
LEN t17 fun t20 =>
binW .gtr t20 (int 0) fun t21 =>
COND t21 (
NILC x0 fun t24 =>
FADDR 5 t24 fun t25 =>
RD1 h2 t25 fun t26 =>
LEN t17 fun t28 =>
HT P 79 [t26, t28] h2 fun t29 h3 =>
EXT t29 0 fun t30 =>
EXT t29 1 fun t31 =>
FADDR 3 t5 fun t34 =>
RD1 h3 t34 fun t35 =>
IADDR 1 t17 t30 fun t38 =>
RD1 h3 t38 fun t39 =>
IADDR 3 t35 t39 fun t40 =>
RDN h3 3 t40 fun t41 =>
IADDR 1 t17 t30 fun t44 =>
RD1 h3 t44 fun t45 =>
HT P 52 [x0, x1, t41, t45] h3 fun t46 h4 =>
R t46 h4) (
FADDR 4 t5 fun t48 =>
RD1 h2 t48 fun t49 =>
COND t49 (
HT P 29 [(int 8), x1] h2 fun t52 h5 =>
HT P 28 [x0, t52] h5 fun t53 h6 =>
NILC x0 fun t55 =>
FADDR 6 t55 fun t56 =>
RD1 h6 t56 fun t57 =>
HT P 58 [t57, x1] h6 fun t59 h7 =>
R (.bool true) h7) (
HT P 29 [(int 6), x1] h2 fun t61 h8 =>
NEW 34 [.int .i64 0, .int .i64 0, .int .i64 0, .int .i64 0, .int .i64 0, .int .i64 0, .bool false, .bool false] h8 fun t10 h9 =>
WR h9 8 t10 t61 fun h10 =>
FADDR 3 t5 fun t62 =>
RD1 h10 t62 fun t63 =>
LEN t63 fun t64 =>
FADDR 3 t10 fun t65 =>
WR h10 1 t65 t64 fun h11 =>
FADDR 4 t10 fun t66 =>
WR h11 1 t66 (int 0) fun h12 =>
RDN h12 8 t10 fun t68 =>
HT P 28 [x0, t68] h12 fun t69 h13 =>
FADDR 3 t5 fun t71 =>
RD1 h13 t71 fun t72 =>
NILC x0 fun t74 =>
FADDR 7 t74 fun t75 =>
RD1 h13 t75 fun t76 =>
HT P 80 [x1, t72, t76] h13 fun t77 h14 =>
NILC x0 fun t79 =>
FADDR 6 t79 fun t80 =>
RD1 h14 t80 fun t81 =>
HT P 75 [t81, x1] h14 fun t83 h15 =>
R (.bool true) h15))
theorem u55 {x0 x1 x2 : Value} {h : Heap} {R : Value → Heap → Prop} (k : W55 x0 x1 x2 h R) : HT P 55 [x0, x1, x2] h R :=
  HT.print mixed Tok (n := 84) (H := []) (rs := [.tmp 6]) Go.Proofs.Tryz.func55 (by kernel_rfl) (by kernel_rfl) (by kernel_rfl) (by kernel_rfl) rfl (by kernel_rfl) k

/-- staithe/pipe.New -/
def W56 (x0 : Value) (h : Heap) (R : Value → Heap → Prop) : Prop :=
HT P 81 [x0] h fun t8 h1 =>
EXT t8 0 fun t9 =>
EXT t8 1 fun t10 =>
binW .neq t10 (int 0) fun t12 =>
COND t12 (
R (.tuple #[(.pointer none), t10]) h1) (
HT P 82 [] h1 fun t15 h2 =>
HT P 82 [] h2 fun t16 h3 =>
BUILD [.pointer none, .pointer none, .pointer none, .bool false, .int .i64 0, .int .i64 0] [((0, 1), t9), ((1, 1), t15), ((2, 1), t16)] fun t17 =>
BOX 120 t17 h3 fun t18 h4 =>
R (.tuple #[t18, (int 0)]) h4)
theorem u56 {x0 : Value} {h : Heap} {R : Value → Heap → Prop} (k : W56 x0 h R) : HT P 56 [x0] h R :=
  HT.print mixed Tok (n := 19) (H := []) (rs := [.tmp 2, .tmp 3]) Go.Proofs.Tryz.func56 (by kernel_rfl) (by kernel_rfl) (by kernel_rfl) (by kernel_rfl) rfl (by kernel_rfl) k

/-- (*staithe/crew.Crew).Exit -/
def W57 (x0 x1 : Value) (h : Heap) (R : Value → Heap → Prop) : Prop :=
HT P 83 [x0, x1, (int 0), (int 2), (int 0)] h fun t7 h1 =>
R t7 h1
theorem u57 {x0 x1 : Value} {h : Heap} {R : Value → Heap → Prop} (k : W57 x0 x1 h R) : HT P 57 [x0, x1] h R :=
  HT.print mixed Tok (n := 8) (H := []) (rs := [.tmp 4]) Go.Proofs.Tryz.func57 (by kernel_rfl) (by kernel_rfl) (by kernel_rfl) (by kernel_rfl) rfl (by kernel_rfl) k

/-- (*staithe/crew.Crew).Go -/
def W58 (x0 x1 : Value) (h : Heap) (R : Value → Heap → Prop) : Prop :=
HT P 83 [x0, x1, (int 0), (int 0), (int 1)] h fun t7 h1 =>
R t7 h1
theorem u58 {x0 x1 : Value} {h : Heap} {R : Value → Heap → Prop} (k : W58 x0 x1 h R) : HT P 58 [x0, x1] h R :=
  HT.print mixed Tok (n := 8) (H := []) (rs := [.tmp 4]) Go.Proofs.Tryz.func58 (by kernel_rfl) (by kernel_rfl) (by kernel_rfl) (by kernel_rfl) rfl (by kernel_rfl) k

/-- slices.ContainsFunc[[][]staithe/api.Op,[]staithe/api.Op] -/
def W59 (x0 x1 : Value) (h : Heap) (R : Value → Heap → Prop) : Prop :=
HT P 84 [x0, x1] h fun t7 h1 =>
binW .geq t7 (int 0) fun t8 =>
R t8 h1
theorem u59 {x0 x1 : Value} {h : Heap} {R : Value → Heap → Prop} (k : W59 x0 x1 h R) : HT P 59 [x0, x1] h R :=
  HT.print mixed Tok (n := 9) (H := []) (rs := [.tmp 4]) Go.Proofs.Tryz.func59 (by kernel_rfl) (by kernel_rfl) (by kernel_rfl) (by kernel_rfl) rfl (by kernel_rfl) k

/-- staithe/sheet.long$1 -/
def W60 (x0 : Value) (h : Heap) (R : Value → Heap → Prop) : Prop :=
LEN x0 fun t4 =>
binW .gtr t4 (int 32) fun t5 =>
R t5 h
theorem u60 {x0 : Value} {h : Heap} {R : Value → Heap → Prop} (k : W60 x0 h R) : HT P 60 [x0] h R :=
  HT.print mixed Tok (n := 6) (H := []) (rs := [.tmp 2]) Go.Proofs.Tryz.func60 (by kernel_rfl) (by kernel_rfl) (by kernel_rfl) (by kernel_rfl) rfl (by kernel_rfl) k

/-- staithe/sheet.outside$1 -/
def W61 (x0 x1 x2 : Value) (h : Heap) (R : Value → Heap → Prop) : Prop :=
JN 1 (fun J =>
RD1 h x1 fun t6 =>
binW .lss x0 t6 fun t7 =>
GD t7 false h (fun K => K x0 h) fun t9 h1 =>
GD t7 false h1 (fun K_1 => RD1 h1 x2 fun v => K_1 v h1) fun t10 h2 =>
GD t7 false h2 (fun K_2 => binW .gtr t9 t10 fun v => K_2 v h2) fun t11 h3 =>
PICK t7 (.bool true) t11 fun t12 =>
J t12 h3) fun t4_2 h4 =>
∀ _ : Env, R t4_2 h4
theorem u61 {x0 x1 x2 : Value} {h : Heap} {R : Value → Heap → Prop} (k : W61 x0 x1 x2 h R) : HT P 61 [x0, x1, x2] h R :=
  HT.print mixed Tok (n := 13) (H := [(3, [4])]) (rs := [.tmp 4]) Go.Proofs.Tryz.func61 (by kernel_rfl) (by kernel_rfl) (by kernel_rfl) (by kernel_rfl) rfl (by kernel_rfl) k

/-- staithe/deed.limits -/
def W62 (x0 x1 : Value) (h : Heap) (R : Value → Heap → Prop) : Prop :=
JN 2 (fun J =>
JN 1 (fun J_1 =>
binW .eql x0 (int 1) fun t8 =>
COND t8 (
J x1 (int 0) h) (
binW .eql x0 (int 2) fun t10 =>
COND t10 (
J_1 (int 5) h) (
binW .eql x0 (int 4) fun t12 =>
COND t12 (
COND t12 (
J_1 (int 0) h) (
binW .eql x0 (int 3) fun t15 =>
COND t15 (
J (int 8) (int 100) h) (
binW .eql x0 (int 7) fun t17 =>
COND t17 (
COND t17 (
J (int 8) (int 0) h) (
J (int 0) (int 0) h)) (
binW .eql x0 (int 8) fun t18 =>
COND t18 (
J (int 8) (int 0) h) (
J (int 0) (int 0) h))))) (
binW .eql x0 (int 5) fun t13 =>
COND t13 (
J_1 (int 0) h) (
binW .eql x0 (int 3) fun t15_1 =>
COND t15_1 (
J (int 8) (int 100) h) (
binW .eql x0 (int 7) fun t17_1 =>
COND t17_1 (
COND t17_1 (
J (int 8) (int 0) h) (
J (int 0) (int 0) h)) (
binW .eql x0 (int 8) fun t18_1 =>
COND t18_1 (
J (int 8) (int 0) h) (
J (int 0) (int 0) h)))))))) fun t5_4 h1 =>
∀ _ : Env, J (int 8) t5_4 h1) fun t4_9 t5_5 h2 =>
∀ _ : Env, R (.tuple #[t4_9, t5_5]) h2
theorem u62 {x0 x1 : Value} {h : Heap} {R : Value → Heap → Prop} (k : W62 x0 x1 h R) : HT P 62 [x0, x1] h R :=
  HT.print mixed Tok (n := 22) (H := [(3, [4, 5]), (416, [5])]) (rs := [.tmp 4, .tmp 5]) Go.Proofs.Tryz.func62 (by kernel_rfl) (by kernel_rfl) (by kernel_rfl) (by kernel_rfl) rfl (by kernel_rfl) k

/-- staithe/deed.fits -/
def W63 (x0 x1 : Value) (h : Heap) (R : Value → Heap → Prop) : Prop :=
MX2 (int 1) x1 fun t7 =>
HT P 64 [x0, t7] h fun t8 h1 =>
R t8 h1
theorem u63 {x0 x1 : Value} {h : Heap} {R : Value → Heap → Prop} (k : W63 x0 x1 h R) : HT P 63 [x0, x1] h R :=
  HT.print mixed Tok (n := 9) (H := []) (rs := [.tmp 4]) Go.Proofs.Tryz.func63 (by kernel_rfl) (by kernel_rfl) (by kernel_rfl) (by kernel_rfl) rfl (by kernel_rfl) k

/-- staithe/deed.below -/
def W64 (x0 x1 : Value) (h : Heap) (R : Value → Heap → Prop) : Prop :=
JN 1 (fun J =>
binW .geq x0 (int 0) fun t6 =>
GD t6 true h (fun K => K x0 h) fun t8 h1 =>
GD t6 true h1 (fun K_1 => K_1 x1 h1) fun t9 h2 =>
GD t6 true h2 (fun K_2 => binW .lss t8 t9 fun v => K_2 v h2) fun t10 h3 =>
PICK t6 t10 (.bool false) fun t11 =>
J t11 h3) fun t4_2 h4 =>
∀ _ : Env, R t4_2 h4
theorem u64 {x0 x1 : Value} {h : Heap} {R : Value → Heap → Prop} (k : W64 x0 x1 h R) : HT P 64 [x0, x1] h R :=
  HT.print mixed Tok (n := 12) (H := [(3, [4])]) (rs := [.tmp 4]) Go.Proofs.Tryz.func64 (by kernel_rfl) (by kernel_rfl) (by kernel_rfl) (by kernel_rfl) rfl (by kernel_rfl) k

/-- (*staithe/crew.Crew).Len -/
def W65 (x0 : Value) (h : Heap) (R : Value → Heap → Prop) : Prop :=
EQP false x0 (.pointer none) fun t4 =>
COND t4 (
R (int 0) h) (
NILC x0 fun t6 =>
FADDR 0 t6 fun t7 =>
RD1 h t7 fun t8 =>
LEN t8 fun t9 =>
R t9 h)
theorem u65 {x0 : Value} {h : Heap} {R : Value → Heap → Prop} (k : W65 x0 h R) : HT P 65 [x0] h R :=
  HT.print mixed Tok (n := 10) (H := []) (rs := [.tmp 2]) Go.Proofs.Tryz.func65 (by kernel_rfl) (by kernel_rfl) (by kernel_rfl) (by kernel_rfl) rfl (by kernel_rfl) k

/-- staithe/pick.Of -/
def W66 (x0 x1 : Value) (h : Heap) (R : Value → Heap → Prop) : Prop :=
binW .lss x0 (int 0) fun t8 =>
COND t8 (
R (.tuple #[(int 0), (int 1)]) h) (
LEN x1 fun t11 =>
binW .eql t11 (int 0) fun t12 =>
COND t12 (
R (.tuple #[(int 0), (int 6)]) h) (
LEN x1 fun t16 =>
binW .rem x0 t16 fun t17 =>
IADDR 1 x1 t17 fun t18 =>
RD1 h t18 fun t19 =>
R (.tuple #[t19, (int 0)]) h))
theorem u66 {x0 x1 : Value} {h : Heap} {R : Value → Heap → Prop} (k : W66 x0 x1 h R) : HT P 66 [x0, x1] h R :=
  HT.print mixed Tok (n := 20) (H := []) (rs := [.tmp 4, .tmp 5]) Go.Proofs.Tryz.func66 (by kernel_rfl) (by kernel_rfl) (by kernel_rfl) (by kernel_rfl) rfl (by kernel_rfl) k

/-- (*staithe/crew.Crew).At -/
def W67 (x0 x1 : Value) (h : Heap) (R : Value → Heap → Prop) : Prop :=
HT P 85 [x0, x1] h fun t10 h1 =>
EQP false t10 (.pointer none) fun t12 =>
COND t12 (
R (.tuple #[(int 0), (int 0), (.bool false)]) h1) (
NILC t10 fun t14 =>
FADDR 0 t14 fun t15 =>
RD1 h1 t15 fun t16 =>
NILC t10 fun t18 =>
FADDR 1 t18 fun t19 =>
RD1 h1 t19 fun t20 =>
R (.tuple #[t16, t20, (.bool true)]) h1)
theorem u67 {x0 x1 : Value} {h : Heap} {R : Value → Heap → Prop} (k : W67 x0 x1 h R) : HT P 67 [x0, x1] h R :=
  HT.print mixed Tok (n := 21) (H := []) (rs := [.tmp 4, .tmp 5, .tmp 6]) Go.Proofs.Tryz.func67 (by kernel_rfl) (by kernel_rfl) (by kernel_rfl) (by kernel_rfl) rfl (by kernel_rfl) k

/-- (*staithe/pipe.Pipe).pew -/
def W68 (x0 x1 : Value) (h : Heap) (R : Value → Heap → Prop) : Prop :=
EQP false x0 (.pointer none) fun t6 =>
COND t6 (
R (.pointer none) h) (
COND x1 (
NILC x0 fun t9 =>
FADDR 1 t9 fun t10 =>
RD1 h t10 fun t11 =>
R t11 h) (
NILC x0 fun t13 =>
FADDR 2 t13 fun t14 =>
RD1 h t14 fun t15 =>
R t15 h))
theorem u68 {x0 x1 : Value} {h : Heap} {R : Value → Heap → Prop} (k : W68 x0 x1 h R) : HT P 68 [x0, x1] h R :=
  HT.print mixed Tok (n := 16) (H := []) (rs := [.tmp 4]) Go.Proofs.Tryz.func68 (by kernel_rfl) (by kernel_rfl) (by kernel_rfl) (by kernel_rfl) rfl (by kernel_rfl) k

/-- (*staithe/pew.Pew).Len -/
def W69 (x0 : Value) (h : Heap) (R : Value → Heap → Prop) : Prop :=
EQP false x0 (.pointer none) fun t4 =>
COND t4 (
R (int 0) h) (
NILC x0 fun t6 =>
FADDR 2 t6 fun t7 =>
RD1 h t7 fun t8 =>
R t8 h)
theorem u69 {x0 : Value} {h : Heap} {R : Value → Heap → Prop} (k : W69 x0 h R) : HT P 69 [x0] h R :=
  HT.print mixed Tok (n := 9) (H := []) (rs := [.tmp 2]) Go.Proofs.Tryz.func69 (by kernel_rfl) (by kernel_rfl) (by kernel_rfl) (by kernel_rfl) rfl (by kernel_rfl) k

/-- (*staithe/pipe.Pipe).Len -/
def W70 (x0 : Value) (h : Heap) (R : Value → Heap → Prop) : Prop :=
EQP false x0 (.pointer none) fun t4 =>
COND t4 (
R (int 0) h) (
NILC x0 fun t6 =>
FADDR 0 t6 fun t7 =>
RD1 h t7 fun t8 =>
HT P 86 [t8] h fun t9 h1 =>
R t9 h1)
theorem u70 {x0 : Value} {h : Heap} {R : Value → Heap → Prop} (k : W70 x0 h R) : HT P 70 [x0] h R :=
  HT.print mixed Tok (n := 10) (H := []) (rs := [.tmp 2]) Go.Proofs.Tryz.func70 (by kernel_rfl) (by kernel_rfl) (by kernel_rfl) (by kernel_rfl) rfl (by kernel_rfl) k

/-- (*staithe/pipe.Pipe).Cap -/
def W71 (x0 : Value) (h : Heap) (R : Value → Heap → Prop) : Prop :=
EQP false x0 (.pointer none) fun t4 =>
COND t4 (
R (int 0) h) (
NILC x0 fun t6 =>
FADDR 0 t6 fun t7 =>
RD1 h t7 fun t8 =>
HT P 87 [t8] h fun t9 h1 =>
R t9 h1)
theorem u71 {x0 : Value} {h : Heap} {R : Value → Heap → Prop} (k : W71 x0 h R) : HT P 71 [x0] h R :=
  HT.print mixed Tok (n := 10) (H := []) (rs := [.tmp 2]) Go.Proofs.Tryz.func71 (by kernel_rfl) (by kernel_rfl) (by kernel_rfl) (by kernel_rfl) rfl (by kernel_rfl) k

/-- staithe/fork.Try -/
def W72 (x0 x1 : Value) (h : Heap) (R : Value → Heap → Prop) : Prop :=
BOX 52 x0 h fun t2 h1 =>
NEW 124 [.bool false, .bool false, .bool false, .int .i64 0, .int .i64 0, .int .i64 0, .int .i64 0] h1 fun t4 h2 =>
FADDR 1 t2 fun t8 =>
RD1 h2 t8 fun t9 =>
HT P 88 [x1, t9] h2 fun t10 h3 =>
FADDR 0 t2 fun t11 =>
RD1 h3 t11 fun t12 =>
COND t12 (
FADDR 2 t2 fun t14 =>
RD1 h3 t14 fun t15 =>
HT P 89 [t10, t15] h3 fun t16 h4 =>
EXT t16 0 fun t17 =>
EXT t16 1 fun t18 =>
WR h4 7 t4 t17 fun h5 =>
RDN h5 7 t4 fun r =>
R (.tuple #[r, t18]) h5) (
HT P 90 [t10] h3 fun t20 h6 =>
WR h6 7 t4 t20 fun h7 =>
RDN h7 7 t4 fun r_1 =>
R (.tuple #[r_1, (int 0)]) h7)
theorem u72 {x0 x1 : Value} {h : Heap} {R : Value → Heap → Prop} (k : W72 x0 x1 h R) : HT P 72 [x0, x1] h R :=
  HT.print mixed Tok (n := 21) (H := []) (rs := [.cell 4 true 7, .tmp 5]) Go.Proofs.Tryz.func72 (by kernel_rfl) (by kernel_rfl) (by kernel_rfl) (by kernel_rfl) rfl (by kernel_rfl) k

/-- (*staithe/loom.Loom).wake -/
def W73 (x0 x1 : Value) (h : Heap) (R : Value → Heap → Prop) : Prop :=
BOX 34 x1 h fun t3 h1 =>
FADDR 0 t3 fun t4 =>
WR h1 1 t4 (int 7) fun h2 =>
RDN h2 8 t3 fun t6 =>
HT P 28 [x0, t6] h2 fun t7 h3 =>
FADDR 1 t3 fun t8 =>
RD1 h3 t8 fun t9 =>
NILC x0 fun t11 =>
FADDR 16 t11 fun t12 =>
RD1 h3 t12 fun t13 =>
HT P 91 [t9, t13] h3 fun t14 h4 =>
NILC x0 fun t16 =>
FADDR 6 t16 fun t17 =>
RD1 h4 t17 fun t18 =>
FADDR 1 t3 fun t19 =>
RD1 h4 t19 fun t20 =>
HT P 92 [t18, t20] h4 fun t21 h5 =>
R (.tuple #[]) h5
theorem u73 {x0 x1 : Value} {h : Heap} {R : Value → Heap → Prop} (k : W73 x0 x1 h R) : HT P 73 [x0, x1] h R :=
  HT.print mixed Tok (n := 22) (H := []) (rs := []) Go.Proofs.Tryz.func73 (by kernel_rfl) (by kernel_rfl) (by kernel_rfl) (by kernel_rfl) rfl (by kernel_rfl) k

/-- (*staithe/pipe.Pipe).Wait -/
def W74 (x0 x1 x2 : Value) (h : Heap) (R : Value → Heap → Prop) : Prop :=
BOX 122 x2 h fun t5 h1 =>
EQP false x0 (.pointer none) fun t9 =>
COND t9 (
RDN h1 3 t5 fun t11 =>
HT P 82 [] h1 fun t10 h2 =>
(RDN h2 3 t5 fun v => v = t11) ∧
HT P 93 [t10, t11] h2 fun t12 h3 =>
R t12 h3) (
JN 1 (fun J =>
HT P 51 [x0, x1] h1 fun t16 h4 =>
GD t16 true h4 (fun K => K x0 h4) fun t18 h5 =>
GD t16 true h5 (fun K_1 => K_1 x1 h5) fun t19 h6 =>
GD t16 true h6 (fun K_2 => NOT t19 fun v => K_2 v h6) fun t20 h7 =>
GD t16 true h7 (fun K_3 => FADDR 0 t5 fun v => K_3 v h7) fun t21 h8 =>
GD t16 true h8 (fun K_4 => RD1 h8 t21 fun v => K_4 v h8) fun t22 h9 =>
GD t16 true h9 (fun K_5 => HT P 94 [t18, t20, t22] h9 K_5) fun t23 h10 =>
GD t16 true h10 (fun K_6 => NOT t23 fun v => K_6 v h10) fun t24 h11 =>
PICK t16 t24 (.bool false) fun t25 =>
J t25 h11) fun t13_1 h12 =>
∀ _ : Env, COND t13_1 (
R (int 7) h12) (
RDN h12 3 t5 fun t29 =>
HT P 68 [x0, x1] h12 fun t28 h13 =>
(RDN h13 3 t5 fun v => v = t29) ∧
HT P 93 [t28, t29] h13 fun t30 h14 =>
R t30 h14))
theorem u74 {x0 x1 x2 : Value} {h : Heap} {R : Value → Heap → Prop} (k : W74 x0 x1 x2 h R) : HT P 74 [x0, x1, x2] h R :=
  HT.print mixed Tok (n := 31) (H := [(51, [13])]) (rs := [.tmp 6]) Go.Proofs.Tryz.func74 (by kernel_rfl) (by kernel_rfl) (by kernel_rfl) (by kernel_rfl) rfl (by kernel_rfl) k

/-- (*staithe/crew.Crew).Park -/
def W75 (x0 x1 : Value) (h : Heap) (R : Value → Heap → Prop) : Prop :=
HT P 83 [x0, x1, (int 0), (int 1), (int 0)] h fun t7 h1 =>
R t7 h1
theorem u75 {x0 x1 : Value} {h : Heap} {R : Value → Heap → Prop} (k : W75 x0 x1 h R) : HT P 75 [x0, x1] h R :=
  HT.print mixed Tok (n := 8) (H := []) (rs := [.tmp 4]) Go.Proofs.Tryz.func75 (by kernel_rfl) (by kernel_rfl) (by kernel_rfl) (by kernel_rfl) rfl (by kernel_rfl) k

/-- (*staithe/pipe.Pipe).Close -/
def W76 (x0 : Value) (h : Heap) (R : Value → Heap → Prop) : Prop :=
EQP false x0 (.pointer none) fun t9 =>
COND t9 (
R (.tuple #[(.slice none 0 0), (.slice none 0 0), (int 6)]) h) (
NILC x0 fun t12 =>
FADDR 3 t12 fun t13 =>
RD1 h t13 fun t14 =>
COND t14 (
R (.tuple #[(.slice none 0 0), (.slice none 0 0), (int 90)]) h) (
NILC x0 fun t16 =>
FADDR 3 t16 fun t17 =>
WR h 1 t17 (.bool true) fun h1 =>
HT P 95 [x0, (.bool false)] h1 fun t19 h2 =>
HT P 95 [x0, (.bool true)] h2 fun t21 h3 =>
HT P 82 [] h3 fun t24 h4 =>
HT P 82 [] h4 fun t25 h5 =>
NILC x0 fun t26 =>
FADDR 2 t26 fun t27 =>
WR h5 1 t27 t24 fun h6 =>
NILC x0 fun t28 =>
FADDR 1 t28 fun t29 =>
WR h6 1 t29 t25 fun h7 =>
R (.tuple #[t19, t21, (int 0)]) h7))
theorem u76 {x0 : Value} {h : Heap} {R : Value → Heap → Prop} (k : W76 x0 h R) : HT P 76 [x0] h R :=
  HT.print mixed Tok (n := 32) (H := []) (rs := [.tmp 2, .tmp 3, .tmp 4]) Go.Proofs.Tryz.func76 (by kernel_rfl) (by kernel_rfl) (by kernel_rfl) (by kernel_rfl) rfl (by kernel_rfl) k

/-- (*staithe/crew.Crew).State -/
def W77 (x0 x1 : Value) (h : Heap) (R : Value → Heap → Prop) : Prop :=
HT P 85 [x0, x1] h fun t9 h1 =>
EQP false t9 (.pointer none) fun t11 =>
COND t11 (
R (.tuple #[(int 0), (.bool false)]) h1) (
NILC t9 fun t13 =>
FADDR 2 t13 fun t14 =>
RD1 h1 t14 fun t15 =>
R (.tuple #[t15, (.bool true)]) h1)
theorem u77 {x0 x1 : Value} {h : Heap} {R : Value → Heap → Prop} (k : W77 x0 x1 h R) : HT P 77 [x0, x1] h R :=
  HT.print mixed Tok (n := 16) (H := []) (rs := [.tmp 4, .tmp 5]) Go.Proofs.Tryz.func77 (by kernel_rfl) (by kernel_rfl) (by kernel_rfl) (by kernel_rfl) rfl (by kernel_rfl) k

/-- staithe/fork.Ready -/
def W78 (x0 x1 : Value) (h : Heap) (R : Value → Heap → Prop) : Prop :=
LEN x0 fun t8 =>
LP 2 (fun I => I (.slice none 0 0) (int 0) h) fun L t5_1 t9_1 h1 =>
∀ _ : Env, binW .lss t9_1 t8 fun t10 =>
COND t10 (
JN 1 (fun J =>
IADDR 3 x0 t9_1 fun t15 =>
FADDR 1 t15 fun t16 =>
RD1 h1 t16 fun t17 =>
IADDR 3 x0 t9_1 fun t21 =>
FADDR 0 t21 fun t22 =>
RD1 h1 t22 fun t23 =>
HT P 88 [x1, t17] h1 fun t18 h2 =>
(RD1 h2 t22 fun v => v = t23) ∧
HT P 51 [t18, t23] h2 fun t24 h3 =>
COND t24 (
ROW 3 [.int .i64 0] [((0, 1), t9_1)] 1 h3 fun t27 h4 =>
APP h4 3 1 8 [.int .i64 0] t5_1 t27 fun t28 h5 =>
J t28 h5) (
J t5_1 h3)) fun t5_3 h6 =>
∀ _ : Env, binW .add t9_1 (int 1) fun t29 =>
L t5_3 t29 h6) (
R t5_1 h1)
theorem u78 {x0 x1 : Value} {h : Heap} {R : Value → Heap → Prop} (k : W78 x0 x1 h R) : HT P 78 [x0, x1] h R :=
  HT.print mixed Tok (n := 31) (H := [(58, [5, 9]), (467, [5])]) (rs := [.tmp 4]) Go.Proofs.Tryz.func78 (by kernel_rfl) (by kernel_rfl) (by kernel_rfl) (by kernel_rfl) rfl (by kernel_rfl) k

/-- (*staithe/pick.Cursor).Draw -/
def W79 (x0 x1 : Value) (h : Heap) (R : Value → Heap → Prop) : Prop :=
JN 1 (fun J =>
binW .lss x1 (int 1) fun t10 =>
GD t10 false h (fun K => K x1 h) fun t12 h1 =>
GD t10 false h1 (fun K_1 => binW .gtr t12 (int 64) fun v => K_1 v h1) fun t13 h2 =>
PICK t10 (.bool true) t13 fun t14 =>
J t14 h2) fun t14_1 h3 =>
∀ _ : Env, COND t14_1 (
R (.tuple #[(int 0), (int 1)]) h3) (
JN 1 (fun J_1 =>
EQP false x0 (.pointer none) fun t16 =>
GD t16 false h3 (fun K_2 => K_2 x1 h3) fun t18 h4 =>
GD t16 false h4 (fun K_3 => binW .eql t18 (int 1) fun v => K_3 v h4) fun t19 h5 =>
PICK t16 (.bool true) t19 fun t20 =>
J_1 t20 h5) fun t20_1 h6 =>
∀ _ : Env, COND t20_1 (
R (.tuple #[(int 0), (int 0)]) h6) (
NILC x0 fun t22 =>
FADDR 1 t22 fun t23 =>
HT P 50 [t23] h6 fun t27 h7 =>
EXT t27 0 fun t28 =>
EXT t27 1 fun t29 =>
binW .rem t28 x1 fun t32 =>
R (.tuple #[t32, (int 0)]) h7))
theorem u79 {x0 x1 : Value} {h : Heap} {R : Value → Heap → Prop} (k : W79 x0 x1 h R) : HT P 79 [x0, x1] h R :=
  HT.print mixed Tok (n := 33) (H := [(6, [14]), (14, [20])]) (rs := [.tmp 4, .tmp 5]) Go.Proofs.Tryz.func79 (by kernel_rfl) (by kernel_rfl) (by kernel_rfl) (by kernel_rfl) rfl (by kernel_rfl) k

/-- staithe/fork.Park -/
def W80 (x0 x1 x2 : Value) (h : Heap) (R : Value → Heap → Prop) : Prop :=
JN 1 (fun J =>
binW .lss x0 (int 0) fun t13 =>
GD t13 false h (fun K => K x1 h) fun t15 h1 =>
GD t13 false h1 (fun K_1 => LEN t15 fun v => K_1 v h1) fun t16 h2 =>
GD t13 false h2 (fun K_2 => binW .gtr t16 (int 4) fun v => K_2 v h2) fun t17 h3 =>
PICK t13 (.bool true) t17 fun t18 =>
J t18 h3) fun t18_1 h4 =>
∀ _ : Env, COND t18_1 (
R (.tuple #[(int 0), (int 1)]) h4) (
HT P 78 [x1, x2] h4 fun t21 h5 =>
LEN t21 fun t22 =>
binW .gtr t22 (int 0) fun t23 =>
COND t23 (
R (.tuple #[(int 0), (int 7)]) h5) (
LEN x1 fun t25 =>
LP 2 (fun I => I (int 0) (int 0) h5) fun L t8_1 t26_1 h6 =>
∀ _ : Env, binW .lss t26_1 t25 fun t27 =>
COND t27 (
JN 1 (fun J_1 =>
IADDR 3 x1 t26_1 fun t31 =>
RDN h6 3 t31 fun t32 =>
NEW 52 [.bool false, .int .i64 0, .int .i64 0] h6 fun t10 h7 =>
WR h7 3 t10 t32 fun h8 =>
FADDR 1 t10 fun t34 =>
RD1 h8 t34 fun t35 =>
HT P 88 [x2, t35] h8 fun t36 h9 =>
EQP false t36 (.pointer none) fun t38 =>
COND t38 (
J_1 t8_1 h9) (
FADDR 0 t10 fun t40 =>
RD1 h9 t40 fun t41 =>
FADDR 2 t10 fun t44 =>
RD1 h9 t44 fun t45 =>
BUILD [.int .i64 0, .int .i64 0, .int .i64 0] [((0, 1), x0), ((1, 1), t26_1), ((2, 1), t45)] fun t46 =>
HT P 74 [t36, t41, t46] h9 fun t47 h10 =>
binW .eql t47 (int 0) fun t48 =>
COND t48 (
binW .add t8_1 (int 1) fun t50 =>
J_1 t50 h10) (
J_1 t8_1 h10))) fun t8_3 h11 =>
∀ _ : Env, binW .add t26_1 (int 1) fun t51 =>
L t8_3 t51 h11) (
R (.tuple #[t8_1, (int 0)]) h6)))
theorem u80 {x0 x1 x2 : Value} {h : Heap} {R : Value → Heap → Prop} (k : W80 x0 x1 x2 h R) : HT P 80 [x0, x1, x2] h R :=
  HT.print mixed Tok (n := 53) (H := [(6, [18]), (250, [8, 26]), (2003, [8])]) (rs := [.tmp 6, .tmp 7]) Go.Proofs.Tryz.func80 (by kernel_rfl) (by kernel_rfl) (by kernel_rfl) (by kernel_rfl) rfl (by kernel_rfl) k

/-- staithe/ring.New -/
def W81 (x0 : Value) (h : Heap) (R : Value → Heap → Prop) : Prop :=
JN 1 (fun J =>
binW .lss x0 (int 0) fun t5 =>
GD t5 false h (fun K => K x0 h) fun t7 h1 =>
GD t5 false h1 (fun K_1 => binW .gtr t7 (int 4) fun v => K_1 v h1) fun t8 h2 =>
PICK t5 (.bool true) t8 fun t9 =>
J t9 h2) fun t9_1 h3 =>
∀ _ : Env, COND t9_1 (
R (.tuple #[(.pointer none), (int 1)]) h3) (
BUILD [.int .i64 0, .int .i64 0, .int .i64 0, .int .i64 0, .int .i64 0, .int .i64 0, .int .i64 0] [((2, 1), x0)] fun t11 =>
BOX 153 t11 h3 fun t12 h4 =>
R (.tuple #[t12, (int 0)]) h4)
theorem u81 {x0 : Value} {h : Heap} {R : Value → Heap → Prop} (k : W81 x0 h R) : HT P 81 [x0] h R :=
  HT.print mixed Tok (n := 13) (H := [(6, [9])]) (rs := [.tmp 2, .tmp 3]) Go.Proofs.Tryz.func81 (by kernel_rfl) (by kernel_rfl) (by kernel_rfl) (by kernel_rfl) rfl (by kernel_rfl) k

/-- staithe/pew.New -/
def W82 (h : Heap) (R : Value → Heap → Prop) : Prop :=
BUILD [.pointer none, .pointer none, .int .i64 0] [] fun t1 =>
BOX 143 t1 h fun t2 h1 =>
R t2 h1
theorem u82 {h : Heap} {R : Value → Heap → Prop} (k : W82  h R) : HT P 82 [] h R :=
  HT.print mixed Tok (n := 3) (H := []) (rs := [.tmp 0]) Go.Proofs.Tryz.func82 (by kernel_rfl) (by kernel_rfl) (by kernel_rfl) (by kernel_rfl) rfl (by kernel_rfl) k

/-- (*staithe/crew.Crew).turn -/
def W83 (x0 x1 x2 x3 x4 : Value) (h : Heap) (R : Value → Heap → Prop) : Prop :=
HT P 85 [x0, x1] h fun t14 h1 =>
EQP false t14 (.pointer none) fun t17 =>
COND t17 (
R (int 6) h1) (
NILC t14 fun t20 =>
FADDR 2 t20 fun t21 =>
RD1 h1 t21 fun t22 =>
binW .neq t22 x2 fun t24 =>
COND t24 (
R (int 7) h1) (
NILC t14 fun t27 =>
FADDR 2 t27 fun t28 =>
WR h1 1 t28 x3 fun h2 =>
NILC t14 fun t30 =>
FADDR 1 t30 fun t31 =>
RD1 h2 t31 fun t32 =>
binW .add t32 x4 fun t34 =>
NILC t14 fun t35 =>
FADDR 1 t35 fun t36 =>
WR h2 1 t36 t34 fun h3 =>
R (int 0) h3))
theorem u83 {x0 x1 x2 x3 x4 : Value} {h : Heap} {R : Value → Heap → Prop} (k : W83 x0 x1 x2 x3 x4 h R) : HT P 83 [x0, x1, x2, x3, x4] h R :=
  HT.print mixed Tok (n := 37) (H := []) (rs := [.tmp 10]) Go.Proofs.Tryz.func83 (by kernel_rfl) (by kernel_rfl) (by kernel_rfl) (by kernel_rfl) rfl (by kernel_rfl) k

/-- slices.IndexFunc[[][]staithe/api.Op,[]staithe/api.Op] -/
def W84 (x0 x1 : Value) (h : Heap) (R : Value → Heap → Prop) : Prop :=
LEN x0 fun t7 =>
LP 1 (fun I => I (int 0) h) fun L t8_1 h1 =>
∀ _ : Env, binW .lss t8_1 t7 fun t9 =>
COND t9 (
IADDR 1 x0 t8_1 fun t14 =>
RD1 h1 t14 fun t15 =>
CALLV P x1 [t15] h1 fun t16 h2 =>
COND t16 (
R t8_1 h2) (
binW .add t8_1 (int 1) fun t18 =>
L t18 h2)) (
R (int (-1)) h1)
theorem u84 {x0 x1 : Value} {h : Heap} {R : Value → Heap → Prop} (k : W84 x0 x1 h R) : HT P 84 [x0, x1] h R :=
  HT.print mixed Tok (n := 19) (H := [(26, [8])]) (rs := [.tmp 4]) Go.Proofs.Tryz.func84 (by kernel_rfl) (by kernel_rfl) (by kernel_rfl) (by kernel_rfl) rfl (by kernel_rfl) k

/-- (*staithe/crew.Crew).of -/
def W85 (x0 x1 : Value) (h : Heap) (R : Value → Heap → Prop) : Prop :=
JN 1 (fun J =>
binW .lss x1 (int 0) fun t6 =>
GD t6 false h (fun K => K x1 h) fun t8 h1 =>
GD t6 false h1 (fun K_1 => K_1 x0 h1) fun t9 h2 =>
GD t6 false h2 (fun K_2 => HT P 65 [t9] h2 K_2) fun t10 h3 =>
GD t6 false h3 (fun K_3 => binW .geq t8 t10 fun v => K_3 v h3) fun t11 h4 =>
PICK t6 (.bool true) t11 fun t12 =>
J t12 h4) fun t12_1 h5 =>
∀ _ : Env, COND t12_1 (
R (.pointer none) h5) (
NILC x0 fun t14 =>
FADDR 0 t14 fun t15 =>
RD1 h5 t15 fun t16 =>
IADDR 3 t16 x1 fun t18 =>
R t18 h5)
theorem u85 {x0 x1 : Value} {h : Heap} {R : Value → Heap → Prop} (k : W85 x0 x1 h R) : HT P 85 [x0, x1] h R :=
  HT.print mixed Tok (n := 19) (H := [(6, [12])]) (rs := [.tmp 4]) Go.Proofs.Tryz.func85 (by kernel_rfl) (by kernel_rfl) (by kernel_rfl) (by kernel_rfl) rfl (by kernel_rfl) k

/-- (*staithe/ring.Ring).Len -/
def W86 (x0 : Value) (h : Heap) (R : Value → Heap → Prop) : Prop :=
EQP false x0 (.pointer none) fun t4 =>
COND t4 (
R (int 0) h) (
NILC x0 fun t6 =>
FADDR 1 t6 fun t7 =>
RD1 h t7 fun t8 =>
R t8 h)
theorem u86 {x0 : Value} {h : Heap} {R : Value → Heap → Prop} (k : W86 x0 h R) : HT P 86 [x0] h R :=
  HT.print mixed Tok (n := 9) (H := []) (rs := [.tmp 2]) Go.Proofs.Tryz.func86 (by kernel_rfl) (by kernel_rfl) (by kernel_rfl) (by kernel_rfl) rfl (by kernel_rfl) k

/-- (*staithe/ring.Ring).Cap -/
def W87 (x0 : Value) (h : Heap) (R : Value → Heap → Prop) : Prop :=
EQP false x0 (.pointer none) fun t4 =>
COND t4 (
R (int 0) h) (
NILC x0 fun t6 =>
FADDR 2 t6 fun t7 =>
RD1 h t7 fun t8 =>
R t8 h)
theorem u87 {x0 : Value} {h : Heap} {R : Value → Heap → Prop} (k : W87 x0 h R) : HT P 87 [x0] h R :=
  HT.print mixed Tok (n := 9) (H := []) (rs := [.tmp 2]) Go.Proofs.Tryz.func87 (by kernel_rfl) (by kernel_rfl) (by kernel_rfl) (by kernel_rfl) rfl (by kernel_rfl) k

/-- staithe/fork.named -/
def W88 (x0 x1 : Value) (h : Heap) (R : Value → Heap → Prop) : Prop :=
JN 1 (fun J =>
binW .lss x1 (int 0) fun t6 =>
GD t6 false h (fun K => K x1 h) fun t8 h1 =>
GD t6 false h1 (fun K_1 => K_1 x0 h1) fun t9 h2 =>
GD t6 false h2 (fun K_2 => LEN t9 fun v => K_2 v h2) fun t10 h3 =>
GD t6 false h3 (fun K_3 => binW .geq t8 t10 fun v => K_3 v h3) fun t11 h4 =>
PICK t6 (.bool true) t11 fun t12 =>
J t12 h4) fun t12_1 h5 =>
∀ _ : Env, COND t12_1 (
R (.pointer none) h5) (
IADDR 1 x0 x1 fun t15 =>
RD1 h5 t15 fun t16 =>
R t16 h5)
theorem u88 {x0 x1 : Value} {h : Heap} {R : Value → Heap → Prop} (k : W88 x0 x1 h R) : HT P 88 [x0, x1] h R :=
  HT.print mixed Tok (n := 17) (H := [(6, [12])]) (rs := [.tmp 4]) Go.Proofs.Tryz.func88 (by kernel_rfl) (by kernel_rfl) (by kernel_rfl) (by kernel_rfl) rfl (by kernel_rfl) k

/-- (*staithe/pipe.Pipe).Send -/
def W89 (x0 x1 : Value) (h : Heap) (R : Value → Heap → Prop) : Prop :=
NEW 124 [.bool false, .bool false, .bool false, .int .i64 0, .int .i64 0, .int .i64 0, .int .i64 0] h fun t4 h1 =>
HT P 96 [x0] h1 fun t10 h2 =>
COND t10 (
BUILD [.bool false, .bool false, .bool false, .int .i64 0, .int .i64 0, .int .i64 0, .int .i64 0] [] fun t11 =>
WR h2 7 t4 t11 fun h3 =>
RDN h3 7 t4 fun r =>
R (.tuple #[r, (int 90)]) h3) (
HT P 51 [x0, (.bool true)] h2 fun t14 h4 =>
NOT t14 fun t15 =>
COND t15 (
BUILD [.bool false, .bool false, .bool false, .int .i64 0, .int .i64 0, .int .i64 0, .int .i64 0] [] fun t16 =>
WR h4 7 t4 t16 fun h5 =>
RDN h5 7 t4 fun r_1 =>
R (.tuple #[r_1, (int 0)]) h5) (
NILC x0 fun t18 =>
FADDR 4 t18 fun t19 =>
RD1 h4 t19 fun t20 =>
binW .add t20 (int 1) fun t21 =>
NILC x0 fun t22 =>
FADDR 4 t22 fun t23 =>
WR h4 1 t23 t21 fun h6 =>
NILC x0 fun t26 =>
FADDR 2 t26 fun t27 =>
RD1 h6 t27 fun t28 =>
HT P 97 [t28] h6 fun t29 h7 =>
EXT t29 0 fun t30 =>
EXT t29 1 fun t31 =>
NEW 122 [.int .i64 0, .int .i64 0, .int .i64 0] h7 fun t6 h8 =>
WR h8 3 t6 t30 fun h9 =>
COND t31 (
NILC x0 fun t34 =>
FADDR 5 t34 fun t35 =>
RD1 h9 t35 fun t36 =>
binW .add t36 (int 1) fun t37 =>
NILC x0 fun t38 =>
FADDR 5 t38 fun t39 =>
WR h9 1 t39 t37 fun h10 =>
RDN h10 3 t6 fun t40 =>
BUILD [.bool false, .bool false, .bool false, .int .i64 0, .int .i64 0, .int .i64 0, .int .i64 0] [((0, 1), (.bool true)), ((2, 1), (.bool true)), ((4, 3), t40)] fun t41 =>
WR h10 7 t4 t41 fun h11 =>
RDN h11 7 t4 fun r_2 =>
R (.tuple #[r_2, (int 0)]) h11) (
BUILD [.bool false, .bool false, .bool false, .int .i64 0, .int .i64 0, .int .i64 0, .int .i64 0] [((0, 1), (.bool true))] fun t42 =>
NILC x0 fun t44 =>
FADDR 0 t44 fun t45 =>
RD1 h9 t45 fun t46 =>
HT P 98 [t46, x1] h9 fun t48 h12 =>
WR h12 7 t4 t42 fun h13 =>
RDN h13 7 t4 fun r_3 =>
R (.tuple #[r_3, t48]) h13)))
theorem u89 {x0 x1 : Value} {h : Heap} {R : Value → Heap → Prop} (k : W89 x0 x1 h R) : HT P 89 [x0, x1] h R :=
  HT.print mixed Tok (n := 49) (H := []) (rs := [.cell 4 true 7, .tmp 5]) Go.Proofs.Tryz.func89 (by kernel_rfl) (by kernel_rfl) (by kernel_rfl) (by kernel_rfl) rfl (by kernel_rfl) k

/-- (*staithe/pipe.Pipe).Recv -/
def W90 (x0 : Value) (h : Heap) (R : Value → Heap → Prop) : Prop :=
BOX 101 x0 h fun t1 h1 =>
NEW 124 [.bool false, .bool false, .bool false, .int .i64 0, .int .i64 0, .int .i64 0, .int .i64 0] h1 fun t2 h2 =>
RD1 h2 t1 fun t5 =>
HT P 51 [t5, (.bool false)] h2 fun t6 h3 =>
NOT t6 fun t7 =>
COND t7 (
BUILD [.bool false, .bool false, .bool false, .int .i64 0, .int .i64 0, .int .i64 0, .int .i64 0] [] fun t8 =>
WR h3 7 t2 t8 fun h4 =>
RDN h4 7 t2 fun r =>
R r h4) (
BUILD [.bool false, .bool false, .bool false, .int .i64 0, .int .i64 0, .int .i64 0, .int .i64 0] [((0, 1), (.bool true))] fun t9 =>
NEW 124 [.bool false, .bool false, .bool false, .int .i64 0, .int .i64 0, .int .i64 0, .int .i64 0] h3 fun t3 h5 =>
WR h5 7 t3 t9 fun h6 =>
JN 0 (fun J =>
RD1 h6 t1 fun t12 =>
HT P 70 [t12] h6 fun t13 h7 =>
binW .gtr t13 (int 0) fun t14 =>
COND t14 (
HT P 99 [(.func (.func 100) [].toArray [t1, t3].toArray), t3, t1] h7 fun t17 h8 =>
J h8) (
RD1 h7 t1 fun t19 =>
NILC t19 fun t20 =>
FADDR 1 t20 fun t21 =>
RD1 h7 t21 fun t22 =>
HT P 69 [t22] h7 fun t23 h9 =>
binW .gtr t23 (int 0) fun t24 =>
COND t24 (
HT P 99 [(fnv 102), t3, t1] h9 fun t26 h10 =>
J h10) (
J h9))) fun h11 =>
∀ _ : Env, RDN h11 7 t3 fun t27 =>
WR h11 7 t2 t27 fun h12 =>
RDN h12 7 t2 fun r_1 =>
R r_1 h12)
theorem u90 {x0 : Value} {h : Heap} {R : Value → Heap → Prop} (k : W90 x0 h R) : HT P 90 [x0] h R :=
  HT.print mixed Tok (n := 28) (H := [(31, [])]) (rs := [.cell 2 true 7]) Go.Proofs.Tryz.func90 (by kernel_rfl) (by kernel_rfl) (by kernel_rfl) (by kernel_rfl) rfl (by kernel_rfl) k

/-- staithe/fork.Leave -/
def W91 (x0 x1 : Value) (h : Heap) (R : Value → Heap → Prop) : Prop :=
LEN x1 fun t8 =>
LP 2 (fun I => I (int 0) (int 0) h) fun L t5_1 t9_1 h1 =>
∀ _ : Env, binW .lss t9_1 t8 fun t10 =>
COND t10 (
IADDR 1 x1 t9_1 fun t15 =>
RD1 h1 t15 fun t16 =>
HT P 103 [t16, x0] h1 fun t18 h2 =>
binW .add t5_1 t18 fun t19 =>
binW .add t9_1 (int 1) fun t20 =>
L t19 t20 h2) (
R t5_1 h1)
theorem u91 {x0 x1 : Value} {h : Heap} {R : Value → Heap → Prop} (k : W91 x0 x1 h R) : HT P 91 [x0, x1] h R :=
  HT.print mixed Tok (n := 22) (H := [(58, [5, 9])]) (rs := [.tmp 4]) Go.Proofs.Tryz.func91 (by kernel_rfl) (by kernel_rfl) (by kernel_rfl) (by kernel_rfl) rfl (by kernel_rfl) k

/-- (*staithe/crew.Crew).Wake -/
def W92 (x0 x1 : Value) (h : Heap) (R : Value → Heap → Prop) : Prop :=
HT P 83 [x0, x1, (int 1), (int 0), (int 1)] h fun t7 h1 =>
R t7 h1
theorem u92 {x0 x1 : Value} {h : Heap} {R : Value → Heap → Prop} (k : W92 x0 x1 h R) : HT P 92 [x0, x1] h R :=
  HT.print mixed Tok (n := 8) (H := []) (rs := [.tmp 4]) Go.Proofs.Tryz.func92 (by kernel_rfl) (by kernel_rfl) (by kernel_rfl) (by kernel_rfl) rfl (by kernel_rfl) k

/-- (*staithe/pew.Pew).Add -/
def W93 (x0 x1 : Value) (h : Heap) (R : Value → Heap → Prop) : Prop :=
BOX 122 x1 h fun t3 h1 =>
JN 1 (fun J =>
FADDR 0 t3 fun t7 =>
RD1 h1 t7 fun t8 =>
binW .lss t8 (int 0) fun t9 =>
GD t9 false h1 (fun K => FADDR 1 t3 fun v => K v h1) fun t11 h2 =>
GD t9 false h2 (fun K_1 => RD1 h2 t11 fun v => K_1 v h2) fun t12 h3 =>
GD t9 false h3 (fun K_2 => binW .lss t12 (int (-1)) fun v => K_2 v h3) fun t13 h4 =>
PICK t9 (.bool true) t13 fun t14 =>
J t14 h4) fun t6_1 h5 =>
∀ _ : Env, COND t6_1 (
R (int 1) h5) (
EQP false x0 (.pointer none) fun t17 =>
COND t17 (
R (int 7) h5) (
NILC x0 fun t20 =>
FADDR 2 t20 fun t21 =>
RD1 h5 t21 fun t22 =>
binW .eql t22 (int 1024) fun t23 =>
COND t23 (
R (int 5) h5) (
RDN h5 3 t3 fun t24 =>
BUILD [.int .i64 0, .int .i64 0, .int .i64 0, .pointer none] [((0, 3), t24)] fun t25 =>
BOX 159 t25 h5 fun t26 h6 =>
JN 0 (fun J_1 =>
NILC x0 fun t28 =>
FADDR 1 t28 fun t29 =>
RD1 h6 t29 fun t30 =>
EQP false t30 (.pointer none) fun t31 =>
COND t31 (
NILC x0 fun t34 =>
FADDR 0 t34 fun t35 =>
WR h6 1 t35 t26 fun h7 =>
J_1 h7) (
NILC x0 fun t37 =>
FADDR 1 t37 fun t38 =>
RD1 h6 t38 fun t39 =>
NILC t39 fun t41 =>
FADDR 3 t41 fun t42 =>
WR h6 1 t42 t26 fun h8 =>
J_1 h8)) fun h9 =>
∀ _ : Env, NILC x0 fun t45 =>
FADDR 1 t45 fun t46 =>
WR h9 1 t46 t26 fun h10 =>
NILC x0 fun t48 =>
FADDR 2 t48 fun t49 =>
RD1 h10 t49 fun t50 =>
binW .add t50 (int 1) fun t51 =>
NILC x0 fun t52 =>
FADDR 2 t52 fun t53 =>
WR h10 1 t53 t51 fun h11 =>
R (int 0) h11)))
theorem u93 {x0 x1 : Value} {h : Heap} {R : Value → Heap → Prop} (k : W93 x0 x1 h R) : HT P 93 [x0, x1] h R :=
  HT.print mixed Tok (n := 54) (H := [(12, [6]), (15, [])]) (rs := [.tmp 4]) Go.Proofs.Tryz.func93 (by kernel_rfl) (by kernel_rfl) (by kernel_rfl) (by kernel_rfl) rfl (by kernel_rfl) k

/-- (*staithe/pipe.Pipe).alone -/
def W94 (x0 x1 x2 : Value) (h : Heap) (R : Value → Heap → Prop) : Prop :=
BOX 3 x2 h fun t5 h1 =>
NEW 160 [.nilFunc] h1 fun t7 h2 =>
WR h2 1 t7 (.func (.func 104) [].toArray [t5].toArray) fun h3 =>
HT P 95 [x0, x1] h3 fun t12 h4 =>
JN 1 (fun J =>
LEN t12 fun t14 =>
binW .gtr t14 (int 0) fun t15 =>
GD t15 true h4 (fun K => K x0 h4) fun t17 h5 =>
GD t15 true h5 (fun K_1 => NILC t17 fun v => K_1 v h5) fun t18 h6 =>
GD t15 true h6 (fun K_2 => FADDR 3 t18 fun v => K_2 v h6) fun t19 h7 =>
GD t15 true h7 (fun K_3 => RD1 h7 t19 fun v => K_3 v h7) fun t20 h8 =>
GD t15 true h8 (fun K_4 => NOT t20 fun v => K_4 v h8) fun t21 h9 =>
PICK t15 t21 (.bool false) fun t22 =>
GD t22 true h9 (fun K_5 => K_5 x0 h9) fun t24 h10 =>
GD t22 true h10 (fun K_6 => HT P 71 [t24] h10 K_6) fun t25 h11 =>
GD t22 true h11 (fun K_7 => binW .eql t25 (int 0) fun v => K_7 v h11) fun t26 h12 =>
PICK t22 t26 (.bool false) fun t27 =>
GD t27 true h12 (fun K_8 => K_8 t12 h12) fun t29 h13 =>
GD t27 true h13 (fun K_9 => K_9 (.func (.func 106) [].toArray [t7].toArray) h13) fun t30 h14 =>
GD t27 true h14 (fun K_10 => HT P 105 [t29, t30] h14 K_10) fun t31 h15 =>
GD t27 true h15 (fun K_11 => NOT t31 fun v => K_11 v h15) fun t32 h16 =>
PICK t27 t32 (.bool false) fun t33 =>
J t33 h16) fun t6_2 h17 =>
∀ _ : Env, R t6_2 h17
theorem u94 {x0 x1 x2 : Value} {h : Heap} {R : Value → Heap → Prop} (k : W94 x0 x1 x2 h R) : HT P 94 [x0, x1, x2] h R :=
  HT.print mixed Tok (n := 34) (H := [(15, [6])]) (rs := [.tmp 6]) Go.Proofs.Tryz.func94 (by kernel_rfl) (by kernel_rfl) (by kernel_rfl) (by kernel_rfl) rfl (by kernel_rfl) k

/-- (*staithe/pipe.Pipe).Waiting -/
def W95 (x0 x1 : Value) (h : Heap) (R : Value → Heap → Prop) : Prop :=
HT P 68 [x0, x1] h fun t7 h1 =>
HT P 107 [t7] h1 fun t8 h2 =>
R t8 h2
theorem u95 {x0 x1 : Value} {h : Heap} {R : Value → Heap → Prop} (k : W95 x0 x1 h R) : HT P 95 [x0, x1] h R :=
  HT.print mixed Tok (n := 9) (H := []) (rs := [.tmp 4]) Go.Proofs.Tryz.func95 (by kernel_rfl) (by kernel_rfl) (by kernel_rfl) (by kernel_rfl) rfl (by kernel_rfl) k

/-- (*staithe/pipe.Pipe).Closed -/
def W96 (x0 : Value) (h : Heap) (R : Value → Heap → Prop) : Prop :=
JN 1 (fun J =>
EQP true x0 (.pointer none) fun t4 =>
GD t4 true h (fun K => K x0 h) fun t6 h1 =>
GD t4 true h1 (fun K_1 => NILC t6 fun v => K_1 v h1) fun t7 h2 =>
GD t4 true h2 (fun K_2 => FADDR 3 t7 fun v => K_2 v h2) fun t8 h3 =>
GD t4 true h3 (fun K_3 => RD1 h3 t8 fun v => K_3 v h3) fun t9 h4 =>
PICK t4 t9 (.bool false) fun t10 =>
J t10 h4) fun t2_2 h5 =>
∀ _ : Env, R t2_2 h5
theorem u96 {x0 : Value} {h : Heap} {R : Value → Heap → Prop} (k : W96 x0 h R) : HT P 96 [x0] h R :=
  HT.print mixed Tok (n := 11) (H := [(3, [2])]) (rs := [.tmp 2]) Go.Proofs.Tryz.func96 (by kernel_rfl) (by kernel_rfl) (by kernel_rfl) (by kernel_rfl) rfl (by kernel_rfl) k

/-- (*staithe/pew.Pew).Take -/
def W97 (x0 : Value) (h : Heap) (R : Value → Heap → Prop) : Prop :=
NEW 122 [.int .i64 0, .int .i64 0, .int .i64 0] h fun t2 h1 =>
HT P 108 [x0] h1 fun t8 h2 =>
EXT t8 0 fun t9 =>
EXT t8 1 fun t10 =>
NEW 122 [.int .i64 0, .int .i64 0, .int .i64 0] h2 fun t4 h3 =>
WR h3 3 t4 t9 fun h4 =>
JN 0 (fun J =>
COND t10 (
NILC x0 fun t14 =>
FADDR 0 t14 fun t15 =>
RD1 h4 t15 fun t16 =>
NILC t16 fun t17 =>
FADDR 3 t17 fun t18 =>
RD1 h4 t18 fun t19 =>
NILC x0 fun t20 =>
FADDR 0 t20 fun t21 =>
WR h4 1 t21 t19 fun h5 =>
NILC x0 fun t23 =>
FADDR 2 t23 fun t24 =>
RD1 h5 t24 fun t25 =>
binW .sub t25 (int 1) fun t26 =>
NILC x0 fun t27 =>
FADDR 2 t27 fun t28 =>
WR h5 1 t28 t26 fun h6 =>
NILC x0 fun t30 =>
FADDR 0 t30 fun t31 =>
RD1 h6 t31 fun t32 =>
EQP false t32 (.pointer none) fun t33 =>
COND t33 (
NILC x0 fun t35 =>
FADDR 1 t35 fun t36 =>
WR h6 1 t36 (.pointer none) fun h7 =>
J h7) (
J h6)) (
J h4)) fun h8 =>
∀ _ : Env, RDN h8 3 t4 fun t37 =>
WR h8 3 t2 t37 fun h9 =>
RDN h9 3 t2 fun r =>
R (.tuple #[r, t10]) h9
theorem u97 {x0 : Value} {h : Heap} {R : Value → Heap → Prop} (k : W97 x0 h R) : HT P 97 [x0] h R :=
  HT.print mixed Tok (n := 39) (H := [(7, [])]) (rs := [.cell 2 true 3, .tmp 3]) Go.Proofs.Tryz.func97 (by kernel_rfl) (by kernel_rfl) (by kernel_rfl) (by kernel_rfl) rfl (by kernel_rfl) k

/-- (*staithe/ring.Ring).Push -/
def W98 (x0 x1 : Value) (h : Heap) (R : Value → Heap → Prop) : Prop :=
HT P 86 [x0] h fun t6 h1 =>
HT P 87 [x0] h1 fun t8 h2 =>
binW .eql t6 t8 fun t9 =>
COND t9 (
R (int 5) h2) (
NILC x0 fun t12 =>
FADDR 0 t12 fun t13 =>
RD1 h2 t13 fun t14 =>
NILC x0 fun t16 =>
FADDR 1 t16 fun t17 =>
RD1 h2 t17 fun t18 =>
binW .add t14 t18 fun t19 =>
NILC x0 fun t21 =>
FADDR 2 t21 fun t22 =>
RD1 h2 t22 fun t23 =>
binW .rem t19 t23 fun t24 =>
NILC x0 fun t26 =>
FADDR 3 t26 fun t27 =>
IADDRA 4 1 t27 t24 fun t28 =>
WR h2 1 t28 x1 fun h3 =>
NILC x0 fun t30 =>
FADDR 1 t30 fun t31 =>
RD1 h3 t31 fun t32 =>
binW .add t32 (int 1) fun t33 =>
NILC x0 fun t34 =>
FADDR 1 t34 fun t35 =>
WR h3 1 t35 t33 fun h4 =>
R (int 0) h4)
theorem u98 {x0 x1 : Value} {h : Heap} {R : Value → Heap → Prop} (k : W98 x0 x1 h R) : HT P 98 [x0, x1] h R :=
  HT.print mixed Tok (n := 36) (H := []) (rs := [.tmp 4]) Go.Proofs.Tryz.func98 (by kernel_rfl) (by kernel_rfl) (by kernel_rfl) (by kernel_rfl) rfl (by kernel_rfl) k

/-- (*staithe/pipe.Pipe).Recv$1 -/
def W99 (x0 x1 x2 : Value) (h : Heap) (R : Value → Heap → Prop) : Prop :=
FADDR 1 x1 fun t4 =>
WR h 1 t4 (.bool true) fun h1 =>
RD1 h1 x2 fun t5 =>
NILC t5 fun t6 =>
FADDR 5 t6 fun t7 =>
RD1 h1 t7 fun t8 =>
binW .add t8 (int 1) fun t9 =>
NILC t5 fun t10 =>
FADDR 5 t10 fun t11 =>
WR h1 1 t11 t9 fun h2 =>
JN 0 (fun J =>
RD1 h2 x2 fun t13 =>
NILC t13 fun t14 =>
FADDR 1 t14 fun t15 =>
RD1 h2 t15 fun t16 =>
HT P 97 [t16] h2 fun t17 h3 =>
EXT t17 0 fun t18 =>
EXT t17 1 fun t19 =>
FADDR 4 x1 fun t20 =>
WR h3 3 t20 t18 fun h4 =>
FADDR 2 x1 fun t21 =>
WR h4 1 t21 t19 fun h5 =>
FADDR 2 x1 fun t22 =>
RD1 h5 t22 fun t23 =>
COND t23 (
RD1 h5 x2 fun t24 =>
NILC t24 fun t25 =>
FADDR 4 t25 fun t26 =>
RD1 h5 t26 fun t27 =>
binW .add t27 (int 1) fun t28 =>
NILC t24 fun t29 =>
FADDR 4 t29 fun t30 =>
WR h5 1 t30 t28 fun h6 =>
J h6) (
J h5)) fun h7 =>
∀ _ : Env, FADDR 4 x1 fun t32 =>
FADDR 2 t32 fun t33 =>
RD1 h7 t33 fun t34 =>
CALLV P x0 [t34] h7 fun t35 h8 =>
FADDR 3 x1 fun t36 =>
WR h8 1 t36 t35 fun h9 =>
R (.tuple #[]) h9
theorem u99 {x0 x1 x2 : Value} {h : Heap} {R : Value → Heap → Prop} (k : W99 x0 x1 x2 h R) : HT P 99 [x0, x1, x2] h R :=
  HT.print mixed Tok (n := 37) (H := [(7, [])]) (rs := []) Go.Proofs.Tryz.func99 (by kernel_rfl) (by kernel_rfl) (by kernel_rfl) (by kernel_rfl) rfl (by kernel_rfl) k

/-- (*staithe/pipe.Pipe).Recv$2 -/
def W100 (x0 x1 x2 : Value) (h : Heap) (R : Value → Heap → Prop) : Prop :=
RD1 h x1 fun t8 =>
NILC t8 fun t9 =>
FADDR 0 t9 fun t10 =>
RD1 h t10 fun t11 =>
HT P 101 [t11] h fun t12 h1 =>
EXT t12 0 fun t13 =>
EXT t12 1 fun t14 =>
JN 0 (fun J =>
FADDR 2 x2 fun t15 =>
RD1 h1 t15 fun t16 =>
COND t16 (
RD1 h1 x1 fun t17 =>
NILC t17 fun t18 =>
FADDR 0 t18 fun t19 =>
RD1 h1 t19 fun t20 =>
HT P 98 [t20, x0] h1 fun t22 h2 =>
J h2) (
J h1)) fun h3 =>
∀ _ : Env, R t13 h3
theorem u100 {x0 x1 x2 : Value} {h : Heap} {R : Value → Heap → Prop} (k : W100 x0 x1 x2 h R) : HT P 100 [x0, x1, x2] h R :=
  HT.print mixed Tok (n := 24) (H := [(7, [])]) (rs := [.tmp 4]) Go.Proofs.Tryz.func100 (by kernel_rfl) (by kernel_rfl) (by kernel_rfl) (by kernel_rfl) rfl (by kernel_rfl) k

/-- (*staithe/ring.Ring).Pop -/
def W101 (x0 : Value) (h : Heap) (R : Value → Heap → Prop) : Prop :=
HT P 109 [x0, (int 0)] h fun t8 h1 =>
EXT t8 0 fun t9 =>
EXT t8 1 fun t10 =>
JN 0 (fun J =>
binW .eql t10 (int 0) fun t12 =>
COND t12 (
NILC x0 fun t15 =>
FADDR 0 t15 fun t16 =>
RD1 h1 t16 fun t17 =>
binW .add t17 (int 1) fun t18 =>
NILC x0 fun t20 =>
FADDR 2 t20 fun t21 =>
RD1 h1 t21 fun t22 =>
binW .rem t18 t22 fun t23 =>
NILC x0 fun t24 =>
FADDR 0 t24 fun t25 =>
WR h1 1 t25 t23 fun h2 =>
NILC x0 fun t27 =>
FADDR 1 t27 fun t28 =>
RD1 h2 t28 fun t29 =>
binW .sub t29 (int 1) fun t30 =>
NILC x0 fun t31 =>
FADDR 1 t31 fun t32 =>
WR h2 1 t32 t30 fun h3 =>
J h3) (
J h1)) fun h4 =>
∀ _ : Env, R (.tuple #[t9, t10]) h4
theorem u101 {x0 : Value} {h : Heap} {R : Value → Heap → Prop} (k : W101 x0 h R) : HT P 101 [x0] h R :=
  HT.print mixed Tok (n := 35) (H := [(7, [])]) (rs := [.tmp 2, .tmp 3]) Go.Proofs.Tryz.func101 (by kernel_rfl) (by kernel_rfl) (by kernel_rfl) (by kernel_rfl) rfl (by kernel_rfl) k

/-- (*staithe/pipe.Pipe).Recv$3 -/
def W102 (x0 : Value) (h : Heap) (R : Value → Heap → Prop) : Prop :=
R x0 h
theorem u102 {x0 : Value} {h : Heap} {R : Value → Heap → Prop} (k : W102 x0 h R) : HT P 102 [x0] h R :=
  HT.print mixed Tok (n := 4) (H := []) (rs := [.tmp 2]) Go.Proofs.Tryz.func102 (by kernel_rfl) (by kernel_rfl) (by kernel_rfl) (by kernel_rfl) rfl (by kernel_rfl) k

/-- (*staithe/pipe.Pipe).Drop -/
def W103 (x0 x1 : Value) (h : Heap) (R : Value → Heap → Prop) : Prop :=
HT P 68 [x0, (.bool true)] h fun t6 h1 =>
HT P 110 [t6, x1] h1 fun t8 h2 =>
HT P 68 [x0, (.bool false)] h2 fun t10 h3 =>
HT P 110 [t10, x1] h3 fun t12 h4 =>
binW .add t8 t12 fun t13 =>
R t13 h4
theorem u103 {x0 x1 : Value} {h : Heap} {R : Value → Heap → Prop} (k : W103 x0 x1 h R) : HT P 103 [x0, x1] h R :=
  HT.print mixed Tok (n := 14) (H := []) (rs := [.tmp 4]) Go.Proofs.Tryz.func103 (by kernel_rfl) (by kernel_rfl) (by kernel_rfl) (by kernel_rfl) rfl (by kernel_rfl) k

/-- (*staithe/pipe.Pipe).alone$1 -/
def W104 (x0 x1 : Value) (h : Heap) (R : Value → Heap → Prop) : Prop :=
BOX 122 x0 h fun t2 h1 =>
FADDR 0 t2 fun t4 =>
RD1 h1 t4 fun t5 =>
RD1 h1 x1 fun t6 =>
binW .eql t5 t6 fun t7 =>
R t7 h1
theorem u104 {x0 x1 : Value} {h : Heap} {R : Value → Heap → Prop} (k : W104 x0 x1 h R) : HT P 104 [x0, x1] h R :=
  HT.print mixed Tok (n := 8) (H := []) (rs := [.tmp 3]) Go.Proofs.Tryz.func104 (by kernel_rfl) (by kernel_rfl) (by kernel_rfl) (by kernel_rfl) rfl (by kernel_rfl) k

/-- slices.ContainsFunc[[]staithe/pew.Waiter,staithe/pew.Waiter] -/
def W105 (x0 x1 : Value) (h : Heap) (R : Value → Heap → Prop) : Prop :=
HT P 111 [x0, x1] h fun t7 h1 =>
binW .geq t7 (int 0) fun t8 =>
R t8 h1
theorem u105 {x0 x1 : Value} {h : Heap} {R : Value → Heap → Prop} (k : W105 x0 x1 h R) : HT P 105 [x0, x1] h R :=
  HT.print mixed Tok (n := 9) (H := []) (rs := [.tmp 4]) Go.Proofs.Tryz.func105 (by kernel_rfl) (by kernel_rfl) (by kernel_rfl) (by kernel_rfl) rfl (by kernel_rfl) k

/-- (*staithe/pipe.Pipe).alone$2 -/
def W106 (x0 x1 : Value) (h : Heap) (R : Value → Heap → Prop) : Prop :=
BOX 122 x0 h fun t2 h1 =>
RD1 h1 x1 fun t4 =>
RDN h1 3 t2 fun t5 =>
CALLV P t4 [t5] h1 fun t6 h2 =>
NOT t6 fun t7 =>
R t7 h2
theorem u106 {x0 x1 : Value} {h : Heap} {R : Value → Heap → Prop} (k : W106 x0 x1 h R) : HT P 106 [x0, x1] h R :=
  HT.print mixed Tok (n := 8) (H := []) (rs := [.tmp 3]) Go.Proofs.Tryz.func106 (by kernel_rfl) (by kernel_rfl) (by kernel_rfl) (by kernel_rfl) rfl (by kernel_rfl) k

/-- (*staithe/pew.Pew).List -/
def W107 (x0 : Value) (h : Heap) (R : Value → Heap → Prop) : Prop :=
EQP false x0 (.pointer none) fun t6 =>
COND t6 (
R (.slice none 0 0) h) (
NILC x0 fun t9 =>
FADDR 0 t9 fun t10 =>
RD1 h t10 fun t11 =>
LP 2 (fun I => I (.slice none 0 0) t11 h) fun L t3_1 t4_1 h1 =>
∀ _ : Env, EQP true t4_1 (.pointer none) fun t13 =>
COND t13 (
NILC t4_1 fun t20 =>
FADDR 0 t20 fun t21 =>
RDN h1 3 t21 fun t22 =>
ROW 122 [.int .i64 0, .int .i64 0, .int .i64 0] [((0, 3), t22)] 1 h1 fun t23 h2 =>
APP h2 122 3 24 [.int .i64 0, .int .i64 0, .int .i64 0] t3_1 t23 fun t24 h3 =>
NILC t4_1 fun t15 =>
FADDR 3 t15 fun t16 =>
RD1 h3 t16 fun t17 =>
L t24 t17 h3) (
R t3_1 h1))
theorem u107 {x0 : Value} {h : Heap} {R : Value → Heap → Prop} (k : W107 x0 h R) : HT P 107 [x0] h R :=
  HT.print mixed Tok (n := 26) (H := [(122, [3, 4])]) (rs := [.tmp 2]) Go.Proofs.Tryz.func107 (by kernel_rfl) (by kernel_rfl) (by kernel_rfl) (by kernel_rfl) rfl (by kernel_rfl) k

/-- (*staithe/pew.Pew).First -/
def W108 (x0 : Value) (h : Heap) (R : Value → Heap → Prop) : Prop :=
NEW 122 [.int .i64 0, .int .i64 0, .int .i64 0] h fun t2 h1 =>
HT P 69 [x0] h1 fun t5 h2 =>
binW .eql t5 (int 0) fun t6 =>
COND t6 (
BUILD [.int .i64 0, .int .i64 0, .int .i64 0] [] fun t7 =>
WR h2 3 t2 t7 fun h3 =>
RDN h3 3 t2 fun r =>
R (.tuple #[r, (.bool false)]) h3) (
NILC x0 fun t9 =>
FADDR 0 t9 fun t10 =>
RD1 h2 t10 fun t11 =>
NILC t11 fun t12 =>
FADDR 0 t12 fun t13 =>
RDN h2 3 t13 fun t14 =>
WR h2 3 t2 t14 fun h4 =>
RDN h4 3 t2 fun r_1 =>
R (.tuple #[r_1, (.bool true)]) h4)
theorem u108 {x0 : Value} {h : Heap} {R : Value → Heap → Prop} (k : W108 x0 h R) : HT P 108 [x0] h R :=
  HT.print mixed Tok (n := 15) (H := []) (rs := [.cell 2 true 3, .tmp 3]) Go.Proofs.Tryz.func108 (by kernel_rfl) (by kernel_rfl) (by kernel_rfl) (by kernel_rfl) rfl (by kernel_rfl) k

/-- (*staithe/ring.Ring).At -/
def W109 (x0 x1 : Value) (h : Heap) (R : Value → Heap → Prop) : Prop :=
JN 1 (fun J =>
binW .lss x1 (int 0) fun t7 =>
GD t7 false h (fun K => K x1 h) fun t9 h1 =>
GD t7 false h1 (fun K_1 => K_1 x0 h1) fun t10 h2 =>
GD t7 false h2 (fun K_2 => HT P 86 [t10] h2 K_2) fun t11 h3 =>
GD t7 false h3 (fun K_3 => binW .geq t9 t11 fun v => K_3 v h3) fun t12 h4 =>
PICK t7 (.bool true) t12 fun t13 =>
J t13 h4) fun t13_1 h5 =>
∀ _ : Env, COND t13_1 (
R (.tuple #[(int 0), (int 6)]) h5) (
NILC x0 fun t16 =>
FADDR 0 t16 fun t17 =>
RD1 h5 t17 fun t18 =>
binW .add t18 x1 fun t20 =>
NILC x0 fun t22 =>
FADDR 2 t22 fun t23 =>
RD1 h5 t23 fun t24 =>
binW .rem t20 t24 fun t25 =>
NILC x0 fun t26 =>
FADDR 3 t26 fun t27 =>
IADDRA 4 1 t27 t25 fun t28 =>
RD1 h5 t28 fun t29 =>
R (.tuple #[t29, (int 0)]) h5)
theorem u109 {x0 x1 : Value} {h : Heap} {R : Value → Heap → Prop} (k : W109 x0 x1 h R) : HT P 109 [x0, x1] h R :=
  HT.print mixed Tok (n := 30) (H := [(6, [13])]) (rs := [.tmp 4, .tmp 5]) Go.Proofs.Tryz.func109 (by kernel_rfl) (by kernel_rfl) (by kernel_rfl) (by kernel_rfl) rfl (by kernel_rfl) k

/-- (*staithe/pew.Pew).Drop -/
def W110 (x0 x1 : Value) (h : Heap) (R : Value → Heap → Prop) : Prop :=
HT P 107 [x0] h fun t9 h1 =>
JN 0 (fun J =>
EQP true x0 (.pointer none) fun t11 =>
COND t11 (
BUILD [.pointer none, .pointer none, .int .i64 0] [] fun t13 =>
NILC x0 fun t14 =>
WR h1 3 t14 t13 fun h2 =>
J h2) (
J h1)) fun h3 =>
∀ _ : Env, LEN t9 fun t16 =>
LP 1 (fun I => I (int 0) h3) fun L t17_1 h4 =>
∀ _ : Env, binW .lss t17_1 t16 fun t18 =>
COND t18 (
JN 0 (fun J_1 =>
IADDR 3 t9 t17_1 fun t19 =>
RDN h4 3 t19 fun t20 =>
NEW 122 [.int .i64 0, .int .i64 0, .int .i64 0] h4 fun t7 h5 =>
WR h5 3 t7 t20 fun h6 =>
FADDR 0 t7 fun t21 =>
RD1 h6 t21 fun t22 =>
binW .neq t22 x1 fun t24 =>
COND t24 (
RDN h6 3 t7 fun t26 =>
HT P 93 [x0, t26] h6 fun t27 h7 =>
J_1 h7) (
J_1 h6)) fun h8 =>
∀ _ : Env, binW .add t17_1 (int 1) fun t28 =>
L t28 h8) (
LEN t9 fun t30 =>
HT P 69 [x0] h4 fun t32 h9 =>
binW .sub t30 t32 fun t33 =>
R t33 h9)
theorem u110 {x0 x1 : Value} {h : Heap} {R : Value → Heap → Prop} (k : W110 x0 x1 h R) : HT P 110 [x0, x1] h R :=
  HT.print mixed Tok (n := 34) (H := [(7, []), (122, [17]), (979, [])]) (rs := [.tmp 4]) Go.Proofs.Tryz.func110 (by kernel_rfl) (by kernel_rfl) (by kernel_rfl) (by kernel_rfl) rfl (by kernel_rfl) k

/-- slices.IndexFunc[[]staithe/pew.Waiter,staithe/pew.Waiter] -/
def W111 (x0 x1 : Value) (h : Heap) (R : Value → Heap → Prop) : Prop :=
LEN x0 fun t7 =>
LP 1 (fun I => I (int 0) h) fun L t8_1 h1 =>
∀ _ : Env, binW .lss t8_1 t7 fun t9 =>
COND t9 (
IADDR 3 x0 t8_1 fun t14 =>
RDN h1 3 t14 fun t15 =>
CALLV P x1 [t15] h1 fun t16 h2 =>
COND t16 (
R t8_1 h2) (
binW .add t8_1 (int 1) fun t18 =>
L t18 h2)) (
R (int (-1)) h1)
theorem u111 {x0 x1 : Value} {h : Heap} {R : Value → Heap → Prop} (k : W111 x0 x1 h R) : HT P 111 [x0, x1] h R :=
  HT.print mixed Tok (n := 19) (H := [(26, [8])]) (rs := [.tmp 4]) Go.Proofs.Tryz.func111 (by kernel_rfl) (by kernel_rfl) (by kernel_rfl) (by kernel_rfl) rfl (by kernel_rfl) k

end Go.Sl
