/- What is proved: at every archive row that the statement's guards let in, the rows of a key, and of keys, are the document's, so that the spec answers true.
Conditions: the call's arguments together hold at most 1048576 values and letters (the card's own bound); no other. -/
import Derived.Test.YthmlcohmlehddaaGreatDoorVad
import Derived.Test.YthmlcohmlehddaaGreatDoorVah
set_option linter.all false
namespace Go.Du
open Go
set_option maxRecDepth 1000000
section
open Go.Proofs
variable {S : Store} {Q : QT} {K : AK} {t0 t1 t2 t4 t5 t6 t7 t8 t9 t10 t11 t23 t24 t25 t38 t39 t40 t50 t51 t52 : AV}
def f322_s (t0 : AV) (S : Store) (Q : QT) : Prop := ATriple PR 323 [.lit (.string ⟨#[46, 45, 48, 49, 50, 51, 52, 53, 54, 55, 56, 57, 97, 98, 99, 100, 101, 102, 103, 104, 105, 106, 107, 108, 109, 110, 111, 112, 113, 114, 115, 116, 117, 118, 119, 120, 121, 122]⟩), t0] S fun t4 S_1 => bQ (abi .lss t4 (iv 0)) fun t5 => dropQ Q t5 S_1
theorem f322_ok : f322_s t0 S Q → ATriple PR 322 [t0] S Q := fun h => pF (fn := Tryz.f322) (.two (rg 1 0 0) (.two (rg 4 2 0) (.nil))) h
def f188_s (t0 : AV) (S : Store) (Q : QT) : Prop := bQ (abi .neq t0 (.lit (.string ⟨#[]⟩))) fun t5 => gdQ t5 true (some t0) fun t7 => gdQ t5 true (aln .str t7 S) fun t8 => gdQ t5 true (abi .leq t8 (iv 20)) fun t9 => bQ (apick t5 t9 (bv false)) fun t10 => gdQ t10 true (some t0) fun t12 => gdQ t10 true (frzOf (strR t12)) fun t13 => gdQ t10 true (some (.func (.func 322) [] [])) fun t14 => gdE t10 true (fun K => ATriple PR 324 [t13, t14] S K) S fun t15 S_1 => gdQ t10 true (aun .not t15) fun t16 => bQ (apick t10 t16 (bv false)) fun t17 => dropQ Q t17 S_1
theorem f188_ok : f188_s t0 S Q → ATriple PR 188 [t0] S Q := fun h => pF (fn := Tryz.f188) (.two (rg 1 0 0) (.two (rg 1 0 0) (.two (rg 15 2048 0) (.nil)))) h
def f187_s (t0 : AV) (S : Store) (Q : QT) : Prop := ATriple PR 188 [t0] S fun t4 S_1 => bQ (aun .not t4) fun t5 => dropQ Q t5 S_1
theorem f187_ok : f187_s t0 S Q → ATriple PR 187 [t0] S Q := fun h => pF (fn := Tryz.f187) (.two (rg 1 0 0) (.two (rg 4 2 0) (.nil))) h
def f325_s (t0 : AV) (S : Store) (Q : QT) : Prop := bQ (abi .geq t0 (iv 0)) fun t4 => gdQ t4 true (some t0) fun t6 => gdQ t4 true (abi .leq t6 (iv 10000)) fun t7 => bQ (apick t4 t7 (bv false)) fun t8 => dropQ Q t8 S
theorem f325_ok : f325_s t0 S Q → ATriple PR 325 [t0] S Q := fun h => pF (fn := Tryz.f325) (.two (rg 1 0 0) (.two (rg 7 0 0) (.nil))) h
noncomputable def f189_a1 : Ann := .two (rg 1 0 0) (.two (.two (rg 3 0 0) (.one (.loop [0, 7, 8, 9]))) (.two (rg 9 0 0) (.nil)))
noncomputable def f189_c1 : Code := (cl (cl (cr (cl (cr (bodyOf Tryz.f189))))))
noncomputable def f189_c2 : Code := (cr (cr (bodyOf Tryz.f189)))
def f189_L1 (K : AK) (t0 t7 t8 t9 : AV) (S : Store) : Prop := AI PR none 65 [.code f189_c1, .inLoop f189_c1] K (ofL [(0, t0), (7, t7), (8, t8), (9, t9)]) S
def f189_l1 (K : AK) (t0 t7 t8 t9 : AV) (S : Store) : Prop := bQ (abi .lss t9 t8) fun t10 => condW t10 (bQ (ixA 4 t7 t9 S) fun t12 => bQ (ldv true 4 t12 S) fun t13 => newW (some (.own (.row 26 4 [[iv 0, iv 0, iv 0, bv false]]) fun u => .ptr u 0 0)) S fun t4 S_1 => thenS (stv 4 t4 t13 S_1) fun _ S_2 => bQ (abi .eql t9 (iv 0)) fun t15 => gdQ t15 true (padd t4 0) fun t17 => gdQ t15 true (ldv false 1 t17 S_2) fun t18 => gdQ t15 true (abi .eql t18 (iv (-1))) fun t19 => bQ (apick t15 t19 (bv false)) fun t20 => gdQ t20 true (padd t4 1) fun t22 => gdQ t20 true (ldv false 1 t22 S_2) fun t23 => gdQ t20 true (abi .eql t23 (iv 0)) fun t24 => bQ (apick t20 t24 (bv false)) fun t25 => bQ (abi .gtr t9 (iv 0)) fun t27 => gdQ t27 true (padd t4 0) fun t29 => gdQ t27 true (ldv false 1 t29 S_2) fun t30 => gdQ t27 true (abi .geq t30 (iv 0)) fun t31 => bQ (apick t27 t31 (bv false)) fun t32 => gdQ t32 true (padd t4 0) fun t34 => gdQ t32 true (ldv false 1 t34 S_2) fun t35 => gdQ t32 true (some t9) fun t36 => gdQ t32 true (abi .lss t35 t36) fun t37 => bQ (apick t32 t37 (bv false)) fun t38 => gdQ t38 true (padd t4 1) fun t40 => gdQ t38 true (ldv false 1 t40 S_2) fun t41 => gdE t38 true (fun K => ATriple PR 325 [t41] S_2 K) S_2 fun t42 S_3 => bQ (apick t38 t42 (bv false)) fun t43 => bQ (aun .not t25) fun t45 => gdQ t45 true (some t43) fun t47 => gdQ t45 true (aun .not t47) fun t48 => bQ (apick t45 t48 (bv false)) fun t49 => gdQ t49 false (padd t4 2) fun t51 => gdQ t49 false (ldv false 1 t51 S_3) fun t52 => gdE t49 false (fun K => ATriple PR 325 [t52] S_3 K) S_3 fun t53 S_4 => gdQ t49 false (aun .not t53) fun t54 => bQ (apick t49 (bv true) t54) fun t55 => condW t55 (K .ret (ofL [(0, t0), (2, bv false)]) S_4) (bQ (abi .add t9 (iv 1)) fun t56 => f189_L1 K t0 t7 t8 t56 S_4)) (K (.exit 0) (ofL [(0, t0), (2, .poison)]) S)
theorem f189_L1_pt : f189_l1 K t0 t7 t8 t9 S → f189_L1 K t0 t7 t8 t9 S := fun h => pL (.two (rg 1 0 0) (.two (.two (.nil) (.nil)) (.two (.one (.two (rg 6 40 0) (.two (rg 13 0 0) (.two (rg 19 65536 0) (.two (rg 12 512 0) (.two (.two (rg 1 0 0) (.nil)) (.nil))))))) (rg 2 0 0)))) [0, 7, 8, 9] [0, 2] h
noncomputable def f189_K1 (Q : QT) : AK := (AK.block 0 (AK.andThen (fun st S => W PR none 65 f189_c2 ((ar (ar f189_a1))) (retK PR Tryz.f189 (dropQ Q)) st S) (retK PR Tryz.f189 (dropQ Q))))
def f189_K1_e0 (Q : QT) (t0 t2 : AV) (S : Store) : Prop := bQ (aln .slice t0 S) fun t58 => bQ (abi .geq t58 (iv 1)) fun t59 => gdQ t59 true (some t0) fun t61 => gdQ t59 true (aln .slice t61 S) fun t62 => gdQ t59 true (abi .leq t62 (iv 16)) fun t63 => bQ (apick t59 t63 (bv false)) fun t64 => dropQ Q t64 S
theorem f189_K1_e0_pt : f189_K1_e0 Q t0 t2 S → f189_K1 Q (.exit 0) (ofL [(0, t0), (2, t2)]) S := castP (by kernel_rfl)
def f189_s (t0 : AV) (S : Store) (Q : QT) : Prop := bQ (aln .slice t0 S) fun t8 => f189_L1 (f189_K1 Q) t0 t0 t8 (iv 0) S
theorem f189_ok : f189_s t0 S Q → ATriple PR 189 [t0] S Q := fun h => pF (fn := Tryz.f189) f189_a1 h
attribute [irreducible] f189_L1 f189_K1
noncomputable def f190_a1 : Ann := .two (rg 1 0 0) (.two (.two (rg 3 0 0) (.one (.loop [0, 1, 8, 9, 10]))) (.two (rg 4 0 0) (.nil)))
noncomputable def f190_c1 : Code := (cl (cl (cr (cl (cr (bodyOf Tryz.f190))))))
noncomputable def f190_c2 : Code := (cr (cr (bodyOf Tryz.f190)))
def f190_L1 (K : AK) (t0 t1 t8 t9 t10 : AV) (S : Store) : Prop := AI PR none 57 [.code f190_c1, .inLoop f190_c1] K (ofL [(0, t0), (1, t1), (8, t8), (9, t9), (10, t10)]) S
def f190_l1 (K : AK) (t0 t1 t8 t9 t10 : AV) (S : Store) : Prop := bQ (abi .lss t10 t9) fun t11 => condW t11 (bQ (ixA 3 t8 t10 S) fun t13 => bQ (ldv true 3 t13 S) fun t14 => newW (some (.own (.row 193 3 [[.lit (.string ⟨#[]⟩), iv 0, iv 0]]) fun u => .ptr u 0 0)) S fun t6 S_1 => thenS (stv 3 t6 t14 S_1) fun _ S_2 => bQ (sliceV 3 t0 none (some t10) none S_2) fun t17 => ATriple PR 111 [t17, .func (.func 326) [] [t6]] S_2 fun t19 S_3 => gdQ t19 false (padd t6 0) fun t22 => gdQ t19 false (ldv false 1 t22 S_3) fun t23 => gdQ t19 false (abi .eql t23 (.lit (.string ⟨#[]⟩))) fun t24 => bQ (apick t19 (bv true) t24) fun t25 => gdQ t25 false (padd t6 0) fun t27 => gdQ t25 false (ldv false 1 t27 S_3) fun t28 => gdQ t25 false (aln .str t28 S_3) fun t29 => gdQ t25 false (abi .gtr t29 (iv 20)) fun t30 => bQ (apick t25 (bv true) t30) fun t31 => gdQ t31 false (padd t6 1) fun t33 => gdQ t31 false (ldv false 1 t33 S_3) fun t34 => gdQ t31 false (abi .lss t34 (iv 0)) fun t35 => bQ (apick t31 (bv true) t35) fun t36 => gdQ t36 false (padd t6 1) fun t38 => gdQ t36 false (ldv false 1 t38 S_3) fun t39 => gdQ t36 false (some t1) fun t40 => gdQ t36 false (abi .geq t39 t40) fun t41 => bQ (apick t36 (bv true) t41) fun t42 => gdQ t42 false (padd t6 2) fun t44 => gdQ t42 false (ldv false 1 t44 S_3) fun t45 => gdQ t42 false (abi .lss t45 (iv 0)) fun t46 => bQ (apick t42 (bv true) t46) fun t47 => gdQ t47 false (padd t6 2) fun t49 => gdQ t47 false (ldv false 1 t49 S_3) fun t50 => gdQ t47 false (abi .gtr t50 (iv 10000)) fun t51 => bQ (apick t47 (bv true) t51) fun t52 => condW t52 (K .ret (ofL [(0, t0), (4, bv false)]) S_3) (bQ (abi .add t10 (iv 1)) fun t53 => f190_L1 K t0 t1 t8 t9 t53 S_3)) (K (.exit 0) (ofL [(0, t0), (4, .poison)]) S)
theorem f190_L1_pt : f190_l1 K t0 t1 t8 t9 t10 S → f190_L1 K t0 t1 t8 t9 t10 S := fun h => pL (.two (rg 1 0 0) (.two (.two (.nil) (.nil)) (.two (.one (.two (rg 6 40 0) (.two (rg 6 16 0) (.two (rg 33 0 0) (.two (.two (rg 1 0 0) (.nil)) (.nil)))))) (rg 2 0 0)))) [0, 1, 8, 9, 10] [0, 4] h
noncomputable def f190_K1 (Q : QT) : AK := (AK.block 0 (AK.andThen (fun st S => W PR none 57 f190_c2 ((ar (ar f190_a1))) (retK PR Tryz.f190 (dropQ Q)) st S) (retK PR Tryz.f190 (dropQ Q))))
def f190_K1_e0 (Q : QT) (t0 t4 : AV) (S : Store) : Prop := bQ (aln .slice t0 S) fun t55 => bQ (abi .leq t55 (iv 12)) fun t56 => dropQ Q t56 S
theorem f190_K1_e0_pt : f190_K1_e0 Q t0 t4 S → f190_K1 Q (.exit 0) (ofL [(0, t0), (4, t4)]) S := castP (by kernel_rfl)
def f190_s (t0 t1 : AV) (S : Store) (Q : QT) : Prop := bQ (aln .slice t0 S) fun t9 => f190_L1 (f190_K1 Q) t0 t1 t0 t9 (iv 0) S
theorem f190_ok : f190_s t0 t1 S Q → ATriple PR 190 [t0, t1] S Q := fun h => pF (fn := Tryz.f190) f190_a1 h
attribute [irreducible] f190_L1 f190_K1
def f70_s (t0 : AV) (S : Store) (Q : QT) : Prop := bQ (frzOf (boxR true 31 t0)) fun t1 => bQ (padd t1 0) fun t5 => bQ (ldv false 1 t5 S) fun t6 => bQ (abi .geq t6 (iv 1)) fun t7 => gdQ t7 true (padd t1 0) fun t9 => gdQ t7 true (ldv false 1 t9 S) fun t10 => gdQ t7 true (abi .leq t10 (iv 1099511627776)) fun t11 => bQ (apick t7 t11 (bv false)) fun t12 => gdQ t12 true (padd t1 1) fun t14 => gdQ t12 true (ldv false 1 t14 S) fun t15 => gdQ t12 true (abi .geq t15 (iv 1)) fun t16 => bQ (apick t12 t16 (bv false)) fun t17 => gdQ t17 true (padd t1 1) fun t19 => gdQ t17 true (ldv false 1 t19 S) fun t20 => gdQ t17 true (abi .leq t20 (iv 10000)) fun t21 => bQ (apick t17 t21 (bv false)) fun t22 => gdQ t22 true (padd t1 2) fun t25 => gdQ t22 true (ldv false 1 t25 S) fun t26 => gdE t22 true (fun K => ATriple PR 189 [t26] S K) S fun t27 S_1 => bQ (apick t22 t27 (bv false)) fun t28 => gdQ t28 true (padd t1 3) fun t30 => gdQ t28 true (ldv false 1 t30 S_1) fun t31 => gdQ t28 true (padd t1 2) fun t32 => gdQ t28 true (ldv false 1 t32 S_1) fun t33 => gdQ t28 true (aln .slice t33 S_1) fun t34 => gdE t28 true (fun K => ATriple PR 190 [t31, t34] S_1 K) S_1 fun t35 S_2 => bQ (apick t28 t35 (bv false)) fun t36 => gdQ t36 true (padd t1 4) fun t38 => gdQ t36 true (ldv false 1 t38 S_2) fun t39 => gdQ t36 true (aln .slice t39 S_2) fun t40 => gdQ t36 true (abi .leq t40 (iv 40)) fun t41 => bQ (apick t36 t41 (bv false)) fun t42 => gdQ t42 true (padd t1 4) fun t44 => gdQ t42 true (ldv false 1 t44 S_2) fun t45 => gdQ t42 true (some (.func (.func 187) [] [])) fun t46 => gdE t42 true (fun K => ATriple PR 191 [t45, t46] S_2 K) S_2 fun t47 S_3 => gdQ t42 true (aun .not t47) fun t48 => bQ (apick t42 t48 (bv false)) fun t49 => gdQ t49 true (padd t1 5) fun t51 => gdQ t49 true (ldv false 1 t51 S_3) fun t52 => gdE t49 true (fun K => ATriple PR 188 [t52] S_3 K) S_3 fun t53 S_4 => bQ (apick t49 t53 (bv false)) fun t54 => dropQ Q t54 S_4
theorem f70_ok : f70_s t0 S Q → ATriple PR 70 [t0] S Q := fun h => pF (fn := Tryz.f70) (.two (rg 2 0 1) (.two (rg 19 0 0) (.two (rg 1 0 0) (.two (rg 33 1090523152 0) (.nil))))) h
noncomputable def f343_a1 : Ann := .two (rg 3 0 1) (.two (.two (rg 3 2 0) (.two (.two (rg 2 0 0) (.nil)) (.nil))) (.two (rg 10 256 128) (.two (.two (rg 4 0 0) (.one (.loop [1, 4, 23, 24, 25]))) (.two (rg 7 32 16) (.two (.two (rg 4 0 0) (.one (.loop [1, 4, 50, 51, 52]))) (.two (.reg [0, 0, 2, 6, 14, 31, 0, 64, 255, 511] (pq 0 4 <| .q 4 true <| pq 6 2 <| .e 5 [(7, false)] <| .e 8 [] <| .q 9 false <| .done)) (.two (rg 7 16 8) (.nil))))))))
noncomputable def f343_c1 : Code := (cl (cl (cr (cl (cr (cr (cr (bodyOf Tryz.f343))))))))
noncomputable def f343_a2 : Ann := .two (rg 1 0 0) (.two (.two (.nil) (.nil)) (.two (.one (.two (rg 4 12 0) (.two (rg 1 0 0) (.join [1, 4, 6, 7, 23, 24, 25] (.two (rg 2 0 0) (.two (rg 1 0 0) (.nil))) (rg 12 1024 512))))) (rg 2 0 0)))
noncomputable def f343_c2 : Code := (cr (cr (cr (cl (cl (cr (cl (cr (cr (cr (bodyOf Tryz.f343)))))))))))
noncomputable def f343_c3 : Code := (cr (cr (cr (cl (cl (cr (cr (cl (cl (cr (cl (cr (cr (cr (bodyOf Tryz.f343)))))))))))))))
noncomputable def f343_c4 : Code := (cr (cr (cr (cr (bodyOf Tryz.f343)))))
noncomputable def f343_c5 : Code := (cl (cl (cr (cl (cr (cr (cr (cr (cr (bodyOf Tryz.f343))))))))))
noncomputable def f343_c6 : Code := (cr (cr (cr (cr (cr (cr (bodyOf Tryz.f343)))))))
def f343_L1 (K : AK) (t1 t4 t23 t24 t25 : AV) (S : Store) : Prop := AI PR none 82 [.code f343_c1, .inLoop f343_c1] K (ofL [(1, t1), (4, t4), (23, t23), (24, t24), (25, t25)]) S
def f343_J2 (K : AK) (t1 t4 t6 t7 t23 t24 t25 : AV) (S : Store) : Prop := AWp PR none 82 f343_c3 (AK.block 1 (AK.andThen (fun st S => W PR none 82 f343_c2 ((ar (ar (ar f343_a2)))) (AK.andThen (fun st S => AI PR none 82 [.code f343_c1, .inLoop f343_c1] K (mask [1, 4, 23, 24, 25] st) S) (mskK [1, 4] K)) st S) (AK.andThen (fun st S => AI PR none 82 [.code f343_c1, .inLoop f343_c1] K (mask [1, 4, 23, 24, 25] st) S) (mskK [1, 4] K)))) (ofL [(1, t1), (4, t4), (6, t6), (7, t7), (23, t23), (24, t24), (25, t25)]) S
def f343_j2 (K : AK) (t1 t4 t6 t7 t23 t24 t25 : AV) (S : Store) : Prop := bQ (padd t6 0) fun t32 => bQ (ldv false 1 t32 S) fun t33 => bQ (abi .add t33 (iv 1)) fun t34 => bQ (padd t6 1) fun t35 => bQ (ldv false 1 t35 S) fun t36 => bQ (padd t6 2) fun t37 => bQ (ldv false 1 t37 S) fun t38 => bQ (frzOf (bslR true 1 3 1 4 4 [(0, t34), (1, t36), (2, t38), (3, t7)])) fun t40 => ATriple PR 177 [t4, t40] S fun t41 S_1 => bQ (abi .add t25 (iv 1)) fun t42 => f343_L1 K t1 t41 t23 t24 t42 S_1
theorem f343_J2_pt : f343_j2 K t1 t4 t6 t7 t23 t24 t25 S → f343_J2 K t1 t4 t6 t7 t23 t24 t25 S := fun h => pJ ((ar (ar (ar (al (al (ar (ar f343_a2)))))))) h
def f343_l1 (K : AK) (t1 t4 t23 t24 t25 : AV) (S : Store) : Prop := bQ (abi .lss t25 t24) fun t26 => condW t26 (bQ (ixA 4 t23 t25 S) fun t27 => bQ (ldv true 4 t27 S) fun t28 => newW (some (.own (.row 26 4 [[iv 0, iv 0, iv 0, bv false]]) fun u => .ptr u 0 0)) S fun t6 S_1 => thenS (stv 4 t6 t28 S_1) fun _ S_2 => bQ (padd t6 3) fun t29 => bQ (ldv false 1 t29 S_2) fun t30 => condW t30 (f343_J2 K t1 t4 t6 (iv 1) t23 t24 t25 S_2) (f343_J2 K t1 t4 t6 (iv 0) t23 t24 t25 S_2)) (K (.exit 0) (ofL [(1, t1), (4, t4)]) S)
theorem f343_L1_pt : f343_l1 K t1 t4 t23 t24 t25 S → f343_L1 K t1 t4 t23 t24 t25 S := fun h => pL f343_a2 [1, 4, 23, 24, 25] [1, 4] h
noncomputable def f343_K1 (Q : QT) : AK := (AK.block 0 (AK.andThen (fun st S => W PR none 82 f343_c4 ((ar (ar (ar (ar f343_a1))))) (retK PR Tryz.f343 (dropQ Q)) st S) (retK PR Tryz.f343 (dropQ Q))))
def f343_L3 (K : AK) (t1 t4 t50 t51 t52 : AV) (S : Store) : Prop := AI PR none 82 [.code f343_c5, .inLoop f343_c5] K (ofL [(1, t1), (4, t4), (50, t50), (51, t51), (52, t52)]) S
def f343_l3 (K : AK) (t1 t4 t50 t51 t52 : AV) (S : Store) : Prop := bQ (abi .lss t52 t51) fun t53 => condW t53 (bQ (ixA 3 t50 t52 S) fun t54 => bQ (ldv true 3 t54 S) fun t55 => newW (some (.own (.row 193 3 [[.lit (.string ⟨#[]⟩), iv 0, iv 0]]) fun u => .ptr u 0 0)) S fun t9 S_1 => thenS (stv 3 t9 t55 S_1) fun _ S_2 => bQ (padd t9 1) fun t57 => bQ (ldv false 1 t57 S_2) fun t58 => bQ (padd t9 2) fun t59 => bQ (ldv false 1 t59 S_2) fun t60 => bQ (frzOf (bslR true 1 3 1 2 2 [(0, t58), (1, t60)])) fun t61 => bQ (padd t9 0) fun t63 => bQ (ldv false 1 t63 S_2) fun t64 => bQ (frzOf (bslR true 1 9 1 1 1 [(0, t64)])) fun t65 => ATriple PR 177 [t4, t61] S_2 fun t62 S_3 => ((ldv false 1 t63 S_3 = some t64) ∧ True) ∧ ATriple PR 180 [t62, t65] S_3 fun t66 S_4 => bQ (abi .add t52 (iv 1)) fun t67 => f343_L3 K t1 t66 t50 t51 t67 S_4) (K (.exit 2) (ofL [(1, t1), (4, t4)]) S)
theorem f343_L3_pt : f343_l3 K t1 t4 t50 t51 t52 S → f343_L3 K t1 t4 t50 t51 t52 S := fun h => pL (.two (rg 1 0 0) (.two (.two (.nil) (.nil)) (.two (.one (.two (rg 4 12 0) (.reg [0, 0, 2, 0, 8, 30, 63, 0, 128, 384, 1023, 2047] (pq 0 5 <| .q 5 true <| pq 7 2 <| .q 9 true <| .e 6 [(8, false)] <| .e 10 [] <| .q 11 false <| .done)))) (rg 2 0 0)))) [1, 4, 50, 51, 52] [1, 4] h
noncomputable def f343_K2 (Q : QT) : AK := (AK.block 2 (AK.andThen (fun st S => W PR none 82 f343_c6 ((ar (ar (ar (ar (ar (ar f343_a1))))))) (retK PR Tryz.f343 (dropQ Q)) st S) (retK PR Tryz.f343 (dropQ Q))))
def f343_K2_e2 (Q : QT) (t1 t4 : AV) (S : Store) : Prop := bQ (padd t1 4) fun t69 => bQ (ldv false 1 t69 S) fun t70 => bQ (aln .slice t70 S) fun t71 => bQ (frzOf (bslR true 1 3 1 1 1 [(0, t71)])) fun t72 => bQ (padd t1 4) fun t74 => bQ (ldv false 1 t74 S) fun t75 => ATriple PR 177 [t4, t72] S fun t73 S_1 => ((ldv false 1 t74 S_1 = some t75) ∧ True) ∧ ATriple PR 180 [t73, t75] S_1 fun t76 S_2 => bQ (padd t1 5) fun t78 => bQ (ldv false 1 t78 S_2) fun t79 => bQ (frzOf (bslR true 1 9 1 1 1 [(0, t79)])) fun t80 => ATriple PR 180 [t76, t80] S_2 fun t81 S_3 => dropQ Q (.tuple [t81, iv 0]) S_3
theorem f343_K2_e2_pt : f343_K2_e2 Q t1 t4 S → f343_K2 Q (.exit 2) (ofL [(1, t1), (4, t4)]) S := castP (by kernel_rfl)
def f343_K1_e0 (Q : QT) (t1 t4 : AV) (S : Store) : Prop := bQ (padd t1 3) fun t44 => bQ (ldv false 1 t44 S) fun t45 => bQ (aln .slice t45 S) fun t46 => bQ (frzOf (bslR true 1 3 1 1 1 [(0, t46)])) fun t47 => ATriple PR 177 [t4, t47] S fun t48 S_1 => bQ (padd t1 3) fun t49 => bQ (ldv false 1 t49 S_1) fun t50 => bQ (aln .slice t50 S_1) fun t51 => f343_L3 (f343_K2 Q) t1 t48 t50 t51 (iv 0) S_1
theorem f343_K1_e0_pt : f343_K1_e0 Q t1 t4 S → f343_K1 Q (.exit 0) (ofL [(1, t1), (4, t4)]) S := castP (by kernel_rfl)
def f343_s (t0 : AV) (S : Store) (Q : QT) : Prop := bQ (frzOf (boxR true 31 t0)) fun t1 => bQ (ldv true 6 t1 S) fun t10 => ATriple PR 70 [t10] S fun t11 S_1 => bQ (aun .not t11) fun t12 => condW t12 (dropQ Q (.tuple [nilS, iv 1]) S_1) (bQ (padd t1 0) fun t13 => bQ (ldv false 1 t13 S_1) fun t14 => bQ (padd t1 1) fun t15 => bQ (ldv false 1 t15 S_1) fun t16 => bQ (padd t1 2) fun t17 => bQ (ldv false 1 t17 S_1) fun t18 => bQ (aln .slice t18 S_1) fun t19 => bQ (frzOf (bslR true 1 3 1 3 3 [(0, t14), (1, t16), (2, t19)])) fun t20 => ATriple PR 177 [nilS, t20] S_1 fun t21 S_2 => bQ (padd t1 2) fun t22 => bQ (ldv false 1 t22 S_2) fun t23 => bQ (aln .slice t23 S_2) fun t24 => f343_L1 (f343_K1 Q) t1 t21 t23 t24 (iv 0) S_2)
theorem f343_ok : f343_s t0 S Q → ATriple PR 343 [t0] S Q := fun h => pF (fn := Tryz.f343) f343_a1 h
attribute [irreducible] f343_L1 f343_J2 f343_K1 f343_L3 f343_K2
def f354_s (t0 : AV) (S : Store) (Q : QT) : Prop := newW (some (.own (.row 31 6 [[iv 0, iv 0, nilS, nilS, nilS, .lit (.string ⟨#[]⟩)]]) fun u => .ptr u 0 0)) S fun t2 S_1 => bQ (aeqv false .ptr t0 (.lit (.pointer none)) S_1) fun t8 => condW t8 (bQ (abld [iv 0, iv 0, nilS, nilS, nilS, .lit (.string ⟨#[]⟩)] []) fun t9 => thenS (stv 6 t2 t9 S_1) fun _ S_2 => retW (resC (ldv true 6 t2 S_2) ((some []).map ((iv 1) :: ·))) (dropQ Q) S_2) (ATriple PR 216 [t0, .lit (.string ⟨#[109, 97, 110, 105, 102, 101, 115, 116]⟩), iv 0, iv 16777216] S_1 fun t12 S_3 => bQ (aext t12 0) fun t13 => bQ (aext t12 1) fun t14 => bQ (abi .neq t14 (iv 0)) fun t16 => condW t16 (bQ (abld [iv 0, iv 0, nilS, nilS, nilS, .lit (.string ⟨#[]⟩)] []) fun t17 => thenS (stv 6 t2 t17 S_3) fun _ S_4 => retW (resC (ldv true 6 t2 S_4) ((some []).map (t14 :: ·))) (dropQ Q) S_4) (ATriple PR 439 [t13] S_3 fun t21 S_5 => bQ (aext t21 0) fun t22 => bQ (aext t21 1) fun t23 => bQ (abi .neq t23 (iv 0)) fun t25 => condW t25 (bQ (abld [iv 0, iv 0, nilS, nilS, nilS, .lit (.string ⟨#[]⟩)] []) fun t26 => thenS (stv 6 t2 t26 S_5) fun _ S_6 => retW (resC (ldv true 6 t2 S_6) ((some []).map ((iv 10) :: ·))) (dropQ Q) S_6) (ATriple PR 440 [t22] S_5 fun t28 S_7 => bQ (aext t28 0) fun t29 => bQ (aext t28 1) fun t30 => thenS (stv 6 t2 t29 S_7) fun _ S_8 => retW (resC (ldv true 6 t2 S_8) ((some []).map (t30 :: ·))) (dropQ Q) S_8)))
theorem f354_ok : f354_s t0 S Q → ATriple PR 354 [t0] S Q := fun h => pF (fn := Tryz.f354) (.two (rg 2 1 0) (.two (.two (rg 2 0 0) (.two (.two (rg 3 2 0) (.nil)) (.nil))) (.two (rg 7 2 0) (.two (.two (rg 2 0 0) (.two (.two (rg 4 4 0) (.nil)) (.nil))) (.two (rg 7 2 0) (.two (.two (rg 2 0 0) (.two (.two (rg 3 2 0) (.nil)) (.nil))) (.two (rg 6 18 0) (.nil)))))))) h
noncomputable def f200_a1 : Ann := .two (rg 2 0 1) (.two (rg 7 2 0) (.two (.two (rg 6 0 0) (.two (.two (rg 1 0 0) (.nil)) (.nil))) (.two (.two (rg 3 2 0) (.two (rg 2 0 0) (.two (.two (rg 2 0 0) (.nil)) (.nil)))) (.join [0, 6] (.two (rg 3 2 0) (.two (rg 2 0 0) (.two (rg 6 24 4) (.nil)))) (.join [0, 6] (.two (rg 2 0 0) (.two (rg 3 2 0) (.nil))) (.join [0, 6] (.two (rg 2 0 0) (.two (rg 3 2 0) (.nil))) (.two (.two (rg 6 0 0) (.two (rg 2 2 0) (.nil))) (.two (rg 2 0 0) (.nil)))))))))
noncomputable def f200_c1 : Code := (cr (cr (cr (cr (cr (bodyOf Tryz.f200))))))
noncomputable def f200_c2 : Code := (cr (cr (cr (cr (cr (cr (bodyOf Tryz.f200)))))))
noncomputable def f200_c3 : Code := (cr (cr (cr (cr (cr (cr (cr (bodyOf Tryz.f200))))))))
def f200_J1 (Q : QT) (t0 t6 : AV) (S : Store) : Prop := AWp PR none 50 f200_c1 (retK PR Tryz.f200 (dropQ Q)) (ofL [(0, t0), (6, t6)]) S
def f200_J2 (Q : QT) (t0 t6 : AV) (S : Store) : Prop := AWp PR none 50 f200_c2 (retK PR Tryz.f200 (dropQ Q)) (ofL [(0, t0), (6, t6)]) S
def f200_J3 (Q : QT) (t0 t6 : AV) (S : Store) : Prop := AWp PR none 50 f200_c3 (retK PR Tryz.f200 (dropQ Q)) (ofL [(0, t0), (6, t6)]) S
def f200_j3 (Q : QT) (t0 t6 : AV) (S : Store) : Prop := bQ (abi .neq t6 (iv 0)) fun t42 => gdQ t42 true (some t6) fun t44 => gdQ t42 true (abi .neq t44 (iv 7)) fun t45 => bQ (apick t42 t45 (bv false)) fun t46 => condW t46 (ATriple PR 203 [t0, .lit (.string ⟨#[116, 101, 109, 112, 46, 109, 97, 110, 105, 102, 101, 115, 116]⟩)] S fun t48 S_1 => dropQ Q t6 S_1) (dropQ Q t6 S)
theorem f200_J3_pt : f200_j3 Q t0 t6 S → f200_J3 Q t0 t6 S := fun h => pJ ((ar (ar (ar (ar (ar (ar (ar f200_a1)))))))) h
def f200_j2 (Q : QT) (t0 t6 : AV) (S : Store) : Prop := bQ (abi .eql t6 (iv 0)) fun t38 => condW t38 (ATriple PR 342 [t0, .lit (.string ⟨#[116, 101, 109, 112, 46, 109, 97, 110, 105, 102, 101, 115, 116]⟩), .lit (.string ⟨#[109, 97, 110, 105, 102, 101, 115, 116]⟩)] S fun t40 S_1 => f200_J3 Q t0 t40 S_1) (f200_J3 Q t0 t6 S)
theorem f200_J2_pt : f200_j2 Q t0 t6 S → f200_J2 Q t0 t6 S := fun h => pJ ((ar (ar (ar (ar (ar (ar f200_a1))))))) h
def f200_j1 (Q : QT) (t0 t6 : AV) (S : Store) : Prop := bQ (abi .eql t6 (iv 0)) fun t34 => condW t34 (ATriple PR 198 [t0, .lit (.string ⟨#[116, 101, 109, 112, 46, 109, 97, 110, 105, 102, 101, 115, 116]⟩)] S fun t36 S_1 => f200_J2 Q t0 t36 S_1) (f200_J2 Q t0 t6 S)
theorem f200_J1_pt : f200_j1 Q t0 t6 S → f200_J1 Q t0 t6 S := fun h => pJ ((ar (ar (ar (ar (ar f200_a1)))))) h
def f200_s (t0 t1 : AV) (S : Store) (Q : QT) : Prop := bQ (frzOf (boxR true 31 t1)) fun t3 => bQ (ldv true 6 t3 S) fun t9 => ATriple PR 343 [t9] S fun t10 S_1 => bQ (aext t10 0) fun t11 => bQ (aext t10 1) fun t12 => bQ (aeqv false .ptr t0 (.lit (.pointer none)) S_1) fun t14 => gdQ t14 false (some t12) fun t16 => gdQ t14 false (abi .neq t16 (iv 0)) fun t17 => bQ (apick t14 (bv true) t17) fun t18 => condW t18 (dropQ Q (iv 1) S_1) (ATriple PR 203 [t0, .lit (.string ⟨#[116, 101, 109, 112, 46, 109, 97, 110, 105, 102, 101, 115, 116]⟩)] S_1 fun t20 S_2 => bQ (abi .eql t20 (iv 7)) fun t22 => condW t22 (dropQ Q t20 S_2) (ATriple PR 194 [t0, .lit (.string ⟨#[116, 101, 109, 112, 46, 109, 97, 110, 105, 102, 101, 115, 116]⟩)] S_2 fun t25 S_3 => bQ (abi .eql t25 (iv 0)) fun t27 => condW t27 (bQ (frzOf (bslR true 1 129 1 1 1 [(0, t11)])) fun t30 => ATriple PR 179 [t30] S_3 fun t31 S_4 => ATriple PR 196 [t0, .lit (.string ⟨#[116, 101, 109, 112, 46, 109, 97, 110, 105, 102, 101, 115, 116]⟩), t31] S_4 fun t32 S_5 => f200_J1 Q t0 t32 S_5) (f200_J1 Q t0 t25 S_3)))
theorem f200_ok : f200_s t0 t1 S Q → ATriple PR 200 [t0, t1] S Q := fun h => pF (fn := Tryz.f200) f200_a1 h
attribute [irreducible] f200_J1 f200_J2 f200_J3
def f338_s (t0 : AV) (S : Store) (Q : QT) : Prop := bQ (ldv false 1 t0 S) fun t2 => ATriple PR 194 [t2, .lit (.string ⟨#[116, 101, 109, 112, 46, 108, 111, 103]⟩)] S fun t3 S_1 => dropQ Q t3 S_1
theorem f338_ok : f338_s t0 S Q → ATriple PR 338 [t0] S Q := fun h => pF (fn := Tryz.f338) (.two (rg 1 0 0) (.two (rg 3 2 0) (.nil))) h
def f339_s (t0 t1 : AV) (S : Store) (Q : QT) : Prop := bQ (ldv false 1 t0 S) fun t3 => bQ (ldv false 1 t1 S) fun t4 => ATriple PR 196 [t3, .lit (.string ⟨#[116, 101, 109, 112, 46, 108, 111, 103]⟩), t4] S fun t5 S_1 => dropQ Q t5 S_1
theorem f339_ok : f339_s t0 t1 S Q → ATriple PR 339 [t0, t1] S Q := fun h => pF (fn := Tryz.f339) (.two (rg 1 0 0) (.two (rg 4 4 0) (.nil))) h
def f340_s (t0 : AV) (S : Store) (Q : QT) : Prop := bQ (ldv false 1 t0 S) fun t2 => ATriple PR 198 [t2, .lit (.string ⟨#[116, 101, 109, 112, 46, 108, 111, 103]⟩)] S fun t3 S_1 => dropQ Q t3 S_1
theorem f340_ok : f340_s t0 S Q → ATriple PR 340 [t0] S Q := fun h => pF (fn := Tryz.f340) (.two (rg 1 0 0) (.two (rg 3 2 0) (.nil))) h
def f341_s (t0 t1 : AV) (S : Store) (Q : QT) : Prop := bQ (ldv false 1 t0 S) fun t3 => bQ (ldv false 1 t1 S) fun t4 => ATriple PR 342 [t3, .lit (.string ⟨#[116, 101, 109, 112, 46, 108, 111, 103]⟩), t4] S fun t5 S_1 => dropQ Q t5 S_1
theorem f341_ok : f341_s t0 t1 S Q → ATriple PR 341 [t0, t1] S Q := fun h => pF (fn := Tryz.f341) (.two (rg 1 0 0) (.two (rg 4 4 0) (.nil))) h
noncomputable def f337_a1 : Ann := .two (rg 1 0 0) (.two (.two (rg 3 0 0) (.one (.loop [6, 7, 8]))) (.two (rg 1 0 0) (.nil)))
noncomputable def f337_c1 : Code := (cl (cl (cr (cl (cr (bodyOf Tryz.f337))))))
noncomputable def f337_c2 : Code := (cr (cr (bodyOf Tryz.f337)))
def f337_L1 (K : AK) (t6 t7 t8 : AV) (S : Store) : Prop := AI PR none 18 [.code f337_c1, .inLoop f337_c1] K (ofL [(6, t6), (7, t7), (8, t8)]) S
def f337_l1 (K : AK) (t6 t7 t8 : AV) (S : Store) : Prop := bQ (abi .lss t8 t7) fun t9 => condW t9 (bQ (ixA 1 t6 t8 S) fun t10 => bQ (ldv false 1 t10 S) fun t11 => callW PR t11 [] S fun t13 S_1 => bQ (abi .neq t13 (iv 0)) fun t15 => condW t15 (K .ret (ofL [(2, t13)]) S_1) (bQ (abi .add t8 (iv 1)) fun t17 => f337_L1 K t6 t7 t17 S_1)) (K (.exit 0) (ofL [(2, .poison)]) S)
theorem f337_L1_pt : f337_l1 K t6 t7 t8 S → f337_L1 K t6 t7 t8 S := fun h => pL (.two (rg 1 0 0) (.two (.two (.nil) (.nil)) (.two (.one (.two (rg 3 0 0) (.two (rg 3 2 0) (.two (rg 2 0 0) (.two (.two (rg 2 0 0) (.nil)) (.nil)))))) (rg 2 0 0)))) [6, 7, 8] [2] h
noncomputable def f337_K1 (Q : QT) : AK := (AK.block 0 (AK.andThen (fun st S => W PR none 18 f337_c2 ((ar (ar f337_a1))) (retK PR Tryz.f337 (dropQ Q)) st S) (retK PR Tryz.f337 (dropQ Q))))
def f337_K1_e0 (Q : QT) (t2 : AV) (S : Store) : Prop := dropQ Q (iv 0) S
theorem f337_K1_e0_pt : f337_K1_e0 Q t2 S → f337_K1 Q (.exit 0) (ofL [(2, t2)]) S := castP (by kernel_rfl)
def f337_s (t0 : AV) (S : Store) (Q : QT) : Prop := bQ (aln .slice t0 S) fun t7 => f337_L1 (f337_K1 Q) t0 t7 (iv 0) S
theorem f337_ok : f337_s t0 S Q → ATriple PR 337 [t0] S Q := fun h => pF (fn := Tryz.f337) f337_a1 h
attribute [irreducible] f337_L1 f337_K1
def f199_s (t0 t1 t2 : AV) (S : Store) (Q : QT) : Prop := bQ (frzOf (boxR true 34 t0)) fun t3 => bQ (frzOf (boxR true 9 t1)) fun t4 => bQ (frzOf (boxR true 129 t2)) fun t5 => bQ (ldv false 1 t3 S) fun t9 => ATriple PR 203 [t9, .lit (.string ⟨#[116, 101, 109, 112, 46, 108, 111, 103]⟩)] S fun t10 S_1 => bQ (abi .eql t10 (iv 7)) fun t12 => condW t12 (dropQ Q t10 S_1) (bQ (frzOf (bslR true 1 67 1 4 4 [(0, .func (.func 338) [] [t3]), (1, .func (.func 339) [] [t3, t5]), (2, .func (.func 340) [] [t3]), (3, .func (.func 341) [] [t3, t4])])) fun t18 => ATriple PR 337 [t18] S_1 fun t19 S_2 => bQ (abi .neq t19 (iv 0)) fun t21 => gdQ t21 true (some t19) fun t23 => gdQ t21 true (abi .neq t23 (iv 7)) fun t24 => bQ (apick t21 t24 (bv false)) fun t25 => condW t25 (bQ (ldv false 1 t3 S_2) fun t26 => ATriple PR 203 [t26, .lit (.string ⟨#[116, 101, 109, 112, 46, 108, 111, 103]⟩)] S_2 fun t27 S_3 => dropQ Q t19 S_3) (dropQ Q t19 S_2))
theorem f199_ok : f199_s t0 t1 t2 S Q → ATriple PR 199 [t0, t1, t2] S Q := fun h => pF (fn := Tryz.f199) (.two (rg 4 0 7) (.two (.two (rg 3 2 0) (.two (rg 2 0 0) (.two (.two (rg 2 0 0) (.nil)) (.nil)))) (.two (rg 7 32 16) (.two (.two (rg 6 0 0) (.two (rg 2 2 0) (.nil))) (.two (rg 2 0 0) (.nil)))))) h
def f72_s (t0 t1 : AV) (S : Store) (Q : QT) : Prop := bQ (aeqv false .ptr t0 (.lit (.pointer none)) S) fun t8 => condW t8 (dropQ Q (.tuple [.lit (.pointer none), iv 1]) S) (ATriple PR 199 [t0, t1, nilS] S fun t11 S_1 => bQ (abi .neq t11 (iv 0)) fun t13 => condW t13 (dropQ Q (.tuple [.lit (.pointer none), t11]) S_1) (bQ (abld [.lit (.pointer none), .lit (.string ⟨#[]⟩), iv 0, bv false] [(0, 1, t0), (1, 1, t1)]) fun t17 => newW (boxR false 278 t17) S_1 fun t18 S_2 => dropQ Q (.tuple [t18, iv 0]) S_2))
theorem f72_ok : f72_s t0 t1 S Q → ATriple PR 72 [t0, t1] S Q := fun h => pF (fn := Tryz.f72) (.two (rg 2 0 0) (.two (.two (rg 2 0 0) (.two (.two (rg 2 0 0) (.nil)) (.nil))) (.two (.two (rg 4 4 0) (.two (rg 2 0 0) (.two (.two (rg 3 0 0) (.nil)) (.nil)))) (.two (rg 6 8 0) (.nil))))) h
noncomputable def f217_a1 : Ann := .two (rg 3 0 0) (.two (.two (rg 2 0 0) (.two (.two (rg 3 0 0) (.nil)) (.nil))) (.two (rg 8 4 0) (.two (.two (rg 2 0 0) (.two (.two (rg 4 0 0) (.nil)) (.nil))) (.two (rg 5 8 0) (.two (rg 1 0 0) (.two (rg 1 0 0) (.two (rg 7 2 0) (.two (.two (rg 3 0 0) (.one (.loop [0, 1, 7, 9, 10, 11, 38, 39, 40]))) (.join [8, 9, 10] (.two (rg 4 0 0) (.two (rg 7 32 0) (rg 4 4 0))) (.two (.two (rg 2 0 0) (.two (.two (rg 4 0 0) (.nil)) (.nil))) (.two (rg 5 0 0) (.nil))))))))))))
noncomputable def f217_c1 : Code := (cl (cl (cr (cl (cr (cr (cr (cr (cr (cr (cr (cr (bodyOf Tryz.f217)))))))))))))
noncomputable def f217_c2 : Code := (cr (cr (cr (cr (cr (cr (cr (cr (cr (bodyOf Tryz.f217))))))))))
noncomputable def f217_c3 : Code := (cr (cr (cr (cr (cr (cr (cr (cr (cr (cr (bodyOf Tryz.f217)))))))))))
def f217_L1 (K : AK) (t0 t1 t7 t9 t10 t11 t38 t39 t40 : AV) (S : Store) : Prop := AI PR none 94 [.code f217_c1, .inLoop f217_c1] K (ofL [(0, t0), (1, t1), (7, t7), (9, t9), (10, t10), (11, t11), (38, t38), (39, t39), (40, t40)]) S
def f217_l1 (K : AK) (t0 t1 t7 t9 t10 t11 t38 t39 t40 : AV) (S : Store) : Prop := bQ (abi .lss t40 t39) fun t41 => condW t41 (bQ (ixA 1 t38 t40 S) fun t42 => bQ (ldv false 1 t42 S) fun t43 => ATriple PR 355 [t43] S fun t46 S_1 => bQ (aext t46 0) fun t47 => bQ (aext t46 1) fun t48 => newW (some (.own (.row 168 2 [[iv 0, nilS]]) fun u => .ptr u 0 0)) S_1 fun t16 S_2 => thenS (stv 2 t16 t47 S_2) fun _ S_3 => bQ (aun .not t48) fun t50 => gdQ t50 false (padd t16 0) fun t52 => gdQ t50 false (ldv false 1 t52 S_3) fun t53 => gdQ t50 false (some t9) fun t54 => gdQ t50 false (anil t54) fun t55 => gdQ t50 false (padd t55 2) fun t56 => gdQ t50 false (ldv false 1 t56 S_3) fun t57 => gdQ t50 false (abi .leq t53 t57) fun t58 => bQ (apick t50 (bv true) t58) fun t59 => condW t59 (K (.exit 0) (ofL [(0, t0), (1, t1), (7, t7), (9, t9), (10, t10), (11, t11)]) S_3) (bQ (ldv true 2 t16 S_3) fun t62 => bQ (frzOf (bslR true 2 168 2 1 1 [(0, t62)])) fun t63 => bQ (padd t16 0) fun t65 => bQ (ldv false 1 t65 S_3) fun t66 => apW (some (168, 2, 32, .slice)) t10 t63 S_3 fun t64 S_4 => ((ldv false 1 t65 S_4 = some t66) ∧ True) ∧ bQ (anil t9) fun t67 => bQ (padd t67 2) fun t68 => thenS (stv 1 t68 t66 S_4) fun _ S_5 => bQ (frzOf (bslR true 1 129 1 1 1 [(0, t43)])) fun t71 => ATriple PR 179 [t71] S_5 fun t72 S_6 => bQ (aln .slice t72 S_6) fun t73 => bQ (abi .add t11 t73) fun t74 => bQ (abi .add t40 (iv 1)) fun t75 => f217_L1 K t0 t1 t7 t9 t64 t74 t38 t39 t75 S_6)) (K (.exit 0) (ofL [(0, t0), (1, t1), (7, t7), (9, t9), (10, t10), (11, t11)]) S)
theorem f217_L1_pt : f217_l1 K t0 t1 t7 t9 t10 t11 t38 t39 t40 S → f217_L1 K t0 t1 t7 t9 t10 t11 t38 t39 t40 S := fun h => pL (.two (rg 1 0 0) (.two (.two (.nil) (.nil)) (.two (.one (.two (rg 3 0 0) (.two (rg 8 98 0) (.two (.two (.reg [0, 1, 3, 7, 15, 7, 39, 103, 231, 511, 1023] (pq 0 11 <| .done)) (.two (.nil) (.nil))) (.two (.reg [0, 0, 0, 4, 14, 0, 32, 30, 255, 511, 1023] (pq 0 3 <| .q 3 true <| pq 5 2 <| .e 4 [(6, false)] <| pq 7 3 <| .e 10 [] <| .done)) (rg 7 8 4)))))) (rg 2 0 0)))) [0, 1, 7, 9, 10, 11, 38, 39, 40] [0, 1, 7, 9, 10, 11] h
noncomputable def f217_K1 (Q : QT) : AK := (AK.block 0 (AK.andThen (fun st S => W PR none 94 f217_c2 ((ar (ar (ar (ar (ar (ar (ar (ar (ar f217_a1)))))))))) (retK PR Tryz.f217 (dropQ Q)) st S) (retK PR Tryz.f217 (dropQ Q))))
def f217_J2 (Q : QT) (t8 t9 t10 : AV) (S : Store) : Prop := AWp PR none 94 f217_c3 (retK PR Tryz.f217 (dropQ Q)) (ofL [(8, t8), (9, t9), (10, t10)]) S
def f217_j2 (Q : QT) (t8 t9 t10 : AV) (S : Store) : Prop := bQ (abi .neq t8 (iv 0)) fun t90 => condW t90 (dropQ Q (.tuple [.lit (.pointer none), nilS, t8]) S) (dropQ Q (.tuple [t9, t10, iv 0]) S)
theorem f217_J2_pt : f217_j2 Q t8 t9 t10 S → f217_J2 Q t8 t9 t10 S := fun h => pJ ((ar (ar (ar (ar (ar (ar (ar (ar (ar (ar f217_a1))))))))))) h
def f217_K1_e0 (Q : QT) (t0 t1 t7 t9 t10 t11 : AV) (S : Store) : Prop := bQ (aln .slice t7 S) fun t78 => bQ (abi .lss t11 t78) fun t79 => condW t79 (bQ (sliceV 1 t7 none (some t11) none S) fun t84 => ATriple PR 199 [t0, t1, t84] S fun t85 S_1 => f217_J2 Q t85 t9 t10 S_1) (ATriple PR 198 [t0, t1] S fun t88 S_2 => f217_J2 Q t88 t9 t10 S_2)
theorem f217_K1_e0_pt : f217_K1_e0 Q t0 t1 t7 t9 t10 t11 S → f217_K1 Q (.exit 0) (ofL [(0, t0), (1, t1), (7, t7), (9, t9), (10, t10), (11, t11)]) S := castP (by kernel_rfl)
def f217_s (t0 t1 : AV) (S : Store) (Q : QT) : Prop := bQ (aeqv false .ptr t0 (.lit (.pointer none)) S) fun t19 => condW t19 (dropQ Q (.tuple [.lit (.pointer none), nilS, iv 1]) S) (ATriple PR 216 [t0, t1, iv 0, iv 16777216] S fun t23 S_1 => bQ (aext t23 0) fun t24 => bQ (aext t23 1) fun t25 => bQ (abi .neq t25 (iv 0)) fun t27 => condW t27 (dropQ Q (.tuple [.lit (.pointer none), nilS, t25]) S_1) (bQ (abld [.lit (.pointer none), .lit (.string ⟨#[]⟩), iv 0, bv false] [(0, 1, t0), (1, 1, t1)]) fun t31 => newW (boxR false 278 t31) S_1 fun t32 S_2 => ATriple PR 184 [t24] S_2 fun t35 S_3 => bQ (aext t35 0) fun t36 => bQ (aext t35 1) fun t37 => bQ (aln .slice t36 S_3) fun t39 => f217_L1 (f217_K1 Q) t0 t1 t24 t32 nilS (iv 0) t36 t39 (iv 0) S_3))
theorem f217_ok : f217_s t0 t1 S Q → ATriple PR 217 [t0, t1] S Q := fun h => pF (fn := Tryz.f217) f217_a1 h
attribute [irreducible] f217_L1 f217_K1 f217_J2
def f420_s (t0 : AV) (S : Store) (Q : QT) : Prop := bQ (abi .lss t0 (iv 10)) fun t4 => condW t4 (bQ (abi .add t0 (iv 1)) fun t7 => bQ (sliceS (.lit (.string ⟨#[48, 49, 50, 51, 52, 53, 54, 55, 56, 57, 97, 98, 99, 100, 101, 102, 103, 104, 105, 106, 107, 108, 109, 110, 111, 112, 113, 114, 115, 116, 117, 118, 119, 120, 121, 122]⟩)) (some t0) (some t7)) fun t8 => dropQ Q t8 S) (bQ (abi .mul t0 (iv 2)) fun t10 => bQ (abi .mul t0 (iv 2)) fun t12 => bQ (abi .add t12 (iv 2)) fun t13 => bQ (sliceS (.lit (.string ⟨#[48, 48, 48, 49, 48, 50, 48, 51, 48, 52, 48, 53, 48, 54, 48, 55, 48, 56, 48, 57, 49, 48, 49, 49, 49, 50, 49, 51, 49, 52, 49, 53, 49, 54, 49, 55, 49, 56, 49, 57, 50, 48, 50, 49, 50, 50, 50, 51, 50, 52, 50, 53, 50, 54, 50, 55, 50, 56, 50, 57, 51, 48, 51, 49, 51, 50, 51, 51, 51, 52, 51, 53, 51, 54, 51, 55, 51, 56, 51, 57, 52, 48, 52, 49, 52, 50, 52, 51, 52, 52, 52, 53, 52, 54, 52, 55, 52, 56, 52, 57, 53, 48, 53, 49, 53, 50, 53, 51, 53, 52, 53, 53, 53, 54, 53, 55, 53, 56, 53, 57, 54, 48, 54, 49, 54, 50, 54, 51, 54, 52, 54, 53, 54, 54, 54, 55, 54, 56, 54, 57, 55, 48, 55, 49, 55, 50, 55, 51, 55, 52, 55, 53, 55, 54, 55, 55, 55, 56, 55, 57, 56, 48, 56, 49, 56, 50, 56, 51, 56, 52, 56, 53, 56, 54, 56, 55, 56, 56, 56, 57, 57, 48, 57, 49, 57, 50, 57, 51, 57, 52, 57, 53, 57, 54, 57, 55, 57, 56, 57, 57]⟩)) (some t10) (some t13)) fun t14 => dropQ Q t14 S)
theorem f420_ok : f420_s t0 S Q → ATriple PR 420 [t0] S Q := fun h => pF (fn := Tryz.f420) (.two (rg 1 0 0) (.two (.two (rg 2 0 0) (.two (.two (rg 5 0 0) (.nil)) (.nil))) (.two (rg 7 0 0) (.nil)))) h
noncomputable def f316_a1 : Ann := .two (rg 1 0 0) (.join [0, 1] (.two (rg 2 0 0) (.two (.two (.two (rg 6 0 0) (.two (.two (rg 3 2 0) (.nil)) (.nil))) (.two (rg 1 1 0) (.two (rg 3 0 0) (.join [0, 5, 6] (.two (rg 2 0 0) (.two (rg 3 0 0) (.nil))) (.two (rg 3 2 0) (.two (rg 5 16 0) (.two (.two (rg 2 0 0) (.two (.two (rg 2 2 0) (.two (rg 5 0 0) (.nil))) (.nil))) (.two (rg 5 0 0) (.nil))))))))) (.nil))) (.two (rg 11 32 0) (.two (rg 2 0 0) (.nil))))
noncomputable def f316_c1 : Code := (cr (cr (bodyOf Tryz.f316)))
noncomputable def f316_c2 : Code := (cr (cr (cr (cr (cl (cr (cl (cr (bodyOf Tryz.f316)))))))))
def f316_J1 (Q : QT) (t0 t1 : AV) (S : Store) : Prop := AWp PR none 54 f316_c1 (retK PR Tryz.f316 (dropQ Q)) (ofL [(0, t0), (1, t1)]) S
def f316_J2 (Q : QT) (t0 t5 t6 : AV) (S : Store) : Prop := AWp PR none 54 f316_c2 (AK.andThen (fun st S => AWp PR none 54 f316_c1 (retK PR Tryz.f316 (dropQ Q)) (mask [0, 1] st) S) (retK PR Tryz.f316 (dropQ Q))) (ofL [(0, t0), (5, t5), (6, t6)]) S
def f316_s (t0 t1 : AV) (S : Store) (Q : QT) : Prop := bQ (abi .eql t1 (iv 10)) fun t11 => condW t11 (bQ (abi .leq (iv 0) t0) fun t13 => gdQ t13 true (some t0) fun t15 => gdQ t13 true (abi .lss t15 (iv 100)) fun t16 => bQ (apick t13 t16 (bv false)) fun t17 => condW t17 (ATriple PR 420 [t0] S fun t19 S_1 => dropQ Q t19 S_1) (newW (some (.own (.row 437 24 [[uv 0, uv 0, uv 0, uv 0, uv 0, uv 0, uv 0, uv 0, uv 0, uv 0, uv 0, uv 0, uv 0, uv 0, uv 0, uv 0, uv 0, uv 0, uv 0, uv 0, uv 0, uv 0, uv 0, uv 0]]) fun u => .ptr u 0 0)) S fun t5 S_2 => bQ (acv (.int .u64) t0 S_2) fun t21 => bQ (abi .lss t0 (iv 0)) fun t23 => condW t23 (bQ (aun .neg t21) fun t25 => f316_J2 Q t0 t5 t25 S_2) (f316_J2 Q t0 t5 t21 S_2))) (f316_J1 Q t0 t1 S)
theorem f316_ok : f316_s t0 t1 S Q → ATriple PR 316 [t0, t1] S Q := fun h => pF (fn := Tryz.f316) f316_a1 h
attribute [irreducible] f316_J1 f316_J2
def f181_s (t0 : AV) (S : Store) (Q : QT) : Prop := ATriple PR 316 [t0, iv 10] S fun t4 S_1 => dropQ Q t4 S_1
theorem f181_ok : f181_s t0 S Q → ATriple PR 181 [t0] S Q := fun h => pF (fn := Tryz.f181) (.two (rg 1 0 0) (.two (rg 3 2 0) (.nil))) h
def f65_s (t0 : AV) (S : Store) (Q : QT) : Prop := ATriple PR 181 [t0] S fun t4 S_1 => dropQ Q t4 S_1
theorem f65_ok : f65_s t0 S Q → ATriple PR 65 [t0] S Q := fun h => pF (fn := Tryz.f65) (.two (rg 1 0 0) (.two (rg 3 2 0) (.nil))) h
end
end Go.Du
namespace Go.Du
open Go
attribute [local irreducible] ATriple W evP AI AExt
section
variable {S : Store} {d mt : Nat} {q : Int} {fs : List Fl}
theorem f170_c (h : DiskAt S d mt q fs) (k : AV) {Q : AV → Store → Prop} (hQ : Q (.tuple []) S) : ATriple PR 170 [.ptr d 0 0, k] S Q := by
  refine f170_ok ?_
  have e1 : stv 1 (.ptr d 0 2) (iv (-1)) S = some S := by
    rw [stv_at h.dk rfl rfl (by simp)]
    congr 1
    funext x
    by_cases e : x = d
    · subst e; rw [Store.set_same, h.dk]; rfl
    · rw [Store.set_ne _ _ _ e]
  simp -implicitDefEqProofs only [f170_s, anil_ptr, padd_ptr, Nat.zero_add, bQ_some, e1, thenS_some, dk_down h, aun_not, Bool.not_false, condW_bv, if_true]
  exact dropQ_self hQ
end
theorem f322_c (c : UInt8) (S : Store) {Q : AV → Store → Prop} (h : Q (bv (decide (ixByte signs c < 0))) S) : ATriple PR 322 [uv c.toNat] S Q := by
  refine f322_ok ?_
  simp -implicitDefEqProofs only [f322_s]
  refine f323_c signs c S ?_
  simp -implicitDefEqProofs only [abi_lss, bQ_some]
  exact dropQ_self h
theorem hb322 : hasBody PR 322 = true := by kernel_rfl
theorem hb187 : hasBody PR 187 = true := by kernel_rfl
set_option maxRecDepth 100000 in
theorem f428_loop (s : Bs) (hs : ∀ c ∈ s, 0 ≤ ixByte signs c) (hl : s.length ≤ 20) (K : AK) (S : Store) (h : K (.exit 0) (ofL [(4, .poison)]) S) :
    ∀ n i, n + i = s.length → f428_L1 K (bytes s) (.func (.func 322) [] []) (iv s.length) (iv i) S := by
  intro n
  induction n with
  | zero =>
    intro i hi
    refine f428_L1_pt ?_
    have : ¬ (i : Int) < s.length := by omega
    simp -implicitDefEqProofs only [f428_l1, abi_lss, bQ_some, this, decide_false, condW_bv, Bool.false_eq_true, if_false]
    exact h
  | succ n ih =>
    intro i hi
    refine f428_L1_pt ?_
    have hlt : i < s.length := by omega
    have hlt' : (i : Int) < s.length := by omega
    have w1 : IntKind.i64.wrap ((i : Int) + 1) = ((i + 1 : Nat) : Int) := by rw [wrap_id (by omega) (by omega)]; omega
    have e0 : ldv false 1 (.fptr [uv s[i].toNat] 0) S = some (uv s[i].toNat) := rfl
    simp -implicitDefEqProofs only [f428_l1, abi_lss, bQ_some, condW_bv, hlt', decide_true, if_true, ixA_bytes s i S hlt, e0, callW, hb322, List.nil_append, List.append_nil]
    refine f322_c s[i] S ?_
    have := hs s[i] (List.getElem_mem hlt)
    have hn : ¬ ixByte signs s[i] < 0 := by omega
    simp -implicitDefEqProofs only [condW_bv, hn, decide_false, Bool.false_eq_true, if_false, abi_add, w1, bQ_some]
    exact ih (i + 1) (by omega)
theorem f188_c (s : Bs) (hs : namedF s = true) (S : Store) {Q : AV → Store → Prop} (h : Q (bv true) S) : ATriple PR 188 [sv s] S Q := by
  refine f188_ok ?_
  simp only [namedF, Bool.and_eq_true, List.all_eq_true, decide_eq_true_eq] at hs
  obtain ⟨⟨h1, h2⟩, h3⟩ := hs
  have hne : (s == []) = false := by cases s <;> simp_all
  have hle : (s.length : Int) ≤ 20 := by omega
  have e0 : abi .neq (sv s) (.lit (.string ⟨#[]⟩)) = some (bv true) := by rw [show (AV.lit (.string ⟨#[]⟩)) = sv [] from rfl, abi_sneq, hne]; rfl
  have e1 : aln .str (sv s) S = some (iv s.length) := by simp [aln]
  simp -implicitDefEqProofs only [f188_s, e0, e1, bQ_some, gdQ_bv, gdE_bv, if_true, abi_leq, hle, decide_true, apick_bv, strR_sv, frzOf_frz]
  refine f324_ok ?_
  simp -implicitDefEqProofs only [f324_s]
  refine f428_ok ?_
  have e2 : aln .slice (bytes s) S = some (iv s.length) := by simp [aln]
  simp -implicitDefEqProofs only [f428_s, e2, bQ_some]
  refine f428_loop s h1 h3 _ S ?_ s.length 0 rfl
  refine f428_K1_e0_pt ?_
  refine dropQ_self ?_
  simp -implicitDefEqProofs only [abi_geq, bQ_some, show decide ((-1 : Int) ≥ 0) = false from rfl]
  refine dropQ_self ?_
  simp -implicitDefEqProofs only [aun_not, bQ_some, Bool.not_false, apick_bv, if_true]
  exact dropQ_self h
theorem f187_c (s : Bs) (hs : namedF s = true) (S : Store) {Q : AV → Store → Prop} (h : Q (bv false) S) : ATriple PR 187 [sv s] S Q := by
  refine f187_ok ?_
  simp -implicitDefEqProofs only [f187_s]
  refine f188_c s hs S ?_
  simp -implicitDefEqProofs only [aun_not, bQ_some, Bool.not_true]
  exact dropQ_self h
def RS : List Bs → AV
  | [] => nilS
  | s :: l => .svals (nms (s :: l))
theorem aln_RS (l : List Bs) (S : Store) : aln .slice (RS l) S = some (iv l.length) := by cases l <;> simp [RS, aln]
theorem ixA_RS (l : List Bs) (i : Nat) (S : Store) (h : i < l.length) : ixA 1 (RS l) (iv i) S = some (.fptr [sv l[i]] 0) := by
  cases l with
  | nil => simp at h
  | cons a l => exact ixA_map (fun s => [sv s]) (a :: l) i 1 S h fun _ => rfl
set_option maxRecDepth 100000 in
theorem f327_loop (l : List Bs) (hs : ∀ s ∈ l, namedF s = true) (hl : l.length ≤ 40) (K : AK) (S : Store) (h : K (.exit 0) (ofL [(4, .poison)]) S) :
    ∀ n i, n + i = l.length → f327_L1 K (RS l) (.func (.func 187) [] []) (iv l.length) (iv i) S := by
  intro n
  induction n with
  | zero =>
    intro i hi
    refine f327_L1_pt ?_
    have : ¬ (i : Int) < l.length := by omega
    simp -implicitDefEqProofs only [f327_l1, abi_lss, bQ_some, this, decide_false, condW_bv, Bool.false_eq_true, if_false]
    exact h
  | succ n ih =>
    intro i hi
    refine f327_L1_pt ?_
    have hlt : i < l.length := by omega
    have hlt' : (i : Int) < l.length := by omega
    have w1 : IntKind.i64.wrap ((i : Int) + 1) = ((i + 1 : Nat) : Int) := by rw [wrap_id (by omega) (by omega)]; omega
    have e0 : ldv false 1 (.fptr [sv l[i]] 0) S = some (sv l[i]) := rfl
    simp -implicitDefEqProofs only [f327_l1, abi_lss, bQ_some, condW_bv, hlt', decide_true, if_true, ixA_RS l i S hlt, e0, callW, hb187, List.nil_append, List.append_nil]
    refine f187_c l[i] (hs _ (List.getElem_mem hlt)) S ?_
    simp -implicitDefEqProofs only [condW_bv, Bool.false_eq_true, if_false, abi_add, w1, bQ_some]
    exact ih (i + 1) (by omega)
theorem f191_c (l : List Bs) (hs : ∀ s ∈ l, namedF s = true) (hl : l.length ≤ 40) (S : Store) {Q : AV → Store → Prop} (h : Q (bv false) S) : ATriple PR 191 [RS l, .func (.func 187) [] []] S Q := by
  refine f191_ok ?_
  simp -implicitDefEqProofs only [f191_s]
  refine f327_ok ?_
  simp -implicitDefEqProofs only [f327_s, aln_RS, bQ_some]
  refine f327_loop l hs hl _ S ?_ l.length 0 rfl
  refine f327_K1_e0_pt ?_
  refine dropQ_self ?_
  simp -implicitDefEqProofs only [abi_geq, bQ_some, show decide ((-1 : Int) ≥ 0) = false from rfl]
  exact dropQ_self h
abbrev BRc : List AV := [iv (-1), iv 0, iv 0, bv false]
abbrev BR : AV := .svals [BRc]
theorem f325_c (n : Nat) (hn : n ≤ 10000) (S : Store) {Q : AV → Store → Prop} (h : Q (bv true) S) : ATriple PR 325 [iv n] S Q := by
  refine f325_ok ?_
  have h1 : (n : Int) ≥ 0 := by omega
  have h2 : (n : Int) ≤ 10000 := by omega
  simp -implicitDefEqProofs only [f325_s, abi_geq, abi_leq, bQ_some, h1, h2, decide_true, gdQ_bv, if_true, apick_bv]
  exact dropQ_self h
theorem ixA_BR (S : Store) : ixA 4 BR (iv 0) S = some (.fptr BRc 0) := rfl
theorem ldv_BR (S : Store) : ldv true 4 (.fptr BRc 0) S = some (.agg BRc) := rfl
set_option maxRecDepth 100000 in
theorem f189_c (S : Store) {Q : AV → Store → Prop} (h : Q (bv true) S) : ATriple PR 189 [BR] S Q := by
  refine f189_ok ?_
  have e0 : ∀ S, aln .slice BR S = some (iv 1) := fun _ => rfl
  simp -implicitDefEqProofs only [f189_s, e0, bQ_some]
  refine f189_L1_pt ?_
  simp -implicitDefEqProofs only [f189_l1, abi_lss, bQ_some, condW_bv, show decide ((0 : Int) < 1) = true from rfl, if_true, ixA_BR, ldv_BR, newW_own]
  intro u hu
  rw [stv_box (sz := 4) rfl rfl rfl, thenS_some]
  have l0 : ldv false 1 (.ptr u 0 0) (S.set u (.row 26 4 [BRc])) = some (iv (-1)) := ldv_cell
  have l1 : ldv false 1 (.ptr u 0 1) (S.set u (.row 26 4 [BRc])) = some (iv 0) := ldv_cell
  have l2 : ldv false 1 (.ptr u 0 2) (S.set u (.row 26 4 [BRc])) = some (iv 0) := ldv_cell
  have c0 : cellsOf (.agg BRc) = BRc := rfl
  rw [c0]
  simp -implicitDefEqProofs only [abi_eql, bQ_some, show ((0 : Int) == 0) = true from rfl, gdQ_bv, if_true, padd_ptr, Nat.zero_add, Nat.add_zero, l0, l1, show ((-1 : Int) == -1) = true from rfl, apick_bv]
  simp -implicitDefEqProofs only [abi_gtr, bQ_some, show decide ((0 : Int) > 0) = false from rfl, gdQ_bv, gdE_bv, Bool.false_eq_true, if_false, apick_bv, aun_not, Bool.not_true, l2, if_true]
  refine f325_c 0 (by omega) _ ?_
  simp -implicitDefEqProofs only [aun_not, bQ_some, Bool.not_true, apick_bv, Bool.false_eq_true, if_false, condW_bv, abi_add, show IntKind.i64.wrap ((0 : Int) + 1) = 1 from by decide]
  refine f189_L1_pt ?_
  simp -implicitDefEqProofs only [f189_l1, abi_lss, bQ_some, condW_bv, show decide ((1 : Int) < 1) = false from rfl, Bool.false_eq_true, if_false]
  refine f189_K1_e0_pt ?_
  simp -implicitDefEqProofs only [f189_K1_e0, e0, bQ_some, abi_geq, show decide ((1 : Int) ≥ 1) = true from rfl, gdQ_bv, if_true, abi_leq, show decide ((1 : Int) ≤ 16) = true from rfl, apick_bv]
  exact ⟨_, S, Ent.drop ((Sub.refl S).set hu), h⟩
theorem f190_c (n : AV) (S : Store) {Q : AV → Store → Prop} (h : Q (bv true) S) : ATriple PR 190 [nilS, n] S Q := by
  refine f190_ok ?_
  have e0 : ∀ S, aln .slice nilS S = some (iv 0) := fun _ => rfl
  simp -implicitDefEqProofs only [f190_s, e0, bQ_some]
  refine f190_L1_pt ?_
  simp -implicitDefEqProofs only [f190_l1, abi_lss, bQ_some, condW_bv, show decide ((0 : Int) < 0) = false from rfl, Bool.false_eq_true, if_false]
  refine f190_K1_e0_pt ?_
  simp -implicitDefEqProofs only [f190_K1_e0, e0, bQ_some, abi_leq, show decide ((0 : Int) ≤ 12) = true from rfl]
  exact dropQ_self h
structure Mf where
  number : Nat
  epoch : Nat
  runs : List Bs
  log : Bs
def Mf.cs (m : Mf) : List AV := [iv m.number, iv m.epoch, BR, nilS, RS m.runs, sv m.log]
def Mf.av (m : Mf) : AV := .agg m.cs
structure Mf.Ok (m : Mf) : Prop where
  n1 : 1 ≤ m.number
  n2 : m.number ≤ 1000
  e1 : 1 ≤ m.epoch
  e2 : m.epoch ≤ 10000
  r1 : m.runs.length ≤ 40
  r2 : ∀ s ∈ m.runs, namedF s = true
  lg : namedF m.log = true
theorem okC_RS (l : List Bs) : okC (RS l) = true ∧ cellsOf (RS l) = [RS l] := by cases l <;> exact ⟨rfl, rfl⟩
section
variable (m : Mf) (S : Store)
theorem box_Mf : frzOf (boxR true 31 m.av) = some (.fptr m.cs 0) := rfl
theorem mf0 : ldv false 1 (.fptr m.cs 0) S = some (iv m.number) := rfl
theorem mf1 : ldv false 1 (.fptr m.cs 1) S = some (iv m.epoch) := rfl
theorem mf2 : ldv false 1 (.fptr m.cs 2) S = some BR := rfl
theorem mf3 : ldv false 1 (.fptr m.cs 3) S = some nilS := rfl
theorem mf4 : ldv false 1 (.fptr m.cs 4) S = some (RS m.runs) := rfl
theorem mf5 : ldv false 1 (.fptr m.cs 5) S = some (sv m.log) := rfl
theorem mfa : ldv true 6 (.fptr m.cs 0) S = some m.av := rfl
end
set_option maxRecDepth 100000 in
theorem f70_c (m : Mf) (hm : m.Ok) (S : Store) {Q : AV → Store → Prop} (h : Q (bv true) S) : ATriple PR 70 [m.av] S Q := by
  refine f70_ok ?_
  have a1 : (m.number : Int) ≥ 1 := by have := hm.n1; omega
  have a2 : (m.number : Int) ≤ 1099511627776 := by have := hm.n2; omega
  have a3 : (m.epoch : Int) ≥ 1 := by have := hm.e1; omega
  have a4 : (m.epoch : Int) ≤ 10000 := by have := hm.e2; omega
  have a5 : (m.runs.length : Int) ≤ 40 := by have := hm.r1; omega
  have eB : ∀ S, aln .slice BR S = some (iv 1) := fun _ => rfl
  simp -implicitDefEqProofs only [f70_s, box_Mf, bQ_some, padd_fptr, Nat.zero_add, mf0, mf1, mf2, abi_geq, abi_leq, a1, a2, a3, a4, decide_true, gdQ_bv, gdE_bv, if_true, apick_bv]
  refine f189_c S ?_
  simp -implicitDefEqProofs only [bQ_some, mf3, mf2, eB, gdQ_bv, gdE_bv, if_true, apick_bv]
  refine f190_c _ S ?_
  simp -implicitDefEqProofs only [bQ_some, mf4, aln_RS, a5, abi_leq, decide_true, gdQ_bv, gdE_bv, if_true, apick_bv]
  refine f191_c m.runs hm.r2 hm.r1 S ?_
  simp -implicitDefEqProofs only [bQ_some, aun_not, Bool.not_false, mf5, gdQ_bv, gdE_bv, if_true, apick_bv]
  refine f188_c m.log hm.lg S ?_
  exact dropQ_self h
end Go.Du
namespace Go.Du
open Go
attribute [local irreducible] ATriple W evP AI AExt
def manB (m : Mf) : Bs := [m.number, m.epoch, 1].flatMap putN ++ [0, 0, 0, 0].flatMap putN ++ [0].flatMap putN ++ [m.runs.length].flatMap putN ++ m.runs.flatMap textS ++ [m.log].flatMap textS
theorem putN_le2 {n : Nat} (h : n < 16384) : (putN n).length ≤ 2 := by
  by_cases h1 : n < 128
  · rw [putN_lt h1]; simp
  · rw [putN_ge h1, putN_lt (by omega)]; simp
theorem named_len {s : Bs} (h : namedF s = true) : s.length ≤ 20 := by
  simp only [namedF, Bool.and_eq_true, decide_eq_true_eq] at h; exact h.2
theorem texts_len : ∀ (l : List Bs), (∀ s ∈ l, s.length ≤ 20) → (l.flatMap textS).length ≤ 22 * l.length
  | [], _ => by simp
  | s :: l, h => by
    have ih := texts_len l fun x hx => h x (List.mem_cons_of_mem _ hx)
    have := h s (by simp)
    have := putN_le2 (n := s.length) (by omega)
    simp only [List.flatMap_cons, List.length_append, textS, List.length_cons]
    omega
theorem manB_len {m : Mf} (hm : m.Ok) : (manB m).length ≤ 1000 := by
  have h1 := putN_le2 (n := m.number) (by have := hm.n2; omega)
  have h2 := putN_le2 (n := m.epoch) (by have := hm.e2; omega)
  have h3 := putN_le2 (n := m.runs.length) (by have := hm.r1; omega)
  have h4 := texts_len m.runs fun s hs => named_len (hm.r2 s hs)
  have h5 := texts_len [m.log] fun s hs => by simp at hs; subst hs; exact named_len hm.lg
  have h6 := putN_le2 (n := 1) (by omega)
  have h7 := putN_le2 (n := 0) (by omega)
  have h8 := hm.r1
  simp only [manB, List.length_append, List.flatMap_cons, List.flatMap_nil, List.append_nil, List.length_cons, List.length_nil] at h5 ⊢
  omega
theorem bsl_n1 (a : Nat) : frzOf (bslR true 1 3 1 1 1 [(0, iv a)]) = some (nats [a]) := rfl
theorem bsl_n3 (a b c : Nat) : frzOf (bslR true 1 3 1 3 3 [(0, iv a), (1, iv b), (2, iv c)]) = some (nats [a, b, c]) := rfl
theorem f180_nil (b : AV) (bs : Bs) (S0 S : Store) (hg : Grow 5 1 S0 (byt bs) b S) (hr : bs.length ≤ 1099511627776) {Q : AV → Store → Prop} (h : ∀ v S', Grow 5 1 S0 (byt bs) v S' → Q v S') : ATriple PR 180 [b, nilS] S Q := by
  refine f180_ok ?_
  obtain ⟨z, hz⟩ := hg.slIn
  simp -implicitDefEqProofs only [f180_s]
  refine f311_c b bs S z hz hr fun v S' hg' => ?_
  obtain ⟨S2, h2, hg2⟩ := hg'.drop hg.sub
  have e0 : ∀ S, aln .slice nilS S = some (iv 0) := fun _ => rfl
  simp -implicitDefEqProofs only [e0, bQ_some]
  refine f180_L1_pt ?_
  simp -implicitDefEqProofs only [f180_l1, abi_lss, bQ_some, condW_bv, show decide ((0 : Int) < 0) = false from rfl, Bool.false_eq_true, if_false]
  refine f180_K1_e0_pt ?_
  exact ⟨_, _, Ent.drop h2, h _ _ hg2⟩
theorem f180_RS (b : AV) (bs : Bs) (l : List Bs) (S0 S : Store) (hg : Grow 5 1 S0 (byt bs) b S) (hlen : l.length ≤ 1099511627776) (hr : (bs ++ l.flatMap textS).length ≤ 1099511627776) {Q : AV → Store → Prop} (h : ∀ v S', Grow 5 1 S0 (byt (bs ++ l.flatMap textS)) v S' → Q v S') : ATriple PR 180 [b, RS l] S Q := by
  cases l with
  | nil =>
    simp only [List.flatMap_nil, List.append_nil] at h hr
    exact f180_nil b bs S0 S hg hr h
  | cons a l => exact f180_g b bs (a :: l) S0 S hg hlen hr h
set_option maxRecDepth 100000 in
theorem f343_c (m : Mf) (hm : m.Ok) (S : Store) {Q : AV → Store → Prop} (h : Q (.tuple [bytes (manB m), iv 0]) S) : ATriple PR 343 [m.av] S Q := by
  refine f343_ok ?_
  have hlen := manB_len hm
  have eB : ∀ S, aln .slice BR S = some (iv (1 : Nat)) := fun _ => rfl
  have eN : ∀ S, aln .slice nilS S = some (iv (0 : Nat)) := fun _ => rfl
  have sm : ∀ n ∈ [m.number, m.epoch, 1], n < 9223372036854775808 := by
    have := hm.n2; have := hm.e2
    intro n hn
    simp only [List.mem_cons, List.not_mem_nil, or_false] at hn
    omega
  have hl := hlen
  simp only [manB, List.length_append] at hl
  simp -implicitDefEqProofs only [f343_s, box_Mf, bQ_some, mfa]
  refine f70_c m hm S ?_
  simp -implicitDefEqProofs only [aun_not, bQ_some, Bool.not_true, condW_bv, Bool.false_eq_true, if_false, padd_fptr, Nat.zero_add, mf0, mf1, mf2, eB, bsl_n3]
  refine f177_c nilS [] [m.number, m.epoch, 1] S true (.nil S) sm (by simp) (by rw [List.nil_append]; omega) fun v1 S1 hg1 => ?_
  refine f343_L1_pt ?_
  simp -implicitDefEqProofs only [f343_l1, abi_lss, bQ_some, condW_bv, show decide ((0 : Int) < (1 : Nat)) = true from rfl, if_true, ixA_BR, ldv_BR, newW_own]
  intro u hu
  rw [stv_box (sz := 4) rfl rfl rfl, thenS_some]
  have c0 : cellsOf (.agg BRc) = BRc := rfl
  rw [c0]
  have l0 : ldv false 1 (.ptr u 0 0) (S1.set u (.row 26 4 [BRc])) = some (iv (-1)) := ldv_cell
  have l1 : ldv false 1 (.ptr u 0 1) (S1.set u (.row 26 4 [BRc])) = some (iv (0 : Nat)) := ldv_cell
  have l2 : ldv false 1 (.ptr u 0 2) (S1.set u (.row 26 4 [BRc])) = some (iv (0 : Nat)) := ldv_cell
  have l3 : ldv false 1 (.ptr u 0 3) (S1.set u (.row 26 4 [BRc])) = some (bv false) := ldv_cell
  simp -implicitDefEqProofs only [padd_ptr, Nat.zero_add, bQ_some, l3, condW_bv, Bool.false_eq_true, if_false]
  refine f343_J2_pt ?_
  have w0 : IntKind.i64.wrap ((-1 : Int) + 1) = ((0 : Nat) : Int) := by decide
  have b4 : frzOf (bslR true 1 3 1 4 4 [(0, iv (0 : Nat)), (1, iv (0 : Nat)), (2, iv (0 : Nat)), (3, .lit (.int .i64 0))]) = some (nats [0, 0, 0, 0]) := rfl
  simp -implicitDefEqProofs only [f343_j2, padd_ptr, Nat.zero_add, Nat.add_zero, bQ_some, l0, l1, l2, abi_add, w0, b4]
  obtain ⟨S1u, s1u, hg1u⟩ := hg1.under hu (.row 26 4 [BRc])
  refine f177_g v1 _ [0, 0, 0, 0] S1u _ hg1u (by simp) (by simp) (by rw [List.nil_append, List.length_append]; omega) fun v2 S2 hg2 => ?_
  simp -implicitDefEqProofs only [abi_add, bQ_some, show IntKind.i64.wrap ((0 : Int) + 1) = 1 from by decide]
  refine f343_L1_pt ?_
  simp -implicitDefEqProofs only [f343_l1, abi_lss, bQ_some, condW_bv, show decide ((1 : Int) < (1 : Nat)) = false from rfl, Bool.false_eq_true, if_false]
  refine f343_K1_e0_pt ?_
  have b1 : frzOf (bslR true 1 3 1 1 1 [(0, iv (0 : Nat))]) = some (nats [0]) := rfl
  simp -implicitDefEqProofs only [f343_K1_e0, padd_fptr, Nat.zero_add, mf3, bQ_some, eN, b1]
  refine f177_g v2 _ [0] S1u _ hg2 (by simp) (by simp) (by rw [List.nil_append, List.length_append, List.length_append]; omega) fun v3 S3 hg3 => ?_
  try simp -implicitDefEqProofs only [padd_fptr, Nat.zero_add, mf3, bQ_some, eN]
  refine f343_L3_pt ?_
  simp -implicitDefEqProofs only [f343_l3, abi_lss, bQ_some, condW_bv, show decide ((0 : Int) < (0 : Nat)) = false from rfl, Bool.false_eq_true, if_false]
  refine f343_K2_e2_pt ?_
  have b5 : frzOf (bslR true 1 9 1 1 1 [(0, sv m.log)]) = some (.svals (nms [m.log])) := rfl
  simp -implicitDefEqProofs only [f343_K2_e2, padd_fptr, Nat.zero_add, mf4, bQ_some, aln_RS, bsl_n1]
  refine f177_g v3 _ [m.runs.length] S1u _ hg3 (by have := hm.r1; simp; omega) (by simp) (by rw [List.nil_append, List.length_append, List.length_append, List.length_append]; omega) fun v4 S4 hg4 => ?_
  refine ⟨⟨trivial, trivial⟩, ?_⟩
  refine f180_RS v4 _ m.runs S1u _ hg4 (by have := hm.r1; omega) (by rw [List.nil_append, List.length_append, List.length_append, List.length_append, List.length_append]; omega) fun v5 S5 hg5 => ?_
  try simp -implicitDefEqProofs only [padd_fptr, Nat.zero_add, mf5, bQ_some, b5]
  refine f180_g v5 _ [m.log] S1u _ hg5 (by simp) (by rw [List.nil_append, List.length_append, List.length_append, List.length_append, List.length_append, List.length_append]; omega) fun v6 S6 hg6 => ?_
  have hg7 := hg6
  rw [List.nil_append, show [m.number, m.epoch, 1].flatMap putN ++ [0, 0, 0, 0].flatMap putN ++ [0].flatMap putN ++ [m.runs.length].flatMap putN ++ m.runs.flatMap textS ++ [m.log].flatMap textS = manB m from rfl] at hg7
  exact ⟨_, _, (hg7.entC (fun y => .tuple [y, iv 0]) fun _ _ _ _ h => (FrzL.cons h (.refl _ _ _)).tuple).trans (Ent.drop s1u), h⟩
abbrev tempM : Bs := [116, 101, 109, 112, 46, 109, 97, 110, 105, 102, 101, 115, 116]
abbrev fileM : Bs := [109, 97, 110, 105, 102, 101, 115, 116]
theorem named_temp : namedF tempM = true := by decide
theorem named_file : namedF fileM = true := by decide
theorem fIdx_none {n : Bs} {fs : List Fl} (h : fGet n fs = none) : fIdx n fs = none := by
  have : (fIdx n fs).isSome = false := by rw [← fGet_isSome, h]; rfl
  cases e : fIdx n fs with
  | none => rfl
  | some i => rw [e] at this; cases this
theorem fIdx_app {n : Bs} : ∀ {fs : List Fl} {f : Fl}, fIdx n fs = none → f.name = n → fIdx n (fs ++ [f]) = some fs.length
  | [], f, _, h => by simp [fIdx, h]
  | g :: fs, f, h, e => by
    simp only [fIdx] at h
    split at h
    · cases h
    · rename_i hne
      have h' : fIdx n fs = none := by simpa using h
      have := fIdx_app (f := f) h' e
      simp [fIdx, hne, this]
theorem fPut_new {f : Fl} {fs : List Fl} (h : fGet f.name fs = none) : fPut f fs = fs ++ [f] := by
  unfold fPut; rw [fIdx_none h]
theorem fPut_end {f g : Fl} {fs : List Fl} (h : fGet f.name fs = none) (hn : g.name = f.name) : fPut g (fs ++ [f]) = fs ++ [g] := by
  unfold fPut; rw [hn, fIdx_app (fIdx_none h) rfl]; simp
theorem fGet_end {f : Fl} {fs : List Fl} (h : fGet f.name fs = none) : fGet f.name (fs ++ [f]) = some f := by
  unfold fGet; rw [fIdx_app (fIdx_none h) rfl]; simp
theorem fDel_end {f : Fl} {fs : List Fl} (h : fGet f.name fs = none) : fDel f.name (fs ++ [f]) = fs := by
  unfold fDel; rw [fIdx_app (fIdx_none h) rfl]; simp [List.eraseIdx_append_of_length_le]
theorem usedF_app (fs : List Fl) (f : Fl) : usedF (fs ++ [f]) = usedF fs + f.b.length := by simp [usedF]
section
variable {S : Store} {d mt : Nat} {q : Int} {fs : List Fl}
theorem bsl_b1 (l : Bs) : frzOf (bslR true 1 129 1 1 1 [(0, bytes l)]) = some (.svals (bss [l])) := rfl
theorem ent_bytes {S0 S : Store} {l : Bs} {v : AV} (h : Grow 5 1 S0 (byt l) v S) : Ent v S (bytes l) S0 := h.ent
theorem f200_c (h : DiskAt S d mt q fs) (m : Mf) (hm : m.Ok) (ht : fGet tempM fs = none) (hl : fs.length < 399) (hB : (usedF fs : Int) + (frameB (manB m)).length ≤ q) (hq : q ≤ 16777216)
    {Q : AV → Store → Prop} (hQ : Q (iv 0) (S.set mt (.map (dEs (fPut ⟨fileM, frameB (manB m), (frameB (manB m)).length⟩ fs))))) : ATriple PR 200 [.ptr d 0 0, m.av] S Q := by
  refine f200_ok ?_
  have hml := manB_len hm
  simp -implicitDefEqProofs only [f200_s, box_Mf, mfa, bQ_some]
  refine f343_c m hm S ?_
  have e0 : aeqv false .ptr (.ptr d 0 0) (.lit (.pointer none)) S = some (bv false) := rfl
  simp -implicitDefEqProofs only [aext_tuple, List.getElem?_cons_zero, List.getElem?_cons_succ, bQ_some, e0, gdQ_bv, if_true, abi_neq, show ((0 : Int) != 0) = false from rfl, apick_bv, Bool.false_eq_true, if_false, condW_bv]
  refine f203_c h tempM ?_
  have hD := h.put fs
  rw [fDel_none ht, ht]
  simp -implicitDefEqProofs only [Option.isSome_none, Bool.false_eq_true, if_false, abi_eql, show ((8 : Int) == 7) = false from rfl, bQ_some, condW_bv]
  refine f194_c hD tempM named_temp ht (by omega) ?_
  rw [Store.set_set, fPut_new (f := ⟨tempM, [], 0⟩) ht]
  simp -implicitDefEqProofs only [abi_eql, show ((0 : Int) == 0) = true from rfl, bQ_some, condW_bv, if_true, bsl_b1]
  refine ATriple.drop (f179_c [manB m] (by simp) (by simp [frameB_len]; omega) _ fun v S1 hg => ⟨_, _, ent_bytes hg, ?_⟩)
  have hf : [manB m].flatMap frameB = frameB (manB m) := by simp
  rw [hf]
  have h1 : DiskAt (S.set mt (.map (dEs (fs ++ [⟨tempM, [], 0⟩])))) d mt q (fs ++ [⟨tempM, [], 0⟩]) := h.put _
  refine f196_c h1 tempM (f := ⟨tempM, [], 0⟩) (fGet_end (f := ⟨tempM, [], 0⟩) ht) (IsB.bytes _) (by rw [usedF_app]; simpa using hB) (by omega) ?_
  dsimp only
  rw [List.nil_append, Store.set_set, fPut_end (f := ⟨tempM, [], 0⟩) (g := ⟨tempM, frameB (manB m), 0⟩) ht rfl]
  have h2 : DiskAt (S.set mt (.map (dEs (fs ++ [⟨tempM, frameB (manB m), 0⟩])))) d mt q (fs ++ [⟨tempM, frameB (manB m), 0⟩]) := h.put _
  refine f200_J1_pt ?_
  simp -implicitDefEqProofs only [f200_j1, abi_eql, show ((0 : Int) == 0) = true from rfl, bQ_some, condW_bv, if_true]
  refine f198_c h2 tempM (f := ⟨tempM, frameB (manB m), 0⟩) (fGet_end (f := ⟨tempM, frameB (manB m), 0⟩) ht) ?_
  dsimp only
  rw [Store.set_set, fPut_end (f := ⟨tempM, frameB (manB m), 0⟩) (g := ⟨tempM, frameB (manB m), (frameB (manB m)).length⟩) ht rfl]
  have h3 : DiskAt (S.set mt (.map (dEs (fs ++ [⟨tempM, frameB (manB m), (frameB (manB m)).length⟩])))) d mt q (fs ++ [⟨tempM, frameB (manB m), (frameB (manB m)).length⟩]) := h.put _
  refine f200_J2_pt ?_
  simp -implicitDefEqProofs only [f200_j2, abi_eql, show ((0 : Int) == 0) = true from rfl, bQ_some, condW_bv, if_true]
  refine f342_c h3 tempM fileM named_file (f := ⟨tempM, frameB (manB m), (frameB (manB m)).length⟩) (fGet_end (f := ⟨tempM, frameB (manB m), (frameB (manB m)).length⟩) ht) ?_
  dsimp only
  rw [Store.set_set, fDel_end (f := ⟨tempM, frameB (manB m), (frameB (manB m)).length⟩) ht]
  refine f200_J3_pt ?_
  simp -implicitDefEqProofs only [f200_j3, abi_neq, show ((0 : Int) != 0) = false from rfl, bQ_some, gdQ_bv, Bool.false_eq_true, if_false, apick_bv, condW_bv]
  exact dropQ_self hQ
end
end Go.Du
namespace Go.Du
open Go
attribute [local irreducible] ATriple W evP AI AExt
abbrev tempL : Bs := [116, 101, 109, 112, 46, 108, 111, 103]
theorem named_tempL : namedF tempL = true := by decide
theorem hb338 : hasBody PR 338 = true := by kernel_rfl
theorem hb339 : hasBody PR 339 = true := by kernel_rfl
theorem hb340 : hasBody PR 340 = true := by kernel_rfl
theorem hb341 : hasBody PR 341 = true := by kernel_rfl
section
variable {S : Store} {d mt : Nat} {q : Int} {fs : List Fl}
theorem f199_c (h : DiskAt S d mt q fs) (n : Bs) (hn : namedF n = true) (ht : fGet tempL fs = none) (hl : fs.length < 399) (hB : (usedF fs : Int) ≤ q) (hq : q ≤ 16777216)
    {Q : AV → Store → Prop} (hQ : Q (iv 0) (S.set mt (.map (dEs (fPut ⟨n, [], 0⟩ fs))))) : ATriple PR 199 [.ptr d 0 0, sv n, nilS] S Q := by
  refine f199_ok ?_
  obtain ⟨P, hP⟩ : ∃ P : AV, P = .fptr [.ptr d 0 0] 0 := ⟨_, rfl⟩
  obtain ⟨N, hN⟩ : ∃ N : AV, N = .fptr [sv n] 0 := ⟨_, rfl⟩
  obtain ⟨B, hBB⟩ : ∃ B : AV, B = .fptr [nilS] 0 := ⟨_, rfl⟩
  have xP : frzOf (boxR true 34 (.ptr d 0 0)) = some P := by rw [hP]; rfl
  have xN : frzOf (boxR true 9 (sv n)) = some N := by rw [hN]; rfl
  have xB : frzOf (boxR true 129 nilS) = some B := by rw [hBB]; rfl
  have lP : ∀ S, ldv false 1 P S = some (.ptr d 0 0) := fun S => by rw [hP]; rfl
  have lN : ∀ S, ldv false 1 N S = some (sv n) := fun S => by rw [hN]; rfl
  have lB : ∀ S, ldv false 1 B S = some nilS := fun S => by rw [hBB]; rfl
  obtain ⟨L, hL⟩ : ∃ L : List (List AV), L = [[.func (.func 338) [] [P]], [.func (.func 339) [] [P, B]], [.func (.func 340) [] [P]], [.func (.func 341) [] [P, N]]] := ⟨_, rfl⟩
  have xL : frzOf (bslR true 1 67 1 4 4 [(0, .func (.func 338) [] [P]), (1, .func (.func 339) [] [P, B]), (2, .func (.func 340) [] [P]), (3, .func (.func 341) [] [P, N])]) = some (.svals L) := by rw [hL]; rfl
  simp -implicitDefEqProofs only [f199_s, xP, xN, xB, lP, bQ_some]
  refine f203_c h tempL ?_
  have hD := h.put fs
  rw [fDel_none ht, ht]
  simp -implicitDefEqProofs only [Option.isSome_none, Bool.false_eq_true, if_false, abi_eql, show ((8 : Int) == 7) = false from rfl, bQ_some, condW_bv, xL]
  refine f337_ok ?_
  have aL : ∀ S, aln .slice (.svals L) S = some (iv 4) := fun S => by rw [hL]; rfl
  have i0 : ∀ S, ixA 1 (.svals L) (iv 0) S = some (.fptr [.func (.func 338) [] [P]] 0) := fun S => by rw [hL]; rfl
  have i1 : ∀ S, ixA 1 (.svals L) (iv 1) S = some (.fptr [.func (.func 339) [] [P, B]] 0) := fun S => by rw [hL]; rfl
  have i2 : ∀ S, ixA 1 (.svals L) (iv 2) S = some (.fptr [.func (.func 340) [] [P]] 0) := fun S => by rw [hL]; rfl
  have i3 : ∀ S, ixA 1 (.svals L) (iv 3) S = some (.fptr [.func (.func 341) [] [P, N]] 0) := fun S => by rw [hL]; rfl
  have ld : ∀ (g : Nat) (c : List AV) S, ldv false 1 (.fptr [.func (.func g) [] c] 0) S = some (.func (.func g) [] c) := fun g c S => rfl
  simp -implicitDefEqProofs only [f337_s, aL, bQ_some]
  refine f337_L1_pt ?_
  simp -implicitDefEqProofs only [f337_l1, abi_lss, bQ_some, condW_bv, show decide ((0 : Int) < 4) = true from rfl, if_true, i0, ld, callW, hb338, List.nil_append]
  refine f338_ok ?_
  simp -implicitDefEqProofs only [f338_s, lP, bQ_some]
  refine f194_c hD tempL named_tempL ht (by omega) ?_
  rw [Store.set_set, fPut_new (f := ⟨tempL, [], 0⟩) ht]
  have h1 : DiskAt (S.set mt (.map (dEs (fs ++ [⟨tempL, [], 0⟩])))) d mt q (fs ++ [⟨tempL, [], 0⟩]) := h.put _
  refine dropQ_self ?_
  simp -implicitDefEqProofs only [abi_neq, show ((0 : Int) != 0) = false from rfl, bQ_some, condW_bv, Bool.false_eq_true, if_false, abi_add, show IntKind.i64.wrap ((0 : Int) + 1) = 1 from by decide]
  refine f337_L1_pt ?_
  simp -implicitDefEqProofs only [f337_l1, abi_lss, bQ_some, condW_bv, show decide ((1 : Int) < 4) = true from rfl, if_true, i1, ld, callW, hb339, List.nil_append]
  refine f339_ok ?_
  simp -implicitDefEqProofs only [f339_s, lP, lB, bQ_some]
  refine f196_c h1 tempL (f := ⟨tempL, [], 0⟩) (fGet_end (f := ⟨tempL, [], 0⟩) ht) IsB.nil (by rw [usedF_app]; simpa using hB) (by omega) ?_
  dsimp only
  rw [List.nil_append, Store.set_set, fPut_end (f := ⟨tempL, [], 0⟩) (g := ⟨tempL, [], 0⟩) ht rfl]
  refine dropQ_self ?_
  simp -implicitDefEqProofs only [abi_neq, show ((0 : Int) != 0) = false from rfl, bQ_some, condW_bv, Bool.false_eq_true, if_false, abi_add, show IntKind.i64.wrap ((1 : Int) + 1) = 2 from by decide]
  refine f337_L1_pt ?_
  simp -implicitDefEqProofs only [f337_l1, abi_lss, bQ_some, condW_bv, show decide ((2 : Int) < 4) = true from rfl, if_true, i2, ld, callW, hb340, List.nil_append]
  refine f340_ok ?_
  simp -implicitDefEqProofs only [f340_s, lP, bQ_some]
  refine f198_c h1 tempL (f := ⟨tempL, [], 0⟩) (fGet_end (f := ⟨tempL, [], 0⟩) ht) ?_
  dsimp only
  rw [Store.set_set, fPut_end (f := ⟨tempL, [], 0⟩) (g := ⟨tempL, [], ([] : Bs).length⟩) ht rfl]
  refine dropQ_self ?_
  simp -implicitDefEqProofs only [abi_neq, show ((0 : Int) != 0) = false from rfl, bQ_some, condW_bv, Bool.false_eq_true, if_false, abi_add, show IntKind.i64.wrap ((2 : Int) + 1) = 3 from by decide, List.length_nil]
  refine f337_L1_pt ?_
  simp -implicitDefEqProofs only [f337_l1, abi_lss, bQ_some, condW_bv, show decide ((3 : Int) < 4) = true from rfl, if_true, i3, ld, callW, hb341, List.nil_append]
  refine f341_ok ?_
  simp -implicitDefEqProofs only [f341_s, lP, lN, bQ_some]
  refine f342_c h1 tempL n hn (f := ⟨tempL, [], 0⟩) (fGet_end (f := ⟨tempL, [], 0⟩) ht) ?_
  dsimp only
  rw [Store.set_set, fDel_end (f := ⟨tempL, [], 0⟩) ht]
  refine dropQ_self ?_
  simp -implicitDefEqProofs only [abi_neq, show ((0 : Int) != 0) = false from rfl, bQ_some, condW_bv, Bool.false_eq_true, if_false, abi_add, show IntKind.i64.wrap ((3 : Int) + 1) = 4 from by decide]
  refine f337_L1_pt ?_
  simp -implicitDefEqProofs only [f337_l1, abi_lss, bQ_some, condW_bv, show decide ((4 : Int) < 4) = false from rfl, Bool.false_eq_true, if_false]
  refine f337_K1_e0_pt ?_
  refine dropQ_self ?_
  simp -implicitDefEqProofs only [abi_neq, show ((0 : Int) != 0) = false from rfl, bQ_some, gdQ_bv, Bool.false_eq_true, if_false, apick_bv, condW_bv]
  exact dropQ_self hQ
def logOb (d : Nat) (n : Bs) : AObj := .row 278 4 [[.ptr d 0 0, sv n, iv 0, bv false]]
theorem f72_c (h : DiskAt S d mt q fs) (n : Bs) (hn : namedF n = true) (ht : fGet tempL fs = none) (hl : fs.length < 399) (hB : (usedF fs : Int) ≤ q) (hq : q ≤ 16777216)
    {Q : AV → Store → Prop} (hQ : ∀ p, S p = none → p ≠ mt → Q (.tuple [.ptr p 0 0, iv 0]) ((S.set mt (.map (dEs (fPut ⟨n, [], 0⟩ fs)))).set p (logOb d n))) : ATriple PR 72 [.ptr d 0 0, sv n] S Q := by
  refine f72_ok ?_
  have e0 : ∀ S, aeqv false .ptr (.ptr d 0 0) (.lit (.pointer none)) S = some (bv false) := fun _ => rfl
  simp -implicitDefEqProofs only [f72_s, e0, bQ_some, condW_bv, Bool.false_eq_true, if_false]
  refine f199_c h n hn ht hl hB hq ?_
  have e1 : abld [.lit (.pointer none), .lit (.string ⟨#[]⟩), .lit (.int .i64 0), .lit (.bool false)] [(0, 1, .ptr d 0 0), (1, 1, sv n)] = some (.agg [.ptr d 0 0, sv n, iv 0, bv false]) := rfl
  simp -implicitDefEqProofs only [abi_neq, show ((0 : Int) != 0) = false from rfl, bQ_some, condW_bv, Bool.false_eq_true, if_false, e1]
  show ∀ p, _ → _
  intro p hp
  have hpm : p ≠ mt := fun e => by subst e; rw [Store.set_same] at hp; cases hp
  rw [Store.set_ne _ _ _ hpm] at hp
  exact dropQ_self (hQ p hp hpm)
theorem f217_c (h : DiskAt S d mt q fs) (n : Bs) (hf : fGet n fs = some ⟨n, [], 0⟩) {Q : AV → Store → Prop} (hQ : ∀ p, S p = none → p ≠ mt → Q (.tuple [.ptr p 0 0, nilS, iv 0]) (S.set p (logOb d n))) : ATriple PR 217 [.ptr d 0 0, sv n] S Q := by
  refine f217_ok ?_
  have e0 : ∀ S, aeqv false .ptr (.ptr d 0 0) (.lit (.pointer none)) S = some (bv false) := fun _ => rfl
  simp -implicitDefEqProofs only [f217_s, e0, bQ_some, condW_bv, Bool.false_eq_true, if_false]
  refine f216_nil h n hf rfl 16777216 (by omega) ?_
  have e1 : abld [.lit (.pointer none), .lit (.string ⟨#[]⟩), .lit (.int .i64 0), .lit (.bool false)] [(0, 1, .ptr d 0 0), (1, 1, sv n)] = some (.agg [.ptr d 0 0, sv n, iv 0, bv false]) := rfl
  simp -implicitDefEqProofs only [aext_tuple, List.getElem?_cons_zero, List.getElem?_cons_succ, abi_neq, show ((0 : Int) != 0) = false from rfl, bQ_some, condW_bv, Bool.false_eq_true, if_false, e1]
  show ∀ p, _ → _
  intro p hp
  have hpm : p ≠ mt := fun e => by subst e; rw [h.mp] at hp; cases hp
  have hs : Sub S (S.set p (logOb d n)) := (Sub.refl S).set hp
  refine f184_c [] (by simp) (by simp) _ ?_
  have e2 : ∀ S, aln .slice (.svals (bss [])) S = some (iv 0) := fun _ => rfl
  have e3 : ∀ S, aln .slice (bytes []) S = some (iv 0) := fun _ => rfl
  simp -implicitDefEqProofs only [aext_tuple, List.getElem?_cons_zero, List.getElem?_cons_succ, bQ_some, e2]
  refine f217_L1_pt ?_
  simp -implicitDefEqProofs only [f217_l1, abi_lss, bQ_some, condW_bv, show decide ((0 : Int) < 0) = false from rfl, Bool.false_eq_true, if_false]
  refine f217_K1_e0_pt ?_
  simp -implicitDefEqProofs only [f217_K1_e0, e3, abi_lss, bQ_some, condW_bv, show decide ((0 : Int) < 0) = false from rfl, Bool.false_eq_true, if_false]
  have h2 : DiskAt (S.set p (logOb d n)) d mt q fs := h.sub hs
  refine f198_c h2 n hf ?_
  dsimp only
  have e4 : fPut ⟨n, [], ([] : Bs).length⟩ fs = fs := by
    unfold fPut
    cases hi : fIdx n fs with
    | none =>
      have := @fGet_isSome n fs
      rw [hf, hi] at this; cases this
    | some i =>
      obtain ⟨g1, g2⟩ := fIdx_lt hi
      unfold fGet at hf
      rw [hi] at hf
      simp [g1] at hf
      simp only [List.length_nil]
      rw [← hf]
      exact List.set_getElem_self g1
  rw [e4]
  have e5 : (S.set p (logOb d n)).set mt (.map (dEs fs)) = S.set p (logOb d n) := by
    funext x
    by_cases e : x = mt
    · subst e; rw [Store.set_same]; exact h2.mp.symm
    · rw [Store.set_ne _ _ _ e]
  rw [e5]
  refine f217_J2_pt ?_
  simp -implicitDefEqProofs only [f217_j2, abi_neq, show ((0 : Int) != 0) = false from rfl, bQ_some, condW_bv, Bool.false_eq_true, if_false]
  exact dropQ_self (hQ p hp hpm)
end
theorem f65_c (n : Nat) (hn : n < 10) (S : Store) {Q : AV → Store → Prop} (h : Q (sv [UInt8.ofNat (48 + n)]) S) : ATriple PR 65 [iv n] S Q := by
  refine f65_ok ?_
  simp -implicitDefEqProofs only [f65_s]
  refine f181_ok ?_
  simp -implicitDefEqProofs only [f181_s]
  refine f316_ok ?_
  have h0 : (0 : Int) ≤ n := by omega
  have h1 : (n : Int) < 100 := by omega
  have h2 : (n : Int) < 10 := by omega
  simp -implicitDefEqProofs only [f316_s, abi_eql, bQ_some, show ((10 : Int) == 10) = true from rfl, condW_bv, if_true, abi_leq, abi_lss, h0, h1, decide_true, gdQ_bv, apick_bv]
  refine f420_ok ?_
  simp -implicitDefEqProofs only [f420_s, abi_lss, bQ_some, h2, decide_true, condW_bv, if_true]
  have fin : ∀ x : AV, x = sv [UInt8.ofNat (48 + n)] → dropQ (fun t19 S_1 => dropQ (fun t4 S_1 => dropQ (fun t4 S_1 => dropQ Q t4 S_1) t4 S_1) t19 S_1) x S := fun x hx => by subst hx; exact dropQ_self (dropQ_self (dropQ_self (dropQ_self h)))
  rcases (by omega : n = 0 ∨ n = 1 ∨ n = 2 ∨ n = 3 ∨ n = 4 ∨ n = 5 ∨ n = 6 ∨ n = 7 ∨ n = 8 ∨ n = 9) with rfl | rfl | rfl | rfl | rfl | rfl | rfl | rfl | rfl | rfl <;> exact fin _ rfl
end Go.Du
namespace Go.Du
open Go
set_option maxRecDepth 1000000
section
open Go.Proofs
variable {S : Store} {Q : QT} {K : AK} {t0 t1 t2 t3 t4 t5 t6 t7 t8 t9 t10 t11 t12 t13 t14 t17 t30 t31 t32 : AV}
def f215_s (t0 : AV) (S : Store) (Q : QT) : Prop := newW (some (.own (.row 31 6 [[iv 0, iv 0, nilS, nilS, nilS, .lit (.string ⟨#[]⟩)]]) fun u => .ptr u 0 0)) S fun t2 S_1 => ATriple PR 354 [t0] S_1 fun t10 S_2 => bQ (aext t10 0) fun t11 => bQ (aext t10 1) fun t12 => newW (some (.own (.row 31 6 [[iv 0, iv 0, nilS, nilS, nilS, .lit (.string ⟨#[]⟩)]]) fun u => .ptr u 0 0)) S_2 fun t4 S_3 => thenS (stv 6 t4 t11 S_3) fun _ S_4 => bQ (abi .neq t12 (iv 8)) fun t14 => condW t14 (bQ (ldv true 6 t4 S_4) fun t15 => thenS (stv 6 t2 t15 S_4) fun _ S_5 => retW (resC (ldv true 6 t2 S_5) ((some []).map (t12 :: ·))) (dropQ Q) S_5) (bQ (abld [iv 0, iv 0, iv 0, bv false] [(0, 1, iv (-1))]) fun t17 => bQ (frzOf (bslR true 4 26 4 1 1 [(0, t17)])) fun t18 => bQ (abld [iv 0, iv 0, nilS, nilS, nilS, .lit (.string ⟨#[]⟩)] [(0, 1, iv 1), (1, 1, iv 1), (2, 1, t18), (5, 1, .lit (.string ⟨#[108, 111, 103, 45, 49]⟩))]) fun t19 => thenS (stv 6 t4 t19 S_4) fun _ S_6 => bQ (padd t4 5) fun t22 => bQ (ldv false 1 t22 S_6) fun t23 => ATriple PR 72 [t0, t23] S_6 fun t24 S_7 => bQ (aext t24 0) fun t25 => bQ (aext t24 1) fun t26 => bQ (abi .neq t26 (iv 0)) fun t28 => condW t28 (bQ (ldv true 6 t4 S_7) fun t29 => thenS (stv 6 t2 t29 S_7) fun _ S_8 => retW (resC (ldv true 6 t2 S_8) ((some []).map (t26 :: ·))) (dropQ Q) S_8) (bQ (ldv true 6 t4 S_7) fun t31 => bQ (ldv true 6 t4 S_7) fun t33 => ATriple PR 200 [t0, t33] S_7 fun t34 S_9 => ((ldv true 6 t4 S_9 = some t31) ∧ True) ∧ thenS (stv 6 t2 t31 S_9) fun _ S_10 => retW (resC (ldv true 6 t2 S_10) ((some []).map (t34 :: ·))) (dropQ Q) S_10))
theorem f215_ok : f215_s t0 S Q → ATriple PR 215 [t0] S Q := fun h => pF (fn := Tryz.f215) (.two (rg 2 1 0) (.two (rg 8 98 0) (.two (.two (rg 2 0 0) (.two (.two (rg 4 4 0) (.nil)) (.nil))) (.two (rg 4 8 2) (.two (.two (rg 9 8 0) (.two (rg 2 0 0) (.two (.two (rg 4 4 0) (.nil)) (.nil)))) (.two (.reg [0, 0, 0, 6, 15, 31] (pq 0 3 <| .e 3 [(0, false)] <| .e 4 [] <| .q 5 false <| .done)) (.nil))))))) h
noncomputable def f75_c1 : Code := (cl (cl (cr (bodyOf Tryz.f75))))
def f75_L1 (K : AK) (t0 t8 t9 t10 : AV) (S : Store) : Prop := AI PR none 42 [.code f75_c1, .inLoop f75_c1] K (ofL [(0, t0), (8, t8), (9, t9), (10, t10)]) S
def f75_l1 (K : AK) (t0 t8 t9 t10 : AV) (S : Store) : Prop := bQ (abi .lss t10 t9) fun t11 => condW t11 (bQ (ixA 1 t8 t10 S) fun t12 => bQ (ldv false 1 t12 S) fun t13 => bQ (abi .neq t13 (.lit (.string ⟨#[109, 97, 110, 105, 102, 101, 115, 116]⟩))) fun t15 => gdQ t15 true (some t13) fun t17 => gdQ t15 true (some t0) fun t18 => gdQ t15 true (anil t18) fun t19 => gdQ t15 true (padd t19 1) fun t20 => gdQ t15 true (padd t20 5) fun t21 => gdQ t15 true (ldv false 1 t21 S) fun t22 => gdQ t15 true (abi .neq t17 t22) fun t23 => bQ (apick t15 t23 (bv false)) fun t24 => gdQ t24 true (some t0) fun t26 => gdQ t24 true (anil t26) fun t27 => gdQ t24 true (padd t27 1) fun t28 => gdQ t24 true (padd t28 4) fun t29 => gdQ t24 true (ldv false 1 t29 S) fun t30 => gdQ t24 true (some t13) fun t31 => gdE t24 true (fun K => ATriple PR 202 [t30, t31] S K) S fun t32 S_1 => gdQ t24 true (aun .not t32) fun t33 => bQ (apick t24 t33 (bv false)) fun t34 => condW t34 (bQ (anil t0) fun t36 => bQ (padd t36 0) fun t37 => bQ (ldv false 1 t37 S_1) fun t38 => ATriple PR 203 [t38, t13] S_1 fun t40 S_2 => bQ (abi .add t10 (iv 1)) fun t41 => f75_L1 K t0 t8 t9 t41 S_2) (bQ (abi .add t10 (iv 1)) fun t41_1 => f75_L1 K t0 t8 t9 t41_1 S_1)) (K (.exit 0) (ofL []) S)
theorem f75_L1_pt : f75_l1 K t0 t8 t9 t10 S → f75_L1 K t0 t8 t9 t10 S := fun h => pL (.two (rg 1 0 0) (.two (.two (.nil) (.nil)) (.two (.one (.two (rg 3 0 0) (.two (rg 21 262144 0) (.two (rg 6 32 0) (.nil))))) (rg 2 0 0)))) [0, 8, 9, 10] [] h
noncomputable def f75_K1 (Q : QT) : AK := (AK.block 0 (retK PR Tryz.f75 (dropQ Q)))
def f75_K1_e0 (Q : QT) (S : Store) : Prop := dropQ Q (.tuple []) S
theorem f75_K1_e0_pt : f75_K1_e0 Q S → f75_K1 Q (.exit 0) (ofL []) S := castP (by kernel_rfl)
def f75_s (t0 : AV) (S : Store) (Q : QT) : Prop := bQ (anil t0) fun t5 => bQ (padd t5 0) fun t6 => bQ (ldv false 1 t6 S) fun t7 => ATriple PR 201 [t7] S fun t8 S_1 => bQ (aln .slice t8 S_1) fun t9 => f75_L1 (f75_K1 Q) t0 t8 t9 (iv 0) S_1
theorem f75_ok : f75_s t0 S Q → ATriple PR 75 [t0] S Q := fun h => pF (fn := Tryz.f75) (.two (rg 7 16 0) (.one (.loop [0, 8, 9, 10]))) h
attribute [irreducible] f75_L1 f75_K1
noncomputable def f87_a1 : Ann := .two (rg 3 0 0) (.two (.two (rg 2 0 0) (.two (.two (rg 3 0 0) (.nil)) (.nil))) (.two (rg 8 98 0) (.two (.two (rg 2 0 0) (.two (.two (rg 4 0 0) (.nil)) (.nil))) (.two (rg 5 8 0) (.two (.two (rg 4 0 0) (.one (.loop [0, 5, 7, 30, 31, 32]))) (.two (rg 11 8 0) (.two (.one (.two (rg 3 0 0) (.two (.two (rg 3 0 0) (.nil)) (.two (rg 3 0 0) (.two (.two (rg 4 0 0) (.nil)) (.nil)))))) (.two (rg 5 16 0) (.two (rg 2 2 0) (.two (.two (rg 3 2 0) (.two (.two (rg 3 0 0) (.nil)) (.nil))) (.two (rg 7 8 0) (.nil))))))))))))
noncomputable def f87_c1 : Code := (cl (cl (cr (cl (cr (cr (cr (cr (cr (bodyOf Tryz.f87))))))))))
noncomputable def f87_c2 : Code := (cr (cr (cr (cr (cr (cr (bodyOf Tryz.f87)))))))
def f87_L1 (K : AK) (t0 t5 t7 t30 t31 t32 : AV) (S : Store) : Prop := AI PR none 91 [.code f87_c1, .inLoop f87_c1] K (ofL [(0, t0), (5, t5), (7, t7), (30, t30), (31, t31), (32, t32)]) S
def f87_l1 (K : AK) (t0 t5 t7 t30 t31 t32 : AV) (S : Store) : Prop := bQ (abi .lss t32 t31) fun t33 => condW t33 (bQ (ixA 1 t30 t32 S) fun t34 => bQ (ldv false 1 t34 S) fun t35 => ATriple PR 216 [t0, t35, iv 0, iv 16777216] S fun t39 S_1 => bQ (aext t39 0) fun t40 => bQ (aext t39 1) fun t41 => bQ (abi .eql t41 (iv 7)) fun t43 => condW t43 (K .ret (ofL [(0, t0), (2, .lit (.pointer none)), (3, nilS), (4, t41), (5, t5), (7, t7)]) S_1) (ATriple PR 69 [t40] S_1 fun t47 S_2 => bQ (aext t47 0) fun t48 => bQ (aext t47 1) fun t49 => bQ (abi .neq t49 (iv 0)) fun t51 => condW t51 (K .ret (ofL [(0, t0), (2, .lit (.pointer none)), (3, nilS), (4, iv 10), (5, t5), (7, t7)]) S_2) (bQ (anil t7) fun t54 => bQ (padd t54 7) fun t55 => bQ (ldv false 1 t55 S_2) fun t56 => bQ (frzOf (bslR true 1 140 1 1 1 [(0, t48)])) fun t58 => apW (some (140, 1, 8, .slice)) t56 t58 S_2 fun t59 S_3 => bQ (anil t7) fun t60 => bQ (padd t60 7) fun t61 => thenS (stv 1 t61 t59 S_3) fun _ S_4 => bQ (abi .add t32 (iv 1)) fun t62 => f87_L1 K t0 t5 t7 t30 t31 t62 S_4))) (K (.exit 0) (ofL [(0, t0), (2, .poison), (3, .poison), (4, .poison), (5, t5), (7, t7)]) S)
theorem f87_L1_pt : f87_l1 K t0 t5 t7 t30 t31 t32 S → f87_L1 K t0 t5 t7 t30 t31 t32 S := fun h => pL (.two (rg 1 0 0) (.two (.two (.nil) (.nil)) (.two (.one (.two (rg 3 0 0) (.two (rg 8 4 0) (.two (.two (rg 2 0 0) (.two (.two (rg 4 0 0) (.nil)) (.nil))) (.two (rg 7 2 0) (.two (.two (rg 2 0 0) (.two (.two (rg 3 0 0) (.nil)) (.nil))) (rg 11 1152 64))))))) (rg 2 0 0)))) [0, 5, 7, 30, 31, 32] [0, 2, 3, 4, 5, 7] h
noncomputable def f87_K1 (Q : QT) : AK := (AK.block 0 (AK.andThen (fun st S => W PR none 91 f87_c2 ((ar (ar (ar (ar (ar (ar f87_a1))))))) (retK PR Tryz.f87 (dropQ Q)) st S) (retK PR Tryz.f87 (dropQ Q))))
def f87_K1_e0 (Q : QT) (t0 t2 t3 t4 t5 t7 : AV) (S : Store) : Prop := bQ (padd t5 5) fun t65 => bQ (ldv false 1 t65 S) fun t66 => ATriple PR 217 [t0, t66] S fun t67 S_1 => bQ (aext t67 0) fun t68 => bQ (aext t67 1) fun t69 => bQ (aext t67 2) fun t70 => bQ (abi .eql t70 (iv 8)) fun t73 => condW t73 (dropQ Q (.tuple [.lit (.pointer none), nilS, iv 10]) S_1) (bQ (abi .neq t70 (iv 0)) fun t76 => condW t76 (dropQ Q (.tuple [.lit (.pointer none), nilS, t70]) S_1) (bQ (anil t7) fun t80 => bQ (padd t80 8) fun t81 => thenS (stv 1 t81 t68 S_1) fun _ S_2 => ATriple PR 75 [t7] S_2 fun t83 S_3 => ATriple PR 169 [t0] S_3 fun t85 S_4 => bQ (aun .not t85) fun t86 => condW t86 (dropQ Q (.tuple [.lit (.pointer none), nilS, iv 7]) S_4) (ATriple PR 218 [t69, .func (.func 219) [] [t5]] S_4 fun t90 S_5 => dropQ Q (.tuple [t7, t90, iv 0]) S_5)))
theorem f87_K1_e0_pt : f87_K1_e0 Q t0 t2 t3 t4 t5 t7 S → f87_K1 Q (.exit 0) (ofL [(0, t0), (2, t2), (3, t3), (4, t4), (5, t5), (7, t7)]) S := castP (by kernel_rfl)
def f87_s (t0 : AV) (S : Store) (Q : QT) : Prop := bQ (aeqv false .ptr t0 (.lit (.pointer none)) S) fun t16 => condW t16 (dropQ Q (.tuple [.lit (.pointer none), nilS, iv 1]) S) (ATriple PR 215 [t0] S fun t19 S_1 => bQ (aext t19 0) fun t20 => bQ (aext t19 1) fun t21 => newW (some (.own (.row 31 6 [[iv 0, iv 0, nilS, nilS, nilS, .lit (.string ⟨#[]⟩)]]) fun u => .ptr u 0 0)) S_1 fun t5 S_2 => thenS (stv 6 t5 t20 S_2) fun _ S_3 => bQ (abi .neq t21 (iv 0)) fun t23 => condW t23 (dropQ Q (.tuple [.lit (.pointer none), nilS, t21]) S_3) (bQ (ldv true 6 t5 S_3) fun t26 => bQ (abld [.lit (.pointer none), iv 0, iv 0, nilS, nilS, nilS, .lit (.string ⟨#[]⟩), nilS, .lit (.pointer none), bv false] [(0, 1, t0), (1, 6, t26)]) fun t27 => newW (boxR false 136 t27) S_3 fun t28 S_4 => bQ (padd t5 4) fun t29 => bQ (ldv false 1 t29 S_4) fun t30 => bQ (aln .slice t30 S_4) fun t31 => f87_L1 (f87_K1 Q) t0 t5 t28 t30 t31 (iv 0) S_4))
theorem f87_ok : f87_s t0 S Q → ATriple PR 87 [t0] S Q := fun h => pF (fn := Tryz.f87) f87_a1 h
attribute [irreducible] f87_L1 f87_K1
def f66_s (t0 : AV) (S : Store) (Q : QT) : Prop := newW (boxR false 31 t0) S fun t1 S_1 => newW (some (.own (.row 31 6 [[iv 0, iv 0, nilS, nilS, nilS, .lit (.string ⟨#[]⟩)]]) fun u => .ptr u 0 0)) S_1 fun t2 S_2 => bQ (padd t1 2) fun t3 => bQ (ldv false 1 t3 S_2) fun t4 => bQ (padd t1 3) fun t6 => bQ (ldv false 1 t6 S_2) fun t7 => bQ (padd t1 4) fun t9 => bQ (ldv false 1 t9 S_2) fun t10 => ATriple PR 182 [t4] S_2 fun t5 S_3 => ((ldv false 1 t6 S_3 = some t7) ∧ (ldv false 1 t9 S_3 = some t10) ∧ True) ∧ bQ (padd t1 2) fun t12 => ATriple PR 183 [t7] S_3 fun t8 S_4 => ((ldv false 1 t9 S_4 = some t10) ∧ True) ∧ ATriple PR 67 [t10] S_4 fun t11 S_5 => thenS (stv 1 t12 t5 S_5) fun _ S_6 => bQ (padd t1 3) fun t13 => thenS (stv 1 t13 t8 S_6) fun _ S_7 => bQ (padd t1 4) fun t14 => thenS (stv 1 t14 t11 S_7) fun _ S_8 => bQ (ldv true 6 t1 S_8) fun t15 => thenS (stv 6 t2 t15 S_8) fun _ S_9 => retW (resC (ldv true 6 t2 S_9) (some [])) (dropQ Q) S_9
theorem f66_ok : f66_s t0 S Q → ATriple PR 66 [t0] S Q := fun h => pF (fn := Tryz.f66) (.two (rg 2 3 0) (.two (.reg [0, 1, 3, 0, 8, 31, 0, 64, 255, 223, 1023, 2047, 4095, 8191, 16383] (pq 0 2 <| pq 3 2 <| pq 6 2 <| .e 2 [(4, false), (7, false)] <| .q 9 false <| .e 5 [(7, false)] <| .e 8 [] <| .e 10 [] <| .q 11 false <| .e 12 [] <| .q 13 false <| .e 14 [] <| .done)) (.two (rg 2 2 0) (.nil)))) h
def f85_s (t0 : AV) (S : Store) (Q : QT) : Prop := newW (some (.own (.row 31 6 [[iv 0, iv 0, nilS, nilS, nilS, .lit (.string ⟨#[]⟩)]]) fun u => .ptr u 0 0)) S fun t2 S_1 => bQ (anil t0) fun t4 => bQ (padd t4 1) fun t5 => bQ (ldv true 6 t5 S_1) fun t6 => ATriple PR 66 [t6] S_1 fun t7 S_2 => thenS (stv 6 t2 t7 S_2) fun _ S_3 => retW (resC (ldv true 6 t2 S_3) (some [])) (dropQ Q) S_3
theorem f85_ok : f85_s t0 S Q → ATriple PR 85 [t0] S Q := fun h => pF (fn := Tryz.f85) (.two (rg 1 1 0) (.two (rg 6 48 0) (.nil))) h
noncomputable def f79_a1 : Ann := .two (rg 1 0 0) (.two (rg 1 0 0) (.two (.two (rg 6 0 0) (.one (.loop [1, 5, 11, 12, 13]))) (.two (rg 4 6 0) (.nil))))
noncomputable def f79_c1 : Code := (cl (cl (cr (cl (cr (cr (bodyOf Tryz.f79)))))))
noncomputable def f79_c2 : Code := (cr (cr (cr (bodyOf Tryz.f79))))
def f79_L1 (K : AK) (t1 t5 t11 t12 t13 : AV) (S : Store) : Prop := AI PR none 27 [.code f79_c1, .inLoop f79_c1] K (ofL [(1, t1), (5, t5), (11, t11), (12, t12), (13, t13)]) S
def f79_l1 (K : AK) (t1 t5 t11 t12 t13 : AV) (S : Store) : Prop := bQ (abi .lss t13 t12) fun t14 => condW t14 (bQ (ixA 1 t11 t13 S) fun t15 => bQ (ldv false 1 t15 S) fun t16 => callW PR t1 [t16] S fun t20 S_1 => bQ (frzOf (bslR true 1 22 1 1 1 [(0, t20)])) fun t21 => apW (some (22, 1, 24, .slice)) t5 t21 S_1 fun t22 S_2 => bQ (abi .add t13 (iv 1)) fun t23 => f79_L1 K t1 t22 t11 t12 t23 S_2) (K (.exit 0) (ofL [(5, t5)]) S)
theorem f79_L1_pt : f79_l1 K t1 t5 t11 t12 t13 S → f79_L1 K t1 t5 t11 t12 t13 S := fun h => pL (.two (rg 1 0 0) (.two (.two (.nil) (.nil)) (.two (.one (.two (rg 3 0 0) (rg 7 40 16))) (rg 2 0 0)))) [1, 5, 11, 12, 13] [5] h
noncomputable def f79_K1 (Q : QT) : AK := (AK.block 0 (AK.andThen (fun st S => W PR none 27 f79_c2 ((ar (ar (ar f79_a1)))) (retK PR Tryz.f79 (dropQ Q)) st S) (retK PR Tryz.f79 (dropQ Q))))
def f79_K1_e0 (Q : QT) (t5 : AV) (S : Store) : Prop := ATriple PR 207 [.func (.func 206) [] [], t5] S fun t25 S_1 => ATriple PR 205 [.func (.func 206) [] [], t25] S_1 fun t26 S_2 => dropQ Q t26 S_2
theorem f79_K1_e0_pt : f79_K1_e0 Q t5 S → f79_K1 Q (.exit 0) (ofL [(5, t5)]) S := castP (by kernel_rfl)
def f79_s (t0 t1 : AV) (S : Store) (Q : QT) : Prop := bQ (anil t0) fun t9 => bQ (padd t9 7) fun t10 => bQ (ldv false 1 t10 S) fun t11 => bQ (aln .slice t11 S) fun t12 => f79_L1 (f79_K1 Q) t1 nilS t11 t12 (iv 0) S
theorem f79_ok : f79_s t0 t1 S Q → ATriple PR 79 [t0, t1] S Q := fun h => pF (fn := Tryz.f79) f79_a1 h
attribute [irreducible] f79_L1 f79_K1
def f86_s (t0 : AV) (S : Store) (Q : QT) : Prop := ATriple PR 79 [t0, .func (.func 214) [] []] S fun t4 S_1 => dropQ Q t4 S_1
theorem f86_ok : f86_s t0 S Q → ATriple PR 86 [t0] S Q := fun h => pF (fn := Tryz.f86) (.two (rg 1 0 0) (.two (rg 3 2 0) (.nil))) h
def f80_s (t0 t1 : AV) (S : Store) (Q : QT) : Prop := bQ (ldv false 1 t1 S) fun t5 => ATriple PR 81 [t0, t5] S fun t6 S_1 => dropQ Q t6 S_1
theorem f80_ok : f80_s t0 t1 S Q → ATriple PR 80 [t0, t1] S Q := fun h => pF (fn := Tryz.f80) (.two (rg 1 0 0) (.two (rg 4 4 0) (.nil))) h
def f17_s (t0 t1 : AV) (S : Store) (Q : QT) : Prop := bQ (frzOf (boxR true 9 t1)) fun t3 => ATriple PR 79 [t0, .func (.func 80) [] [t3]] S fun t7 S_1 => dropQ Q t7 S_1
theorem f17_ok : f17_s t0 t1 S Q → ATriple PR 17 [t0, t1] S Q := fun h => pF (fn := Tryz.f17) (.two (rg 2 0 1) (.two (rg 4 4 0) (.nil))) h
def f82_s (t0 t1 t2 : AV) (S : Store) (Q : QT) : Prop := bQ (ldv false 1 t1 S) fun t6 => bQ (ldv false 1 t2 S) fun t7 => ATriple PR 83 [t0, t6, t7] S fun t8 S_1 => dropQ Q t8 S_1
theorem f82_ok : f82_s t0 t1 t2 S Q → ATriple PR 82 [t0, t1, t2] S Q := fun h => pF (fn := Tryz.f82) (.two (rg 1 0 0) (.two (rg 5 8 0) (.nil))) h
def f19_s (t0 t1 t2 : AV) (S : Store) (Q : QT) : Prop := bQ (frzOf (boxR true 9 t1)) fun t4 => bQ (frzOf (boxR true 9 t2)) fun t5 => ATriple PR 79 [t0, .func (.func 82) [] [t4, t5]] S fun t9 S_1 => dropQ Q t9 S_1
theorem f19_ok : f19_s t0 t1 t2 S Q → ATriple PR 19 [t0, t1, t2] S Q := fun h => pF (fn := Tryz.f19) (.two (rg 3 0 3) (.two (rg 4 4 0) (.nil))) h
def f63_s (t0 : AV) (S : Store) (Q : QT) : Prop := bQ (anil t0) fun t4 => bQ (padd t4 9) fun t5 => bQ (ldv false 1 t5 S) fun t6 => bQ (aun .not t6) fun t7 => gdQ t7 true (some t0) fun t9 => gdQ t7 true (anil t9) fun t10 => gdQ t7 true (padd t10 0) fun t11 => gdQ t7 true (ldv false 1 t11 S) fun t12 => gdE t7 true (fun K => ATriple PR 169 [t12] S K) S fun t13 S_1 => bQ (apick t7 t13 (bv false)) fun t14 => dropQ Q t14 S_1
theorem f63_ok : f63_s t0 S Q → ATriple PR 63 [t0] S Q := fun h => pF (fn := Tryz.f63) (.two (rg 1 0 0) (.two (rg 13 1024 0) (.nil))) h
def f193_s (t0 t1 : AV) (S : Store) (Q : QT) : Prop := bQ (ldv false 1 t0 S) fun t3 => bQ (anil t3) fun t4 => bQ (padd t4 0) fun t5 => bQ (ldv false 1 t5 S) fun t6 => bQ (ldv false 1 t1 S) fun t7 => ATriple PR 194 [t6, t7] S fun t8 S_1 => dropQ Q t8 S_1
theorem f193_ok : f193_s t0 t1 S Q → ATriple PR 193 [t0, t1] S Q := fun h => pF (fn := Tryz.f193) (.two (rg 1 0 0) (.two (.reg [0, 1, 3, 7, 0, 31, 63] (pq 0 5 <| .e 5 [] <| .q 6 false <| .done)) (.nil))) h
def f195_s (t0 t1 t2 : AV) (S : Store) (Q : QT) : Prop := bQ (ldv false 1 t0 S) fun t4 => bQ (anil t4) fun t5 => bQ (padd t5 0) fun t6 => bQ (ldv false 1 t6 S) fun t7 => bQ (ldv false 1 t1 S) fun t8 => bQ (ldv false 1 t2 S) fun t9 => ATriple PR 196 [t7, t8, t9] S fun t10 S_1 => dropQ Q t10 S_1
theorem f195_ok : f195_s t0 t1 t2 S Q → ATriple PR 195 [t0, t1, t2] S Q := fun h => pF (fn := Tryz.f195) (.two (rg 1 0 0) (.two (.reg [0, 1, 3, 7, 0, 0, 63, 127] (pq 0 6 <| .e 6 [] <| .q 7 false <| .done)) (.nil))) h
def f197_s (t0 t1 : AV) (S : Store) (Q : QT) : Prop := bQ (ldv false 1 t0 S) fun t3 => bQ (anil t3) fun t4 => bQ (padd t4 0) fun t5 => bQ (ldv false 1 t5 S) fun t6 => bQ (ldv false 1 t1 S) fun t7 => ATriple PR 198 [t6, t7] S fun t8 S_1 => dropQ Q t8 S_1
theorem f197_ok : f197_s t0 t1 S Q → ATriple PR 197 [t0, t1] S Q := fun h => pF (fn := Tryz.f197) (.two (rg 1 0 0) (.two (.reg [0, 1, 3, 7, 0, 31, 63] (pq 0 5 <| .e 5 [] <| .q 6 false <| .done)) (.nil))) h
noncomputable def f192_a1 : Ann := .two (rg 1 0 0) (.two (.two (rg 3 0 0) (.one (.loop [6, 7, 8]))) (.two (rg 1 0 0) (.nil)))
noncomputable def f192_c1 : Code := (cl (cl (cr (cl (cr (bodyOf Tryz.f192))))))
noncomputable def f192_c2 : Code := (cr (cr (bodyOf Tryz.f192)))
def f192_L1 (K : AK) (t6 t7 t8 : AV) (S : Store) : Prop := AI PR none 18 [.code f192_c1, .inLoop f192_c1] K (ofL [(6, t6), (7, t7), (8, t8)]) S
def f192_l1 (K : AK) (t6 t7 t8 : AV) (S : Store) : Prop := bQ (abi .lss t8 t7) fun t9 => condW t9 (bQ (ixA 1 t6 t8 S) fun t10 => bQ (ldv false 1 t10 S) fun t11 => callW PR t11 [] S fun t13 S_1 => bQ (abi .neq t13 (iv 0)) fun t15 => condW t15 (K .ret (ofL [(2, t13)]) S_1) (bQ (abi .add t8 (iv 1)) fun t17 => f192_L1 K t6 t7 t17 S_1)) (K (.exit 0) (ofL [(2, .poison)]) S)
theorem f192_L1_pt : f192_l1 K t6 t7 t8 S → f192_L1 K t6 t7 t8 S := fun h => pL (.two (rg 1 0 0) (.two (.two (.nil) (.nil)) (.two (.one (.two (rg 3 0 0) (.two (rg 3 2 0) (.two (rg 2 0 0) (.two (.two (rg 2 0 0) (.nil)) (.nil)))))) (rg 2 0 0)))) [6, 7, 8] [2] h
noncomputable def f192_K1 (Q : QT) : AK := (AK.block 0 (AK.andThen (fun st S => W PR none 18 f192_c2 ((ar (ar f192_a1))) (retK PR Tryz.f192 (dropQ Q)) st S) (retK PR Tryz.f192 (dropQ Q))))
def f192_K1_e0 (Q : QT) (t2 : AV) (S : Store) : Prop := dropQ Q (iv 0) S
theorem f192_K1_e0_pt : f192_K1_e0 Q t2 S → f192_K1 Q (.exit 0) (ofL [(2, t2)]) S := castP (by kernel_rfl)
def f192_s (t0 : AV) (S : Store) (Q : QT) : Prop := bQ (aln .slice t0 S) fun t7 => f192_L1 (f192_K1 Q) t0 t7 (iv 0) S
theorem f192_ok : f192_s t0 S Q → ATriple PR 192 [t0] S Q := fun h => pF (fn := Tryz.f192) f192_a1 h
attribute [irreducible] f192_L1 f192_K1
def f71_s (t0 t1 t2 : AV) (S : Store) (Q : QT) : Prop := bQ (frzOf (boxR true 35 t0)) fun t3 => bQ (frzOf (boxR true 9 t1)) fun t4 => bQ (frzOf (boxR true 129 t2)) fun t5 => bQ (frzOf (bslR true 1 67 1 3 3 [(0, .func (.func 193) [] [t3, t4]), (1, .func (.func 195) [] [t3, t4, t5]), (2, .func (.func 197) [] [t3, t4])])) fun t10 => ATriple PR 192 [t10] S fun t11 S_1 => dropQ Q t11 S_1
theorem f71_ok : f71_s t0 t1 t2 S Q → ATriple PR 71 [t0, t1, t2] S Q := fun h => pF (fn := Tryz.f71) (.two (rg 4 0 7) (.two (rg 6 16 8) (.nil))) h
def f73_s (t0 t1 : AV) (S : Store) (Q : QT) : Prop := newW (boxR false 31 t1) S fun t3 S_1 => bQ (anil t0) fun t7 => bQ (padd t7 1) fun t8 => bQ (padd t8 0) fun t9 => bQ (ldv false 1 t9 S_1) fun t10 => bQ (abi .add t10 (iv 1)) fun t11 => bQ (padd t3 0) fun t12 => thenS (stv 1 t12 t11 S_1) fun _ S_2 => bQ (anil t0) fun t14 => bQ (padd t14 0) fun t15 => bQ (ldv false 1 t15 S_2) fun t16 => bQ (ldv true 6 t3 S_2) fun t17 => ATriple PR 200 [t16, t17] S_2 fun t18 S_3 => bQ (abi .eql t18 (iv 0)) fun t20 => condW t20 (bQ (ldv true 6 t3 S_3) fun t22 => bQ (anil t0) fun t23 => bQ (padd t23 1) fun t24 => thenS (stv 6 t24 t22 S_3) fun _ S_4 => dropQ Q t18 S_4) (dropQ Q t18 S_3)
theorem f73_ok : f73_s t0 t1 S Q → ATriple PR 73 [t0, t1] S Q := fun h => pF (fn := Tryz.f73) (.two (rg 2 1 0) (.two (rg 8 128 0) (.two (.reg [0, 1, 3, 7, 0, 31, 63] (pq 0 5 <| .e 5 [] <| .q 6 false <| .done)) (.two (.two (rg 2 0 0) (.two (rg 5 16 0) (.nil))) (.two (rg 2 0 0) (.nil)))))) h
def f74_s (t0 t1 : AV) (S : Store) (Q : QT) : Prop := bQ (anil t0) fun t7 => bQ (padd t7 9) fun t8 => bQ (ldv false 1 t8 S) fun t9 => gdQ t9 false (some t1) fun t11 => gdQ t9 false (abi .eql t11 (iv 7)) fun t12 => bQ (apick t9 (bv true) t12) fun t13 => bQ (anil t0) fun t14 => bQ (padd t14 9) fun t15 => thenS (stv 1 t15 t13 S) fun _ S_1 => dropQ Q t1 S_1
theorem f74_ok : f74_s t0 t1 S Q → ATriple PR 74 [t0, t1] S Q := fun h => pF (fn := Tryz.f74) (.two (rg 1 0 0) (.two (rg 12 2048 0) (.two (rg 2 0 0) (.nil)))) h
noncomputable def f13_a1 : Ann := .two (rg 2 0 1) (.two (.two (rg 3 2 0) (.two (.two (rg 1 0 0) (.nil)) (.nil))) (.two (rg 7 2 0) (.two (.two (rg 2 0 0) (.two (.two (rg 1 0 0) (.nil)) (.nil))) (.two (rg 8 64 0) (.two (rg 4 14 0) (.two (.reg [0, 1, 3, 7, 15, 31, 0, 64, 0, 256, 768, 1792, 3840, 7936, 63, 32575, 65535, 131071, 262143, 524287] (pq 0 13 <| .q 14 false <| .e 13 [(4, false)] <| .e 15 [] <| .q 16 false <| .e 17 [] <| .q 18 false <| .e 19 [] <| .done)) (.two (rg 6 16 0) (.join [0, 1, 9, 10, 11, 12, 13] (.two (rg 1 0 0) (.two (rg 3 2 0) (.nil))) (.two (rg 3 0 0) (.join [0, 1, 9, 10, 12, 13, 14] (.two (rg 3 0 0) (.two (.two (rg 7 2 0) (rg 12 1296 136)) (.nil))) (.two (.two (rg 3 2 0) (.two (.two (rg 1 0 0) (.nil)) (.nil))) (.join [0, 10, 12, 13] (.two (rg 3 0 0) (.two (rg 5 8 0) (.nil))) (.two (rg 1 0 0) (.join [0, 10, 12, 13, 17] (.two (rg 2 0 0) (.two (.reg [0, 1, 3, 7, 0, 16, 63, 127, 255, 255, 511, 2047] (pq 0 6 <| .e 6 [] <| pq 7 5 <| .done)) (.nil))) (.join [0, 10, 13, 17] (.two (rg 2 0 0) (.two (rg 4 4 0) (.nil))) (.join [0, 10] (.two (rg 2 0 0) (.two (rg 10 576 0) (.nil))) (.two (.two (rg 4 4 0) (.two (rg 2 2 0) (.nil))) (.two (rg 2 0 0) (.nil)))))))))))))))))))
noncomputable def f13_c1 : Code := (cr (cr (cr (cr (cr (cr (cr (cr (cr (bodyOf Tryz.f13))))))))))
noncomputable def f13_c2 : Code := (cr (cr (cr (cr (cr (cr (cr (cr (cr (cr (cr (bodyOf Tryz.f13))))))))))))
noncomputable def f13_c3 : Code := (cr (cr (cr (cr (cr (cr (cr (cr (cr (cr (cr (cr (cr (bodyOf Tryz.f13))))))))))))))
noncomputable def f13_c4 : Code := (cr (cr (cr (cr (cr (cr (cr (cr (cr (cr (cr (cr (cr (cr (cr (bodyOf Tryz.f13))))))))))))))))
noncomputable def f13_c5 : Code := (cr (cr (cr (cr (cr (cr (cr (cr (cr (cr (cr (cr (cr (cr (cr (cr (bodyOf Tryz.f13)))))))))))))))))
noncomputable def f13_c6 : Code := (cr (cr (cr (cr (cr (cr (cr (cr (cr (cr (cr (cr (cr (cr (cr (cr (cr (bodyOf Tryz.f13))))))))))))))))))
def f13_J1 (Q : QT) (t0 t1 t9 t10 t11 t12 t13 : AV) (S : Store) : Prop := AWp PR none 125 f13_c1 (retK PR Tryz.f13 (dropQ Q)) (ofL [(0, t0), (1, t1), (9, t9), (10, t10), (11, t11), (12, t12), (13, t13)]) S
def f13_J2 (Q : QT) (t0 t1 t9 t10 t12 t13 t14 : AV) (S : Store) : Prop := AWp PR none 125 f13_c2 (retK PR Tryz.f13 (dropQ Q)) (ofL [(0, t0), (1, t1), (9, t9), (10, t10), (12, t12), (13, t13), (14, t14)]) S
def f13_J3 (Q : QT) (t0 t10 t12 t13 : AV) (S : Store) : Prop := AWp PR none 125 f13_c3 (retK PR Tryz.f13 (dropQ Q)) (ofL [(0, t0), (10, t10), (12, t12), (13, t13)]) S
def f13_J4 (Q : QT) (t0 t10 t12 t13 t17 : AV) (S : Store) : Prop := AWp PR none 125 f13_c4 (retK PR Tryz.f13 (dropQ Q)) (ofL [(0, t0), (10, t10), (12, t12), (13, t13), (17, t17)]) S
def f13_J5 (Q : QT) (t0 t10 t13 t17 : AV) (S : Store) : Prop := AWp PR none 125 f13_c5 (retK PR Tryz.f13 (dropQ Q)) (ofL [(0, t0), (10, t10), (13, t13), (17, t17)]) S
def f13_J6 (Q : QT) (t0 t10 : AV) (S : Store) : Prop := AWp PR none 125 f13_c6 (retK PR Tryz.f13 (dropQ Q)) (ofL [(0, t0), (10, t10)]) S
def f13_j6 (Q : QT) (t0 t10 : AV) (S : Store) : Prop := ATriple PR 74 [t0, t10] S fun t120 S_1 => bQ (abi .neq t120 (iv 7)) fun t121 => condW t121 (ATriple PR 75 [t0] S_1 fun t123 S_2 => dropQ Q t10 S_2) (dropQ Q t10 S_1)
theorem f13_J6_pt : f13_j6 Q t0 t10 S → f13_J6 Q t0 t10 S := fun h => pJ ((ar (ar (ar (ar (ar (ar (ar (ar (ar (ar (ar (ar (ar (ar (ar (ar (ar f13_a1)))))))))))))))))) h
def f13_j5 (Q : QT) (t0 t10 t13 t17 : AV) (S : Store) : Prop := bQ (abi .eql t10 (iv 0)) fun t109 => condW t109 (bQ (anil t0) fun t114 => bQ (padd t114 7) fun t115 => thenS (stv 1 t115 t13 S) fun _ S_1 => bQ (anil t0) fun t116 => bQ (padd t116 8) fun t117 => thenS (stv 1 t117 t17 S_1) fun _ S_2 => f13_J6 Q t0 t10 S_2) (f13_J6 Q t0 t10 S)
theorem f13_J5_pt : f13_j5 Q t0 t10 t13 t17 S → f13_J5 Q t0 t10 t13 t17 S := fun h => pJ ((ar (ar (ar (ar (ar (ar (ar (ar (ar (ar (ar (ar (ar (ar (ar (ar f13_a1))))))))))))))))) h
def f13_j4 (Q : QT) (t0 t10 t12 t13 t17 : AV) (S : Store) : Prop := bQ (abi .eql t10 (iv 0)) fun t104 => condW t104 (bQ (ldv true 6 t12 S) fun t106 => ATriple PR 73 [t0, t106] S fun t107 S_1 => f13_J5 Q t0 t107 t13 t17 S_1) (f13_J5 Q t0 t10 t13 t17 S)
theorem f13_J4_pt : f13_j4 Q t0 t10 t12 t13 t17 S → f13_J4 Q t0 t10 t12 t13 t17 S := fun h => pJ ((ar (ar (ar (ar (ar (ar (ar (ar (ar (ar (ar (ar (ar (ar (ar f13_a1)))))))))))))))) h
def f13_j3 (Q : QT) (t0 t10 t12 t13 : AV) (S : Store) : Prop := bQ (abi .eql t10 (iv 0)) fun t92 => condW t92 (bQ (anil t0) fun t95 => bQ (padd t95 0) fun t96 => bQ (ldv false 1 t96 S) fun t97 => bQ (padd t12 5) fun t98 => bQ (ldv false 1 t98 S) fun t99 => ATriple PR 72 [t97, t99] S fun t100 S_1 => bQ (aext t100 0) fun t101 => bQ (aext t100 1) fun t102 => f13_J4 Q t0 t102 t12 t13 t101 S_1) (f13_J4 Q t0 t10 t12 t13 (.lit (.pointer none)) S)
theorem f13_J3_pt : f13_j3 Q t0 t10 t12 t13 S → f13_J3 Q t0 t10 t12 t13 S := fun h => pJ ((ar (ar (ar (ar (ar (ar (ar (ar (ar (ar (ar (ar (ar f13_a1)))))))))))))) h
def f13_j2 (Q : QT) (t0 t1 t9 t10 t12 t13 t14 : AV) (S : Store) : Prop := bQ (ldv true 6 t12 S) fun t81 => ATriple PR 70 [t81] S fun t82 S_1 => bQ (aun .not t82) fun t83 => condW t83 (dropQ Q (iv 1) S_1) (bQ (aln .slice t1 S_1) fun t85 => bQ (abi .gtr t85 (iv 0)) fun t86 => condW t86 (ATriple PR 71 [t0, t14, t9] S_1 fun t90 S_2 => f13_J3 Q t0 t90 t12 t13 S_2) (f13_J3 Q t0 t10 t12 t13 S_1))
theorem f13_J2_pt : f13_j2 Q t0 t1 t9 t10 t12 t13 t14 S → f13_J2 Q t0 t1 t9 t10 t12 t13 t14 S := fun h => pJ ((ar (ar (ar (ar (ar (ar (ar (ar (ar (ar (ar f13_a1)))))))))))) h
def f13_j1 (Q : QT) (t0 t1 t9 t10 t11 t12 t13 : AV) (S : Store) : Prop := bQ (abi .add (.lit (.string ⟨#[114, 117, 110, 45]⟩)) t11) fun t62 => bQ (aln .slice t1 S) fun t64 => bQ (abi .gtr t64 (iv 0)) fun t65 => condW t65 (ATriple PR 69 [t9] S fun t68 S_1 => bQ (aext t68 0) fun t69 => bQ (aext t68 1) fun t70 => bQ (padd t12 4) fun t71 => bQ (ldv false 1 t71 S_1) fun t72 => bQ (frzOf (bslR true 1 9 1 1 1 [(0, t62)])) fun t74 => apW (some (9, 1, 16, .slice)) t72 t74 S_1 fun t75 S_2 => bQ (frzOf (bslR true 1 140 1 1 1 [(0, t69)])) fun t78 => apW (some (140, 1, 8, .slice)) t13 t78 S_2 fun t79 S_3 => bQ (padd t12 4) fun t80 => thenS (stv 1 t80 t75 S_3) fun _ S_4 => f13_J2 Q t0 t1 t9 t10 t12 t79 t62 S_4) (f13_J2 Q t0 t1 t9 t10 t12 t13 t62 S)
theorem f13_J1_pt : f13_j1 Q t0 t1 t9 t10 t11 t12 t13 S → f13_J1 Q t0 t1 t9 t10 t11 t12 t13 S := fun h => pJ ((ar (ar (ar (ar (ar (ar (ar (ar (ar f13_a1)))))))))) h
def f13_s (t0 t1 t2 t3 : AV) (S : Store) (Q : QT) : Prop := bQ (frzOf (boxR true 31 t3)) fun t7 => ATriple PR 63 [t0] S fun t19 S_1 => bQ (aun .not t19) fun t20 => condW t20 (dropQ Q (iv 7) S_1) (ATriple PR 64 [t1] S_1 fun t23 S_2 => bQ (aext t23 0) fun t24 => bQ (aext t23 1) fun t25 => bQ (abi .neq t25 (iv 0)) fun t27 => condW t27 (dropQ Q (iv 1) S_2) (bQ (anil t0) fun t29 => bQ (padd t29 1) fun t30 => bQ (padd t30 0) fun t31 => bQ (ldv false 1 t31 S_2) fun t32 => bQ (abi .add t32 (iv 1)) fun t33 => ATriple PR 65 [t33] S_2 fun t34 S_3 => bQ (ldv true 6 t7 S_3) fun t35 => ATriple PR 66 [t35] S_3 fun t36 S_4 => newW (some (.own (.row 31 6 [[iv 0, iv 0, nilS, nilS, nilS, .lit (.string ⟨#[]⟩)]]) fun u => .ptr u 0 0)) S_4 fun t12 S_5 => thenS (stv 6 t12 t36 S_5) fun _ S_6 => bQ (anil t0) fun t38 => bQ (padd t38 1) fun t39 => bQ (padd t39 0) fun t40 => bQ (ldv false 1 t40 S_6) fun t41 => bQ (abi .add t41 (iv 1)) fun t42 => bQ (abi .add (.lit (.string ⟨#[108, 111, 103, 45]⟩)) t34) fun t44 => bQ (anil t0) fun t46 => bQ (padd t46 1) fun t47 => bQ (padd t47 4) fun t48 => bQ (ldv false 1 t48 S_6) fun t49 => bQ (padd t12 0) fun t51 => ATriple PR 67 [t49] S_6 fun t50 S_7 => ((ldv false 1 t40 S_7 = some t41) ∧ True) ∧ thenS (stv 1 t51 t42 S_7) fun _ S_8 => bQ (padd t12 5) fun t52 => thenS (stv 1 t52 t44 S_8) fun _ S_9 => bQ (padd t12 4) fun t53 => thenS (stv 1 t53 t50 S_9) fun _ S_10 => bQ (anil t0) fun t55 => bQ (padd t55 7) fun t56 => bQ (ldv false 1 t56 S_10) fun t57 => ATriple PR 68 [t57] S_10 fun t58 S_11 => condW t2 (bQ (padd t12 4) fun t60 => thenS (stv 1 t60 nilS S_11) fun _ S_12 => f13_J1 Q t0 t1 t24 t25 t34 t12 nilS S_12) (f13_J1 Q t0 t1 t24 t25 t34 t12 t58 S_11)))
theorem f13_ok : f13_s t0 t1 t2 t3 S Q → ATriple PR 13 [t0, t1, t2, t3] S Q := fun h => pF (fn := Tryz.f13) f13_a1 h
attribute [irreducible] f13_J1 f13_J2 f13_J3 f13_J4 f13_J5 f13_J6
noncomputable def f59_a1 : Ann := .two (rg 1 0 0) (.two (rg 16 33792 0) (.two (rg 6 32 0) (.two (.two (rg 1 0 0) (.one (.loop [0, 1, 5]))) (.two (rg 1 0 0) (.nil)))))
noncomputable def f59_c1 : Code := (cl (cl (cr (cl (cr (cr (cr (bodyOf Tryz.f59))))))))
noncomputable def f59_a2 : Ann := .two (.two (rg 2 0 0) (.two (.nil) (.nil))) (.two (.one (.two (rg 12 16 0) (.two (.two (rg 2 0 0) (.two (.two (rg 6 32 0) (.nil)) (.nil))) (.two (.two (rg 6 0 0) (.two (.two (rg 1 0 0) (.nil)) (.nil))) (.two (rg 5 16 0) (.two (rg 16 12320 0) (.two (rg 22 787456 0) (.join [0, 9, 10] (.two (rg 5 0 0) (.two (rg 8 128 0) (.nil))) (.join [0, 9, 10] (.two (.reg [0, 1, 3, 7, 15, 31, 63, 127, 255, 511, 31, 1055, 3103, 7199, 15391, 32767, 65535, 131071] (pq 0 15 <| .e 15 [] <| pq 16 2 <| .done)) (.two (rg 4 8 0) (.nil))) (.two (rg 4 8 0) (.two (rg 5 0 0) (.nil)))))))))))) (rg 3 0 0))
noncomputable def f59_c2 : Code := (cr (cr (cl (cl (cr (cl (cr (cr (cr (bodyOf Tryz.f59))))))))))
noncomputable def f59_a3 : Ann := (ar (ar f59_a2))
noncomputable def f59_c3 : Code := (cr (cr (cr (cr (cr (cr (cr (cl (cl (cr (cl (cl (cr (cl (cr (cr (cr (bodyOf Tryz.f59))))))))))))))))))
noncomputable def f59_c4 : Code := (cr (cr (cr (cr (cr (cr (cr (cr (cl (cl (cr (cl (cl (cr (cl (cr (cr (cr (bodyOf Tryz.f59)))))))))))))))))))
noncomputable def f59_c5 : Code := (cr (cr (cr (cr (bodyOf Tryz.f59)))))
def f59_L1 (K : AK) (t0 t1 t5 : AV) (S : Store) : Prop := AI PR none 139 [.code f59_c1, .inLoop f59_c1] K (ofL [(0, t0), (1, t1), (5, t5)]) S
def f59_J2 (K : AK) (t0 t9 t10 : AV) (S : Store) : Prop := AWp PR none 139 f59_c3 (AK.block 1 (AK.andThen (fun st S => W PR none 139 f59_c2 f59_a3 (AK.andThen (fun st S => AI PR none 139 [.code f59_c1, .inLoop f59_c1] K (mask [0, 1, 5] st) S) (mskK [4] K)) st S) (AK.andThen (fun st S => AI PR none 139 [.code f59_c1, .inLoop f59_c1] K (mask [0, 1, 5] st) S) (mskK [4] K)))) (ofL [(0, t0), (9, t9), (10, t10)]) S
def f59_J3 (K : AK) (t0 t9 t10 : AV) (S : Store) : Prop := AWp PR none 139 f59_c4 (AK.block 1 (AK.andThen (fun st S => W PR none 139 f59_c2 f59_a3 (AK.andThen (fun st S => AI PR none 139 [.code f59_c1, .inLoop f59_c1] K (mask [0, 1, 5] st) S) (mskK [4] K)) st S) (AK.andThen (fun st S => AI PR none 139 [.code f59_c1, .inLoop f59_c1] K (mask [0, 1, 5] st) S) (mskK [4] K)))) (ofL [(0, t0), (9, t9), (10, t10)]) S
def f59_j3 (K : AK) (t0 t9 t10 : AV) (S : Store) : Prop := bQ (anil t0) fun t133 => bQ (padd t133 16) fun t134 => thenS (stv 1 t134 (bv false) S) fun _ S_1 => gdQ t9 false (some t10) fun t137 => bQ (apick t9 (bv true) t137) fun t138 => K .ret (ofL [(4, t138)]) S_1
theorem f59_J3_pt : f59_j3 K t0 t9 t10 S → f59_J3 K t0 t9 t10 S := fun h => pJ ((ar (ar (ar (ar (ar (ar (ar (ar (al (al (ar f59_a2)))))))))))) h
def f59_j2 (K : AK) (t0 t9 t10 : AV) (S : Store) : Prop := gdQ t9 true (some t10) fun t113 => bQ (apick t9 t113 (bv false)) fun t114 => gdQ t114 true (some t0) fun t116 => gdQ t114 true (anil t116) fun t117 => gdQ t114 true (padd t117 2) fun t118 => gdQ t114 true (padd t118 2) fun t119 => gdQ t114 true (ldv false 1 t119 S) fun t120 => gdQ t114 true (some t0) fun t121 => gdQ t114 true (anil t121) fun t122 => gdQ t114 true (padd t122 9) fun t123 => gdQ t114 true (padd t123 2) fun t124 => gdQ t114 true (ldv false 1 t124 S) fun t125 => gdE t114 true (fun K => ATriple PR 171 [t120, t125] S K) S fun t126 S_1 => gdQ t114 true (aun .not t126) fun t127 => bQ (apick t114 t127 (bv false)) fun t128 => condW t128 (bQ (anil t0) fun t130 => bQ (padd t130 17) fun t131 => thenS (stv 1 t131 (bv true) S_1) fun _ S_2 => f59_J3 K t0 t9 t10 S_2) (f59_J3 K t0 t9 t10 S_1)
theorem f59_J2_pt : f59_j2 K t0 t9 t10 S → f59_J2 K t0 t9 t10 S := fun h => pJ ((ar (ar (ar (ar (ar (ar (ar (al (al (ar f59_a2))))))))))) h
def f59_l1 (K : AK) (t0 t1 t5 : AV) (S : Store) : Prop := bQ (abi .lss t5 (iv 4)) fun t33 => condW t33 (bQ (anil t0) fun t38 => bQ (padd t38 0) fun t39 => bQ (ldv false 1 t39 S) fun t40 => ATriple PR 87 [t40] S fun t41 S_1 => bQ (aext t41 0) fun t42 => bQ (aext t41 1) fun t43 => bQ (aext t41 2) fun t44 => bQ (abi .eql t44 (iv 7)) fun t46 => condW t46 (bQ (anil t0) fun t48 => bQ (padd t48 0) fun t49 => bQ (ldv false 1 t49 S_1) fun t50 => ATriple PR 170 [t50, t1] S_1 fun t52 S_2 => bQ (abi .add t5 (iv 1)) fun t35 => f59_L1 K t0 t1 t35 S_2) (bQ (aeqv false .ptr t42 (.lit (.pointer none)) S_1) fun t54 => gdQ t54 false (some t44) fun t56 => gdQ t54 false (abi .neq t56 (iv 0)) fun t57 => bQ (apick t54 (bv true) t57) fun t58 => condW t58 (K .ret (ofL [(4, bv false)]) S_1) (bQ (anil t0) fun t61 => bQ (padd t61 1) fun t62 => thenS (stv 1 t62 t42 S_1) fun _ S_3 => bQ (anil t0) fun t65 => bQ (padd t65 2) fun t66 => bQ (ldv true 7 t66 S_3) fun t67 => ATriple PR 21 [t42, t67] S_3 fun t68 S_4 => gdQ t68 true (some t43) fun t70 => gdQ t68 true (some t0) fun t71 => gdQ t68 true (anil t71) fun t72 => gdQ t68 true (padd t72 2) fun t73 => gdQ t68 true (ldv true 7 t73 S_4) fun t74 => gdE t68 true (fun K => ATriple PR 172 [t74] S_4 K) S_4 fun t75 S_5 => gdE t68 true (fun K => ATriple PR 171 [t70, t75] S_5 K) S_5 fun t76 S_6 => bQ (apick t68 t76 (bv false)) fun t77 => bQ (anil t0) fun t79 => bQ (padd t79 16) fun t80 => bQ (ldv false 1 t80 S_6) fun t81 => gdQ t81 true (some t42) fun t83 => gdQ t81 true (some t0) fun t84 => gdQ t81 true (anil t84) fun t85 => gdQ t81 true (padd t85 9) fun t86 => gdQ t81 true (ldv true 7 t86 S_6) fun t87 => gdE t81 true (fun K => ATriple PR 21 [t83, t87] S_6 K) S_6 fun t88 S_7 => bQ (apick t81 t88 (bv false)) fun t89 => gdQ t89 true (some t43) fun t91 => gdQ t89 true (some t0) fun t92 => gdQ t89 true (anil t92) fun t93 => gdQ t89 true (padd t93 9) fun t94 => gdQ t89 true (ldv true 7 t94 S_7) fun t95 => gdE t89 true (fun K => ATriple PR 172 [t95] S_7 K) S_7 fun t96 S_8 => gdE t89 true (fun K => ATriple PR 171 [t91, t96] S_8 K) S_8 fun t97 S_9 => bQ (apick t89 t97 (bv false)) fun t98 => bQ (aun .not t77) fun t100 => gdQ t100 true (some t98) fun t102 => bQ (apick t100 t102 (bv false)) fun t103 => condW t103 (bQ (anil t0) fun t106 => bQ (padd t106 9) fun t107 => bQ (ldv true 7 t107 S_9) fun t108 => bQ (anil t0) fun t109 => bQ (padd t109 2) fun t110 => thenS (stv 7 t110 t108 S_9) fun _ S_10 => f59_J2 K t0 t77 t98 S_10) (f59_J2 K t0 t77 t98 S_9)))) (K (.exit 0) (ofL [(4, .poison)]) S)
theorem f59_L1_pt : f59_l1 K t0 t1 t5 S → f59_L1 K t0 t1 t5 S := fun h => pL f59_a2 [0, 1, 5] [4] h
noncomputable def f59_K1 (Q : QT) : AK := (AK.block 0 (AK.andThen (fun st S => W PR none 139 f59_c5 ((ar (ar (ar (ar f59_a1))))) (retK PR Tryz.f59 (dropQ Q)) st S) (retK PR Tryz.f59 (dropQ Q))))
def f59_K1_ret (Q : QT) (t4 : AV) (S : Store) : Prop := dropQ Q t4 S
theorem f59_K1_ret_pt : f59_K1_ret Q t4 S → f59_K1 Q .ret (ofL [(4, t4)]) S := castP (by kernel_rfl)
def f59_s (t0 t1 : AV) (S : Store) (Q : QT) : Prop := bQ (anil t0) fun t13 => bQ (padd t13 16) fun t14 => bQ (ldv false 1 t14 S) fun t15 => gdQ t15 false (some t0) fun t17 => gdQ t15 false (anil t17) fun t18 => gdQ t15 false (padd t18 0) fun t19 => gdQ t15 false (ldv false 1 t19 S) fun t20 => gdE t15 false (fun K => ATriple PR 169 [t20] S K) S fun t21 S_1 => gdQ t15 false (aun .not t21) fun t22 => bQ (apick t15 (bv true) t22) fun t23 => bQ (anil t0) fun t24 => bQ (padd t24 16) fun t25 => thenS (stv 1 t25 t23 S_1) fun _ S_2 => bQ (anil t0) fun t27 => bQ (padd t27 0) fun t28 => bQ (ldv false 1 t28 S_2) fun t29 => ATriple PR 170 [t29, t1] S_2 fun t31 S_3 => f59_L1 (f59_K1 Q) t0 t1 (iv 0) S_3
theorem f59_ok : f59_s t0 t1 S Q → ATriple PR 59 [t0, t1] S Q := fun h => pF (fn := Tryz.f59) f59_a1 h
attribute [irreducible] f59_L1 f59_J2 f59_J3 f59_K1
def f11_s (t0 : AV) (S : Store) (Q : QT) : Prop := ATriple PR 58 [t0] S fun t6 S_1 => ATriple PR 14 [] S_1 fun t7 S_2 => bQ (abld [.lit (.pointer none), .lit (.pointer none), nilS, iv 0, nilS, iv 0, nilS, nilS, iv 0, nilS, iv 0, nilS, iv 0, nilS, nilS, iv 0, bv false, bv false] [(0, 1, t6), (2, 7, t7)]) fun t8 => newW (boxR false 40 t8) S_2 fun t9 S_3 => ATriple PR 59 [t9, nilS] S_3 fun t11 S_4 => bQ (aun .not t11) fun t13 => condW t13 (dropQ Q (.lit (.pointer none)) S_4) (dropQ Q t9 S_4)
theorem f11_ok : f11_s t0 S Q → ATriple PR 11 [t0] S Q := fun h => pF (fn := Tryz.f11) (.two (rg 1 0 0) (.two (rg 6 22 0) (.two (rg 3 2 0) (.two (.two (rg 2 0 0) (.two (.two (rg 1 0 0) (.nil)) (.nil))) (.two (rg 2 0 0) (.nil)))))) h
def f21_s (t0 t1 : AV) (S : Store) (Q : QT) : Prop := bQ (frzOf (boxR true 38 t1)) fun t3 => bQ (ldv true 7 t3 S) fun t6 => ATriple PR 85 [t0] S fun t8 S_1 => ((ldv true 7 t3 S_1 = some t6) ∧ True) ∧ ATriple PR 84 [t6, t8] S_1 fun t9 S_2 => bQ (aun .not t9) fun t11 => condW t11 (dropQ Q (bv false) S_2) (bQ (padd t3 0) fun t14 => bQ (ldv false 1 t14 S_2) fun t15 => ATriple PR 86 [t0] S_2 fun t13 S_3 => ((ldv false 1 t14 S_3 = some t15) ∧ True) ∧ ATriple PR 16 [t13, t15] S_3 fun t16 S_4 => dropQ Q t16 S_4)
theorem f21_ok : f21_s t0 t1 S Q → ATriple PR 21 [t0, t1] S Q := fun h => pF (fn := Tryz.f21) (.two (rg 2 0 1) (.two (.reg [0, 0, 2, 7, 15] (pq 0 2 <| .e 2 [(0, false)] <| .e 3 [] <| .q 4 false <| .done)) (.two (.two (rg 2 0 0) (.two (.two (rg 1 0 0) (.nil)) (.nil))) (.two (.reg [0, 1, 0, 4, 15, 31] (.q 0 false <| pq 2 2 <| .e 1 [(3, false)] <| .e 4 [] <| .q 5 false <| .done)) (.nil))))) h
def f22_s (S : Store) (Q : QT) : Prop := ATriple PR 58 [iv 100000] S fun t9 S_1 => ATriple PR 87 [t9] S_1 fun t12 S_2 => bQ (aext t12 0) fun t13 => bQ (aext t12 1) fun t14 => bQ (aext t12 2) fun t15 => bQ (aeqv false .ptr t13 (.lit (.pointer none)) S_2) fun t17 => gdQ t17 false (some t14) fun t19 => gdQ t17 false (aln .slice t19 S_2) fun t20 => gdQ t17 false (abi .neq t20 (iv 0)) fun t21 => bQ (apick t17 (bv true) t21) fun t22 => gdQ t22 false (some t15) fun t24 => gdQ t22 false (abi .neq t24 (iv 0)) fun t25 => bQ (apick t22 (bv true) t25) fun t26 => condW t26 (dropQ Q (bv false) S_2) (ATriple PR 88 [iv 0, .lit (.string ⟨#[107]⟩)] S_2 fun t27 S_3 => bQ (abld [iv 0, iv 0, iv 0] [(0, 1, iv 0), (1, 1, iv 1), (2, 1, iv 1)]) fun t28 => bQ (abld [iv 0, iv 0] [(0, 1, iv 0), (1, 1, iv 1)]) fun t29 => bQ (abld [.lit (.string ⟨#[]⟩), iv 0, iv 0, iv 0, iv 0, iv 0, .lit (.string ⟨#[]⟩), bv false] [(0, 1, t27), (1, 3, t28), (4, 2, t29)]) fun t30 => newW (some (.own (.row 112 8 [[.lit (.string ⟨#[]⟩), iv 0, iv 0, iv 0, iv 0, iv 0, .lit (.string ⟨#[]⟩), bv false]]) fun u => .ptr u 0 0)) S_3 fun t5 S_4 => thenS (stv 8 t5 t30 S_4) fun _ S_5 => bQ (ldv true 8 t5 S_5) fun t31 => newW (some (.own (.row 112 8 [[.lit (.string ⟨#[]⟩), iv 0, iv 0, iv 0, iv 0, iv 0, .lit (.string ⟨#[]⟩), bv false]]) fun u => .ptr u 0 0)) S_5 fun t6 S_6 => thenS (stv 8 t6 t31 S_6) fun _ S_7 => bQ (padd t6 1) fun t32 => bQ (padd t32 2) fun t33 => thenS (stv 1 t33 (iv 2) S_7) fun _ S_8 => bQ (ldv true 8 t5 S_8) fun t35 => bQ (frzOf (bslR true 8 112 8 1 1 [(0, t35)])) fun t36 => ATriple PR 85 [t13] S_8 fun t38 S_9 => ((ldv true 8 t5 S_9 = some t35) ∧ True) ∧ ATriple PR 13 [t13, t36, bv false, t38] S_9 fun t39 S_10 => bQ (ldv true 8 t6 S_10) fun t41 => bQ (frzOf (bslR true 8 112 8 1 1 [(0, t41)])) fun t42 => ATriple PR 85 [t13] S_10 fun t44 S_11 => ((ldv true 8 t6 S_11 = some t41) ∧ True) ∧ ATriple PR 13 [t13, t42, bv false, t44] S_11 fun t45 S_12 => bQ (abi .eql t39 (iv 0)) fun t47 => gdQ t47 true (some t45) fun t49 => gdQ t47 true (abi .eql t49 (iv 0)) fun t50 => bQ (apick t47 t50 (bv false)) fun t51 => gdQ t51 true (some t13) fun t53 => gdE t51 true (fun K => ATriple PR 86 [t53] S_12 K) S_12 fun t54 S_13 => gdQ t51 true (aln .slice t54 S_13) fun t55 => gdQ t51 true (abi .eql t55 (iv 2)) fun t56 => bQ (apick t51 t56 (bv false)) fun t57 => gdQ t57 true (some t13) fun t59 => gdE t57 true (fun K => ATriple PR 85 [t59] S_13 K) S_13 fun t60 S_14 => gdQ t57 true (afl false 1 4 t60) fun t61 => gdQ t57 true (aln .slice t61 S_14) fun t62 => gdQ t57 true (abi .eql t62 (iv 2)) fun t63 => bQ (apick t57 t63 (bv false)) fun t64 => dropQ Q t64 S_14)
theorem f22_ok : f22_s S Q → ATriple PR 22 [] S Q := fun h => pF (fn := Tryz.f22) (.two (rg 1 0 0) (.two (rg 2 1 0) (.two (rg 9 2 0) (.two (.two (rg 11 0 0) (.two (.two (rg 1 0 0) (.nil)) (.nil))) (.two (rg 6 49 0) (.two (rg 3 6 0) (.two (rg 3 4 0) (.two (.reg [0, 0, 2, 0, 8, 31, 63] (pq 0 2 <| .q 2 true <| .q 3 false <| .e 4 [(1, false)] <| .e 5 [] <| .q 6 false <| .done)) (.two (.reg [0, 0, 2, 0, 8, 31, 63] (pq 0 2 <| .q 2 true <| .q 3 false <| .e 4 [(1, false)] <| .e 5 [] <| .q 6 false <| .done)) (.two (rg 20 16640 0) (.nil))))))))))) h
def f3_s (t0 t1 t2 t3 : AV) (S : Store) (Q : QT) : Prop := ATriple PR 11 [iv 4000000] S fun t19 S_1 => bQ (aeqv false .ptr t19 (.lit (.pointer none)) S_1) fun t21 => condW t21 (dropQ Q (bv false) S_1) (bQ (abld [iv 0, iv 0, iv 0, bv false] [(0, 1, iv (-1))]) fun t22 => bQ (frzOf (bslR true 4 26 4 1 1 [(0, t22)])) fun t23 => bQ (abld [iv 0, iv 0, nilS, nilS, nilS, .lit (.string ⟨#[]⟩)] [(1, 1, iv 3), (2, 1, t23)]) fun t24 => newW (some (.own (.row 31 6 [[iv 0, iv 0, nilS, nilS, nilS, .lit (.string ⟨#[]⟩)]]) fun u => .ptr u 0 0)) S_1 fun t10 S_2 => thenS (stv 6 t10 t24 S_2) fun _ S_3 => ATriple PR 12 [t0, iv 12] S_3 fun t26 S_4 => ATriple PR 12 [t1, iv 12] S_4 fun t28 S_5 => bQ (anil t19) fun t30 => bQ (padd t30 1) fun t31 => bQ (ldv false 1 t31 S_5) fun t32 => bQ (ldv true 6 t10 S_5) fun t34 => ATriple PR 13 [t32, t26, bv false, t34] S_5 fun t35 S_6 => bQ (anil t19) fun t37 => bQ (padd t37 1) fun t38 => bQ (ldv false 1 t38 S_6) fun t39 => bQ (ldv true 6 t10 S_6) fun t41 => ATriple PR 13 [t39, t28, bv false, t41] S_6 fun t42 S_7 => ATriple PR 14 [] S_7 fun t43 S_8 => newW (some (.own (.row 38 7 [[nilS, iv 0, nilS, iv 0, nilS, nilS, iv 0]]) fun u => .ptr u 0 0)) S_8 fun t15 S_9 => thenS (stv 7 t15 t43 S_9) fun _ S_10 => bQ (ldv true 7 t15 S_10) fun t45 => bQ (ldv true 6 t10 S_10) fun t47 => ATriple PR 15 [t45, t26, bv false, t47] S_10 fun t48 S_11 => bQ (aext t48 0) fun t49 => bQ (aext t48 1) fun t50 => thenS (stv 7 t15 t49 S_11) fun _ S_12 => bQ (ldv true 7 t15 S_12) fun t52 => bQ (ldv true 6 t10 S_12) fun t54 => ATriple PR 15 [t52, t28, bv false, t54] S_12 fun t55 S_13 => bQ (aext t55 0) fun t56 => bQ (aext t55 1) fun t57 => thenS (stv 7 t15 t56 S_13) fun _ S_14 => bQ (anil t19) fun t59 => bQ (padd t59 1) fun t60 => bQ (ldv false 1 t60 S_14) fun t61 => bQ (padd t15 0) fun t64 => bQ (ldv false 1 t64 S_14) fun t65 => ATriple PR 17 [t61, t2] S_14 fun t63 S_15 => ((ldv false 1 t64 S_15 = some t65) ∧ True) ∧ ATriple PR 18 [t65, t2] S_15 fun t67 S_16 => ATriple PR 16 [t63, t67] S_16 fun t68 S_17 => bQ (anil t19) fun t70 => bQ (padd t70 1) fun t71 => bQ (ldv false 1 t71 S_17) fun t72 => bQ (padd t15 0) fun t76 => bQ (ldv false 1 t76 S_17) fun t77 => ATriple PR 19 [t72, t2, t3] S_17 fun t75 S_18 => ((ldv false 1 t76 S_18 = some t77) ∧ True) ∧ ATriple PR 20 [t77, t2, t3] S_18 fun t80 S_19 => ATriple PR 16 [t75, t80] S_19 fun t81 S_20 => bQ (anil t19) fun t83 => bQ (padd t83 1) fun t84 => bQ (ldv false 1 t84 S_20) fun t85 => bQ (ldv true 7 t15 S_20) fun t86 => ATriple PR 21 [t85, t86] S_20 fun t87 S_21 => bQ (abi .eql t35 (iv 0)) fun t89 => gdQ t89 true (some t42) fun t91 => gdQ t89 true (abi .eql t91 (iv 0)) fun t92 => bQ (apick t89 t92 (bv false)) fun t93 => gdQ t93 true (some t68) fun t95 => bQ (apick t93 t95 (bv false)) fun t96 => gdQ t96 true (some t81) fun t98 => bQ (apick t96 t98 (bv false)) fun t99 => gdQ t99 true (some t87) fun t101 => bQ (apick t99 t101 (bv false)) fun t102 => gdE t102 true (fun K => ATriple PR 22 [] S_21 K) S_21 fun t104 S_22 => bQ (apick t102 t104 (bv false)) fun t105 => dropQ Q t105 S_22)
theorem f3_ok : f3_s t0 t1 t2 t3 S Q → ATriple PR 3 [t0, t1, t2, t3] S Q := fun h => pF (fn := Tryz.f3) (.two (rg 1 0 0) (.two (rg 2 1 0) (.two (.two (rg 2 0 0) (.two (.two (rg 1 0 0) (.nil)) (.nil))) (.two (rg 5 24 2) (.two (rg 3 2 0) (.two (rg 3 2 0) (.two (.reg [0, 1, 3, 7, 0, 0, 63, 127] (pq 0 6 <| .e 6 [] <| .q 7 false <| .done)) (.two (.reg [0, 1, 3, 7, 0, 0, 63, 127] (pq 0 6 <| .e 6 [] <| .q 7 false <| .done)) (.two (rg 3 7 0) (.two (rg 8 136 0) (.two (rg 8 136 0) (.two (.reg [0, 1, 3, 7, 0, 31, 0, 64, 0, 511, 1023, 2047] (pq 0 5 <| pq 6 3 <| .e 5 [(7, false)] <| .e 9 [] <| .e 10 [] <| .q 11 false <| .done)) (.two (.reg [0, 1, 3, 7, 0, 0, 63, 0, 128, 0, 0, 2047, 4095, 8191] (pq 0 6 <| pq 7 4 <| .e 6 [(8, false)] <| .e 11 [] <| .e 12 [] <| .q 13 false <| .done)) (.two (.reg [0, 1, 3, 7, 0, 31, 63] (pq 0 5 <| .e 5 [] <| .q 6 false <| .done)) (.two (rg 19 65536 0) (.nil)))))))))))))))) h
end
end Go.Du
namespace Go.Du
open Go
attribute [local irreducible] ATriple W evP AI AExt
def NL : List (List AV) → AV
  | [] => nilS
  | x :: l => .svals (x :: l)
theorem RS_NL (l : List Bs) : RS l = NL (nms l) := by cases l <;> rfl
theorem f183_nil (S : Store) {Q : AV → Store → Prop} (h : Q nilS S) : ATriple PR 183 [nilS] S Q := by
  refine f183_ok ?_
  simp -implicitDefEqProofs only [f183_s, (SlIn.nil S).isNil, bQ_some, condW_bv, if_true]
  exact dropQ_self h
theorem f67_nil (S : Store) {Q : AV → Store → Prop} (h : Q nilS S) : ATriple PR 67 [nilS] S Q := by
  refine f67_ok ?_
  simp -implicitDefEqProofs only [f67_s, (SlIn.nil S).isNil, bQ_some, condW_bv, if_true]
  exact dropQ_self h
theorem f68_nil (S : Store) {Q : AV → Store → Prop} (h : Q nilS S) : ATriple PR 68 [nilS] S Q := by
  refine f68_ok ?_
  simp -implicitDefEqProofs only [f68_s, (SlIn.nil S).isNil, bQ_some, condW_bv, if_true]
  exact dropQ_self h
structure GrowN (e sz : Nat) (S0 : Store) (es : List (List AV)) (v : AV) (S : Store) : Prop where
  g : Grow e sz S0 es v S
  n : es = [] → v = nilS ∧ S = S0
theorem GrowN.none (e sz : Nat) (S : Store) : GrowN e sz S [] nilS S := ⟨.nil, fun _ => ⟨rfl, rfl⟩⟩
theorem f67_g (es : List (List AV)) (S : Store) (hl : ∀ c ∈ es, c.length = 1) (hn : es.length ≤ 1099511627) {Q : AV → Store → Prop} (h : ∀ v S', GrowN 9 1 S es v S' → Q v S') : ATriple PR 67 [NL es] S Q := by
  cases es with
  | nil => exact f67_nil S (h _ _ (.none _ _ _))
  | cons a l => exact f67_c _ (a :: l) S false (.vals (by simp)) hl hn fun v S' hg => h _ _ ⟨hg, fun e => by cases e⟩
theorem f68_g (es : List (List AV)) (S : Store) (hl : ∀ c ∈ es, c.length = 1) (hn : es.length ≤ 1099511627) {Q : AV → Store → Prop} (h : ∀ v S', GrowN 140 1 S es v S' → Q v S') : ATriple PR 68 [NL es] S Q := by
  cases es with
  | nil => exact f68_nil S (h _ _ (.none _ _ _))
  | cons a l => exact f68_c _ (a :: l) S false (.vals (by simp)) hl hn fun v S' hg => h _ _ ⟨hg, fun e => by cases e⟩
theorem f67_n (l : List Bs) (S : Store) (hn : l.length ≤ 1099511627) {Q : AV → Store → Prop} (h : Q (RS l) S) : ATriple PR 67 [RS l] S Q := by
  cases l with
  | nil => exact f67_nil S h
  | cons a l => exact ATriple.drop (f67_c _ (nms (a :: l)) S false (.vals (by simp)) (by simp) (by simpa using hn) fun v S' hg => ⟨_, _, hg.ent, h⟩)
theorem retW_mf (m : Mf) (t : Nat) (S : Store) (Q : AV → Store → Prop) (h : S t = some (.row 31 6 [m.cs])) : retW (resC (ldv true 6 (.ptr t 0 0) S) (some [])) Q S = Q m.av S := by
  rw [ldv_all_at (sz := 6) h rfl]; rfl
abbrev zMf : List AV := [.lit (.int .i64 0), .lit (.int .i64 0), .lit (.slice none 0 0), .lit (.slice none 0 0), .lit (.slice none 0 0), .lit (.string ⟨#[]⟩)]
set_option maxRecDepth 100000 in
theorem f66_c (m : Mf) (hr : m.runs.length ≤ 40) (S : Store) {Q : AV → Store → Prop} (h : Q m.av S) : ATriple PR 66 [m.av] S Q := by
  refine f66_ok ?_
  have e0 : boxR false 31 m.av = some (.own (.row 31 6 [m.cs]) fun u => .ptr u 0 0) := rfl
  simp -implicitDefEqProofs only [f66_s, e0, newW_own]
  intro a ha b hb
  have hab : a ≠ b := fun e => by subst e; rw [Store.set_same] at hb; cases hb
  have hb0 : S b = none := by rwa [Store.set_ne _ _ _ hab.symm] at hb
  obtain ⟨S1, hS1⟩ : ∃ S1, S1 = (S.set a (.row 31 6 [m.cs])).set b (.row 31 6 [zMf]) := ⟨_, rfl⟩
  rw [← hS1]
  have ga : S1 a = some (.row 31 6 [m.cs]) := by rw [hS1, Store.set_ne _ _ _ hab]; exact Store.set_same _ _ _
  have l2 : ldv false 1 (.ptr a 0 2) S1 = some BR := ldv_at ga
  have l3 : ldv false 1 (.ptr a 0 3) S1 = some nilS := ldv_at ga
  have l4 : ldv false 1 (.ptr a 0 4) S1 = some (RS m.runs) := ldv_at ga
  simp -implicitDefEqProofs only [padd_ptr, Nat.zero_add, bQ_some, l2, l3, l4]
  refine ATriple.drop (f182_c BR [BRc] S1 false (.vals (by simp)) (by simp) (by simp) fun v S' hg => ⟨_, _, hg.ent, ?_⟩)
  refine ⟨⟨l3, l4, trivial⟩, ?_⟩
  refine f183_nil S1 ?_
  refine ⟨⟨l4, trivial⟩, ?_⟩
  refine f67_n m.runs S1 (by omega) ?_
  have s1 : stv 1 (.ptr a 0 2) (.svals [BRc]) S1 = some S1 := by
    rw [stv_at ga rfl rfl (by simp [Mf.cs])]
    congr 1; funext x
    by_cases e : x = a
    · subst e; rw [Store.set_same, ga]; rfl
    · rw [Store.set_ne _ _ _ e]
  have s2 : stv 1 (.ptr a 0 3) nilS S1 = some S1 := by
    rw [stv_at ga rfl rfl (by simp [Mf.cs])]
    congr 1; funext x
    by_cases e : x = a
    · subst e; rw [Store.set_same, ga]; rfl
    · rw [Store.set_ne _ _ _ e]
  have s3 : stv 1 (.ptr a 0 4) (RS m.runs) S1 = some S1 := by
    rw [stv_at ga (okC_RS _).1 (okC_RS _).2 (by simp [Mf.cs])]
    congr 1; funext x
    by_cases e : x = a
    · subst e; rw [Store.set_same, ga]; rfl
    · rw [Store.set_ne _ _ _ e]
  have la : ldv true 6 (.ptr a 0 0) S1 = some m.av := ldv_all_at ga rfl
  have s4 : stv 6 (.ptr b 0 0) m.av S1 = some (S1.set b (.row 31 6 [m.cs])) := by
    rw [hS1, stv_box (sz := 6) (x := m.av) rfl rfl rfl, Store.set_set]; rfl
  simp -implicitDefEqProofs only [s1, s2, s3, thenS_some, la, bQ_some, s4]
  rw [retW_mf m b _ _ (Store.set_same _ _ _)]
  refine ⟨_, S, Ent.drop ?_, h⟩
  rw [hS1, Store.set_set]
  exact ((Sub.refl S).set ha).set hb0
def arR (d : Nat) (m : Mf) (ps lg : AV) : AObj := .row 136 10 [.ptr d 0 0 :: (m.cs ++ [ps, lg, bv false])]
section
variable {S : Store} {a d : Nat} {m : Mf} {ps lg : AV}
theorem ar_d (h : S a = some (arR d m ps lg)) : ldv false 1 (.ptr a 0 0) S = some (.ptr d 0 0) := ldv_at h
theorem ar_n (h : S a = some (arR d m ps lg)) : ldv false 1 (.ptr a 0 1) S = some (iv m.number) := ldv_at h
theorem ar_r (h : S a = some (arR d m ps lg)) : ldv false 1 (.ptr a 0 5) S = some (RS m.runs) := ldv_at h
theorem ar_l (h : S a = some (arR d m ps lg)) : ldv false 1 (.ptr a 0 6) S = some (sv m.log) := ldv_at h
theorem ar_p (h : S a = some (arR d m ps lg)) : ldv false 1 (.ptr a 0 7) S = some ps := ldv_at h
theorem ar_dead (h : S a = some (arR d m ps lg)) : ldv false 1 (.ptr a 0 9) S = some (bv false) := ldv_at h
theorem ar_m (h : S a = some (arR d m ps lg)) : ldv true 6 (.ptr a 0 1) S = some m.av := by
  rw [ldv_ptr1 true 6 a 0 1 S h rfl]; rfl
theorem st_same (h : S a = some (arR d m ps lg)) : S.set a (arR d m ps lg) = S := by
  funext x
  by_cases e : x = a
  · subst e; rw [Store.set_same, h]
  · rw [Store.set_ne _ _ _ e]
theorem f85_c (h : S a = some (arR d m ps lg)) (hr : m.runs.length ≤ 40) {Q : AV → Store → Prop} (hQ : Q m.av S) : ATriple PR 85 [.ptr a 0 0] S Q := by
  refine f85_ok ?_
  simp -implicitDefEqProofs only [f85_s, newW_own]
  intro b hb
  have hs : Sub S (S.set b (.row 31 6 [zMf])) := (Sub.refl S).set hb
  simp -implicitDefEqProofs only [anil_ptr, padd_ptr, Nat.zero_add, bQ_some, ar_m (hs _ _ h)]
  refine f66_c m hr _ ?_
  have s4 : stv 6 (.ptr b 0 0) m.av (S.set b (.row 31 6 [zMf])) = some (S.set b (.row 31 6 [m.cs])) := by
    rw [stv_box (sz := 6) (x := m.av) rfl rfl rfl]; rfl
  rw [s4, thenS_some, retW_mf m b _ _ (Store.set_same _ _ _)]
  exact ⟨_, S, Ent.drop ((Sub.refl S).set hb), hQ⟩
variable {mt : Nat} {q : Int} {fs : List Fl}
theorem f63_c (h : S a = some (arR d m ps lg)) (hd : DiskAt S d mt q fs) {Q : AV → Store → Prop} (hQ : Q (bv true) S) : ATriple PR 63 [.ptr a 0 0] S Q := by
  refine f63_ok ?_
  simp -implicitDefEqProofs only [f63_s, anil_ptr, padd_ptr, Nat.zero_add, bQ_some, ar_dead h, aun_not, Bool.not_false, gdQ_bv, gdE_bv, if_true, ar_d h]
  refine f169_c hd ?_
  simp -implicitDefEqProofs only [apick_bv, if_true, bQ_some]
  exact dropQ_self hQ
theorem f74_c (h : S a = some (arR d m ps lg)) {Q : AV → Store → Prop} (hQ : Q (iv 0) S) : ATriple PR 74 [.ptr a 0 0, iv 0] S Q := by
  refine f74_ok ?_
  have s1 : stv 1 (.ptr a 0 9) (bv false) S = some S := by
    rw [stv_at h rfl rfl (by simp [Mf.cs])]
    congr 1
    exact st_same h
  simp -implicitDefEqProofs only [f74_s, anil_ptr, padd_ptr, Nat.zero_add, bQ_some, ar_dead h, gdQ_bv, if_true, abi_eql, show ((0 : Int) == 7) = false from rfl, apick_bv, Bool.false_eq_true, if_false, s1, thenS_some]
  exact dropQ_self hQ
end
end Go.Du
namespace Go.Du
open Go
attribute [local irreducible] ATriple W evP AI AExt
theorem hb193 : hasBody PR 193 = true := by kernel_rfl
theorem hb195 : hasBody PR 195 = true := by kernel_rfl
theorem hb197 : hasBody PR 197 = true := by kernel_rfl
section
variable {S : Store} {a d mt : Nat} {m : Mf} {ps lg : AV} {q : Int} {fs : List Fl}
theorem DiskAt.keep (hd : DiskAt S d mt q fs) {x : Nat} {o : AObj} (h1 : x ≠ d) (h2 : x ≠ mt) : DiskAt (S.set x o) d mt q fs :=
  ⟨by rw [Store.set_ne _ _ _ h1.symm]; exact hd.dk, by rw [Store.set_ne _ _ _ h2.symm]; exact hd.mp⟩
theorem ar_ne (h : S a = some (arR d m ps lg)) (hd : DiskAt S d mt q fs) : a ≠ d ∧ a ≠ mt :=
  ⟨fun e => by
    have := hd.dk
    rw [← e, h] at this
    simp [arR] at this, fun e => by subst e; rw [hd.mp] at h; cases h⟩
theorem f73_c (h : S a = some (arR d m ps lg)) (hd : DiskAt S d mt q fs) (m' : Mf) (hm : ({ m' with number := m.number + 1 } : Mf).Ok) (hn : m.number ≤ 1000) (ht : fGet tempM fs = none) (hl : fs.length < 399)
    (hB : (usedF fs : Int) + (frameB (manB { m' with number := m.number + 1 })).length ≤ q) (hq : q ≤ 16777216)
    {Q : AV → Store → Prop} (hQ : Q (iv 0) ((S.set mt (.map (dEs (fPut ⟨fileM, frameB (manB { m' with number := m.number + 1 }), (frameB (manB { m' with number := m.number + 1 })).length⟩ fs)))).set a (arR d { m' with number := m.number + 1 } ps lg))) :
    ATriple PR 73 [.ptr a 0 0, m'.av] S Q := by
  refine f73_ok ?_
  obtain ⟨n1, n2⟩ := ar_ne h hd
  have e0 : boxR false 31 m'.av = some (.own (.row 31 6 [m'.cs]) fun u => .ptr u 0 0) := rfl
  simp -implicitDefEqProofs only [f73_s, e0, newW_own]
  intro b hb
  have hs : Sub S (S.set b (.row 31 6 [m'.cs])) := (Sub.refl S).set hb
  have hba : b ≠ a := fun e => by subst e; rw [h] at hb; cases hb
  have hbd : b ≠ d := fun e => by subst e; rw [hd.dk] at hb; cases hb
  have hbm : b ≠ mt := fun e => by subst e; rw [hd.mp] at hb; cases hb
  have w1 : IntKind.i64.wrap ((m.number : Int) + 1) = ((m.number + 1 : Nat) : Int) := by rw [wrap_id (by omega) (by omega)]; omega
  have s1 : stv 1 (.ptr b 0 0) (iv ((m.number + 1 : Nat) : Int)) (S.set b (.row 31 6 [m'.cs])) = some (S.set b (.row 31 6 [({ m' with number := m.number + 1 } : Mf).cs])) := by
    rw [stv_at (Store.set_same _ _ _) rfl rfl (by simp [Mf.cs]), Store.set_set]; rfl
  obtain ⟨m2, hm2⟩ : ∃ m2, m2 = ({ m' with number := m.number + 1 } : Mf) := ⟨_, rfl⟩
  rw [← hm2] at hm hB hQ s1
  have hs2 : Sub S (S.set b (.row 31 6 [m2.cs])) := (Sub.refl S).set hb
  have lm : ldv true 6 (.ptr b 0 0) (S.set b (.row 31 6 [m2.cs])) = some m2.av := ldv_all_at (sz := 6) (Store.set_same _ _ _) rfl
  simp -implicitDefEqProofs only [anil_ptr, padd_ptr, Nat.zero_add, Nat.add_zero, bQ_some, ar_n (hs _ _ h), abi_add, w1, s1, thenS_some, ar_d (hs2 _ _ h), lm]
  refine f200_c (hd.sub hs2) m2 hm ht hl hB hq ?_
  have hne : (S.set b (.row 31 6 [m2.cs])).set mt (.map (dEs (fPut ⟨fileM, frameB (manB m2), (frameB (manB m2)).length⟩ fs))) = (S.set mt (.map (dEs (fPut ⟨fileM, frameB (manB m2), (frameB (manB m2)).length⟩ fs)))).set b (.row 31 6 [m2.cs]) := Store.set_comm _ hbm _ _
  rw [hne]
  obtain ⟨S2, hS2⟩ : ∃ S2, S2 = S.set mt (.map (dEs (fPut ⟨fileM, frameB (manB m2), (frameB (manB m2)).length⟩ fs))) := ⟨_, rfl⟩
  rw [← hS2] at hQ ⊢
  have hb2 : S2 b = none := by rw [hS2, Store.set_ne _ _ _ hbm]; exact hb
  have ha2 : S2 a = some (arR d m ps lg) := by rw [hS2, Store.set_ne _ _ _ n2]; exact h
  have hs3 : Sub S2 (S2.set b (.row 31 6 [m2.cs])) := (Sub.refl _).set hb2
  have lm2 : ldv true 6 (.ptr b 0 0) (S2.set b (.row 31 6 [m2.cs])) = some m2.av := ldv_all_at (sz := 6) (Store.set_same _ _ _) rfl
  have s2 : stv 6 (.ptr a 0 1) m2.av (S2.set b (.row 31 6 [m2.cs])) = some ((S2.set b (.row 31 6 [m2.cs])).set a (arR d m2 ps lg)) := by
    rw [stv_ptr1 6 a 0 1 m2.av _ (hs3 _ _ ha2) rfl rfl rfl (by simp [Mf.cs])]; rfl
  simp -implicitDefEqProofs only [abi_eql, show ((0 : Int) == 0) = true from rfl, bQ_some, condW_bv, if_true, lm2, anil_ptr, padd_ptr, Nat.zero_add, s2, thenS_some]
  refine ⟨_, _, Ent.drop ?_, hQ⟩
  rw [Store.set_comm _ hba]
  refine (Sub.refl _).set ?_
  rw [Store.set_ne _ _ _ hba]; exact hb2
theorem f71_c (h : S a = some (arR d m ps lg)) (hd : DiskAt S d mt q fs) (n : Bs) (hn : namedF n = true) (ht : fGet n fs = none) (b : Bs) (hl : fs.length < 399) (hB : (usedF fs : Int) + b.length ≤ q) (hq : q ≤ 16777216)
    {Q : AV → Store → Prop} (hQ : Q (iv 0) (S.set mt (.map (dEs (fs ++ [⟨n, b, b.length⟩]))))) : ATriple PR 71 [.ptr a 0 0, sv n, bytes b] S Q := by
  refine f71_ok ?_
  obtain ⟨n1, n2⟩ := ar_ne h hd
  obtain ⟨P, hP⟩ : ∃ P : AV, P = .fptr [.ptr a 0 0] 0 := ⟨_, rfl⟩
  obtain ⟨N, hN⟩ : ∃ N : AV, N = .fptr [sv n] 0 := ⟨_, rfl⟩
  obtain ⟨B, hBB⟩ : ∃ B : AV, B = .fptr [bytes b] 0 := ⟨_, rfl⟩
  have xP : frzOf (boxR true 35 (.ptr a 0 0)) = some P := by rw [hP]; rfl
  have xN : frzOf (boxR true 9 (sv n)) = some N := by rw [hN]; rfl
  have xB : frzOf (boxR true 129 (bytes b)) = some B := by rw [hBB]; rfl
  have lP : ∀ S, ldv false 1 P S = some (.ptr a 0 0) := fun S => by rw [hP]; rfl
  have lN : ∀ S, ldv false 1 N S = some (sv n) := fun S => by rw [hN]; rfl
  have lB : ∀ S, ldv false 1 B S = some (bytes b) := fun S => by rw [hBB]; rfl
  obtain ⟨L, hL⟩ : ∃ L : List (List AV), L = [[.func (.func 193) [] [P, N]], [.func (.func 195) [] [P, N, B]], [.func (.func 197) [] [P, N]]] := ⟨_, rfl⟩
  have xL : frzOf (bslR true 1 67 1 3 3 [(0, .func (.func 193) [] [P, N]), (1, .func (.func 195) [] [P, N, B]), (2, .func (.func 197) [] [P, N])]) = some (.svals L) := by rw [hL]; rfl
  simp -implicitDefEqProofs only [f71_s, xP, xN, xB, xL, bQ_some]
  refine f192_ok ?_
  have aL : ∀ S, aln .slice (.svals L) S = some (iv 3) := fun S => by rw [hL]; rfl
  have i0 : ∀ S, ixA 1 (.svals L) (iv 0) S = some (.fptr [.func (.func 193) [] [P, N]] 0) := fun S => by rw [hL]; rfl
  have i1 : ∀ S, ixA 1 (.svals L) (iv 1) S = some (.fptr [.func (.func 195) [] [P, N, B]] 0) := fun S => by rw [hL]; rfl
  have i2 : ∀ S, ixA 1 (.svals L) (iv 2) S = some (.fptr [.func (.func 197) [] [P, N]] 0) := fun S => by rw [hL]; rfl
  have ld : ∀ (g : Nat) (c : List AV) S, ldv false 1 (.fptr [.func (.func g) [] c] 0) S = some (.func (.func g) [] c) := fun g c S => rfl
  simp -implicitDefEqProofs only [f192_s, aL, bQ_some]
  refine f192_L1_pt ?_
  simp -implicitDefEqProofs only [f192_l1, abi_lss, bQ_some, condW_bv, show decide ((0 : Int) < 3) = true from rfl, if_true, i0, ld, callW, hb193, List.nil_append]
  refine f193_ok ?_
  simp -implicitDefEqProofs only [f193_s, lP, lN, bQ_some, anil_ptr, padd_ptr, Nat.zero_add, ar_d h]
  refine f194_c hd n hn ht (by omega) ?_
  rw [fPut_new (f := ⟨n, [], 0⟩) ht]
  have ak : ∀ o, (S.set mt o) a = some (arR d m ps lg) := fun o => by rw [Store.set_ne _ _ _ n2]; exact h
  have h1 : DiskAt (S.set mt (.map (dEs (fs ++ [⟨n, [], 0⟩])))) d mt q (fs ++ [⟨n, [], 0⟩]) := hd.put _
  refine dropQ_self ?_
  simp -implicitDefEqProofs only [abi_neq, show ((0 : Int) != 0) = false from rfl, bQ_some, condW_bv, Bool.false_eq_true, if_false, abi_add, show IntKind.i64.wrap ((0 : Int) + 1) = 1 from by decide]
  refine f192_L1_pt ?_
  simp -implicitDefEqProofs only [f192_l1, abi_lss, bQ_some, condW_bv, show decide ((1 : Int) < 3) = true from rfl, if_true, i1, ld, callW, hb195, List.nil_append]
  refine f195_ok ?_
  simp -implicitDefEqProofs only [f195_s, lP, lN, lB, bQ_some, anil_ptr, padd_ptr, Nat.zero_add, ar_d (ak _)]
  refine f196_c h1 n (f := ⟨n, [], 0⟩) (fGet_end (f := ⟨n, [], 0⟩) ht) (IsB.bytes b) (by rw [usedF_app]; simpa using hB) (by omega) ?_
  dsimp only
  rw [List.nil_append, Store.set_set, fPut_end (f := ⟨n, [], 0⟩) (g := ⟨n, b, 0⟩) ht rfl]
  have h2 : DiskAt (S.set mt (.map (dEs (fs ++ [⟨n, b, 0⟩])))) d mt q (fs ++ [⟨n, b, 0⟩]) := hd.put _
  refine dropQ_self ?_
  simp -implicitDefEqProofs only [abi_neq, show ((0 : Int) != 0) = false from rfl, bQ_some, condW_bv, Bool.false_eq_true, if_false, abi_add, show IntKind.i64.wrap ((1 : Int) + 1) = 2 from by decide]
  refine f192_L1_pt ?_
  simp -implicitDefEqProofs only [f192_l1, abi_lss, bQ_some, condW_bv, show decide ((2 : Int) < 3) = true from rfl, if_true, i2, ld, callW, hb197, List.nil_append]
  refine f197_ok ?_
  simp -implicitDefEqProofs only [f197_s, lP, lN, bQ_some, anil_ptr, padd_ptr, Nat.zero_add, ar_d (ak _)]
  refine f198_c h2 n (f := ⟨n, b, 0⟩) (fGet_end (f := ⟨n, b, 0⟩) ht) ?_
  dsimp only
  rw [Store.set_set, fPut_end (f := ⟨n, b, 0⟩) (g := ⟨n, b, b.length⟩) ht rfl]
  refine dropQ_self ?_
  simp -implicitDefEqProofs only [abi_neq, show ((0 : Int) != 0) = false from rfl, bQ_some, condW_bv, Bool.false_eq_true, if_false, abi_add, show IntKind.i64.wrap ((2 : Int) + 1) = 3 from by decide]
  refine f192_L1_pt ?_
  simp -implicitDefEqProofs only [f192_l1, abi_lss, bQ_some, condW_bv, show decide ((3 : Int) < 3) = false from rfl, Bool.false_eq_true, if_false]
  refine f192_K1_e0_pt ?_
  refine dropQ_self ?_
  exact dropQ_self hQ
theorem f344_loop (l : List Bs) (n : Bs) (hl : l.length ≤ 1099511627776) (K : AK) (S : Store) (h0 : n ∉ l → K (.exit 0) (ofL [(4, .poison)]) S) (h1 : ∀ i : Nat, n ∈ l → K .ret (ofL [(4, iv i)]) S) :
    ∀ k i, k + i = l.length → (∀ j (h : j < l.length), j < i → l[j] ≠ n) → f344_L1 K (RS l) (sv n) (iv l.length) (iv i) S := by
  intro k
  induction k with
  | zero =>
    intro i hi hj
    refine f344_L1_pt ?_
    have : ¬ (i : Int) < l.length := by omega
    simp -implicitDefEqProofs only [f344_l1, abi_lss, bQ_some, this, decide_false, condW_bv, Bool.false_eq_true, if_false]
    refine h0 fun hm => ?_
    obtain ⟨j, hj', e⟩ := List.mem_iff_getElem.1 hm
    exact hj j hj' (by omega) e
  | succ k ih =>
    intro i hi hj
    refine f344_L1_pt ?_
    have hlt : i < l.length := by omega
    have hlt' : (i : Int) < l.length := by omega
    have w1 : IntKind.i64.wrap ((i : Int) + 1) = ((i + 1 : Nat) : Int) := by rw [wrap_id (by omega) (by omega)]; omega
    have e0 : ldv false 1 (.fptr [sv l[i]] 0) S = some (sv l[i]) := rfl
    simp -implicitDefEqProofs only [f344_l1, abi_lss, bQ_some, condW_bv, hlt', decide_true, if_true, ixA_RS l i S hlt, e0, abi_seql]
    by_cases e : n = l[i]
    · have : (n == l[i]) = true := by simpa using e
      simp -implicitDefEqProofs only [this, if_true]
      exact h1 i (by rw [e]; exact List.getElem_mem hlt)
    · have : (n == l[i]) = false := by simpa using e
      simp -implicitDefEqProofs only [this, Bool.false_eq_true, if_false, abi_add, w1, bQ_some]
      refine ih (i + 1) (by omega) fun j hj' hlt2 => ?_
      by_cases ej : j = i
      · subst ej; exact fun e2 => e e2.symm
      · exact hj j hj' (by omega)
theorem f202_c (l : List Bs) (n : Bs) (hl : l.length ≤ 1099511627776) (S : Store) {Q : AV → Store → Prop} (h : Q (bv (decide (n ∈ l))) S) : ATriple PR 202 [RS l, sv n] S Q := by
  refine f202_ok ?_
  simp -implicitDefEqProofs only [f202_s]
  refine f344_ok ?_
  simp -implicitDefEqProofs only [f344_s, aln_RS, bQ_some]
  refine f344_loop l n hl _ S (fun hm => ?_) (fun i hm => ?_) l.length 0 rfl (fun j _ hj => absurd hj (Nat.not_lt_zero _))
  · refine f344_K1_e0_pt ?_
    refine dropQ_self ?_
    simp -implicitDefEqProofs only [abi_geq, bQ_some, show decide ((-1 : Int) ≥ 0) = false from rfl]
    exact dropQ_self (by simpa [hm] using h)
  · refine f344_K1_ret_pt ?_
    refine dropQ_self ?_
    have : (i : Int) ≥ 0 := by omega
    simp -implicitDefEqProofs only [abi_geq, bQ_some, this, decide_true]
    exact dropQ_self (by simpa [hm] using h)
def keepF (m : Mf) (n : Bs) : Bool := decide (n = fileM) || decide (n = m.log) || decide (n ∈ m.runs)
theorem fDel_filter {n : Bs} : ∀ {fs : List Fl}, (fs.map (·.name)).Nodup → fDel n fs = fs.filter fun f => decide (f.name ≠ n)
  | [], _ => rfl
  | f :: fs, hn => by
    have hn' := List.nodup_cons.1 hn
    have ih := fDel_filter (n := n) (fs := fs) hn'.2
    unfold fDel at ih ⊢
    simp only [fIdx]
    by_cases e : n = f.name
    · subst e
      simp only [if_true, List.eraseIdx_cons_zero]
      rw [List.filter_cons_of_neg (by simp), List.filter_eq_self.2]
      intro g hg
      have : g.name ≠ f.name := fun e => hn'.1 (List.mem_map.2 ⟨g, hg, e⟩)
      simpa using this
    · rw [if_neg e, List.filter_cons_of_pos (by simpa using fun h => e h.symm), ← ih]
      cases hi : fIdx n fs with
      | none => rfl
      | some i => rfl
theorem f75_loop (h : S a = some (arR d m ps lg)) (hd : DiskAt S d mt q fs) (hr : m.runs.length ≤ 40) (hnd : (fs.map (·.name)).Nodup) (l : List Bs) (hll : l.length ≤ 400) (K : AK)
    (hK : K (.exit 0) (ofL []) (S.set mt (.map (dEs (fs.filter fun f => keepF m f.name || decide (f.name ∉ l)))))) :
    ∀ k i, k + i = l.length → f75_L1 K (.ptr a 0 0) (.svals (nms l)) (iv l.length) (iv i) (S.set mt (.map (dEs (fs.filter fun f => keepF m f.name || decide (f.name ∉ l.take i))))) := by
  obtain ⟨n1, n2⟩ := ar_ne h hd
  have ak : ∀ o, (S.set mt o) a = some (arR d m ps lg) := fun o => by rw [Store.set_ne _ _ _ n2]; exact h
  intro k
  induction k with
  | zero =>
    intro i hi
    refine f75_L1_pt ?_
    have : ¬ (i : Int) < l.length := by omega
    rw [List.take_of_length_le (by omega)]
    simp -implicitDefEqProofs only [f75_l1, abi_lss, bQ_some, this, decide_false, condW_bv, Bool.false_eq_true, if_false]
    exact hK
  | succ k ih =>
    intro i hi
    refine f75_L1_pt ?_
    have hlt : i < l.length := by omega
    have hlt' : (i : Int) < l.length := by omega
    have w1 : IntKind.i64.wrap ((i : Int) + 1) = ((i + 1 : Nat) : Int) := by rw [wrap_id (by omega) (by omega)]; omega
    have ih' := ih (i + 1) (by omega)
    have htk : l.take (i + 1) = l.take i ++ [l[i]] := by rw [List.take_succ_eq_append_getElem hlt]
    obtain ⟨fs1, hfs1⟩ : ∃ fs1, fs1 = fs.filter fun f => keepF m f.name || decide (f.name ∉ l.take i) := ⟨_, rfl⟩
    rw [← hfs1]
    have hd1 : DiskAt (S.set mt (.map (dEs fs1))) d mt q fs1 := hd.put _
    have e0 : ldv false 1 (.fptr [sv l[i]] 0) (S.set mt (.map (dEs fs1))) = some (sv l[i]) := rfl
    have ex : ixA 1 (.svals (nms l)) (iv i) (S.set mt (.map (dEs fs1))) = some (.fptr [sv l[i]] 0) := ixA_map (fun s => [sv s]) l i 1 _ hlt fun _ => rfl
    have fK : AV.lit (.string ⟨#[109, 97, 110, 105, 102, 101, 115, 116]⟩) = sv fileM := rfl
    generalize hx : l[i] = x at *
    have same : keepF m x = true → (fs.filter fun f => keepF m f.name || decide (f.name ∉ l.take (i + 1))) = fs1 := fun hk => by
      rw [hfs1, htk]
      apply List.filter_congr
      intro f _
      by_cases e : f.name = x
      · rw [e, hk]; rfl
      · simp [e]
    have gone : keepF m x = false → (fs.filter fun f => keepF m f.name || decide (f.name ∉ l.take (i + 1))) = fDel x fs1 := fun hk => by
      rw [fDel_filter, hfs1, List.filter_filter, htk]
      · apply List.filter_congr
        intro f _
        by_cases e : f.name = x
        · rw [e, hk]; simp
        · simp [e]
      · rw [hfs1]
        exact (List.filter_sublist.map _).nodup hnd
    have done : keepF m x = true → f75_L1 K (.ptr a 0 0) (.svals (nms l)) (iv l.length) (iv (i + 1 : Nat)) (S.set mt (.map (dEs fs1))) := fun hk => by
      rw [← same hk]; exact ih'
    simp -implicitDefEqProofs only [f75_l1, abi_lss, bQ_some, condW_bv, hlt', decide_true, if_true, ex, e0, fK, abi_sneq]
    by_cases e1 : x = fileM
    · have b1 : (x == fileM) = true := by simpa using e1
      simp -implicitDefEqProofs only [b1, Bool.not_true, gdQ_bv, gdE_bv, Bool.false_eq_true, if_false, apick_bv, bQ_some, condW_bv, gdQ_undef, gdE_undef, abi_add, w1]
      exact done (by simp [keepF, e1])
    · have b1 : (x == fileM) = false := by simpa using e1
      simp -implicitDefEqProofs only [b1, Bool.not_false, gdQ_bv, if_true, anil_ptr, padd_ptr, Nat.zero_add, Nat.add_zero, bQ_some, ar_l (ak _), abi_sneq, apick_bv]
      by_cases e2 : x = m.log
      · have b2 : (x == m.log) = true := by simpa using e2
        simp -implicitDefEqProofs only [b2, Bool.not_true, gdQ_bv, gdE_bv, Bool.false_eq_true, if_false, apick_bv, bQ_some, condW_bv, gdQ_undef, gdE_undef, abi_add, w1]
        exact done (by simp [keepF, e2])
      · have b2 : (x == m.log) = false := by simpa using e2
        simp -implicitDefEqProofs only [b2, Bool.not_false, gdQ_bv, gdE_bv, if_true, anil_ptr, padd_ptr, Nat.zero_add, Nat.add_zero, bQ_some, ar_r (ak _)]
        refine f202_c m.runs x (by omega) _ ?_
        by_cases e3 : x ∈ m.runs
        · simp -implicitDefEqProofs only [e3, decide_true, aun_not, bQ_some, Bool.not_true, apick_bv, if_true, condW_bv, Bool.false_eq_true, if_false, abi_add, w1]
          exact done (by simp [keepF, e3])
        · simp -implicitDefEqProofs only [e3, decide_false, aun_not, bQ_some, Bool.not_false, apick_bv, if_true, condW_bv, anil_ptr, padd_ptr, Nat.zero_add, ar_d (ak _)]
          refine f203_c hd1 x ?_
          rw [Store.set_set, ← gone (by simp [keepF, e1, e2, e3])]
          simp -implicitDefEqProofs only [abi_add, w1, bQ_some]
          exact ih'
theorem f75_c (h : S a = some (arR d m ps lg)) (hd : DiskAt S d mt q fs) (hr : m.runs.length ≤ 40) (hnd : (fs.map (·.name)).Nodup) (h1 : fs ≠ []) (hn : fs.length ≤ 12) {Q : AV → Store → Prop} (hQ : Q (.tuple []) (S.set mt (.map (dEs (fs.filter fun f => keepF m f.name))))) : ATriple PR 75 [.ptr a 0 0] S Q := by
  refine f75_ok ?_
  simp -implicitDefEqProofs only [f75_s, anil_ptr, padd_ptr, Nat.zero_add, bQ_some, ar_d h]
  refine f201_c hd h1 hn fun l hp => ?_
  have hl : l.length = fs.length := by rw [hp.length_eq]; simp
  have e0 : aln .slice (.svals (nms l)) S = some (iv l.length) := by simp [aln]
  simp -implicitDefEqProofs only [e0, bQ_some]
  have hh := f75_loop h hd hr hnd l (by omega) (f75_K1 Q) ?_ l.length 0 rfl
  · have e1 : S.set mt (.map (dEs (fs.filter fun f => keepF m f.name || decide (f.name ∉ l.take 0)))) = S := by
      rw [List.filter_eq_self.2 (by simp)]
      funext x
      by_cases e : x = mt
      · subst e; rw [Store.set_same]; exact hd.mp.symm
      · rw [Store.set_ne _ _ _ e]
    rw [e1] at hh
    exact hh
  · refine f75_K1_e0_pt ?_
    have e2 : (fs.filter fun f => keepF m f.name || decide (f.name ∉ l)) = fs.filter fun f => keepF m f.name := by
      apply List.filter_congr
      intro f hf
      have : f.name ∈ l := hp.symm.subset (List.mem_map.2 ⟨f, hf, rfl⟩)
      simp [this]
    rw [e2]
    exact dropQ_self hQ
end
end Go.Du
