/- What is proved: at every archive row that the statement's guards let in, the rows of a key, and of keys, are the document's, so that the spec answers true.
Conditions: the call's arguments together hold at most 1048576 values and letters (the card's own bound); no other. -/
import Derived.Test.YthmlcohmlehddaaGreatDoorVad
set_option linter.all false
namespace Go.Du
open Go
set_option maxRecDepth 1000000
section
open Go.Proofs
variable {S : Store} {Q : QT} {K : AK} {t0 t1 t2 t3 t4 t5 t6 t7 t8 t9 t10 t11 t12 t13 t14 : AV}
noncomputable def f346_a1 : Ann := .two (rg 1 0 0) (.two (.two (rg 8 0 0) (.two (.two (rg 1 0 0) (.nil)) (.nil))) (.two (.two (rg 1 0 0) (.one (.loop [0, 3]))) (.two (rg 1 0 0) (.nil))))
noncomputable def f346_c1 : Code := (cl (cl (cr (cl (cr (cr (bodyOf Tryz.f346)))))))
noncomputable def f346_c2 : Code := (cr (cr (cr (bodyOf Tryz.f346))))
def f346_L1 (K : AK) (t0 t3 : AV) (S : Store) : Prop := AI PR none 66 [.code f346_c1, .inLoop f346_c1] K (ofL [(0, t0), (3, t3)]) S
def f346_l1 (K : AK) (t0 t3 : AV) (S : Store) : Prop := bQ (aln .slice t0 S) fun t15 => bQ (abi .lss t3 t15) fun t16 => condW t16 (bQ (ixA 4 t0 t3 S) fun t21 => bQ (ldv true 4 t21 S) fun t22 => newW (some (.own (.row 26 4 [[iv 0, iv 0, iv 0, bv false]]) fun u => .ptr u 0 0)) S fun t4 S_1 => thenS (stv 4 t4 t22 S_1) fun _ S_2 => bQ (padd t4 2) fun t23 => bQ (ldv false 1 t23 S_2) fun t24 => bQ (abi .lss t24 (iv 0)) fun t25 => gdQ t25 false (padd t4 2) fun t27 => gdQ t25 false (ldv false 1 t27 S_2) fun t28 => gdQ t25 false (abi .gtr t28 (iv 10000)) fun t29 => bQ (apick t25 (bv true) t29) fun t30 => gdQ t30 false (padd t4 1) fun t32 => gdQ t30 false (ldv false 1 t32 S_2) fun t33 => gdQ t30 false (abi .lss t33 (iv 0)) fun t34 => bQ (apick t30 (bv true) t34) fun t35 => gdQ t35 false (padd t4 1) fun t37 => gdQ t35 false (ldv false 1 t37 S_2) fun t38 => gdQ t35 false (abi .gtr t38 (iv 10000)) fun t39 => bQ (apick t35 (bv true) t39) fun t40 => condW t40 (K .ret (ofL [(2, bv false)]) S_2) (bQ (abi .eql t3 (iv 0)) fun t42 => gdQ t42 true (padd t4 0) fun t44 => gdQ t42 true (ldv false 1 t44 S_2) fun t45 => gdQ t42 true (abi .neq t45 (iv (-1))) fun t46 => gdQ t42 true (some t46) fun t47 => gdQ t47 false (padd t4 1) fun t48 => gdQ t47 false (ldv false 1 t48 S_2) fun t49 => gdQ t47 false (abi .neq t49 (iv 0)) fun t50 => gdQ t42 true (apick t47 (bv true) t50) fun t51 => bQ (apick t42 t51 (bv false)) fun t52 => condW t52 (K .ret (ofL [(2, bv false)]) S_2) (bQ (abi .gtr t3 (iv 0)) fun t54 => gdQ t54 true (padd t4 0) fun t56 => gdQ t54 true (ldv false 1 t56 S_2) fun t57 => gdQ t54 true (abi .lss t57 (iv 0)) fun t58 => gdQ t54 true (some t58) fun t59 => gdQ t59 false (padd t4 0) fun t60 => gdQ t59 false (ldv false 1 t60 S_2) fun t61 => gdQ t59 false (some t3) fun t62 => gdQ t59 false (abi .geq t61 t62) fun t63 => gdQ t54 true (apick t59 (bv true) t63) fun t64 => bQ (apick t54 t64 (bv false)) fun t65 => condW t65 (K .ret (ofL [(2, bv false)]) S_2) (bQ (abi .add t3 (iv 1)) fun t18 => f346_L1 K t0 t18 S_2)))) (K (.exit 0) (ofL [(2, .poison)]) S)
theorem f346_L1_pt : f346_l1 K t0 t3 S → f346_L1 K t0 t3 S := fun h => pL (.two (.two (rg 4 0 0) (.two (.nil) (.nil))) (.two (.one (.two (rg 6 48 0) (.two (.two (rg 18 0 0) (.two (.two (rg 1 0 0) (.nil)) (.nil))) (.two (.two (rg 12 0 0) (.two (.two (rg 1 0 0) (.nil)) (.nil))) (.two (rg 13 0 0) (.two (.two (rg 1 0 0) (.nil)) (.nil))))))) (rg 3 0 0))) [0, 3] [2] h
noncomputable def f346_K1 (Q : QT) : AK := (AK.block 0 (AK.andThen (fun st S => W PR none 66 f346_c2 ((ar (ar (ar f346_a1)))) (retK PR Tryz.f346 (dropQ Q)) st S) (retK PR Tryz.f346 (dropQ Q))))
def f346_K1_e0 (Q : QT) (t2 : AV) (S : Store) : Prop := dropQ Q (bv true) S
theorem f346_K1_e0_pt : f346_K1_e0 Q t2 S → f346_K1 Q (.exit 0) (ofL [(2, t2)]) S := castP (by kernel_rfl)
def f346_s (t0 : AV) (S : Store) (Q : QT) : Prop := bQ (aln .slice t0 S) fun t6 => bQ (abi .lss t6 (iv 1)) fun t7 => gdQ t7 false (some t0) fun t9 => gdQ t7 false (aln .slice t9 S) fun t10 => gdQ t7 false (abi .gtr t10 (iv 16)) fun t11 => bQ (apick t7 (bv true) t11) fun t12 => condW t12 (dropQ Q (bv false) S) (f346_L1 (f346_K1 Q) t0 (iv 0) S)
theorem f346_ok : f346_s t0 S Q → ATriple PR 346 [t0] S Q := fun h => pF (fn := Tryz.f346) f346_a1 h
attribute [irreducible] f346_L1 f346_K1
noncomputable def f347_a1 : Ann := .two (rg 1 0 0) (.two (.two (rg 1 0 0) (.one (.loop [0, 3]))) (.two (rg 9 0 0) (.nil)))
noncomputable def f347_c1 : Code := (cl (cl (cr (cl (cr (bodyOf Tryz.f347))))))
noncomputable def f347_c2 : Code := (cr (cr (bodyOf Tryz.f347)))
def f347_L1 (K : AK) (t0 t3 : AV) (S : Store) : Prop := AI PR none 46 [.code f347_c1, .inLoop f347_c1] K (ofL [(0, t0), (3, t3)]) S
def f347_l1 (K : AK) (t0 t3 : AV) (S : Store) : Prop := bQ (aln .str t0 S) fun t7 => bQ (abi .lss t3 t7) fun t8 => condW t8 (bQ (aixS t0 t3) fun t13 => bQ (abi .geq t13 (uv 97)) fun t15 => gdQ t15 true (some t13) fun t17 => gdQ t15 true (abi .leq t17 (uv 122)) fun t18 => bQ (apick t15 t18 (bv false)) fun t19 => bQ (aun .not t19) fun t20 => gdQ t20 true (some t13) fun t22 => gdQ t20 true (abi .geq t22 (uv 48)) fun t23 => gdQ t20 true (some t23) fun t24 => gdQ t24 true (some t13) fun t25 => gdQ t24 true (abi .leq t25 (uv 57)) fun t26 => gdQ t20 true (apick t24 t26 (bv false)) fun t27 => gdQ t20 true (aun .not t27) fun t28 => bQ (apick t20 t28 (bv false)) fun t29 => gdQ t29 true (some t13) fun t31 => gdQ t29 true (abi .neq t31 (uv 46)) fun t32 => bQ (apick t29 t32 (bv false)) fun t33 => gdQ t33 true (some t13) fun t35 => gdQ t33 true (abi .neq t35 (uv 45)) fun t36 => bQ (apick t33 t36 (bv false)) fun t37 => condW t37 (K .ret (ofL [(0, t0), (2, bv false)]) S) (bQ (abi .add t3 (iv 1)) fun t10 => f347_L1 K t0 t10 S)) (K (.exit 0) (ofL [(0, t0), (2, .poison)]) S)
theorem f347_L1_pt : f347_l1 K t0 t3 S → f347_L1 K t0 t3 S := fun h => pL (.two (.two (rg 4 0 0) (.two (.nil) (.nil))) (.two (.one (.two (rg 4 0 0) (.two (rg 24 0 0) (.two (.two (rg 1 0 0) (.nil)) (.nil))))) (rg 3 0 0))) [0, 3] [0, 2] h
noncomputable def f347_K1 (Q : QT) : AK := (AK.block 0 (AK.andThen (fun st S => W PR none 46 f347_c2 ((ar (ar f347_a1))) (retK PR Tryz.f347 (dropQ Q)) st S) (retK PR Tryz.f347 (dropQ Q))))
def f347_K1_e0 (Q : QT) (t0 t2 : AV) (S : Store) : Prop := bQ (aln .str t0 S) fun t39 => bQ (abi .geq t39 (iv 1)) fun t40 => gdQ t40 true (some t0) fun t42 => gdQ t40 true (aln .str t42 S) fun t43 => gdQ t40 true (abi .leq t43 (iv 20)) fun t44 => bQ (apick t40 t44 (bv false)) fun t45 => dropQ Q t45 S
theorem f347_K1_e0_pt : f347_K1_e0 Q t0 t2 S → f347_K1 Q (.exit 0) (ofL [(0, t0), (2, t2)]) S := castP (by kernel_rfl)
def f347_s (t0 : AV) (S : Store) (Q : QT) : Prop := f347_L1 (f347_K1 Q) t0 (iv 0) S
theorem f347_ok : f347_s t0 S Q → ATriple PR 347 [t0] S Q := fun h => pF (fn := Tryz.f347) f347_a1 h
attribute [irreducible] f347_L1 f347_K1
noncomputable def f204_a1 : Ann := .two (rg 2 0 1) (.two (rg 4 4 0) (.two (rg 4 4 0) (.two (.two (rg 38 0 0) (.two (.two (rg 1 0 0) (.nil)) (.nil))) (.two (.two (rg 1 0 0) (.one (.loop [1, 5]))) (.two (.two (rg 1 0 0) (.one (.loop [1, 7]))) (.two (rg 1 0 0) (.nil)))))))
noncomputable def f204_c1 : Code := (cl (cl (cr (cl (cr (cr (cr (cr (bodyOf Tryz.f204)))))))))
noncomputable def f204_c2 : Code := (cr (cr (cr (cr (cr (bodyOf Tryz.f204))))))
noncomputable def f204_c3 : Code := (cl (cl (cr (cl (cr (cr (cr (cr (cr (bodyOf Tryz.f204))))))))))
noncomputable def f204_a4 : Ann := .two (.two (rg 5 0 0) (.two (.nil) (.nil))) (.two (.one (.two (rg 7 96 0) (.two (.two (rg 33 0 0) (.two (.two (rg 1 0 0) (.nil)) (.nil))) (.two (rg 1 0 0) (.one (.loop [1, 7, 8, 9])))))) (rg 3 0 0))
noncomputable def f204_c4 : Code := (cl (cl (cr (cr (cr (cl (cl (cr (cl (cl (cr (cl (cr (cr (cr (cr (cr (bodyOf Tryz.f204))))))))))))))))))
noncomputable def f204_c5 : Code := (cr (cr (cl (cl (cr (cl (cr (cr (cr (cr (cr (bodyOf Tryz.f204))))))))))))
noncomputable def f204_c6 : Code := (cr (cr (cr (cr (cr (cr (bodyOf Tryz.f204)))))))
def f204_L1 (K : AK) (t1 t5 : AV) (S : Store) : Prop := AI PR none 128 [.code f204_c1, .inLoop f204_c1] K (ofL [(1, t1), (5, t5)]) S
def f204_l1 (K : AK) (t1 t5 : AV) (S : Store) : Prop := bQ (padd t1 4) fun t55 => bQ (ldv false 1 t55 S) fun t56 => bQ (aln .slice t56 S) fun t57 => bQ (abi .lss t5 t57) fun t58 => condW t58 (bQ (padd t1 4) fun t61 => bQ (ldv false 1 t61 S) fun t62 => bQ (ixA 1 t62 t5 S) fun t64 => bQ (ldv false 1 t64 S) fun t65 => ATriple PR 347 [t65] S fun t66 S_1 => bQ (aun .not t66) fun t68 => condW t68 (K .ret (ofL [(1, t1), (2, bv false)]) S_1) (bQ (abi .add t5 (iv 1)) fun t60 => f204_L1 K t1 t60 S_1)) (K (.exit 0) (ofL [(1, t1), (2, .poison)]) S)
theorem f204_L1_pt : f204_l1 K t1 t5 S → f204_L1 K t1 t5 S := fun h => pL (.two (.two (rg 5 0 0) (.two (.nil) (.nil))) (.two (.one (.two (rg 7 32 0) (.two (rg 2 0 0) (.two (.two (rg 1 0 0) (.nil)) (.nil))))) (rg 3 0 0))) [1, 5] [1, 2] h
noncomputable def f204_K1 (Q : QT) : AK := (AK.block 0 (AK.andThen (fun st S => W PR none 128 f204_c2 ((ar (ar (ar (ar (ar f204_a1)))))) (retK PR Tryz.f204 (dropQ Q)) st S) (retK PR Tryz.f204 (dropQ Q))))
def f204_L2 (K : AK) (t1 t7 : AV) (S : Store) : Prop := AI PR none 128 [.code f204_c3, .inLoop f204_c3] K (ofL [(1, t1), (7, t7)]) S
def f204_L3 (K : AK) (t1 t7 t8 t9 : AV) (S : Store) : Prop := AI PR none 128 [.code f204_c4, .inLoop f204_c4] K (ofL [(1, t1), (7, t7), (8, t8), (9, t9)]) S
noncomputable def f204_K2 (K : AK) : AK := (AK.block 4 (AK.block 3 (AK.andThen (fun st S => W PR none 128 f204_c5 ((ar (ar f204_a4))) (AK.andThen (fun st S => AI PR none 128 [.code f204_c3, .inLoop f204_c3] K (mask [1, 7] st) S) (mskK [2] K)) st S) (AK.andThen (fun st S => AI PR none 128 [.code f204_c3, .inLoop f204_c3] K (mask [1, 7] st) S) (mskK [2] K)))))
def f204_l2 (K : AK) (t1 t7 : AV) (S : Store) : Prop := bQ (padd t1 3) fun t70 => bQ (ldv false 1 t70 S) fun t71 => bQ (aln .slice t71 S) fun t72 => bQ (abi .lss t7 t72) fun t73 => condW t73 (bQ (padd t1 3) fun t76 => bQ (ldv false 1 t76 S) fun t77 => bQ (ixA 3 t77 t7 S) fun t79 => bQ (ldv true 3 t79 S) fun t80 => newW (some (.own (.row 193 3 [[.lit (.string ⟨#[]⟩), iv 0, iv 0]]) fun u => .ptr u 0 0)) S fun t8 S_1 => thenS (stv 3 t8 t80 S_1) fun _ S_2 => bQ (padd t8 0) fun t81 => bQ (ldv false 1 t81 S_2) fun t82 => bQ (aln .str t82 S_2) fun t83 => bQ (abi .lss t83 (iv 1)) fun t84 => gdQ t84 false (padd t8 0) fun t86 => gdQ t84 false (ldv false 1 t86 S_2) fun t87 => gdQ t84 false (aln .str t87 S_2) fun t88 => gdQ t84 false (abi .gtr t88 (iv 20)) fun t89 => bQ (apick t84 (bv true) t89) fun t90 => gdQ t90 false (padd t8 1) fun t92 => gdQ t90 false (ldv false 1 t92 S_2) fun t93 => gdQ t90 false (abi .lss t93 (iv 0)) fun t94 => bQ (apick t90 (bv true) t94) fun t95 => gdQ t95 false (padd t8 1) fun t97 => gdQ t95 false (ldv false 1 t97 S_2) fun t98 => gdQ t95 false (padd t1 2) fun t99 => gdQ t95 false (ldv false 1 t99 S_2) fun t100 => gdQ t95 false (aln .slice t100 S_2) fun t101 => gdQ t95 false (abi .geq t98 t101) fun t102 => bQ (apick t95 (bv true) t102) fun t103 => gdQ t103 false (padd t8 2) fun t105 => gdQ t103 false (ldv false 1 t105 S_2) fun t106 => gdQ t103 false (abi .lss t106 (iv 0)) fun t107 => bQ (apick t103 (bv true) t107) fun t108 => gdQ t108 false (padd t8 2) fun t110 => gdQ t108 false (ldv false 1 t110 S_2) fun t111 => gdQ t108 false (abi .gtr t111 (iv 10000)) fun t112 => bQ (apick t108 (bv true) t112) fun t113 => condW t113 (K .ret (ofL [(2, bv false)]) S_2) (f204_L3 (f204_K2 K) t1 t7 t8 (iv 0) S_2)) (K (.exit 2) (ofL [(2, .poison)]) S)
theorem f204_L2_pt : f204_l2 K t1 t7 S → f204_L2 K t1 t7 S := fun h => pL f204_a4 [1, 7] [2] h
noncomputable def f204_K3 (Q : QT) : AK := (AK.block 2 (AK.andThen (fun st S => W PR none 128 f204_c6 ((ar (ar (ar (ar (ar (ar f204_a1))))))) (retK PR Tryz.f204 (dropQ Q)) st S) (retK PR Tryz.f204 (dropQ Q))))
def f204_K3_e2 (Q : QT) (t2 : AV) (S : Store) : Prop := dropQ Q (bv true) S
theorem f204_K3_e2_pt : f204_K3_e2 Q t2 S → f204_K3 Q (.exit 2) (ofL [(2, t2)]) S := castP (by kernel_rfl)
def f204_K1_e0 (Q : QT) (t1 t2 : AV) (S : Store) : Prop := f204_L2 (f204_K3 Q) t1 (iv 0) S
theorem f204_K1_e0_pt : f204_K1_e0 Q t1 t2 S → f204_K1 Q (.exit 0) (ofL [(1, t1), (2, t2)]) S := castP (by kernel_rfl)
def f204_s (t0 : AV) (S : Store) (Q : QT) : Prop := bQ (frzOf (boxR true 31 t0)) fun t1 => bQ (padd t1 2) fun t10 => bQ (ldv false 1 t10 S) fun t11 => ATriple PR 346 [t11] S fun t12 S_1 => bQ (padd t1 5) fun t13 => bQ (ldv false 1 t13 S_1) fun t14 => ATriple PR 347 [t14] S_1 fun t15 S_2 => bQ (padd t1 0) fun t16 => bQ (ldv false 1 t16 S_2) fun t17 => bQ (abi .lss t17 (iv 1)) fun t18 => gdQ t18 false (padd t1 0) fun t20 => gdQ t18 false (ldv false 1 t20 S_2) fun t21 => gdQ t18 false (abi .gtr t21 (iv 1099511627776)) fun t22 => bQ (apick t18 (bv true) t22) fun t23 => gdQ t23 false (padd t1 1) fun t25 => gdQ t23 false (ldv false 1 t25 S_2) fun t26 => gdQ t23 false (abi .lss t26 (iv 1)) fun t27 => bQ (apick t23 (bv true) t27) fun t28 => gdQ t28 false (padd t1 1) fun t30 => gdQ t28 false (ldv false 1 t30 S_2) fun t31 => gdQ t28 false (abi .gtr t31 (iv 10000)) fun t32 => bQ (apick t28 (bv true) t32) fun t33 => gdQ t33 false (some t12) fun t35 => gdQ t33 false (aun .not t35) fun t36 => bQ (apick t33 (bv true) t36) fun t37 => gdQ t37 false (some t15) fun t39 => gdQ t37 false (aun .not t39) fun t40 => bQ (apick t37 (bv true) t40) fun t41 => gdQ t41 false (padd t1 3) fun t43 => gdQ t41 false (ldv false 1 t43 S_2) fun t44 => gdQ t41 false (aln .slice t44 S_2) fun t45 => gdQ t41 false (abi .gtr t45 (iv 12)) fun t46 => bQ (apick t41 (bv true) t46) fun t47 => gdQ t47 false (padd t1 4) fun t49 => gdQ t47 false (ldv false 1 t49 S_2) fun t50 => gdQ t47 false (aln .slice t50 S_2) fun t51 => gdQ t47 false (abi .gtr t51 (iv 40)) fun t52 => bQ (apick t47 (bv true) t52) fun t53 => condW t53 (dropQ Q (bv false) S_2) (f204_L1 (f204_K1 Q) t1 (iv 0) S_2)
theorem f204_ok : f204_s t0 S Q → ATriple PR 204 [t0] S Q := fun h => pF (fn := Tryz.f204) f204_a1 h
attribute [irreducible] f204_L1 f204_K1 f204_L2 f204_L3 f204_K2 f204_K3
noncomputable def f77_a1 : Ann := .two (rg 1 0 0) (.two (rg 7 96 0) (.two (.two (rg 1 0 0) (.one (.loop [4, 11, 12]))) (.two (rg 3 2 0) (.nil))))
noncomputable def f77_c1 : Code := (cl (cl (cr (cl (cr (cr (bodyOf Tryz.f77)))))))
noncomputable def f77_c2 : Code := (cr (cr (cr (bodyOf Tryz.f77))))
def f77_L1 (K : AK) (t4 t11 t12 : AV) (S : Store) : Prop := AI PR none 30 [.code f77_c1, .inLoop f77_c1] K (ofL [(4, t4), (11, t11), (12, t12)]) S
def f77_l1 (K : AK) (t4 t11 t12 : AV) (S : Store) : Prop := bQ (abi .lss t12 t4) fun t20 => condW t20 (bQ (padd t11 4) fun t23 => bQ (ldv false 1 t23 S) fun t24 => bQ (frzOf (bslR true 1 9 1 1 1 [(0, .lit (.string ⟨#[114, 117, 110]⟩))])) fun t25 => apW (some (9, 1, 16, .slice)) t24 t25 S fun t26 S_1 => bQ (padd t11 4) fun t27 => thenS (stv 1 t27 t26 S_1) fun _ S_2 => bQ (abi .add t12 (iv 1)) fun t22 => f77_L1 K t4 t11 t22 S_2) (K (.exit 0) (ofL [(11, t11)]) S)
theorem f77_L1_pt : f77_l1 K t4 t11 t12 S → f77_L1 K t4 t11 t12 S := fun h => pL (.two (.two (rg 3 0 0) (.two (.nil) (.nil))) (.two (.one (rg 6 40 4)) (rg 3 0 0))) [4, 11, 12] [11] h
noncomputable def f77_K1 (Q : QT) : AK := (AK.block 0 (AK.andThen (fun st S => W PR none 30 f77_c2 ((ar (ar (ar f77_a1)))) (retK PR Tryz.f77 (dropQ Q)) st S) (retK PR Tryz.f77 (dropQ Q))))
def f77_K1_e0 (Q : QT) (t11 : AV) (S : Store) : Prop := bQ (ldv true 6 t11 S) fun t28 => ATriple PR 204 [t28] S fun t29 S_1 => dropQ Q t29 S_1
theorem f77_K1_e0_pt : f77_K1_e0 Q t11 S → f77_K1 Q (.exit 0) (ofL [(11, t11)]) S := castP (by kernel_rfl)
def f77_s (t0 t1 t2 t3 t4 : AV) (S : Store) (Q : QT) : Prop := bQ (abld [iv 0, iv 0, nilS, nilS, nilS, .lit (.string ⟨#[]⟩)] [(0, 1, t0), (1, 1, t1), (2, 1, t2), (3, 1, t3), (5, 1, .lit (.string ⟨#[108, 111, 103]⟩))]) fun t17 => newW (some (.own (.row 31 6 [[iv 0, iv 0, nilS, nilS, nilS, .lit (.string ⟨#[]⟩)]]) fun u => .ptr u 0 0)) S fun t11 S_1 => thenS (stv 6 t11 t17 S_1) fun _ S_2 => f77_L1 (f77_K1 Q) t4 t11 (iv 0) S_2
theorem f77_ok : f77_s t0 t1 t2 t3 t4 S Q → ATriple PR 77 [t0, t1, t2, t3, t4] S Q := fun h => pF (fn := Tryz.f77) f77_a1 h
attribute [irreducible] f77_L1 f77_K1
noncomputable def f15_a1 : Ann := .two (rg 4 5 2) (.two (rg 3 2 0) (.two (rg 3 0 0) (.join [1, 2, 4, 7, 8, 10, 11] (.two (rg 1 0 0) (.two (rg 1 0 0) (.nil))) (.join [1, 2, 4, 7, 8, 10, 11] (.two (rg 3 0 0) (.two (rg 3 0 0) (.nil))) (.two (rg 12 1024 0) (.two (.two (rg 6 0 0) (.two (.two (rg 3 2 0) (.nil)) (.nil))) (.two (rg 1 0 0) (.join [1, 4, 7, 8, 11, 13] (.two (rg 2 0 0) (.two (rg 5 8 0) (.nil))) (.two (.two (rg 1 0 0) (.one (.loop [1, 4, 7, 8, 11, 13, 14]))) (.two (rg 4 4 0) (.two (rg 4 10 0) (.two (rg 3 4 0) (.two (rg 2 2 0) (.two (rg 4 8 0) (.two (rg 4 8 0) (.two (rg 4 8 0) (.two (rg 5 16 0) (.two (rg 3 2 0) (.nil)))))))))))))))))))
noncomputable def f15_c1 : Code := (cr (cr (cr (cr (bodyOf Tryz.f15)))))
noncomputable def f15_c2 : Code := (cr (cr (cr (cr (cr (bodyOf Tryz.f15))))))
noncomputable def f15_c3 : Code := (cr (cr (cr (cr (cr (cr (cr (cr (cr (bodyOf Tryz.f15))))))))))
noncomputable def f15_c4 : Code := (cl (cl (cr (cl (cr (cr (cr (cr (cr (cr (cr (cr (cr (bodyOf Tryz.f15))))))))))))))
noncomputable def f15_c5 : Code := (cr (cr (cr (cr (cr (cr (cr (cr (cr (cr (bodyOf Tryz.f15)))))))))))
def f15_J1 (Q : QT) (t1 t2 t4 t7 t8 t10 t11 : AV) (S : Store) : Prop := AWp PR none 84 f15_c1 (retK PR Tryz.f15 (dropQ Q)) (ofL [(1, t1), (2, t2), (4, t4), (7, t7), (8, t8), (10, t10), (11, t11)]) S
def f15_J2 (Q : QT) (t1 t2 t4 t7 t8 t10 t11 : AV) (S : Store) : Prop := AWp PR none 84 f15_c2 (retK PR Tryz.f15 (dropQ Q)) (ofL [(1, t1), (2, t2), (4, t4), (7, t7), (8, t8), (10, t10), (11, t11)]) S
def f15_J3 (Q : QT) (t1 t4 t7 t8 t11 t13 : AV) (S : Store) : Prop := AWp PR none 84 f15_c3 (retK PR Tryz.f15 (dropQ Q)) (ofL [(1, t1), (4, t4), (7, t7), (8, t8), (11, t11), (13, t13)]) S
def f15_L4 (K : AK) (t1 t4 t7 t8 t11 t13 t14 : AV) (S : Store) : Prop := AI PR none 84 [.code f15_c4, .inLoop f15_c4] K (ofL [(1, t1), (4, t4), (7, t7), (8, t8), (11, t11), (13, t13), (14, t14)]) S
def f15_l4 (K : AK) (t1 t4 t7 t8 t11 t13 t14 : AV) (S : Store) : Prop := bQ (aln .slice t1 S) fun t51 => bQ (abi .lss t14 t51) fun t52 => condW t52 (bQ (ixA 8 t1 t14 S) fun t58 => bQ (ldv true 8 t58 S) fun t59 => ATriple PR 78 [t13, t59] S fun t60 S_1 => bQ (abi .add t14 (iv 1)) fun t54 => f15_L4 K t1 t4 t7 t8 t11 t60 t54 S_1) (K (.exit 0) (ofL [(1, t1), (4, t4), (7, t7), (8, t8), (11, t11), (13, t13)]) S)
theorem f15_L4_pt : f15_l4 K t1 t4 t7 t8 t11 t13 t14 S → f15_L4 K t1 t4 t7 t8 t11 t13 t14 S := fun h => pL (.two (.two (rg 4 0 0) (.two (.nil) (.nil))) (.two (.one (rg 7 32 0)) (rg 3 0 0))) [1, 4, 7, 8, 11, 13, 14] [1, 4, 7, 8, 11, 13] h
noncomputable def f15_K1 (Q : QT) : AK := (AK.block 0 (AK.andThen (fun st S => W PR none 84 f15_c5 ((ar (ar (ar (ar (ar (ar (ar (ar (ar (ar f15_a1))))))))))) (retK PR Tryz.f15 (dropQ Q)) st S) (retK PR Tryz.f15 (dropQ Q))))
def f15_K1_e0 (Q : QT) (t1 t4 t7 t8 t11 t13 : AV) (S : Store) : Prop := apW (some (112, 8, 80, .slice)) t13 t1 S fun t63 S_1 => ATriple PR 60 [t63] S_1 fun t65 S_2 => bQ (padd t4 0) fun t66 => thenS (stv 1 t66 t65 S_2) fun _ S_3 => bQ (padd t4 1) fun t68 => thenS (stv 1 t68 t11 S_3) fun _ S_4 => bQ (padd t4 2) fun t69 => thenS (stv 1 t69 nilS S_4) fun _ S_5 => bQ (padd t7 1) fun t70 => bQ (ldv false 1 t70 S_5) fun t71 => bQ (padd t4 3) fun t72 => thenS (stv 1 t72 t71 S_5) fun _ S_6 => bQ (padd t7 2) fun t73 => bQ (ldv false 1 t73 S_6) fun t74 => bQ (padd t4 4) fun t75 => thenS (stv 1 t75 t74 S_6) fun _ S_7 => bQ (padd t7 3) fun t76 => bQ (ldv false 1 t76 S_7) fun t77 => bQ (padd t4 5) fun t78 => thenS (stv 1 t78 t77 S_7) fun _ S_8 => bQ (padd t4 6) fun t79 => bQ (ldv false 1 t79 S_8) fun t80 => bQ (abi .add t80 (iv 1)) fun t81 => bQ (padd t4 6) fun t82 => thenS (stv 1 t82 t81 S_8) fun _ S_9 => bQ (ldv true 7 t4 S_9) fun t83 => thenS (stv 7 t8 t83 S_9) fun _ S_10 => retW (resC (ldv true 7 t8 S_10) ((some []).map ((iv 0) :: ·))) (dropQ Q) S_10
theorem f15_K1_e0_pt : f15_K1_e0 Q t1 t4 t7 t8 t11 t13 S → f15_K1 Q (.exit 0) (ofL [(1, t1), (4, t4), (7, t7), (8, t8), (11, t11), (13, t13)]) S := castP (by kernel_rfl)
def f15_j3 (Q : QT) (t1 t4 t7 t8 t11 t13 : AV) (S : Store) : Prop := f15_L4 (f15_K1 Q) t1 t4 t7 t8 t11 t13 (iv 0) S
theorem f15_J3_pt : f15_j3 Q t1 t4 t7 t8 t11 t13 S → f15_J3 Q t1 t4 t7 t8 t11 t13 S := fun h => pJ ((ar (ar (ar (ar (ar (ar (ar (ar (ar f15_a1)))))))))) h
def f15_j2 (Q : QT) (t1 t2 t4 t7 t8 t10 t11 : AV) (S : Store) : Prop := bQ (padd t4 6) fun t25 => bQ (ldv false 1 t25 S) fun t26 => bQ (abi .add t26 (iv 1)) fun t27 => bQ (padd t7 1) fun t28 => bQ (ldv false 1 t28 S) fun t29 => bQ (padd t7 2) fun t30 => bQ (ldv false 1 t30 S) fun t31 => bQ (padd t7 3) fun t32 => bQ (ldv false 1 t32 S) fun t33 => ATriple PR 77 [t27, t29, t31, t33, t11] S fun t35 S_1 => bQ (aun .not t10) fun t37 => gdQ t37 false (some t35) fun t39 => gdQ t37 false (aun .not t39) fun t40 => bQ (apick t37 (bv true) t40) fun t41 => condW t41 (bQ (ldv true 7 t4 S_1) fun t42 => thenS (stv 7 t8 t42 S_1) fun _ S_2 => retW (resC (ldv true 7 t8 S_2) ((some []).map ((iv 1) :: ·))) (dropQ Q) S_2) (bQ (aun .not t2) fun t44 => condW t44 (bQ (padd t4 0) fun t46 => bQ (ldv false 1 t46 S_1) fun t47 => apW (some (112, 8, 80, .slice)) nilS t47 S_1 fun t48 S_3 => f15_J3 Q t1 t4 t7 t8 t11 t48 S_3) (f15_J3 Q t1 t4 t7 t8 t11 nilS S_1))
theorem f15_J2_pt : f15_j2 Q t1 t2 t4 t7 t8 t10 t11 S → f15_J2 Q t1 t2 t4 t7 t8 t10 t11 S := fun h => pJ ((ar (ar (ar (ar (ar f15_a1)))))) h
def f15_j1 (Q : QT) (t1 t2 t4 t7 t8 t10 t11 : AV) (S : Store) : Prop := bQ (aln .slice t1 S) fun t21 => bQ (abi .gtr t21 (iv 0)) fun t22 => condW t22 (bQ (abi .add t11 (iv 1)) fun t24 => f15_J2 Q t1 t2 t4 t7 t8 t10 t24 S) (f15_J2 Q t1 t2 t4 t7 t8 t10 t11 S)
theorem f15_J1_pt : f15_j1 Q t1 t2 t4 t7 t8 t10 t11 S → f15_J1 Q t1 t2 t4 t7 t8 t10 t11 S := fun h => pJ ((ar (ar (ar (ar f15_a1))))) h
def f15_s (t0 t1 t2 t3 : AV) (S : Store) (Q : QT) : Prop := newW (boxR false 38 t0) S fun t4 S_1 => bQ (frzOf (boxR true 31 t3)) fun t7 => newW (some (.own (.row 38 7 [[nilS, iv 0, nilS, iv 0, nilS, nilS, iv 0]]) fun u => .ptr u 0 0)) S_1 fun t8 S_2 => ATriple PR 76 [t1] S_2 fun t16 S_3 => bQ (padd t4 1) fun t17 => bQ (ldv false 1 t17 S_3) fun t18 => condW t2 (f15_J1 Q t1 t2 t4 t7 t8 t16 (iv 0) S_3) (f15_J1 Q t1 t2 t4 t7 t8 t16 t18 S_3)
theorem f15_ok : f15_s t0 t1 t2 t3 S Q → ATriple PR 15 [t0, t1, t2, t3] S Q := fun h => pF (fn := Tryz.f15) f15_a1 h
attribute [irreducible] f15_J1 f15_J2 f15_J3 f15_L4 f15_K1
def f14_s (S : Store) (Q : QT) : Prop := newW (some (.own (.row 38 7 [[nilS, iv 0, nilS, iv 0, nilS, nilS, iv 0]]) fun u => .ptr u 0 0)) S fun t0 S_1 => bQ (abld [iv 0, iv 0, iv 0, bv false] [(0, 1, iv (-1))]) fun t1 => bQ (frzOf (bslR true 4 26 4 1 1 [(0, t1)])) fun t2 => bQ (abld [nilS, iv 0, nilS, iv 0, nilS, nilS, iv 0] [(3, 1, iv 1), (4, 1, t2), (6, 1, iv 1)]) fun t3 => thenS (stv 7 t0 t3 S_1) fun _ S_2 => retW (resC (ldv true 7 t0 S_2) (some [])) (dropQ Q) S_2
theorem f14_ok : f14_s S Q → ATriple PR 14 [] S Q := fun h => pF (fn := Tryz.f14) (.two (rg 1 1 0) (.two (rg 4 8 2) (.nil))) h
noncomputable def f213_a1 : Ann := .two (rg 3 0 3) (.two (.two (rg 46 0 0) (.two (.two (rg 1 0 0) (.nil)) (.nil))) (.two (.two (rg 1 0 0) (.one (.loop [2, 3, 5]))) (.two (.two (rg 1 0 0) (.one (.loop [2, 3, 6]))) (.two (.two (rg 1 0 0) (.one (.loop [2, 3, 7]))) (.two (rg 1 0 0) (.nil))))))
noncomputable def f213_c1 : Code := (cl (cl (cr (cl (cr (cr (bodyOf Tryz.f213)))))))
noncomputable def f213_c2 : Code := (cr (cr (cr (bodyOf Tryz.f213))))
noncomputable def f213_c3 : Code := (cl (cl (cr (cl (cr (cr (cr (bodyOf Tryz.f213))))))))
noncomputable def f213_c4 : Code := (cr (cr (cr (cr (bodyOf Tryz.f213)))))
noncomputable def f213_c5 : Code := (cl (cl (cr (cl (cr (cr (cr (cr (bodyOf Tryz.f213)))))))))
noncomputable def f213_c6 : Code := (cr (cr (cr (cr (cr (bodyOf Tryz.f213))))))
def f213_L1 (K : AK) (t2 t3 t5 : AV) (S : Store) : Prop := AI PR none 108 [.code f213_c1, .inLoop f213_c1] K (ofL [(2, t2), (3, t3), (5, t5)]) S
def f213_l1 (K : AK) (t2 t3 t5 : AV) (S : Store) : Prop := bQ (padd t2 2) fun t55 => bQ (ldv false 1 t55 S) fun t56 => bQ (aln .slice t56 S) fun t57 => bQ (abi .lss t5 t57) fun t58 => condW t58 (bQ (padd t2 2) fun t61 => bQ (ldv false 1 t61 S) fun t62 => bQ (ixA 4 t62 t5 S) fun t64 => bQ (ldv true 4 t64 S) fun t65 => bQ (padd t3 2) fun t66 => bQ (ldv false 1 t66 S) fun t67 => bQ (ixA 4 t67 t5 S) fun t69 => bQ (ldv true 4 t69 S) fun t70 => bQ (eqQ (eqK PR 26) true .neq t65 t70 S) fun t71 => condW t71 (K .ret (ofL [(2, t2), (3, t3), (4, bv false)]) S) (bQ (abi .add t5 (iv 1)) fun t60 => f213_L1 K t2 t3 t60 S)) (K (.exit 0) (ofL [(2, t2), (3, t3), (4, .poison)]) S)
theorem f213_L1_pt : f213_l1 K t2 t3 t5 S → f213_L1 K t2 t3 t5 S := fun h => pL (.two (.two (rg 5 0 0) (.two (.nil) (.nil))) (.two (.one (.two (.reg [0, 1, 0, 7, 15, 0, 32, 0, 224, 480, 1023] (pq 0 11 <| .done)) (.two (.two (rg 1 0 0) (.nil)) (.nil)))) (rg 3 0 0))) [2, 3, 5] [2, 3, 4] h
noncomputable def f213_K1 (Q : QT) : AK := (AK.block 0 (AK.andThen (fun st S => W PR none 108 f213_c2 ((ar (ar (ar f213_a1)))) (retK PR Tryz.f213 (dropQ Q)) st S) (retK PR Tryz.f213 (dropQ Q))))
def f213_L2 (K : AK) (t2 t3 t6 : AV) (S : Store) : Prop := AI PR none 108 [.code f213_c3, .inLoop f213_c3] K (ofL [(2, t2), (3, t3), (6, t6)]) S
def f213_l2 (K : AK) (t2 t3 t6 : AV) (S : Store) : Prop := bQ (padd t2 3) fun t73 => bQ (ldv false 1 t73 S) fun t74 => bQ (aln .slice t74 S) fun t75 => bQ (abi .lss t6 t75) fun t76 => condW t76 (bQ (padd t2 3) fun t79 => bQ (ldv false 1 t79 S) fun t80 => bQ (ixA 3 t80 t6 S) fun t82 => bQ (ldv true 3 t82 S) fun t83 => bQ (padd t3 3) fun t84 => bQ (ldv false 1 t84 S) fun t85 => bQ (ixA 3 t85 t6 S) fun t87 => bQ (ldv true 3 t87 S) fun t88 => bQ (eqQ (eqK PR 193) true .neq t83 t88 S) fun t89 => condW t89 (K .ret (ofL [(2, t2), (3, t3), (4, bv false)]) S) (bQ (abi .add t6 (iv 1)) fun t78 => f213_L2 K t2 t3 t78 S)) (K (.exit 2) (ofL [(2, t2), (3, t3), (4, .poison)]) S)
theorem f213_L2_pt : f213_l2 K t2 t3 t6 S → f213_L2 K t2 t3 t6 S := fun h => pL (.two (.two (rg 5 0 0) (.two (.nil) (.nil))) (.two (.one (.two (.reg [0, 1, 0, 7, 15, 0, 32, 0, 224, 480, 1023] (pq 0 11 <| .done)) (.two (.two (rg 1 0 0) (.nil)) (.nil)))) (rg 3 0 0))) [2, 3, 6] [2, 3, 4] h
noncomputable def f213_K2 (Q : QT) : AK := (AK.block 2 (AK.andThen (fun st S => W PR none 108 f213_c4 ((ar (ar (ar (ar f213_a1))))) (retK PR Tryz.f213 (dropQ Q)) st S) (retK PR Tryz.f213 (dropQ Q))))
def f213_L3 (K : AK) (t2 t3 t7 : AV) (S : Store) : Prop := AI PR none 108 [.code f213_c5, .inLoop f213_c5] K (ofL [(2, t2), (3, t3), (7, t7)]) S
def f213_l3 (K : AK) (t2 t3 t7 : AV) (S : Store) : Prop := bQ (padd t2 4) fun t91 => bQ (ldv false 1 t91 S) fun t92 => bQ (aln .slice t92 S) fun t93 => bQ (abi .lss t7 t93) fun t94 => condW t94 (bQ (padd t2 4) fun t97 => bQ (ldv false 1 t97 S) fun t98 => bQ (ixA 1 t98 t7 S) fun t100 => bQ (ldv false 1 t100 S) fun t101 => bQ (padd t3 4) fun t102 => bQ (ldv false 1 t102 S) fun t103 => bQ (ixA 1 t103 t7 S) fun t105 => bQ (ldv false 1 t105 S) fun t106 => bQ (abi .neq t101 t106) fun t107 => condW t107 (K .ret (ofL [(4, bv false)]) S) (bQ (abi .add t7 (iv 1)) fun t96 => f213_L3 K t2 t3 t96 S)) (K (.exit 4) (ofL [(4, .poison)]) S)
theorem f213_L3_pt : f213_l3 K t2 t3 t7 S → f213_L3 K t2 t3 t7 S := fun h => pL (.two (.two (rg 5 0 0) (.two (.nil) (.nil))) (.two (.one (.two (.reg [0, 1, 0, 7, 15, 0, 32, 0, 224, 480, 1023] (pq 0 11 <| .done)) (.two (.two (rg 1 0 0) (.nil)) (.nil)))) (rg 3 0 0))) [2, 3, 7] [4] h
noncomputable def f213_K3 (Q : QT) : AK := (AK.block 4 (AK.andThen (fun st S => W PR none 108 f213_c6 ((ar (ar (ar (ar (ar f213_a1)))))) (retK PR Tryz.f213 (dropQ Q)) st S) (retK PR Tryz.f213 (dropQ Q))))
def f213_K3_e4 (Q : QT) (t4 : AV) (S : Store) : Prop := dropQ Q (bv true) S
theorem f213_K3_e4_pt : f213_K3_e4 Q t4 S → f213_K3 Q (.exit 4) (ofL [(4, t4)]) S := castP (by kernel_rfl)
def f213_K2_e2 (Q : QT) (t2 t3 t4 : AV) (S : Store) : Prop := f213_L3 (f213_K3 Q) t2 t3 (iv 0) S
theorem f213_K2_e2_pt : f213_K2_e2 Q t2 t3 t4 S → f213_K2 Q (.exit 2) (ofL [(2, t2), (3, t3), (4, t4)]) S := castP (by kernel_rfl)
def f213_K1_e0 (Q : QT) (t2 t3 t4 : AV) (S : Store) : Prop := f213_L2 (f213_K2 Q) t2 t3 (iv 0) S
theorem f213_K1_e0_pt : f213_K1_e0 Q t2 t3 t4 S → f213_K1 Q (.exit 0) (ofL [(2, t2), (3, t3), (4, t4)]) S := castP (by kernel_rfl)
def f213_s (t0 t1 : AV) (S : Store) (Q : QT) : Prop := bQ (frzOf (boxR true 31 t0)) fun t2 => bQ (frzOf (boxR true 31 t1)) fun t3 => bQ (padd t2 0) fun t8 => bQ (ldv false 1 t8 S) fun t9 => bQ (padd t3 0) fun t10 => bQ (ldv false 1 t10 S) fun t11 => bQ (abi .neq t9 t11) fun t12 => gdQ t12 false (padd t2 1) fun t14 => gdQ t12 false (ldv false 1 t14 S) fun t15 => gdQ t12 false (padd t3 1) fun t16 => gdQ t12 false (ldv false 1 t16 S) fun t17 => gdQ t12 false (abi .neq t15 t17) fun t18 => bQ (apick t12 (bv true) t18) fun t19 => gdQ t19 false (padd t2 5) fun t21 => gdQ t19 false (ldv false 1 t21 S) fun t22 => gdQ t19 false (padd t3 5) fun t23 => gdQ t19 false (ldv false 1 t23 S) fun t24 => gdQ t19 false (abi .neq t22 t24) fun t25 => bQ (apick t19 (bv true) t25) fun t26 => gdQ t26 false (padd t2 2) fun t28 => gdQ t26 false (ldv false 1 t28 S) fun t29 => gdQ t26 false (aln .slice t29 S) fun t30 => gdQ t26 false (padd t3 2) fun t31 => gdQ t26 false (ldv false 1 t31 S) fun t32 => gdQ t26 false (aln .slice t32 S) fun t33 => gdQ t26 false (abi .neq t30 t33) fun t34 => bQ (apick t26 (bv true) t34) fun t35 => gdQ t35 false (padd t2 3) fun t37 => gdQ t35 false (ldv false 1 t37 S) fun t38 => gdQ t35 false (aln .slice t38 S) fun t39 => gdQ t35 false (padd t3 3) fun t40 => gdQ t35 false (ldv false 1 t40 S) fun t41 => gdQ t35 false (aln .slice t41 S) fun t42 => gdQ t35 false (abi .neq t39 t42) fun t43 => bQ (apick t35 (bv true) t43) fun t44 => gdQ t44 false (padd t2 4) fun t46 => gdQ t44 false (ldv false 1 t46 S) fun t47 => gdQ t44 false (aln .slice t47 S) fun t48 => gdQ t44 false (padd t3 4) fun t49 => gdQ t44 false (ldv false 1 t49 S) fun t50 => gdQ t44 false (aln .slice t50 S) fun t51 => gdQ t44 false (abi .neq t48 t51) fun t52 => bQ (apick t44 (bv true) t52) fun t53 => condW t53 (dropQ Q (bv false) S) (f213_L1 (f213_K1 Q) t2 t3 (iv 0) S)
theorem f213_ok : f213_s t0 t1 S Q → ATriple PR 213 [t0, t1] S Q := fun h => pF (fn := Tryz.f213) f213_a1 h
attribute [irreducible] f213_L1 f213_K1 f213_L2 f213_K2 f213_L3 f213_K3
def f84_s (t0 t1 : AV) (S : Store) (Q : QT) : Prop := bQ (frzOf (boxR true 38 t0)) fun t2 => bQ (frzOf (boxR true 31 t1)) fun t3 => bQ (padd t2 6) fun t7 => bQ (ldv false 1 t7 S) fun t8 => bQ (padd t2 3) fun t9 => bQ (ldv false 1 t9 S) fun t10 => bQ (padd t2 4) fun t11 => bQ (ldv false 1 t11 S) fun t12 => bQ (padd t2 5) fun t13 => bQ (ldv false 1 t13 S) fun t14 => bQ (padd t3 5) fun t15 => bQ (ldv false 1 t15 S) fun t16 => bQ (padd t3 4) fun t17 => bQ (ldv false 1 t17 S) fun t18 => bQ (abld [iv 0, iv 0, nilS, nilS, nilS, .lit (.string ⟨#[]⟩)] [(0, 1, t8), (1, 1, t10), (2, 1, t12), (3, 1, t14), (5, 1, t16), (4, 1, t18)]) fun t19 => newW (some (.own (.row 31 6 [[iv 0, iv 0, nilS, nilS, nilS, .lit (.string ⟨#[]⟩)]]) fun u => .ptr u 0 0)) S fun t5 S_1 => thenS (stv 6 t5 t19 S_1) fun _ S_2 => bQ (ldv true 6 t3 S_2) fun t20 => bQ (ldv true 6 t5 S_2) fun t21 => ATriple PR 213 [t20, t21] S_2 fun t22 S_3 => gdQ t22 true (padd t3 4) fun t25 => gdQ t22 true (ldv false 1 t25 S_3) fun t26 => gdQ t22 true (aln .slice t26 S_3) fun t27 => gdQ t22 true (padd t2 1) fun t28 => gdQ t22 true (ldv false 1 t28 S_3) fun t29 => gdQ t22 true (abi .eql t27 t29) fun t30 => bQ (apick t22 t30 (bv false)) fun t31 => dropQ Q t31 S_3
theorem f84_ok : f84_s t0 t1 S Q → ATriple PR 84 [t0, t1] S Q := fun h => pF (fn := Tryz.f84) (.two (rg 3 0 3) (.two (rg 15 24576 0) (.two (rg 4 4 0) (.two (rg 10 0 0) (.nil))))) h
noncomputable def f172_a1 : Ann := .two (rg 2 0 1) (.two (rg 1 0 0) (.two (.two (rg 1 0 0) (.one (.loop [1, 3, 4]))) (.two (rg 2 0 0) (.nil))))
noncomputable def f172_c1 : Code := (cl (cl (cr (cl (cr (cr (bodyOf Tryz.f172)))))))
noncomputable def f172_c2 : Code := (cr (cr (cr (bodyOf Tryz.f172))))
def f172_L1 (K : AK) (t1 t3 t4 : AV) (S : Store) : Prop := AI PR none 30 [.code f172_c1, .inLoop f172_c1] K (ofL [(1, t1), (3, t3), (4, t4)]) S
def f172_l1 (K : AK) (t1 t3 t4 : AV) (S : Store) : Prop := bQ (padd t1 2) fun t6 => bQ (ldv false 1 t6 S) fun t7 => bQ (aln .slice t7 S) fun t8 => bQ (abi .lss t4 t8) fun t9 => condW t9 (bQ (padd t1 2) fun t12 => bQ (ldv false 1 t12 S) fun t13 => bQ (ixA 2 t13 t4 S) fun t15 => bQ (padd t15 0) fun t16 => bQ (ldv false 1 t16 S) fun t17 => bQ (padd t1 3) fun t18 => bQ (ldv false 1 t18 S) fun t19 => bQ (abi .geq t17 t19) fun t20 => condW t20 (bQ (padd t1 2) fun t22 => bQ (ldv false 1 t22 S) fun t23 => bQ (ixA 2 t23 t4 S) fun t25 => bQ (ldv true 2 t25 S) fun t26 => bQ (frzOf (bslR true 2 168 2 1 1 [(0, t26)])) fun t27 => apW (some (168, 2, 32, .slice)) t3 t27 S fun t28 S_1 => bQ (abi .add t4 (iv 1)) fun t11 => f172_L1 K t1 t28 t11 S_1) (bQ (abi .add t4 (iv 1)) fun t11_1 => f172_L1 K t1 t3 t11_1 S)) (K (.exit 0) (ofL [(3, t3)]) S)
theorem f172_L1_pt : f172_l1 K t1 t3 t4 S → f172_L1 K t1 t3 t4 S := fun h => pL (.two (.two (rg 5 0 0) (.two (.nil) (.nil))) (.two (.one (.two (.reg [0, 1, 0, 7, 15, 31, 0, 64, 255] (pq 0 9 <| .done)) (.two (rg 9 128 64) (.nil)))) (rg 3 0 0))) [1, 3, 4] [3] h
noncomputable def f172_K1 (Q : QT) : AK := (AK.block 0 (AK.andThen (fun st S => W PR none 30 f172_c2 ((ar (ar (ar f172_a1)))) (retK PR Tryz.f172 (dropQ Q)) st S) (retK PR Tryz.f172 (dropQ Q))))
def f172_K1_e0 (Q : QT) (t3 : AV) (S : Store) : Prop := dropQ Q t3 S
theorem f172_K1_e0_pt : f172_K1_e0 Q t3 S → f172_K1 Q (.exit 0) (ofL [(3, t3)]) S := castP (by kernel_rfl)
def f172_s (t0 : AV) (S : Store) (Q : QT) : Prop := bQ (frzOf (boxR true 38 t0)) fun t1 => f172_L1 (f172_K1 Q) t1 nilS (iv 0) S
theorem f172_ok : f172_s t0 S Q → ATriple PR 172 [t0] S Q := fun h => pF (fn := Tryz.f172) f172_a1 h
attribute [irreducible] f172_L1 f172_K1
noncomputable def f171_a1 : Ann := .two (rg 1 0 0) (.two (.two (rg 5 0 0) (.two (.two (rg 1 0 0) (.nil)) (.nil))) (.two (.two (rg 1 0 0) (.one (.loop [0, 1, 5]))) (.two (rg 1 0 0) (.nil))))
noncomputable def f171_c1 : Code := (cl (cl (cr (cl (cr (cr (bodyOf Tryz.f171)))))))
noncomputable def f171_c2 : Code := (cr (cr (cr (bodyOf Tryz.f171))))
def f171_L1 (K : AK) (t0 t1 t5 : AV) (S : Store) : Prop := AI PR none 44 [.code f171_c1, .inLoop f171_c1] K (ofL [(0, t0), (1, t1), (5, t5)]) S
def f171_l1 (K : AK) (t0 t1 t5 : AV) (S : Store) : Prop := bQ (aln .slice t0 S) fun t14 => bQ (abi .lss t5 t14) fun t15 => condW t15 (bQ (ixA 2 t0 t5 S) fun t20 => bQ (padd t20 1) fun t21 => bQ (ldv false 1 t21 S) fun t22 => bQ (ixA 2 t1 t5 S) fun t25 => bQ (padd t25 1) fun t26 => bQ (ldv false 1 t26 S) fun t27 => ATriple PR 16 [t22, t27] S fun t28 S_1 => bQ (ixA 2 t0 t5 S_1) fun t31 => bQ (padd t31 0) fun t32 => bQ (ldv false 1 t32 S_1) fun t33 => bQ (ixA 2 t1 t5 S_1) fun t36 => bQ (padd t36 0) fun t37 => bQ (ldv false 1 t37 S_1) fun t38 => bQ (abi .neq t33 t38) fun t39 => gdQ t39 false (some t28) fun t41 => gdQ t39 false (aun .not t41) fun t42 => bQ (apick t39 (bv true) t42) fun t43 => condW t43 (K .ret (ofL [(4, bv false)]) S_1) (bQ (abi .add t5 (iv 1)) fun t17 => f171_L1 K t0 t1 t17 S_1)) (K (.exit 0) (ofL [(4, .poison)]) S)
theorem f171_L1_pt : f171_l1 K t0 t1 t5 S → f171_L1 K t0 t1 t5 S := fun h => pL (.two (.two (rg 4 0 0) (.two (.nil) (.nil))) (.two (.one (.two (.reg [0, 0, 3, 7, 15, 0, 0, 96, 224, 480, 1023, 2047] (pq 0 10 <| .e 10 [] <| .q 11 false <| .done)) (.two (.reg [0, 0, 3, 7, 15, 0, 0, 96, 224, 480, 1023, 2047, 4095, 8191, 16383] (pq 0 15 <| .done)) (.two (.two (rg 1 0 0) (.nil)) (.nil))))) (rg 3 0 0))) [0, 1, 5] [4] h
noncomputable def f171_K1 (Q : QT) : AK := (AK.block 0 (AK.andThen (fun st S => W PR none 44 f171_c2 ((ar (ar (ar f171_a1)))) (retK PR Tryz.f171 (dropQ Q)) st S) (retK PR Tryz.f171 (dropQ Q))))
def f171_K1_e0 (Q : QT) (t4 : AV) (S : Store) : Prop := dropQ Q (bv true) S
theorem f171_K1_e0_pt : f171_K1_e0 Q t4 S → f171_K1 Q (.exit 0) (ofL [(4, t4)]) S := castP (by kernel_rfl)
def f171_s (t0 t1 : AV) (S : Store) (Q : QT) : Prop := bQ (aln .slice t0 S) fun t8 => bQ (aln .slice t1 S) fun t10 => bQ (abi .neq t8 t10) fun t11 => condW t11 (dropQ Q (bv false) S) (f171_L1 (f171_K1 Q) t0 t1 (iv 0) S)
theorem f171_ok : f171_s t0 t1 S Q → ATriple PR 171 [t0, t1] S Q := fun h => pF (fn := Tryz.f171) f171_a1 h
attribute [irreducible] f171_L1 f171_K1
end
end Go.Du
namespace Go.Du
open Go
attribute [local irreducible] W evP AI
theorem ATriple.ent {P : Program} {f : FuncId} {args args' : List AV} {S S' : Store} {Q : AV → Store → Prop} (he : Ent (.tuple args) S (.tuple args') S') (h : ATriple P f args' S' Q) : ATriple P f args S Q := by
  intro m w a hr hv
  have h1 : RelV m (.tuple args) (.tuple a) := .tuple hv.1 hv.2
  obtain ⟨m1, l1, e1, r1, v1⟩ := he m w _ hr h1
  cases v1 with
  | tuple g1 g2 =>
    refine (h m1 w a r1 ⟨g1, g2⟩).mono fun e w' ⟨v, x, S2, m2, h1, h2, h3, h4, h5⟩ => ⟨v, x, S2, m2, h1, h2, l1.trans h3, h4.trans e1, h5⟩
attribute [local irreducible] ATriple
section
variable {e sz : Nat} {S0 S : Store} {es : List (List AV)} {v : AV}
theorem Grow.box {b : Nat} {ob : AObj} (h : Grow e sz (S0.set b ob) es v S) : S b = some ob ∧ ∀ ob', Grow e sz (S0.set b ob') es v (S.set b ob') := by
  cases h with
  | nil => exact ⟨by simp, fun ob' => by rw [Store.set_set]; exact .nil⟩
  | own ht =>
    rename_i t
    have hne : b ≠ t := fun e => by subst e; simp at ht
    refine ⟨by rw [Store.set_ne _ _ _ hne]; simp, fun ob' => ?_⟩
    rw [Store.set_comm _ hne.symm, Store.set_set]
    exact .own (by rw [Store.set_ne _ _ _ hne.symm] at ht ⊢; exact ht)
theorem Grow.drop {S1 : Store} (hs : Sub S0 S1) (h : Grow e sz S1 es v S) : ∃ S2, Sub S2 S ∧ Grow e sz S0 es v S2 := by
  cases h with
  | nil => exact ⟨S0, hs, .nil⟩
  | own ht =>
    rename_i t
    have ht0 : S0 t = none := by
      cases e : S0 t with
      | none => rfl
      | some o => rw [hs t o e] at ht; cases ht
    refine ⟨_, ?_, .own ht0⟩
    intro u o hu
    by_cases e : u = t
    · subst e; simpa using hu
    · rw [Store.set_ne _ _ _ e] at hu ⊢; exact hs u o hu
end
inductive FzL (l : List (List AV)) : AV → Prop where
  | vals : FzL l (.svals l)
  | nil (h : l = []) : FzL l (.lit (.slice none 0 0))
  | s0 (h : l = []) : FzL l .s0
section
variable {l : List (List AV)} {v : AV} {S : Store}
theorem FzL.len (h : FzL l v) : aln .slice v S = some (iv l.length) := by
  cases h with
  | vals => rfl
  | nil e => subst e; rfl
  | s0 e => subst e; rfl
theorem FzL.rd (h : FzL l v) : rdS v S = some l := by
  cases h with
  | vals => rfl
  | nil e => subst e; rfl
  | s0 e => subst e; rfl
theorem FzL.ok (h : FzL l v) : okC v = true := by cases h <;> rfl
theorem FzL.cells (h : FzL l v) : cellsOf v = [v] := by cases h <;> rfl
theorem FzL.pos (h : FzL l v) (hl : 0 < l.length) : v = .svals l := by
  cases h with
  | vals => rfl
  | nil e => subst e; simp at hl
  | s0 e => subst e; simp at hl
theorem FzL.frz (h : FzL l v) (t : Nat) (el : List (List AV)) : Frz t el v (.svals l) := by
  cases h with
  | vals => exact .refl _
  | nil e => subst e; exact .nil
  | s0 e => subst e; exact .s0
end
abbrev brs : AV := .svals [[iv (-1), iv 0, iv 0, bv false]]
theorem f346_c (S : Store) {Q : AV → Store → Prop} (h : Q (bv true) S) : ATriple PR 346 [brs] S Q := by
  refine f346_ok ?_
  simp -implicitDefEqProofs [f346_s]
  refine f346_L1_pt ?_
  have x0 : ∀ S, ixA 4 brs (iv 0) S = some (.fptr [iv (-1), iv 0, iv 0, bv false] 0) := fun S => rfl
  simp -implicitDefEqProofs [f346_l1, x0]
  intro t ht
  have e1 := stv_box (S := S) (t := t) (ty := 26) (z := 4) (cs := [iv 0, iv 0, iv 0, bv false]) (x := .agg [iv (-1), iv 0, iv 0, bv false]) (sz := 4) rfl rfl rfl
  rw [e1, thenS_some]
  have e2 := fun (S : Store) o => ldv_cell (S := S) (t := t) (ty := 26) (z := 4) (cs := [iv (-1), iv 0, iv 0, bv false]) (o := o)
  have w1 : IntKind.i64.wrap 1 = 1 := rfl
  simp -implicitDefEqProofs [e2, w1]
  refine f346_L1_pt ?_
  simp -implicitDefEqProofs [f346_l1]
  apply f346_K1_e0_pt
  exact ⟨_, S, .drop ((Sub.refl S).set ht), h⟩
theorem f347_three (a b c : UInt8) (ha : 97 ≤ a ∧ a ≤ 122) (hb : 97 ≤ b ∧ b ≤ 122) (hc : 97 ≤ c ∧ c ≤ 122) (S : Store) {Q : AV → Store → Prop} (h : Q (bv true) S) : ATriple PR 347 [sv [a, b, c]] S Q := by
  refine f347_ok ?_
  have x0 : aixS (sv [a, b, c]) (iv 0) = some (uv a.toNat) := aixS_sv [a, b, c] 0 (by simp)
  have x1 : aixS (sv [a, b, c]) (iv 1) = some (uv b.toNat) := aixS_sv [a, b, c] 1 (by simp)
  have x2 : aixS (sv [a, b, c]) (iv 2) = some (uv c.toNat) := aixS_sv [a, b, c] 2 (by simp)
  have w1 : IntKind.i64.wrap 1 = 1 := rfl
  have w2 : IntKind.i64.wrap 2 = 2 := rfl
  have w3 : IntKind.i64.wrap 3 = 3 := rfl
  have lo : ∀ x : UInt8, 97 ≤ x ∧ x ≤ 122 → (97 : Int) ≤ x.toNat ∧ (x.toNat : Int) ≤ 122 := fun x hx => by
    have h1 : (97 : UInt8).toNat ≤ x.toNat := hx.1
    have h2 : x.toNat ≤ (122 : UInt8).toNat := hx.2
    simp at h1 h2; omega
  have ga := lo a ha
  have gb := lo b hb
  have gc := lo c hc
  simp -implicitDefEqProofs [f347_s]
  refine f347_L1_pt ?_
  simp -implicitDefEqProofs [f347_l1, x0, ga, w1]
  refine f347_L1_pt ?_
  simp -implicitDefEqProofs [f347_l1, x1, gb, w2]
  refine f347_L1_pt ?_
  simp -implicitDefEqProofs [f347_l1, x2, gc, w3]
  refine f347_L1_pt ?_
  simp -implicitDefEqProofs [f347_l1]
  apply f347_K1_e0_pt
  simp -implicitDefEqProofs [f347_K1_e0]
  exact dropQ_self h
abbrev sRun : Bs := [114, 117, 110]
abbrev sLog : Bs := [108, 111, 103]
abbrev man (n e : Int) (br p r : AV) (log : Bs) : AV := .agg [iv n, iv e, br, p, r, sv log]
theorem f204_l1_loop (n e : Int) (p : AV) (k : Nat) (hk : k ≤ 40) (r : AV) (hr : FzL (List.replicate k [sv sRun]) r) (K : AK) (S : Store)
    (h0 : K (.exit 0) (ofL [(1, .fptr [iv n, iv e, brs, p, r, sv sLog] 0), (2, .poison)]) S) : ∀ j i, j + i = k → f204_L1 K (.fptr [iv n, iv e, brs, p, r, sv sLog] 0) (iv i) S := by
  intro j
  induction j with
  | zero =>
    intro i hi
    refine f204_L1_pt ?_
    have hl := hr.len (S := S)
    simp at hl
    have : ¬ (i : Int) < k := by omega
    simp -implicitDefEqProofs [f204_l1, hl, this]
    exact h0
  | succ j ih =>
    intro i hi
    refine f204_L1_pt ?_
    have hl := hr.len (S := S)
    simp at hl
    have h1 : (i : Int) < k := by omega
    have hp := hr.pos (by simp; omega)
    have x0 : ixA 1 r (iv i) S = some (.fptr [sv sRun] 0) := by
      rw [hp]
      have h2 : i < k := by omega
      simp [ixA, litInt, aix, List.getElem?_replicate, h2]
    have w1 : IntKind.i64.wrap ((i : Int) + 1) = i + 1 := wrap_id (by omega) (by omega)
    simp -implicitDefEqProofs [f204_l1, hl, h1, x0]
    refine f347_three 114 117 110 (by decide) (by decide) (by decide) S ?_
    simp -implicitDefEqProofs [w1]
    exact ih (i + 1) (by omega)
theorem f204_c (n e : Int) (h1 : 1 ≤ n) (h2 : n ≤ 1099511627776) (h3 : 1 ≤ e) (h4 : e ≤ 10000) (p : AV) (hp : FzL [] p) (k : Nat) (hk : k ≤ 40) (r : AV) (hr : FzL (List.replicate k [sv sRun]) r) (S : Store) {Q : AV → Store → Prop} (h : Q (bv true) S) :
    ATriple PR 204 [man n e brs p r sLog] S Q := by
  refine f204_ok ?_
  simp -implicitDefEqProofs [f204_s]
  refine f346_c S ?_
  refine f347_three 108 111 103 (by decide) (by decide) (by decide) S ?_
  have a1 : ¬ n < 1 := by omega
  have a2 : ¬ 1099511627776 < n := by omega
  have a3 : ¬ e < 1 := by omega
  have a4 : ¬ 10000 < e := by omega
  have a5 : ¬ (40 : Int) < k := by omega
  have a6 : ¬ 40 < k := by omega
  have hl := hr.len (S := S)
  have hpl := hp.len (S := S)
  simp at hl hpl
  simp -implicitDefEqProofs [a1, a2, a3, a4, a5, a6, hl, hpl, h1, h2, h3, h4, hk]
  refine f204_l1_loop n e p k hk r hr _ S ?_ k 0 rfl
  apply f204_K1_e0_pt
  simp -implicitDefEqProofs [f204_K1_e0]
  refine f204_L2_pt ?_
  simp -implicitDefEqProofs [f204_l2, hpl]
  apply f204_K3_e2_pt
  exact dropQ_self h
end Go.Du
namespace Go.Du
open Go
attribute [local irreducible] ATriple W evP AI
theorem Grow.ok {e sz : Nat} {S0 S : Store} {es : List (List AV)} {v : AV} (h : Grow e sz S0 es v S) : okC v = true ∧ cellsOf v = [v] := by cases h <;> exact ⟨rfl, rfl⟩
theorem stv_at {S : Store} {b ty z o : Nat} {cs : List AV} {x : AV} (h : S b = some (.row ty z [cs])) (hx : okC x = true) (hc : cellsOf x = [x]) (ho : o < cs.length) : stv 1 (.ptr b 0 o) x S = some (S.set b (.row ty z [cs.set o x])) := by
  rw [stv_ptr1 1 b 0 o x S h rfl hx (by rw [hc]; rfl) (by omega), hc]
  have : splice cs o [x] = cs.set o x := by
    simp only [splice, List.length_singleton]
    rw [List.set_eq_take_append_cons_drop, if_pos ho]; simp
  rw [this]; rfl
theorem ldv_at {S : Store} {b ty z o : Nat} {cs : List AV} (h : S b = some (.row ty z [cs])) : ldv false 1 (.ptr b 0 o) S = cs[o]? := by
  rw [ldv_ptr1 false 1 b 0 o S h rfl]; rfl
theorem ldv_all_at {S : Store} {b ty z sz : Nat} {cs : List AV} (h : S b = some (.row ty z [cs])) (hl : cs.length = sz) : ldv true sz (.ptr b 0 0) S = some (.agg cs) := by
  rw [ldv_ptr1 true sz b 0 0 S h rfl]; subst hl; simp
theorem bsl_str (s : Bs) : frzOf (bslR true 1 9 1 1 1 [(0, sv s)]) = some (.svals [[sv s]]) := bsl_one 9 1 _ 1 ⟨rfl, by decide, by decide, rfl, rfl⟩
theorem f77_loop (n e : Int) (p : AV) (k : Nat) (hk : k ≤ 40) (S0 : Store) (b : Nat) (K : AK)
    (h0 : ∀ v S, Grow 9 1 (S0.set b (.row 31 6 [[iv n, iv e, brs, p, v, sv sLog]])) (List.replicate k [sv sRun]) v S → K (.exit 0) (ofL [(11, .ptr b 0 0)]) S) :
    ∀ (j i : Nat) (v : AV) (S : Store), j + i = k → Grow 9 1 (S0.set b (.row 31 6 [[iv n, iv e, brs, p, v, sv sLog]])) (List.replicate i [sv sRun]) v S → f77_L1 K (iv k) (.ptr b 0 0) (iv i) S := by
  intro j
  induction j with
  | zero =>
    intro i v S hi hg
    refine f77_L1_pt ?_
    have : ¬ (i : Int) < k := by omega
    simp -implicitDefEqProofs [f77_l1, this]
    have e : i = k := by omega
    subst e
    exact h0 _ _ hg
  | succ j ih =>
    intro i v S hi hg
    refine f77_L1_pt ?_
    have h1 : (i : Int) < k := by omega
    have w1 : IntKind.i64.wrap ((i : Int) + 1) = i + 1 := wrap_id (by omega) (by omega)
    have hb := hg.box.1
    have e1 := ldv_at (o := 4) hb
    have e2 := bsl_str sRun
    simp only [List.getElem?_cons_succ, List.getElem?_cons_zero] at e1
    simp -implicitDefEqProofs [f77_l1, h1, e1, e2]
    refine hg.app (l := [[sv sRun]]) rfl (by simp) (by simp; omega) (by simp; omega) fun v' S' hg' => ?_
    obtain ⟨hb', hset⟩ := hg'.box
    rw [stv_at hb' hg'.ok.1 hg'.ok.2 (by simp), thenS_some]
    simp only [List.set_cons_succ, List.set_cons_zero]
    rw [w1]
    refine ih (i + 1) v' _ (by omega) ?_
    have := hset (.row 31 6 [[iv n, iv e, brs, p, v', sv sLog]])
    rwa [show List.replicate i [sv sRun] ++ [[sv sRun]] = List.replicate (i + 1) [sv sRun] by rw [List.replicate_succ']] at this
theorem f77_c (n e : Int) (h1 : 1 ≤ n) (h2 : n ≤ 1099511627776) (h3 : 1 ≤ e) (h4 : e ≤ 10000) (p : AV) (hp : FzL [] p) (k : Nat) (hk : k ≤ 40) (S : Store) {Q : AV → Store → Prop} (h : Q (bv true) S) :
    ATriple PR 77 [iv n, iv e, brs, p, iv k] S Q := by
  refine f77_ok ?_
  have e0 : abld [.lit (.int .i64 0), .lit (.int .i64 0), .lit (.slice none 0 0), .lit (.slice none 0 0), .lit (.slice none 0 0), .lit (.string ⟨#[]⟩)] [(0, 1, iv n), (1, 1, iv e), (2, 1, brs), (3, 1, p), (5, 1, .lit (.string ⟨#[108, 111, 103]⟩))] = some (.agg [iv n, iv e, brs, p, .lit (.slice none 0 0), sv sLog]) := by
    simp [abld, afill, splice, hp.ok, hp.cells]
  simp -implicitDefEqProofs only [f77_s, e0, bQ_some, newW_own]
  intro b hb
  have e1 := stv_box (S := S) (t := b) (ty := 31) (z := 6) (cs := [.lit (.int .i64 0), .lit (.int .i64 0), .lit (.slice none 0 0), .lit (.slice none 0 0), .lit (.slice none 0 0), .lit (.string ⟨#[]⟩)]) (x := .agg [iv n, iv e, brs, p, .lit (.slice none 0 0), sv sLog]) (sz := 6) rfl rfl rfl
  rw [e1, thenS_some]
  simp only [cellsOf_agg]
  refine f77_loop n e p k hk S b _ ?_ k 0 (.lit (.slice none 0 0)) _ rfl .nil
  intro v S' hg
  apply f77_K1_e0_pt
  simp -implicitDefEqProofs only [f77_K1_e0, ldv_all_at hg.box.1 (show _ = 6 from rfl), bQ_some]
  refine ATriple.ent (hg.entC (fun x => .tuple [.agg [iv n, iv e, brs, p, x, sv sLog]]) ?_) ?_
  · intro t el a c hac
    exact (FrzL.cons (FrzL.cons (.refl _) (.cons (.refl _) (.cons (.refl _) (.cons (.refl _) (.cons hac (.cons (.refl _) .nil)))))).agg .nil).tuple
  refine f204_c n e h1 h2 h3 h4 p hp k hk _ .vals _ ?_
  exact ⟨_, S, .drop ((Sub.refl S).set hb), h⟩
theorem f78_o (l : List Ver) (p : Ver) (hB : l.length ≤ 1048576) (S : Store) {Q : AV → Store → Prop} (h : ∀ v S', Grow 112 8 S ((withoutF l p).map Ver.cs) v S' → Q v S') : ATriple PR 78 [vers l, p.av] S Q := by
  refine f78_ok ?_
  simp -implicitDefEqProofs [f78_s]
  refine f78_loop l hB p S _ (withoutF l p) ?_ l.length 0 [] _ S S rfl (by simp) (.refl _) .nil rfl
  intro v S' S1 hs hg
  apply f78_K1_e0_pt
  obtain ⟨S2, h2, hg2⟩ := hg.drop hs
  exact ⟨_, _, .drop h2, h _ _ hg2⟩
theorem withoutF_length (l : List Ver) (p : Ver) : (withoutF l p).length ≤ l.length := List.length_filter_le _ _
theorem f15_loop (l R : List Ver) (hB : R.length + l.length ≤ 524288) (S0 : Store) (K : AK) (t4 t7 t8 t11 : AV)
    (h0 : ∀ v S, Grow 112 8 S0 ((l.foldl withoutF R).map Ver.cs) v S → K (.exit 0) (ofL [(1, vers l), (4, t4), (7, t7), (8, t8), (11, t11), (13, v)]) S) :
    ∀ (n i : Nat) (acc : List Ver) (v : AV) (S : Store), n + i = l.length → acc.length ≤ R.length → Grow 112 8 S0 (acc.map Ver.cs) v S → (l.drop i).foldl withoutF acc = l.foldl withoutF R → f15_L4 K (vers l) t4 t7 t8 t11 v (iv i) S := by
  intro n
  induction n with
  | zero =>
    intro i acc v S hi ha hg hr
    refine f15_L4_pt ?_
    have : ¬ (i : Int) < l.length := by omega
    rw [List.drop_of_length_le (by omega)] at hr
    simp -implicitDefEqProofs [f15_l4, this]
    simp only [List.foldl_nil] at hr
    subst hr
    exact h0 _ _ hg
  | succ n ih =>
    intro i acc v S hi ha hg hr
    refine f15_L4_pt ?_
    have h2 : i < l.length := by omega
    have h1 : (i : Int) < l.length := by omega
    have w1 : IntKind.i64.wrap ((i : Int) + 1) = i + 1 := wrap_id (by omega) (by omega)
    have x0 := ixA_ver l i S h2
    rw [List.drop_eq_getElem_cons h2, List.foldl_cons] at hr
    simp -implicitDefEqProofs [f15_l4, h1, h2, x0]
    refine ATriple.ent (hg.entC (fun x => .tuple [x, l[i].av]) ?_) ?_
    · intro t el a c hac
      exact (FrzL.cons hac (.cons (.refl _) .nil)).tuple
    refine f78_o acc l[i] (by omega) S0 fun v' S' hg' => ?_
    rw [w1]
    exact ih (i + 1) _ v' S' (by omega) (by have := withoutF_length acc l[i]; omega) hg' hr
end Go.Du
namespace Go.Du
open Go
attribute [local irreducible] ATriple W evP AI
def wrF (R l : List Ver) : List Ver := sortF [] (l.foldl withoutF R ++ l)
theorem foldl_without_length (l : List Ver) : ∀ R : List Ver, (l.foldl withoutF R).length ≤ R.length := by
  induction l with
  | nil => intro R; exact Nat.le_refl _
  | cons x l ih => intro R; exact Nat.le_trans (ih _) (withoutF_length _ _)
abbrev refA (rows : AV) (rn : Int) (g : AV) (e : Int) (br p : AV) (n : Int) : AV := .agg [rows, iv rn, g, iv e, br, p, iv n]
set_option maxRecDepth 100000 in
theorem f15_c (R l : List Ver) (hB : R.length + l.length ≤ 524288) (hl : chainOk l) (rows : AV) (hR : FzL (R.map Ver.cs) rows) (rn : Nat) (hrn : rn < 40) (g br0 p0 : AV) (e0 n : Int) (hn : 0 ≤ n) (hn2 : n < 1099511627776)
    (m0 e : Int) (he : 1 ≤ e) (he2 : e ≤ 10000) (p r : AV) (hp : FzL [] p) (log : Bs) (hg0 : okC g = true ∧ cellsOf g = [g]) (S : Store) {Q : AV → Store → Prop}
    (h : Q (.tuple [refA (vers (wrF R l)) ((if l = [] then rn else rn + 1 : Nat) : Int) (.lit (.slice none 0 0)) e brs p (n + 1), iv 0]) S) :
    ATriple PR 15 [refA rows rn g e0 br0 p0 n, vers l, bv false, man m0 e brs p r log] S Q := by
  refine f15_ok ?_
  simp -implicitDefEqProofs only [f15_s, boxR_agg, mkNew_false, mkNew_true, newW_own, frzOf_frz, bQ_some]
  intro a ha b hb
  have hne : a ≠ b := fun e => by subst e; simp at hb
  refine f76_c l (by omega) hl _ ?_
  have hb' : S b = none := by rwa [Store.set_ne _ _ _ hne.symm] at hb
  generalize hS2 : (S.set a _).set b _ = S2
  have hA : S2 a = some (.row 38 7 [[rows, iv rn, g, iv e0, br0, p0, iv n]]) := by
    rw [← hS2, Store.set_ne _ _ _ hne]; simp
  have hBx : S2 b = some (.row 38 7 [[.lit (.slice none 0 0), .lit (.int .i64 0), .lit (.slice none 0 0), .lit (.int .i64 0), .lit (.slice none 0 0), .lit (.slice none 0 0), .lit (.int .i64 0)]]) := by
    rw [← hS2, Store.set_same]
  have hsub : Sub S S2 := by rw [← hS2]; exact (((Sub.refl S).set ha).set hb')
  have fin : ∀ (x : AV) (S' : Store), Sub S S' → x = .tuple [refA (vers (wrF R l)) ((if l = [] then rn else rn + 1 : Nat) : Int) (.lit (.slice none 0 0)) e brs p (n + 1), iv 0] → dropQ Q x S' := fun x S' hs hx => ⟨_, S, .drop hs, by rw [hx]; exact h⟩
  have e1 : ∀ o, ldv false 1 (.ptr a 0 o) S2 = [rows, iv rn, g, iv e0, br0, p0, iv n][o]? := fun o => ldv_at hA
  have j2 : ∀ k : Nat, k = (if l = [] then rn else rn + 1) → f15_J2 Q (vers l) (bv false) (.ptr a 0 0) (.fptr [iv m0, iv e, brs, p, r, sv log] 0) (.ptr b 0 0) (bv true) (iv k) S2 := by
    intro k hk
    have hk40 : k ≤ 40 := by rw [hk]; split <;> omega
    refine f15_J2_pt ?_
    have w1 : IntKind.i64.wrap (n + 1) = n + 1 := wrap_id (by omega) (by omega)
    simp -implicitDefEqProofs [f15_j2, e1, w1]
    refine f77_c (n + 1) e (by omega) (by omega) he he2 p hp k hk40 S2 ?_
    simp -implicitDefEqProofs [e1]
    refine (Grow.nil (e := 112) (sz := 8) (S0 := S2)).app (k := .slice) (bytes := 80) (l := R.map Ver.cs) hR.rd (by simp) (by simp; omega) (by simp; omega) fun v S3 hg => ?_
    refine f15_J3_pt ?_
    simp -implicitDefEqProofs only [f15_j3]
    refine f15_loop l R hB S2 _ _ _ _ _ ?_ l.length 0 R v S3 rfl (Nat.le_refl _) (by simpa using hg) rfl
    intro v S4 hg4
    apply f15_K1_e0_pt
    have hlen := foldl_without_length l R
    simp -implicitDefEqProofs only [f15_K1_e0]
    refine hg4.app (l := l.map Ver.cs) rfl (by simp) (by simp; omega) (by simp; omega) fun v5 S5 hg5 => ?_
    refine ATriple.ent (hg5.entC (fun x => .tuple [x]) fun t el a c hac => (FrzL.cons hac .nil).tuple) ?_
    rw [← List.map_append]
    refine f60_c _ (by simp; omega) S2 ?_
    simp -implicitDefEqProofs [stv, ldv, hA, hBx, Store.set_ne, hne, hne.symm, splice, hp.ok, hp.cells, w1]
    refine fin _ _ ((hsub.set ha).set hb') ?_
    rw [← hk]; rfl
  simp -implicitDefEqProofs [e1]
  refine f15_J1_pt ?_
  by_cases hnil : l = []
  · subst hnil
    simp -implicitDefEqProofs [f15_j1]
    exact j2 rn (by simp)
  · have hpos : 0 < l.length := List.length_pos_iff.2 hnil
    have w1 : IntKind.i64.wrap ((rn : Int) + 1) = rn + 1 := wrap_id (by omega) (by omega)
    simp -implicitDefEqProofs [f15_j1, hpos, w1]
    exact j2 (rn + 1) (by simp [hnil])
theorem f14_c (S : Store) {Q : AV → Store → Prop} (h : Q (refA nilS 0 nilS 1 brs nilS 1) S) : ATriple PR 14 [] S Q := by
  refine f14_ok ?_
  have e1 : abld [.lit (.int .i64 0), .lit (.int .i64 0), .lit (.int .i64 0), .lit (.bool false)] [(0, 1, .lit (.int .i64 (-1)))] = some (.agg [iv (-1), iv 0, iv 0, bv false]) := rfl
  have e2 : frzOf (bslR true 4 26 4 1 1 [(0, .agg [iv (-1), iv 0, iv 0, bv false])]) = some brs := rfl
  have e3 : abld [.lit (.slice none 0 0), .lit (.int .i64 0), .lit (.slice none 0 0), .lit (.int .i64 0), .lit (.slice none 0 0), .lit (.slice none 0 0), .lit (.int .i64 0)] [(3, 1, .lit (.int .i64 1)), (4, 1, brs), (6, 1, .lit (.int .i64 1))] = some (refA nilS 0 nilS 1 brs nilS 1) := rfl
  simp -implicitDefEqProofs only [f14_s, e1, e2, e3, bQ_some, newW_own]
  intro t ht
  simp -implicitDefEqProofs [stv, ldv, splice]
  exact ⟨_, S, .drop ((Sub.refl S).set ht), h⟩
theorem f172_c (A : AV) (rows g br p : AV) (rn e n : Int) (hg : FzL [] g) (S : Store) {Q : AV → Store → Prop} (h : Q nilS S) : ATriple PR 172 [refA rows rn g e br p n] S Q := by
  refine f172_ok ?_
  simp -implicitDefEqProofs [f172_s]
  refine f172_L1_pt ?_
  have := hg.len (S := S)
  simp -implicitDefEqProofs [f172_l1, this]
  apply f172_K1_e0_pt
  exact dropQ_self h
theorem f171_c (a b : AV) (ha : FzL [] a) (hb : FzL [] b) (S : Store) {Q : AV → Store → Prop} (h : Q (bv true) S) : ATriple PR 171 [a, b] S Q := by
  refine f171_ok ?_
  have h1 := ha.len (S := S)
  have h2 := hb.len (S := S)
  simp -implicitDefEqProofs [f171_s, h1, h2]
  refine f171_L1_pt ?_
  simp -implicitDefEqProofs [f171_l1, h1]
  apply f171_K1_e0_pt
  exact dropQ_self h
theorem eqK26 : eqK PR 26 = some (.struct [.i, .i, .i, .b]) := by kernel_rfl
abbrev strs (l : List Bs) : List (List AV) := l.map fun s => [sv s]
theorem f213_loop3 (n e n2 e2 : Int) (br p br2 p2 : AV) (log log2 : Bs) (r : AV) (l : List Bs) (hlen : l.length ≤ 1099511627776) (hr : FzL (strs l) r) (K : AK) (S : Store)
    (h0 : K (.exit 4) (ofL [(4, .poison)]) S) : ∀ j i, j + i = l.length → f213_L3 K (.fptr [iv n, iv e, br, p, r, sv log] 0) (.fptr [iv n2, iv e2, br2, p2, r, sv log2] 0) (iv i) S := by
  intro j
  induction j with
  | zero =>
    intro i hi
    refine f213_L3_pt ?_
    have hl := hr.len (S := S)
    simp at hl
    have : ¬ (i : Int) < l.length := by omega
    simp -implicitDefEqProofs [f213_l3, hl, this]
    exact h0
  | succ j ih =>
    intro i hi
    refine f213_L3_pt ?_
    have hl := hr.len (S := S)
    simp at hl
    have h1 : (i : Int) < l.length := by omega
    have h2 : i < l.length := by omega
    have hp := hr.pos (by simp; omega)
    have x0 : ixA 1 r (iv i) S = some (.fptr [sv l[i]] 0) := by
      rw [hp]; exact ixA_map _ l i 1 S h2 fun _ => rfl
    have w1 : IntKind.i64.wrap ((i : Int) + 1) = i + 1 := wrap_id (by omega) (by omega)
    simp -implicitDefEqProofs [f213_l3, hl, h1, x0, w1]
    exact ih (i + 1) (by omega)
theorem f213_c (n e : Int) (p p2 : AV) (hp : FzL [] p) (hp2 : FzL [] p2) (r : AV) (l : List Bs) (hlen : l.length ≤ 1099511627776) (hr : FzL (strs l) r) (log : Bs) (S : Store) {Q : AV → Store → Prop} (h : Q (bv true) S) :
    ATriple PR 213 [man n e brs p r log, man n e brs p2 r log] S Q := by
  refine f213_ok ?_
  have hl := hr.len (S := S)
  have hl1 := hp.len (S := S)
  have hl2 := hp2.len (S := S)
  simp -implicitDefEqProofs [f213_s, hl, hl1, hl2]
  have x0 : ∀ S, ixA 4 brs (iv 0) S = some (.fptr [iv (-1), iv 0, iv 0, bv false] 0) := fun S => rfl
  have w1 : IntKind.i64.wrap 1 = 1 := rfl
  have e1 : eqQ (eqK PR 26) true .neq (.agg [iv (-1), iv 0, iv 0, bv false]) (.agg [iv (-1), iv 0, iv 0, bv false]) S = some (bv false) := by
    rw [eqK26]
    simp [eqQ, aeqv, aeq, lits, ckOf, sEq, litEq]
  refine f213_L1_pt ?_
  simp -implicitDefEqProofs [f213_l1, x0, e1, w1]
  refine f213_L1_pt ?_
  simp -implicitDefEqProofs [f213_l1]
  apply f213_K1_e0_pt
  simp -implicitDefEqProofs only [f213_K1_e0]
  refine f213_L2_pt ?_
  simp -implicitDefEqProofs [f213_l2, hl1]
  apply f213_K2_e2_pt
  simp -implicitDefEqProofs only [f213_K2_e2]
  refine f213_loop3 n e n e brs p brs p2 log log r l hlen hr _ S ?_ l.length 0 rfl
  apply f213_K3_e4_pt
  exact dropQ_self h
theorem f84_c (n e : Int) (rows g p p2 : AV) (hp : FzL [] p) (hp2 : FzL [] p2) (r : AV) (l : List Bs) (hlen : l.length ≤ 1099511627776) (hr : FzL (strs l) r) (log : Bs) (S : Store) {Q : AV → Store → Prop} (h : Q (bv true) S) :
    ATriple PR 84 [refA rows l.length g e brs p2 n, man n e brs p r log] S Q := by
  refine f84_ok ?_
  have e0 : abld [.lit (.int .i64 0), .lit (.int .i64 0), .lit (.slice none 0 0), .lit (.slice none 0 0), .lit (.slice none 0 0), .lit (.string ⟨#[]⟩)] [(0, 1, iv n), (1, 1, iv e), (2, 1, brs), (3, 1, p2), (5, 1, sv log), (4, 1, r)] = some (man n e brs p2 r log) := by
    simp [abld, afill, splice, hp2.ok, hp2.cells, hr.ok, hr.cells]
  simp -implicitDefEqProofs [f84_s, e0]
  intro t ht
  simp -implicitDefEqProofs [stv, ldv, splice]
  refine f213_c n e p p2 hp hp2 r l hlen hr log _ ?_
  have hl := fun S => hr.len (S := S)
  simp -implicitDefEqProofs [hl]
  exact ⟨_, S, .drop ((Sub.refl S).set ht), h⟩
end Go.Du
namespace Go.Du
open Go
set_option maxRecDepth 1000000
section
open Go.Proofs
variable {S : Store} {Q : QT} {K : AK} {t0 t1 t2 t3 t4 t5 t6 t7 t8 t9 t10 t11 t12 t13 t25 t26 t27 : AV}
def f311_s (t0 : AV) (S : Store) (Q : QT) : Prop := bQ (aeqv false .slice t0 nilS S) fun t4 => condW t4 (dropQ Q nilS S) (newW (bslR false 1 5 1 0 0 []) S fun t5 S_1 => apW (some (5, 1, 1, .slice)) t5 t0 S_1 fun t7 S_2 => dropQ Q t7 S_2)
theorem f311_ok : f311_s t0 S Q → ATriple PR 311 [t0] S Q := fun h => pF (fn := Tryz.f311) (.two (rg 1 0 0) (.two (.two (rg 2 0 0) (.two (.two (rg 1 0 0) (.nil)) (.nil))) (.two (rg 4 5 0) (.nil)))) h
def f230_s (t0 : AV) (S : Store) (Q : QT) : Prop := bQ (aeqv false .slice t0 nilS S) fun t4 => condW t4 (dropQ Q nilS S) (newW (bslR false 8 112 8 0 0 []) S fun t5 S_1 => apW (some (112, 8, 80, .slice)) t5 t0 S_1 fun t7 S_2 => dropQ Q t7 S_2)
theorem f230_ok : f230_s t0 S Q → ATriple PR 230 [t0] S Q := fun h => pF (fn := Tryz.f230) (.two (rg 1 0 0) (.two (.two (rg 2 0 0) (.two (.two (rg 1 0 0) (.nil)) (.nil))) (.two (rg 4 5 0) (.nil)))) h
def f182_s (t0 : AV) (S : Store) (Q : QT) : Prop := bQ (aeqv false .slice t0 nilS S) fun t4 => condW t4 (dropQ Q nilS S) (newW (bslR false 4 26 4 0 0 []) S fun t5 S_1 => apW (some (26, 4, 32, .slice)) t5 t0 S_1 fun t7 S_2 => dropQ Q t7 S_2)
theorem f182_ok : f182_s t0 S Q → ATriple PR 182 [t0] S Q := fun h => pF (fn := Tryz.f182) (.two (rg 1 0 0) (.two (.two (rg 2 0 0) (.two (.two (rg 1 0 0) (.nil)) (.nil))) (.two (rg 4 5 0) (.nil)))) h
def f183_s (t0 : AV) (S : Store) (Q : QT) : Prop := bQ (aeqv false .slice t0 nilS S) fun t4 => condW t4 (dropQ Q nilS S) (newW (bslR false 3 193 3 0 0 []) S fun t5 S_1 => apW (some (193, 3, 32, .slice)) t5 t0 S_1 fun t7 S_2 => dropQ Q t7 S_2)
theorem f183_ok : f183_s t0 S Q → ATriple PR 183 [t0] S Q := fun h => pF (fn := Tryz.f183) (.two (rg 1 0 0) (.two (.two (rg 2 0 0) (.two (.two (rg 1 0 0) (.nil)) (.nil))) (.two (rg 4 5 0) (.nil)))) h
def f67_s (t0 : AV) (S : Store) (Q : QT) : Prop := bQ (aeqv false .slice t0 nilS S) fun t4 => condW t4 (dropQ Q nilS S) (newW (bslR false 1 9 1 0 0 []) S fun t5 S_1 => apW (some (9, 1, 16, .slice)) t5 t0 S_1 fun t7 S_2 => dropQ Q t7 S_2)
theorem f67_ok : f67_s t0 S Q → ATriple PR 67 [t0] S Q := fun h => pF (fn := Tryz.f67) (.two (rg 1 0 0) (.two (.two (rg 2 0 0) (.two (.two (rg 1 0 0) (.nil)) (.nil))) (.two (rg 4 5 0) (.nil)))) h
def f68_s (t0 : AV) (S : Store) (Q : QT) : Prop := bQ (aeqv false .slice t0 nilS S) fun t4 => condW t4 (dropQ Q nilS S) (newW (bslR false 1 140 1 0 0 []) S fun t5 S_1 => apW (some (140, 1, 8, .slice)) t5 t0 S_1 fun t7 S_2 => dropQ Q t7 S_2)
theorem f68_ok : f68_s t0 S Q → ATriple PR 68 [t0] S Q := fun h => pF (fn := Tryz.f68) (.two (rg 1 0 0) (.two (.two (rg 2 0 0) (.two (.two (rg 1 0 0) (.nil)) (.nil))) (.two (rg 4 5 0) (.nil)))) h
noncomputable def f186_a1 : Ann := .two (rg 1 0 0) (.two (.two (rg 5 0 0) (.two (.two (rg 1 0 0) (.nil)) (.nil))) (.two (.two (rg 3 0 0) (.one (.loop [0, 1, 12, 13]))) (.two (rg 1 0 0) (.nil))))
noncomputable def f186_c1 : Code := (cl (cl (cr (cl (cr (cr (bodyOf Tryz.f186)))))))
noncomputable def f186_c2 : Code := (cr (cr (cr (bodyOf Tryz.f186))))
def f186_L1 (K : AK) (t0 t1 t12 t13 : AV) (S : Store) : Prop := AI PR none 26 [.code f186_c1, .inLoop f186_c1] K (ofL [(0, t0), (1, t1), (12, t12), (13, t13)]) S
def f186_l1 (K : AK) (t0 t1 t12 t13 : AV) (S : Store) : Prop := bQ (abi .lss t13 t12) fun t14 => condW t14 (bQ (ixA 1 t0 t13 S) fun t18 => bQ (ldv false 1 t18 S) fun t19 => bQ (ixA 1 t1 t13 S) fun t22 => bQ (ldv false 1 t22 S) fun t23 => bQ (abi .neq t19 t23) fun t24 => condW t24 (K .ret (ofL [(4, bv false)]) S) (bQ (abi .add t13 (iv 1)) fun t25 => f186_L1 K t0 t1 t12 t25 S)) (K (.exit 0) (ofL [(4, .poison)]) S)
theorem f186_L1_pt : f186_l1 K t0 t1 t12 t13 S → f186_L1 K t0 t1 t12 t13 S := fun h => pL (.two (rg 1 0 0) (.two (.two (.nil) (.nil)) (.two (.one (.two (rg 2 0 0) (.two (.reg [0, 0, 3, 7, 0, 0, 48, 112, 255] (pq 0 9 <| .done)) (.two (.two (rg 1 0 0) (.nil)) (.nil))))) (rg 2 0 0)))) [0, 1, 12, 13] [4] h
noncomputable def f186_K1 (Q : QT) : AK := (AK.block 0 (AK.andThen (fun st S => W PR none 26 f186_c2 ((ar (ar (ar f186_a1)))) (retK PR Tryz.f186 (dropQ Q)) st S) (retK PR Tryz.f186 (dropQ Q))))
def f186_K1_e0 (Q : QT) (t4 : AV) (S : Store) : Prop := dropQ Q (bv true) S
theorem f186_K1_e0_pt : f186_K1_e0 Q t4 S → f186_K1 Q (.exit 0) (ofL [(4, t4)]) S := castP (by kernel_rfl)
def f186_s (t0 t1 : AV) (S : Store) (Q : QT) : Prop := bQ (aln .slice t0 S) fun t7 => bQ (aln .slice t1 S) fun t9 => bQ (abi .neq t7 t9) fun t10 => condW t10 (dropQ Q (bv false) S) (bQ (aln .slice t0 S) fun t12 => f186_L1 (f186_K1 Q) t0 t1 t12 (iv 0) S)
theorem f186_ok : f186_s t0 t1 S Q → ATriple PR 186 [t0, t1] S Q := fun h => pF (fn := Tryz.f186) f186_a1 h
attribute [irreducible] f186_L1 f186_K1
noncomputable def f428_a1 : Ann := .two (rg 1 0 0) (.two (.two (rg 3 0 0) (.one (.loop [0, 1, 7, 8]))) (.two (rg 1 0 0) (.nil)))
noncomputable def f428_c1 : Code := (cl (cl (cr (cl (cr (bodyOf Tryz.f428))))))
noncomputable def f428_c2 : Code := (cr (cr (bodyOf Tryz.f428)))
def f428_L1 (K : AK) (t0 t1 t7 t8 : AV) (S : Store) : Prop := AI PR none 19 [.code f428_c1, .inLoop f428_c1] K (ofL [(0, t0), (1, t1), (7, t7), (8, t8)]) S
def f428_l1 (K : AK) (t0 t1 t7 t8 : AV) (S : Store) : Prop := bQ (abi .lss t8 t7) fun t9 => condW t9 (bQ (ixA 1 t0 t8 S) fun t14 => bQ (ldv false 1 t14 S) fun t15 => callW PR t1 [t15] S fun t16 S_1 => condW t16 (K .ret (ofL [(4, t8)]) S_1) (bQ (abi .add t8 (iv 1)) fun t18 => f428_L1 K t0 t1 t7 t18 S_1)) (K (.exit 0) (ofL [(4, .poison)]) S)
theorem f428_L1_pt : f428_l1 K t0 t1 t7 t8 S → f428_L1 K t0 t1 t7 t8 S := fun h => pL (.two (rg 1 0 0) (.two (.two (.nil) (.nil)) (.two (.one (.two (rg 2 0 0) (.two (rg 6 32 0) (.two (.two (rg 2 0 0) (.nil)) (.nil))))) (rg 2 0 0)))) [0, 1, 7, 8] [4] h
noncomputable def f428_K1 (Q : QT) : AK := (AK.block 0 (AK.andThen (fun st S => W PR none 19 f428_c2 ((ar (ar f428_a1))) (retK PR Tryz.f428 (dropQ Q)) st S) (retK PR Tryz.f428 (dropQ Q))))
def f428_K1_e0 (Q : QT) (t4 : AV) (S : Store) : Prop := dropQ Q (iv (-1)) S
theorem f428_K1_e0_pt : f428_K1_e0 Q t4 S → f428_K1 Q (.exit 0) (ofL [(4, t4)]) S := castP (by kernel_rfl)
def f428_s (t0 t1 : AV) (S : Store) (Q : QT) : Prop := bQ (aln .slice t0 S) fun t7 => f428_L1 (f428_K1 Q) t0 t1 t7 (iv 0) S
theorem f428_ok : f428_s t0 t1 S Q → ATriple PR 428 [t0, t1] S Q := fun h => pF (fn := Tryz.f428) f428_a1 h
attribute [irreducible] f428_L1 f428_K1
def f324_s (t0 t1 : AV) (S : Store) (Q : QT) : Prop := ATriple PR 428 [t0, t1] S fun t7 S_1 => bQ (abi .geq t7 (iv 0)) fun t8 => dropQ Q t8 S_1
theorem f324_ok : f324_s t0 t1 S Q → ATriple PR 324 [t0, t1] S Q := fun h => pF (fn := Tryz.f324) (.two (rg 1 0 0) (.two (rg 5 4 0) (.nil))) h
noncomputable def f327_a1 : Ann := .two (rg 1 0 0) (.two (.two (rg 3 0 0) (.one (.loop [0, 1, 7, 8]))) (.two (rg 1 0 0) (.nil)))
noncomputable def f327_c1 : Code := (cl (cl (cr (cl (cr (bodyOf Tryz.f327))))))
noncomputable def f327_c2 : Code := (cr (cr (bodyOf Tryz.f327)))
def f327_L1 (K : AK) (t0 t1 t7 t8 : AV) (S : Store) : Prop := AI PR none 19 [.code f327_c1, .inLoop f327_c1] K (ofL [(0, t0), (1, t1), (7, t7), (8, t8)]) S
def f327_l1 (K : AK) (t0 t1 t7 t8 : AV) (S : Store) : Prop := bQ (abi .lss t8 t7) fun t9 => condW t9 (bQ (ixA 1 t0 t8 S) fun t14 => bQ (ldv false 1 t14 S) fun t15 => callW PR t1 [t15] S fun t16 S_1 => condW t16 (K .ret (ofL [(4, t8)]) S_1) (bQ (abi .add t8 (iv 1)) fun t18 => f327_L1 K t0 t1 t7 t18 S_1)) (K (.exit 0) (ofL [(4, .poison)]) S)
theorem f327_L1_pt : f327_l1 K t0 t1 t7 t8 S → f327_L1 K t0 t1 t7 t8 S := fun h => pL (.two (rg 1 0 0) (.two (.two (.nil) (.nil)) (.two (.one (.two (rg 2 0 0) (.two (rg 6 32 0) (.two (.two (rg 2 0 0) (.nil)) (.nil))))) (rg 2 0 0)))) [0, 1, 7, 8] [4] h
noncomputable def f327_K1 (Q : QT) : AK := (AK.block 0 (AK.andThen (fun st S => W PR none 19 f327_c2 ((ar (ar f327_a1))) (retK PR Tryz.f327 (dropQ Q)) st S) (retK PR Tryz.f327 (dropQ Q))))
def f327_K1_e0 (Q : QT) (t4 : AV) (S : Store) : Prop := dropQ Q (iv (-1)) S
theorem f327_K1_e0_pt : f327_K1_e0 Q t4 S → f327_K1 Q (.exit 0) (ofL [(4, t4)]) S := castP (by kernel_rfl)
def f327_s (t0 t1 : AV) (S : Store) (Q : QT) : Prop := bQ (aln .slice t0 S) fun t7 => f327_L1 (f327_K1 Q) t0 t1 t7 (iv 0) S
theorem f327_ok : f327_s t0 t1 S Q → ATriple PR 327 [t0, t1] S Q := fun h => pF (fn := Tryz.f327) f327_a1 h
attribute [irreducible] f327_L1 f327_K1
def f191_s (t0 t1 : AV) (S : Store) (Q : QT) : Prop := ATriple PR 327 [t0, t1] S fun t7 S_1 => bQ (abi .geq t7 (iv 0)) fun t8 => dropQ Q t8 S_1
theorem f191_ok : f191_s t0 t1 S Q → ATriple PR 191 [t0, t1] S Q := fun h => pF (fn := Tryz.f191) (.two (rg 1 0 0) (.two (rg 5 4 0) (.nil))) h
noncomputable def f344_a1 : Ann := .two (rg 1 0 0) (.two (.two (rg 3 0 0) (.one (.loop [0, 1, 7, 8]))) (.two (rg 1 0 0) (.nil)))
noncomputable def f344_c1 : Code := (cl (cl (cr (cl (cr (bodyOf Tryz.f344))))))
noncomputable def f344_c2 : Code := (cr (cr (bodyOf Tryz.f344)))
def f344_L1 (K : AK) (t0 t1 t7 t8 : AV) (S : Store) : Prop := AI PR none 19 [.code f344_c1, .inLoop f344_c1] K (ofL [(0, t0), (1, t1), (7, t7), (8, t8)]) S
def f344_l1 (K : AK) (t0 t1 t7 t8 : AV) (S : Store) : Prop := bQ (abi .lss t8 t7) fun t9 => condW t9 (bQ (ixA 1 t0 t8 S) fun t14 => bQ (ldv false 1 t14 S) fun t15 => bQ (abi .eql t1 t15) fun t16 => condW t16 (K .ret (ofL [(4, t8)]) S) (bQ (abi .add t8 (iv 1)) fun t18 => f344_L1 K t0 t1 t7 t18 S)) (K (.exit 0) (ofL [(4, .poison)]) S)
theorem f344_L1_pt : f344_l1 K t0 t1 t7 t8 S → f344_L1 K t0 t1 t7 t8 S := fun h => pL (.two (rg 1 0 0) (.two (.two (.nil) (.nil)) (.two (.one (.two (rg 2 0 0) (.two (rg 6 0 0) (.two (.two (rg 2 0 0) (.nil)) (.nil))))) (rg 2 0 0)))) [0, 1, 7, 8] [4] h
noncomputable def f344_K1 (Q : QT) : AK := (AK.block 0 (AK.andThen (fun st S => W PR none 19 f344_c2 ((ar (ar f344_a1))) (retK PR Tryz.f344 (dropQ Q)) st S) (retK PR Tryz.f344 (dropQ Q))))
def f344_K1_e0 (Q : QT) (t4 : AV) (S : Store) : Prop := dropQ Q (iv (-1)) S
theorem f344_K1_e0_pt : f344_K1_e0 Q t4 S → f344_K1 Q (.exit 0) (ofL [(4, t4)]) S := castP (by kernel_rfl)
def f344_K1_ret (Q : QT) (t4 : AV) (S : Store) : Prop := dropQ Q t4 S
theorem f344_K1_ret_pt : f344_K1_ret Q t4 S → f344_K1 Q .ret (ofL [(4, t4)]) S := castP (by kernel_rfl)
def f344_s (t0 t1 : AV) (S : Store) (Q : QT) : Prop := bQ (aln .slice t0 S) fun t7 => f344_L1 (f344_K1 Q) t0 t1 t7 (iv 0) S
theorem f344_ok : f344_s t0 t1 S Q → ATriple PR 344 [t0, t1] S Q := fun h => pF (fn := Tryz.f344) f344_a1 h
attribute [irreducible] f344_L1 f344_K1
def f202_s (t0 t1 : AV) (S : Store) (Q : QT) : Prop := ATriple PR 344 [t0, t1] S fun t7 S_1 => bQ (abi .geq t7 (iv 0)) fun t8 => dropQ Q t8 S_1
theorem f202_ok : f202_s t0 t1 S Q → ATriple PR 202 [t0, t1] S Q := fun h => pF (fn := Tryz.f202) (.two (rg 1 0 0) (.two (rg 5 4 0) (.nil))) h
noncomputable def f356_a1 : Ann := .two (rg 1 0 0) (.two (.two (rg 3 0 0) (.one (.loop [0, 1, 7, 8]))) (.two (rg 1 0 0) (.nil)))
noncomputable def f356_c1 : Code := (cl (cl (cr (cl (cr (bodyOf Tryz.f356))))))
noncomputable def f356_c2 : Code := (cr (cr (bodyOf Tryz.f356)))
def f356_L1 (K : AK) (t0 t1 t7 t8 : AV) (S : Store) : Prop := AI PR none 19 [.code f356_c1, .inLoop f356_c1] K (ofL [(0, t0), (1, t1), (7, t7), (8, t8)]) S
def f356_l1 (K : AK) (t0 t1 t7 t8 : AV) (S : Store) : Prop := bQ (abi .lss t8 t7) fun t9 => condW t9 (bQ (ixA 2 t0 t8 S) fun t14 => bQ (ldv true 2 t14 S) fun t15 => callW PR t1 [t15] S fun t16 S_1 => condW t16 (K .ret (ofL [(4, t8)]) S_1) (bQ (abi .add t8 (iv 1)) fun t18 => f356_L1 K t0 t1 t7 t18 S_1)) (K (.exit 0) (ofL [(4, .poison)]) S)
theorem f356_L1_pt : f356_l1 K t0 t1 t7 t8 S → f356_L1 K t0 t1 t7 t8 S := fun h => pL (.two (rg 1 0 0) (.two (.two (.nil) (.nil)) (.two (.one (.two (rg 2 0 0) (.two (rg 6 32 0) (.two (.two (rg 2 0 0) (.nil)) (.nil))))) (rg 2 0 0)))) [0, 1, 7, 8] [4] h
noncomputable def f356_K1 (Q : QT) : AK := (AK.block 0 (AK.andThen (fun st S => W PR none 19 f356_c2 ((ar (ar f356_a1))) (retK PR Tryz.f356 (dropQ Q)) st S) (retK PR Tryz.f356 (dropQ Q))))
def f356_K1_e0 (Q : QT) (t4 : AV) (S : Store) : Prop := dropQ Q (iv (-1)) S
theorem f356_K1_e0_pt : f356_K1_e0 Q t4 S → f356_K1 Q (.exit 0) (ofL [(4, t4)]) S := castP (by kernel_rfl)
def f356_s (t0 t1 : AV) (S : Store) (Q : QT) : Prop := bQ (aln .slice t0 S) fun t7 => f356_L1 (f356_K1 Q) t0 t1 t7 (iv 0) S
theorem f356_ok : f356_s t0 t1 S Q → ATriple PR 356 [t0, t1] S Q := fun h => pF (fn := Tryz.f356) f356_a1 h
attribute [irreducible] f356_L1 f356_K1
noncomputable def f218_a1 : Ann := .two (rg 1 0 0) (.two (rg 4 4 0) (.two (.two (rg 2 0 0) (.two (.two (rg 2 0 0) (.nil)) (.nil))) (.two (.two (rg 3 0 0) (.one (.loop [0, 1, 5, 6]))) (.two (rg 4 8 0) (.two (rg 4 0 0) (.nil))))))
noncomputable def f218_c1 : Code := (cl (cl (cr (cl (cr (cr (cr (bodyOf Tryz.f218))))))))
noncomputable def f218_c2 : Code := (cr (cr (cr (cr (bodyOf Tryz.f218)))))
def f218_L1 (K : AK) (t0 t1 t5 t6 : AV) (S : Store) : Prop := AI PR none 42 [.code f218_c1, .inLoop f218_c1] K (ofL [(0, t0), (1, t1), (5, t5), (6, t6)]) S
noncomputable def f218_K1 (Q : QT) : AK := (AK.block 0 (AK.andThen (fun st S => W PR none 42 f218_c2 ((ar (ar (ar (ar f218_a1))))) (retK PR Tryz.f218 (dropQ Q)) st S) (retK PR Tryz.f218 (dropQ Q))))
def f218_s (t0 t1 : AV) (S : Store) (Q : QT) : Prop := ATriple PR 356 [t0, t1] S fun t10 S_1 => bQ (abi .eql t10 (iv (-1))) fun t12 => condW t12 (dropQ Q t0 S_1) (bQ (abi .add t10 (iv 1)) fun t15 => f218_L1 (f218_K1 Q) t0 t1 t10 t15 S_1)
theorem f218_ok : f218_s t0 t1 S Q → ATriple PR 218 [t0, t1] S Q := fun h => pF (fn := Tryz.f218) f218_a1 h
attribute [irreducible] f218_L1 f218_K1
noncomputable def f429_a1 : Ann := .two (rg 1 0 0) (.join [0, 1] (.two (rg 2 0 0) (.two (rg 2 2 0) (.nil))) (.two (.two (rg 8 4 0) (.two (rg 2 0 0) (.two (rg 10 36 0) (.nil)))) (.two (rg 2 0 0) (.nil))))
noncomputable def f429_c1 : Code := (cr (cr (bodyOf Tryz.f429)))
def f429_J1 (Q : QT) (t0 t1 : AV) (S : Store) : Prop := AWp PR none 27 f429_c1 (retK PR Tryz.f429 (dropQ Q)) (ofL [(0, t0), (1, t1)]) S
def f429_j1 (Q : QT) (t0 t1 : AV) (S : Store) : Prop := capA t0 S fun t10 S_1 => bQ (aln .slice t0 S_1) fun t12 => bQ (abi .sub t10 t12) fun t13 => bQ (abi .sub t1 t13) fun t14 => bQ (abi .gtr t14 (iv 0)) fun t16 => condW t16 (capA t0 S_1 fun t19 S_2 => bQ (sliceV 1 t0 none (some t19) none S_2) fun t20 => apZ (some (5, 1, 1, [uv 0])) t20 t14 S_2 fun t22 S_3 => bQ (aln .slice t0 S_3) fun t24 => bQ (sliceV 1 t22 none (some t24) none S_3) fun t25 => dropQ Q t25 S_3) (dropQ Q t0 S_1)
theorem f429_J1_pt : f429_j1 Q t0 t1 S → f429_J1 Q t0 t1 S := fun h => pJ ((ar (ar f429_a1))) h
def f429_s (t0 t1 : AV) (S : Store) (Q : QT) : Prop := bQ (abi .lss t1 (iv 0)) fun t6 => condW t6 (effW0 S fun _ S_1 => f429_J1 Q t0 t1 S_1) (f429_J1 Q t0 t1 S)
theorem f429_ok : f429_s t0 t1 S Q → ATriple PR 429 [t0, t1] S Q := fun h => pF (fn := Tryz.f429) f429_a1 h
attribute [irreducible] f429_J1
noncomputable def f335_a1 : Ann := .two (rg 1 0 0) (.two (rg 1 0 0) (.two (.two (rg 3 0 0) (.one (.loop [0, 3, 9, 10, 11]))) (.two (rg 3 2 0) (.two (.two (rg 3 0 0) (.one (.loop [6, 25, 26, 27]))) (.two (rg 2 0 0) (.nil))))))
noncomputable def f335_c1 : Code := (cl (cl (cr (cl (cr (cr (bodyOf Tryz.f335)))))))
noncomputable def f335_c2 : Code := (cr (cr (cr (bodyOf Tryz.f335))))
noncomputable def f335_c3 : Code := (cl (cl (cr (cl (cr (cr (cr (cr (bodyOf Tryz.f335)))))))))
noncomputable def f335_c4 : Code := (cr (cr (cr (cr (cr (bodyOf Tryz.f335))))))
def f335_L1 (K : AK) (t0 t3 t9 t10 t11 : AV) (S : Store) : Prop := AI PR none 36 [.code f335_c1, .inLoop f335_c1] K (ofL [(0, t0), (3, t3), (9, t9), (10, t10), (11, t11)]) S
def f335_l1 (K : AK) (t0 t3 t9 t10 t11 : AV) (S : Store) : Prop := bQ (abi .lss t11 t10) fun t12 => condW t12 (bQ (ixA 1 t9 t11 S) fun t13 => bQ (ldv false 1 t13 S) fun t14 => bQ (aln .slice t14 S) fun t17 => bQ (abi .add t3 t17) fun t18 => bQ (abi .lss t18 (iv 0)) fun t20 => condW t20 (effW0 S fun _ S_1 => bQ (abi .add t11 (iv 1)) fun t22 => f335_L1 K t0 t18 t9 t10 t22 S_1) (bQ (abi .add t11 (iv 1)) fun t22_1 => f335_L1 K t0 t18 t9 t10 t22_1 S)) (K (.exit 0) (ofL [(0, t0), (3, t3)]) S)
theorem f335_L1_pt : f335_l1 K t0 t3 t9 t10 t11 S → f335_L1 K t0 t3 t9 t10 t11 S := fun h => pL (.two (rg 1 0 0) (.two (.two (.nil) (.nil)) (.two (.one (.two (rg 3 0 0) (.two (rg 5 0 0) (.two (rg 2 0 0) (.two (rg 2 2 0) (.nil)))))) (rg 2 0 0)))) [0, 3, 9, 10, 11] [0, 3] h
noncomputable def f335_K1 (Q : QT) : AK := (AK.block 0 (AK.andThen (fun st S => W PR none 36 f335_c2 ((ar (ar (ar f335_a1)))) (retK PR Tryz.f335 (dropQ Q)) st S) (retK PR Tryz.f335 (dropQ Q))))
def f335_L2 (K : AK) (t6 t25 t26 t27 : AV) (S : Store) : Prop := AI PR none 36 [.code f335_c3, .inLoop f335_c3] K (ofL [(6, t6), (25, t25), (26, t26), (27, t27)]) S
def f335_l2 (K : AK) (t6 t25 t26 t27 : AV) (S : Store) : Prop := bQ (abi .lss t27 t26) fun t28 => condW t28 (bQ (ixA 1 t25 t27 S) fun t29 => bQ (ldv false 1 t29 S) fun t30 => apW (some (5, 1, 1, .slice)) t6 t30 S fun t33 S_1 => bQ (abi .add t27 (iv 1)) fun t34 => f335_L2 K t33 t25 t26 t34 S_1) (K (.exit 2) (ofL [(6, t6)]) S)
theorem f335_L2_pt : f335_l2 K t6 t25 t26 t27 S → f335_L2 K t6 t25 t26 t27 S := fun h => pL (.two (rg 1 0 0) (.two (.two (.nil) (.nil)) (.two (.one (.two (rg 3 0 0) (rg 4 4 0))) (rg 2 0 0)))) [6, 25, 26, 27] [6] h
noncomputable def f335_K2 (Q : QT) : AK := (AK.block 2 (AK.andThen (fun st S => W PR none 36 f335_c4 ((ar (ar (ar (ar (ar f335_a1)))))) (retK PR Tryz.f335 (dropQ Q)) st S) (retK PR Tryz.f335 (dropQ Q))))
def f335_K2_e2 (Q : QT) (t6 : AV) (S : Store) : Prop := dropQ Q t6 S
theorem f335_K2_e2_pt : f335_K2_e2 Q t6 S → f335_K2 Q (.exit 2) (ofL [(6, t6)]) S := castP (by kernel_rfl)
def f335_K1_e0 (Q : QT) (t0 t3 : AV) (S : Store) : Prop := ATriple PR 429 [nilS, t3] S fun t24 S_1 => bQ (aln .slice t0 S_1) fun t26 => f335_L2 (f335_K2 Q) t24 t0 t26 (iv 0) S_1
theorem f335_K1_e0_pt : f335_K1_e0 Q t0 t3 S → f335_K1 Q (.exit 0) (ofL [(0, t0), (3, t3)]) S := castP (by kernel_rfl)
def f335_s (t0 : AV) (S : Store) (Q : QT) : Prop := bQ (aln .slice t0 S) fun t10 => f335_L1 (f335_K1 Q) t0 (iv 0) t0 t10 (iv 0) S
theorem f335_ok : f335_s t0 S Q → ATriple PR 335 [t0] S Q := fun h => pF (fn := Tryz.f335) f335_a1 h
attribute [irreducible] f335_L1 f335_K1 f335_L2 f335_K2
noncomputable def f418_c1 : Code := (cl (cl (cr (bodyOf Tryz.f418))))
def f418_L1 (K : AK) (t0 t1 t2 t4 : AV) (S : Store) : Prop := AI PR none 31 [.code f418_c1, .inLoop f418_c1] K (ofL [(0, t0), (1, t1), (2, t2), (4, t4)]) S
def f418_l1 (K : AK) (t0 t1 t2 t4 : AV) (S : Store) : Prop := bQ (ldv false 1 t1 S) fun t7 => bQ (aln .slice t7 S) fun t8 => bQ (abi .lss t4 t8) fun t9 => condW t9 (bQ (ldv false 1 t2 S) fun t13 => bQ (ldv false 1 t1 S) fun t14 => bQ (sliceV 8 t14 (some t4) none none S) fun t16 => bQ (aln .slice t16 S) fun t17 => bQ (amin t13 t17) fun t18 => bQ (ldv false 1 t1 S) fun t20 => bQ (abi .add t4 t18) fun t24 => bQ (abi .add t4 t18) fun t27 => bQ (sliceV 8 t20 (some t4) (some t24) (some t27) S) fun t28 => callW PR t0 [t28] S fun t29 S_1 => bQ (aun .not t29) fun t30 => condW t30 (K .ret (ofL []) S_1) (bQ (ldv false 1 t2 S_1) fun t11 => bQ (abi .add t4 t11) fun t12 => f418_L1 K t0 t1 t2 t12 S_1)) (K (.exit 0) (ofL []) S)
theorem f418_L1_pt : f418_l1 K t0 t1 t2 t4 S → f418_L1 K t0 t1 t2 t4 S := fun h => pL (.two (.two (rg 4 0 0) (.two (.nil) (.nil))) (.two (.one (.two (.reg [0, 0, 0, 6, 14, 31, 63] (pq 0 7 <| .done)) (.two (rg 12 1024 0) (.two (.nil) (.nil))))) (rg 4 0 0))) [0, 1, 2, 4] [] h
noncomputable def f418_K1 (Q : QT) : AK := (AK.block 0 (retK PR Tryz.f418 (dropQ Q)))
def f418_K1_e0 (Q : QT) (S : Store) : Prop := dropQ Q (.tuple []) S
theorem f418_K1_e0_pt : f418_K1_e0 Q S → f418_K1 Q (.exit 0) (ofL []) S := castP (by kernel_rfl)
def f418_s (t0 t1 t2 : AV) (S : Store) (Q : QT) : Prop := f418_L1 (f418_K1 Q) t0 t1 t2 (iv 0) S
theorem f418_ok : f418_s t0 t1 t2 S Q → ATriple PR 418 [t0, t1, t2] S Q := fun h => pF (fn := Tryz.f418) (.two (rg 1 0 0) (.one (.loop [0, 1, 2, 4]))) h
attribute [irreducible] f418_L1 f418_K1
def f310_s (t0 t1 : AV) (S : Store) (Q : QT) : Prop := bQ (frzOf (boxR true 22 t0)) fun t2 => bQ (frzOf (boxR true 3 t1)) fun t3 => bQ (ldv false 1 t3 S) fun t5 => bQ (abi .lss t5 (iv 1)) fun t6 => condW t6 (effW0 S fun _ S_1 => dropQ Q (.func (.func 418) [] [t2, t3]) S_1) (dropQ Q (.func (.func 418) [] [t2, t3]) S)
theorem f310_ok : f310_s t0 t1 S Q → ATriple PR 310 [t0, t1] S Q := fun h => pF (fn := Tryz.f310) (.two (rg 3 0 3) (.two (.two (rg 2 0 0) (.two (rg 2 2 0) (.nil))) (.two (rg 2 0 0) (.nil)))) h
end
end Go.Du
namespace Go.Du
open Go
attribute [local irreducible] ATriple W evP AI
theorem rdS_sub {S S' : Store} (hs : Sub S S') {b : AV} {es : List (List AV)} (h : rdS b S = some es) : rdS b S' = some es := by
  unfold rdS at h ⊢
  split at h
  · exact h
  · split at h
    · rename_i heq; simp only [hs _ _ heq]; exact h
    · rename_i heq; simp only [hs _ _ heq]; exact h
    · cases h
  · exact h
  · exact h
  · cases h
theorem clone_core {e sz bytes : Nat} {S : Store} {b : AV} {es : List (List AV)} (h0 : 0 < sz) (hrd : rdS b S = some es) (hl : ∀ c ∈ es, c.length = sz) (hb : es.length * bytes ≤ 140737488355328) (hn : es.length ≤ 9223372036854775807)
    {K : AV → Store → Prop} (hk : ∀ v S', Grow e sz S es v S' → K v S') : newW (bslR false sz e sz 0 0 []) S fun t5 S1 => apW (some (e, sz, bytes, .slice)) t5 b S1 K := by
  have e1 : bslR false sz e sz 0 0 [] = some (.own (.row e sz []) fun u => .sref u 0 0) := by simp [bslR, partsOk, h0, mkRow]
  rw [e1, newW_own]
  intro t ht
  simp only [apW, apSrc, rdS_sub ((Sub.refl S).set ht) hrd, apK, Store.set_same]
  refine ⟨hl, ?_⟩
  simp only [List.length_nil, Nat.zero_add, if_true, Nat.add_zero, true_and]
  refine ⟨hb, hn, fun t' ht' => ?_⟩
  rw [Store.erase_set _ _ _ ht] at ht' ⊢
  exact hk _ _ (.own ht')
structure SlIn (b : AV) (S : Store) (es : List (List AV)) (z : Bool) : Prop where
  rd : rdS b S = some es
  isNil : aeqv false .slice b (.lit (.slice none 0 0)) S = some (bv z)
  nilEq : z = true → b = nilS
theorem SlIn.nil (S : Store) : SlIn nilS S [] true := ⟨rfl, rfl, fun _ => rfl⟩
theorem Grow.slIn {e sz : Nat} {S0 S : Store} {es : List (List AV)} {v : AV} (h : Grow e sz S0 es v S) : ∃ z, SlIn v S es z := by
  have hr := h.rd
  cases h with
  | nil => exact ⟨true, .nil _⟩
  | own ht => exact ⟨false, hr, rfl, fun h => by cases h⟩
theorem SlIn.vals {S : Store} {es : List (List AV)} (h : es ≠ []) : SlIn (.svals es) S es false := by
  cases es with
  | nil => exact absurd rfl h
  | cons a l => exact ⟨rfl, rfl, fun h => by cases h⟩
theorem SlIn.nilE {S : Store} {b : AV} {es : List (List AV)} (h : SlIn b S es true) : b = nilS ∧ es = [] := by
  have := h.nilEq rfl
  subst this
  have := h.rd
  simp [rdS] at this
  exact ⟨rfl, this⟩
theorem f311_c (b : AV) (l : Bs) (S : Store) (z : Bool) (hb : SlIn b S (byt l) z) (hn : l.length ≤ 1099511627776) {Q : AV → Store → Prop} (h : ∀ v S', Grow 5 1 S (byt l) v S' → Q v S') : ATriple PR 311 [b] S Q := by
  refine f311_ok ?_
  simp -implicitDefEqProofs only [f311_s, hb.isNil, bQ_some, condW_bv]
  cases z with
  | true =>
    obtain ⟨e1, e2⟩ := hb.nilE
    rw [if_pos rfl]
    exact dropQ_self (h _ _ (by rw [e2]; exact .nil))
  | false =>
    rw [if_neg (by decide)]
    refine clone_core (by omega) hb.rd (by simp [byt]) (by simp; omega) (by simp; omega) fun v S' hg => ?_
    exact dropQ_self (h _ _ hg)
theorem f230_c (b : AV) (l : List Ver) (S : Store) (z : Bool) (hb : SlIn b S (l.map Ver.cs) z) (hn : l.length ≤ 1099511627) {Q : AV → Store → Prop} (h : ∀ v S', Grow 112 8 S (l.map Ver.cs) v S' → Q v S') : ATriple PR 230 [b] S Q := by
  refine f230_ok ?_
  simp -implicitDefEqProofs only [f230_s, hb.isNil, bQ_some, condW_bv]
  cases z with
  | true =>
    obtain ⟨e1, e2⟩ := hb.nilE
    rw [if_pos rfl]
    exact dropQ_self (h _ _ (by rw [e2]; exact .nil))
  | false =>
    rw [if_neg (by decide)]
    refine clone_core (by omega) hb.rd (by simp) (by simp; omega) (by simp; omega) fun v S' hg => ?_
    exact dropQ_self (h _ _ hg)
theorem f182_c (b : AV) (es : List (List AV)) (S : Store) (z : Bool) (hb : SlIn b S es z) (hl : ∀ c ∈ es, c.length = 4) (hn : es.length ≤ 1099511627) {Q : AV → Store → Prop} (h : ∀ v S', Grow 26 4 S es v S' → Q v S') : ATriple PR 182 [b] S Q := by
  refine f182_ok ?_
  simp -implicitDefEqProofs only [f182_s, hb.isNil, bQ_some, condW_bv]
  cases z with
  | true =>
    obtain ⟨e1, e2⟩ := hb.nilE
    rw [if_pos rfl]
    exact dropQ_self (h _ _ (by rw [e2]; exact .nil))
  | false =>
    rw [if_neg (by decide)]
    refine clone_core (by omega) hb.rd hl (by omega) (by omega) fun v S' hg => ?_
    exact dropQ_self (h _ _ hg)
theorem f67_c (b : AV) (es : List (List AV)) (S : Store) (z : Bool) (hb : SlIn b S es z) (hl : ∀ c ∈ es, c.length = 1) (hn : es.length ≤ 1099511627) {Q : AV → Store → Prop} (h : ∀ v S', Grow 9 1 S es v S' → Q v S') : ATriple PR 67 [b] S Q := by
  refine f67_ok ?_
  simp -implicitDefEqProofs only [f67_s, hb.isNil, bQ_some, condW_bv]
  cases z with
  | true =>
    obtain ⟨e1, e2⟩ := hb.nilE
    rw [if_pos rfl]
    exact dropQ_self (h _ _ (by rw [e2]; exact .nil))
  | false =>
    rw [if_neg (by decide)]
    refine clone_core (by omega) hb.rd hl (by omega) (by omega) fun v S' hg => ?_
    exact dropQ_self (h _ _ hg)
theorem f68_c (b : AV) (es : List (List AV)) (S : Store) (z : Bool) (hb : SlIn b S es z) (hl : ∀ c ∈ es, c.length = 1) (hn : es.length ≤ 1099511627) {Q : AV → Store → Prop} (h : ∀ v S', Grow 140 1 S es v S' → Q v S') : ATriple PR 68 [b] S Q := by
  refine f68_ok ?_
  simp -implicitDefEqProofs only [f68_s, hb.isNil, bQ_some, condW_bv]
  cases z with
  | true =>
    obtain ⟨e1, e2⟩ := hb.nilE
    rw [if_pos rfl]
    exact dropQ_self (h _ _ (by rw [e2]; exact .nil))
  | false =>
    rw [if_neg (by decide)]
    refine clone_core (by omega) hb.rd hl (by omega) (by omega) fun v S' hg => ?_
    exact dropQ_self (h _ _ hg)
end Go.Du
namespace Go.Du
open Go
set_option maxRecDepth 1000000
section
open Go.Proofs
variable {S : Store} {Q : QT} {K : AK} {t0 t1 t2 t3 t4 t5 t6 t7 t8 t9 t10 t11 t13 t14 t15 t16 t22 t23 : AV}
def f318_s (t0 : AV) (S : Store) (Q : QT) : Prop := ATriple PR 311 [t0] S fun t4 S_1 => bQ (abld [nilS, iv 0] [(0, 1, t4)]) fun t5 => newW (boxR false 447 t5) S_1 fun t6 S_2 => dropQ Q t6 S_2
theorem f318_ok : f318_s t0 S Q → ATriple PR 318 [t0] S Q := fun h => pF (fn := Tryz.f318) (.two (rg 1 0 0) (.two (rg 5 10 0) (.nil))) h
noncomputable def f319_c1 : Code := (cl (cr (bodyOf Tryz.f319)))
noncomputable def f319_c2 : Code := (restOf f319_c1 0)
def f319_L1 (K : AK) (t0 : AV) (S : Store) : Prop := AI PR none 67 [.code f319_c1, .inScope f319_c1] K (ofL [(0, t0)]) S
def f319_G1_0 (K : AK) (t0 t3 t4 : AV) (S : Store) : Prop := AI PR none 67 [.code f319_c2, .inScope f319_c1] K (ofL [(0, t0), (3, t3), (4, t4)]) S
def f319_g1_0 (K : AK) (t0 t3 t4 : AV) (S : Store) : Prop := bQ (abi .eql t4 (iv 9)) fun t13 => condW t13 (ATriple PR 426 [t0, iv 2] S fun t15 S_1 => K .ret (ofL [(2, iv 0)]) S_1) (bQ (anil t0) fun t19 => bQ (padd t19 0) fun t20 => bQ (ldv false 1 t20 S) fun t21 => bQ (aln .slice t21 S) fun t22 => bQ (abi .eql t4 t22) fun t23 => condW t23 (ATriple PR 426 [t0, iv 3] S fun t25 S_2 => K .ret (ofL [(2, iv 0)]) S_2) (bQ (anil t0) fun t27 => bQ (padd t27 0) fun t28 => bQ (ldv false 1 t28 S) fun t29 => bQ (ixA 1 t29 t4 S) fun t31 => bQ (ldv false 1 t31 S) fun t32 => bQ (abi .and t32 (uv 127)) fun t35 => bQ (acv (.int .i64) t35 S) fun t36 => bQ (abi .mul (iv 7) t4) fun t38 => bQ (abi .shl t36 t38) fun t39 => bQ (abi .or t3 t39) fun t40 => bQ (abi .add t4 (iv 1)) fun t42 => bQ (abi .geq t32 (uv 128)) fun t44 => condW t44 (f319_G1_0 K t0 t40 t42 S) (bQ (abi .geq t40 (iv 4611686018427387904)) fun t46 => gdQ t46 false (some t32) fun t48 => gdQ t46 false (abi .eql t48 (uv 0)) fun t49 => gdQ t46 false (some t49) fun t50 => gdQ t50 true (some t42) fun t51 => gdQ t50 true (abi .gtr t51 (iv 1)) fun t52 => gdQ t46 false (apick t50 t52 (bv false)) fun t53 => bQ (apick t46 (bv true) t53) fun t54 => condW t54 (ATriple PR 426 [t0, iv 2] S fun t56 S_3 => K .ret (ofL [(2, iv 0)]) S_3) (bQ (anil t0) fun t59 => bQ (padd t59 0) fun t60 => bQ (ldv false 1 t60 S) fun t61 => bQ (sliceV 1 t61 (some t42) none none S) fun t63 => bQ (anil t0) fun t64 => bQ (padd t64 0) fun t65 => thenS (stv 1 t65 t63 S) fun _ S_4 => K .ret (ofL [(2, t40)]) S_4))))
theorem f319_G1_0_pt : f319_g1_0 K t0 t3 t4 S → f319_G1_0 K t0 t3 t4 S := fun h => pS (.two (.nil) (.two (.one (.two (rg 3 0 0) (.two (.two (rg 2 2 0) (.two (rg 1 0 0) (.nil))) (.two (rg 8 0 0) (.two (.two (rg 2 2 0) (.two (rg 1 0 0) (.nil))) (.nil)))))) (.two (rg 8 0 0) (.two (rg 9 0 0) (.two (rg 3 0 0) (.two (.two (rg 2 0 0) (.two (.nil) (.nil))) (.two (.two (rg 10 0 0) (.two (.two (rg 2 2 0) (.two (rg 1 0 0) (.nil))) (.nil))) (.two (rg 10 512 0) (.two (rg 2 0 0) (.nil)))))))))) [0, 3, 4] [2] h
def f319_l1 (K : AK) (t0 : AV) (S : Store) : Prop := bQ (anil t0) fun t7 => bQ (padd t7 1) fun t8 => bQ (ldv false 1 t8 S) fun t9 => bQ (abi .neq t9 (iv 0)) fun t10 => condW t10 (K .ret (ofL [(2, iv 0)]) S) (f319_g1_0 K t0 (iv 0) (iv 0) S)
theorem f319_L1_pt : f319_l1 K t0 S → f319_L1 K t0 S := fun h => pS (.two (rg 2 0 0) (.two (.two (rg 5 0 0) (.two (.two (rg 1 0 0) (.nil)) (.nil))) (.two (.nil) (.two (.one (.two (rg 3 0 0) (.two (.two (rg 2 2 0) (.two (rg 1 0 0) (.nil))) (.two (rg 8 0 0) (.two (.two (rg 2 2 0) (.two (rg 1 0 0) (.nil))) (.nil)))))) (.two (rg 8 0 0) (.two (rg 9 0 0) (.two (rg 3 0 0) (.two (.two (rg 2 0 0) (.two (.nil) (.nil))) (.two (.two (rg 10 0 0) (.two (.two (rg 2 2 0) (.two (rg 1 0 0) (.nil))) (.nil))) (.two (rg 10 512 0) (.two (rg 2 0 0) (.nil)))))))))))) [0, 3, 4] [2] h
noncomputable def f319_K1 (Q : QT) : AK := (retK PR Tryz.f319 (dropQ Q))
def f319_K1_ret (Q : QT) (t2 : AV) (S : Store) : Prop := dropQ Q t2 S
theorem f319_K1_ret_pt : f319_K1_ret Q t2 S → f319_K1 Q .ret (ofL [(2, t2)]) S := castP (by kernel_rfl)
def f319_s (t0 : AV) (S : Store) (Q : QT) : Prop := f319_L1 (f319_K1 Q) t0 S
theorem f319_ok : f319_s t0 S Q → ATriple PR 319 [t0] S Q := fun h => pF (fn := Tryz.f319) (.two (rg 1 0 0) (.loop [0])) h
attribute [irreducible] f319_L1 f319_G1_0 f319_K1
def f321_s (t0 t1 : AV) (S : Store) (Q : QT) : Prop := ATriple PR 319 [t0] S fun t8 S_1 => bQ (anil t0) fun t11 => bQ (padd t11 1) fun t12 => bQ (ldv false 1 t12 S_1) fun t13 => bQ (abi .neq t13 (iv 0)) fun t14 => condW t14 (dropQ Q (.lit (.string ⟨#[]⟩)) S_1) (bQ (abi .gtr t8 t1) fun t18 => condW t18 (ATriple PR 426 [t0, iv 5] S_1 fun t20 S_2 => dropQ Q (.lit (.string ⟨#[]⟩)) S_2) (bQ (anil t0) fun t24 => bQ (padd t24 0) fun t25 => bQ (ldv false 1 t25 S_1) fun t26 => bQ (aln .slice t26 S_1) fun t27 => bQ (abi .gtr t8 t27) fun t28 => condW t28 (ATriple PR 426 [t0, iv 3] S_1 fun t30 S_3 => dropQ Q (.lit (.string ⟨#[]⟩)) S_3) (bQ (anil t0) fun t32 => bQ (padd t32 0) fun t33 => bQ (ldv false 1 t33 S_1) fun t34 => bQ (sliceV 1 t34 none (some t8) none S_1) fun t36 => bQ (acv .bytes t36 S_1) fun t37 => bQ (anil t0) fun t40 => bQ (padd t40 0) fun t41 => bQ (ldv false 1 t41 S_1) fun t42 => bQ (sliceV 1 t42 (some t8) none none S_1) fun t44 => bQ (anil t0) fun t45 => bQ (padd t45 0) fun t46 => thenS (stv 1 t46 t44 S_1) fun _ S_4 => dropQ Q t37 S_4)))
theorem f321_ok : f321_s t0 t1 S Q → ATriple PR 321 [t0, t1] S Q := fun h => pF (fn := Tryz.f321) (.two (rg 1 0 0) (.two (rg 3 2 0) (.two (.one (.two (rg 6 0 0) (.two (.two (rg 1 0 0) (.nil)) (.two (rg 4 0 0) (.two (.two (rg 2 2 0) (.two (rg 1 0 0) (.nil))) (.two (rg 8 0 0) (.two (.two (rg 2 2 0) (.two (rg 1 0 0) (.nil))) (.nil)))))))) (.two (rg 8 0 0) (.two (rg 10 512 0) (.two (rg 2 0 0) (.nil))))))) h
def f320_s (t0 : AV) (S : Store) (Q : QT) : Prop := bQ (anil t0) fun t4 => bQ (padd t4 1) fun t5 => bQ (ldv false 1 t5 S) fun t6 => dropQ Q t6 S
theorem f320_ok : f320_s t0 S Q → ATriple PR 320 [t0] S Q := fun h => pF (fn := Tryz.f320) (.two (rg 1 0 0) (.two (rg 5 0 0) (.nil))) h
noncomputable def f177_a1 : Ann := .two (rg 1 0 0) (.two (rg 3 2 0) (.two (.two (rg 3 0 0) (.one (.loop [0, 9, 10, 11]))) (.two (rg 2 0 0) (.nil))))
noncomputable def f177_c1 : Code := (cl (cl (cr (cl (cr (cr (bodyOf Tryz.f177)))))))
noncomputable def f177_a2 : Ann := .two (rg 1 0 0) (.two (.two (.nil) (.nil)) (.two (.one (.two (rg 3 0 0) (.two (.two (rg 3 0 0) (.one (.loop [0, 6, 9, 10, 11]))) (rg 6 16 8)))) (rg 2 0 0)))
noncomputable def f177_c2 : Code := (cl (cl (cr (cl (cr (cl (cl (cr (cr (cl (cl (cr (cl (cr (cr (bodyOf Tryz.f177))))))))))))))))
noncomputable def f177_c3 : Code := (cr (cr (cl (cl (cr (cr (cl (cl (cr (cl (cr (cr (bodyOf Tryz.f177)))))))))))))
noncomputable def f177_c4 : Code := (cr (cr (cr (cl (cl (cr (cl (cr (cr (bodyOf Tryz.f177))))))))))
noncomputable def f177_a5 : Ann := (ar (ar (ar f177_a2)))
noncomputable def f177_c5 : Code := (cr (cr (cr (bodyOf Tryz.f177))))
def f177_L1 (K : AK) (t0 t9 t10 t11 : AV) (S : Store) : Prop := AI PR none 34 [.code f177_c1, .inLoop f177_c1] K (ofL [(0, t0), (9, t9), (10, t10), (11, t11)]) S
def f177_L2 (K : AK) (t0 t6 t9 t10 t11 : AV) (S : Store) : Prop := AI PR none 34 [.code f177_c2, .inLoop f177_c2] K (ofL [(0, t0), (6, t6), (9, t9), (10, t10), (11, t11)]) S
def f177_l2 (K : AK) (t0 t6 t9 t10 t11 : AV) (S : Store) : Prop := bQ (abi .geq t6 (iv 128)) fun t18 => condW t18 (bQ (acv (.int .u8) t6 S) fun t23 => bQ (abi .or t23 (uv 128)) fun t24 => bQ (frzOf (bslR true 1 5 1 1 1 [(0, t24)])) fun t25 => apW (some (5, 1, 1, .slice)) t0 t25 S fun t26 S_1 => bQ (abi .shr t6 (.lit (.int .u64 7))) fun t20 => f177_L2 K t26 t20 t9 t10 t11 S_1) (K (.exit 2) (ofL [(0, t0), (6, t6), (9, t9), (10, t10), (11, t11)]) S)
theorem f177_L2_pt : f177_l2 K t0 t6 t9 t10 t11 S → f177_L2 K t0 t6 t9 t10 t11 S := fun h => pL (.two (.two (rg 2 0 0) (.two (.nil) (.nil))) (.two (.one (rg 7 32 16)) (rg 3 0 0))) [0, 6, 9, 10, 11] [0, 6, 9, 10, 11] h
noncomputable def f177_K1 (K : AK) : AK := (AK.block 2 (AK.andThen (fun st S => W PR none 34 f177_c3 ((ar (ar (al (al (ar (ar f177_a2))))))) (AK.block 1 (AK.andThen (fun st S => W PR none 34 f177_c4 f177_a5 (AK.andThen (fun st S => AI PR none 34 [.code f177_c1, .inLoop f177_c1] K (mask [0, 9, 10, 11] st) S) (mskK [0] K)) st S) (AK.andThen (fun st S => AI PR none 34 [.code f177_c1, .inLoop f177_c1] K (mask [0, 9, 10, 11] st) S) (mskK [0] K)))) st S) (AK.block 1 (AK.andThen (fun st S => W PR none 34 f177_c4 f177_a5 (AK.andThen (fun st S => AI PR none 34 [.code f177_c1, .inLoop f177_c1] K (mask [0, 9, 10, 11] st) S) (mskK [0] K)) st S) (AK.andThen (fun st S => AI PR none 34 [.code f177_c1, .inLoop f177_c1] K (mask [0, 9, 10, 11] st) S) (mskK [0] K))))))
def f177_K1_e2 (K : AK) (t0 t6 t9 t10 t11 : AV) (S : Store) : Prop := bQ (acv (.int .u8) t6 S) fun t29 => bQ (frzOf (bslR true 1 5 1 1 1 [(0, t29)])) fun t30 => apW (some (5, 1, 1, .slice)) t0 t30 S fun t31 S_1 => bQ (abi .add t11 (iv 1)) fun t32 => f177_L1 K t31 t9 t10 t32 S_1
theorem f177_K1_e2_pt : f177_K1_e2 K t0 t6 t9 t10 t11 S → f177_K1 K (.exit 2) (ofL [(0, t0), (6, t6), (9, t9), (10, t10), (11, t11)]) S := castP (by kernel_rfl)
def f177_l1 (K : AK) (t0 t9 t10 t11 : AV) (S : Store) : Prop := bQ (abi .lss t11 t10) fun t12 => condW t12 (bQ (ixA 1 t9 t11 S) fun t13 => bQ (ldv false 1 t13 S) fun t14 => bQ (amax t14 (iv 0)) fun t16 => f177_L2 (f177_K1 K) t0 t16 t9 t10 t11 S) (K (.exit 0) (ofL [(0, t0)]) S)
theorem f177_L1_pt : f177_l1 K t0 t9 t10 t11 S → f177_L1 K t0 t9 t10 t11 S := fun h => pL f177_a2 [0, 9, 10, 11] [0] h
noncomputable def f177_K2 (Q : QT) : AK := (AK.block 0 (AK.andThen (fun st S => W PR none 34 f177_c5 ((ar (ar (ar f177_a1)))) (retK PR Tryz.f177 (dropQ Q)) st S) (retK PR Tryz.f177 (dropQ Q))))
def f177_K2_e0 (Q : QT) (t0 : AV) (S : Store) : Prop := dropQ Q t0 S
theorem f177_K2_e0_pt : f177_K2_e0 Q t0 S → f177_K2 Q (.exit 0) (ofL [(0, t0)]) S := castP (by kernel_rfl)
def f177_s (t0 t1 : AV) (S : Store) (Q : QT) : Prop := ATriple PR 311 [t0] S fun t8 S_1 => bQ (aln .slice t1 S_1) fun t10 => f177_L1 (f177_K2 Q) t8 t1 t10 (iv 0) S_1
theorem f177_ok : f177_s t0 t1 S Q → ATriple PR 177 [t0, t1] S Q := fun h => pF (fn := Tryz.f177) f177_a1 h
attribute [irreducible] f177_L1 f177_L2 f177_K1 f177_K2
noncomputable def f180_a1 : Ann := .two (rg 1 0 0) (.two (rg 3 2 0) (.two (.two (rg 3 0 0) (.one (.loop [0, 9, 10, 11]))) (.two (rg 2 0 0) (.nil))))
noncomputable def f180_c1 : Code := (cl (cl (cr (cl (cr (cr (bodyOf Tryz.f180)))))))
noncomputable def f180_c2 : Code := (cr (cr (cr (bodyOf Tryz.f180))))
def f180_L1 (K : AK) (t0 t9 t10 t11 : AV) (S : Store) : Prop := AI PR none 24 [.code f180_c1, .inLoop f180_c1] K (ofL [(0, t0), (9, t9), (10, t10), (11, t11)]) S
def f180_l1 (K : AK) (t0 t9 t10 t11 : AV) (S : Store) : Prop := bQ (abi .lss t11 t10) fun t12 => condW t12 (bQ (ixA 1 t9 t11 S) fun t13 => bQ (ldv false 1 t13 S) fun t14 => bQ (aln .str t14 S) fun t17 => bQ (frzOf (bslR true 1 3 1 1 1 [(0, t17)])) fun t18 => ATriple PR 177 [t0, t18] S fun t19 S_1 => apW (some (5, 1, 1, .str)) t19 t14 S_1 fun t21 S_2 => bQ (abi .add t11 (iv 1)) fun t22 => f180_L1 K t21 t9 t10 t22 S_2) (K (.exit 0) (ofL [(0, t0)]) S)
theorem f180_L1_pt : f180_l1 K t0 t9 t10 t11 S → f180_L1 K t0 t9 t10 t11 S := fun h => pL (.two (rg 1 0 0) (.two (.two (.nil) (.nil)) (.two (.one (.two (rg 3 0 0) (rg 8 80 8))) (rg 2 0 0)))) [0, 9, 10, 11] [0] h
noncomputable def f180_K1 (Q : QT) : AK := (AK.block 0 (AK.andThen (fun st S => W PR none 24 f180_c2 ((ar (ar (ar f180_a1)))) (retK PR Tryz.f180 (dropQ Q)) st S) (retK PR Tryz.f180 (dropQ Q))))
def f180_K1_e0 (Q : QT) (t0 : AV) (S : Store) : Prop := dropQ Q t0 S
theorem f180_K1_e0_pt : f180_K1_e0 Q t0 S → f180_K1 Q (.exit 0) (ofL [(0, t0)]) S := castP (by kernel_rfl)
def f180_s (t0 t1 : AV) (S : Store) (Q : QT) : Prop := ATriple PR 311 [t0] S fun t8 S_1 => bQ (aln .slice t1 S_1) fun t10 => f180_L1 (f180_K1 Q) t8 t1 t10 (iv 0) S_1
theorem f180_ok : f180_s t0 t1 S Q → ATriple PR 180 [t0, t1] S Q := fun h => pF (fn := Tryz.f180) f180_a1 h
attribute [irreducible] f180_L1 f180_K1
def f482_s (t0 : AV) (S : Store) (Q : QT) : Prop := bQ (ixA 1 t0 (iv 0) S) fun t4 => bQ (ldv false 1 t4 S) fun t5 => bQ (acv (.int .i64) t5 S) fun t6 => bQ (ixA 1 t0 (iv 1) S) fun t8 => bQ (ldv false 1 t8 S) fun t9 => bQ (acv (.int .i64) t9 S) fun t10 => bQ (abi .shl t10 (.lit (.int .u64 8))) fun t11 => bQ (abi .or t6 t11) fun t12 => bQ (ixA 1 t0 (iv 2) S) fun t14 => bQ (ldv false 1 t14 S) fun t15 => bQ (acv (.int .i64) t15 S) fun t16 => bQ (abi .shl t16 (.lit (.int .u64 16))) fun t17 => bQ (abi .or t12 t17) fun t18 => bQ (ixA 1 t0 (iv 3) S) fun t20 => bQ (ldv false 1 t20 S) fun t21 => bQ (acv (.int .i64) t21 S) fun t22 => bQ (abi .shl t22 (.lit (.int .u64 24))) fun t23 => bQ (abi .or t18 t23) fun t24 => dropQ Q t24 S
theorem f482_ok : f482_s t0 S Q → ATriple PR 482 [t0] S Q := fun h => pF (fn := Tryz.f482) (.two (rg 1 0 0) (.two (.reg [0, 1, 3, 7, 0, 16, 48, 112, 240, 511, 0, 1024, 3072, 7168, 15360, 32767, 0, 65536, 196608, 458752, 983040, 2097151, 4194303] (pq 0 23 <| .done)) (.nil))) h
noncomputable def f315_a1 : Ann := .two (rg 1 0 0) (.two (rg 1 0 0) (.two (.two (rg 3 0 0) (.one (.loop [3, 6, 7, 8]))) (.two (rg 4 0 0) (.nil))))
noncomputable def f315_c1 : Code := (cl (cl (cr (cl (cr (cr (bodyOf Tryz.f315)))))))
noncomputable def f315_a2 : Ann := .two (rg 1 0 0) (.two (.two (.nil) (.nil)) (.two (.one (.two (rg 3 0 0) (.two (rg 5 0 0) (.two (rg 1 0 0) (.one (.loop [3, 6, 7, 8, 16])))))) (rg 2 0 0)))
noncomputable def f315_c2 : Code := (cl (cl (cr (cr (cr (cl (cl (cr (cr (cl (cl (cr (cl (cr (cr (bodyOf Tryz.f315))))))))))))))))
noncomputable def f315_c3 : Code := (cr (cr (cr (cl (cl (cr (cl (cr (cr (bodyOf Tryz.f315))))))))))
noncomputable def f315_c4 : Code := (cr (cr (cr (bodyOf Tryz.f315))))
def f315_L1 (K : AK) (t3 t6 t7 t8 : AV) (S : Store) : Prop := AI PR none 30 [.code f315_c1, .inLoop f315_c1] K (ofL [(3, t3), (6, t6), (7, t7), (8, t8)]) S
def f315_L2 (K : AK) (t3 t6 t7 t8 t16 : AV) (S : Store) : Prop := AI PR none 30 [.code f315_c2, .inLoop f315_c2] K (ofL [(3, t3), (6, t6), (7, t7), (8, t8), (16, t16)]) S
def f315_l2 (K : AK) (t3 t6 t7 t8 t16 : AV) (S : Store) : Prop := bQ (abi .lss t16 (iv 8)) fun t17 => condW t17 (bQ (abi .shr t3 (.lit (.int .u64 1))) fun t19 => bQ (abi .and t3 (.lit (.int .u32 1))) fun t21 => bQ (aun .neg t21) fun t22 => bQ (abi .and (.lit (.int .u32 3988292384)) t22) fun t23 => bQ (abi .xor t19 t23) fun t24 => bQ (abi .add t16 (iv 1)) fun t25 => f315_L2 K t24 t6 t7 t8 t25 S) (K (.exit 2) (ofL [(3, t3), (6, t6), (7, t7), (8, t8)]) S)
theorem f315_L2_pt : f315_l2 K t3 t6 t7 t8 t16 S → f315_L2 K t3 t6 t7 t8 t16 S := fun h => pL (.two (rg 1 0 0) (.two (.two (.nil) (.nil)) (.two (.one (rg 8 0 0)) (rg 2 0 0)))) [3, 6, 7, 8, 16] [3, 6, 7, 8] h
noncomputable def f315_K1 (K : AK) : AK := (AK.block 2 (AK.block 1 (AK.andThen (fun st S => W PR none 30 f315_c3 ((ar (ar (ar f315_a2)))) (AK.andThen (fun st S => AI PR none 30 [.code f315_c1, .inLoop f315_c1] K (mask [3, 6, 7, 8] st) S) (mskK [3] K)) st S) (AK.andThen (fun st S => AI PR none 30 [.code f315_c1, .inLoop f315_c1] K (mask [3, 6, 7, 8] st) S) (mskK [3] K)))))
def f315_K1_e2 (K : AK) (t3 t6 t7 t8 : AV) (S : Store) : Prop := bQ (abi .add t8 (iv 1)) fun t26 => f315_L1 K t3 t6 t7 t26 S
theorem f315_K1_e2_pt : f315_K1_e2 K t3 t6 t7 t8 S → f315_K1 K (.exit 2) (ofL [(3, t3), (6, t6), (7, t7), (8, t8)]) S := castP (by kernel_rfl)
def f315_l1 (K : AK) (t3 t6 t7 t8 : AV) (S : Store) : Prop := bQ (abi .lss t8 t7) fun t9 => condW t9 (bQ (ixA 1 t6 t8 S) fun t10 => bQ (ldv false 1 t10 S) fun t11 => bQ (acv (.int .u32) t11 S) fun t14 => bQ (abi .xor t3 t14) fun t15 => f315_L2 (f315_K1 K) t15 t6 t7 t8 (iv 0) S) (K (.exit 0) (ofL [(3, t3)]) S)
theorem f315_L1_pt : f315_l1 K t3 t6 t7 t8 S → f315_L1 K t3 t6 t7 t8 S := fun h => pL f315_a2 [3, 6, 7, 8] [3] h
noncomputable def f315_K2 (Q : QT) : AK := (AK.block 0 (AK.andThen (fun st S => W PR none 30 f315_c4 ((ar (ar (ar f315_a1)))) (retK PR Tryz.f315 (dropQ Q)) st S) (retK PR Tryz.f315 (dropQ Q))))
def f315_K2_e0 (Q : QT) (t3 : AV) (S : Store) : Prop := bQ (aun .xor t3) fun t28 => bQ (acv (.int .i64) t28 S) fun t29 => dropQ Q t29 S
theorem f315_K2_e0_pt : f315_K2_e0 Q t3 S → f315_K2 Q (.exit 0) (ofL [(3, t3)]) S := castP (by kernel_rfl)
def f315_s (t0 : AV) (S : Store) (Q : QT) : Prop := bQ (aln .slice t0 S) fun t7 => f315_L1 (f315_K2 Q) (.lit (.int .u32 4294967295)) t0 t7 (iv 0) S
theorem f315_ok : f315_s t0 S Q → ATriple PR 315 [t0] S Q := fun h => pF (fn := Tryz.f315) f315_a1 h
attribute [irreducible] f315_L1 f315_L2 f315_K1 f315_K2
def f425_s (t0 : AV) (S : Store) (Q : QT) : Prop := bQ (aln .slice t0 S) fun t7 => bQ (abi .lss t7 (iv 8)) fun t8 => gdQ t8 false (some t0) fun t10 => gdQ t8 false (aln .slice t10 S) fun t11 => gdQ t8 false (abi .sub t11 (iv 8)) fun t12 => gdQ t8 false (some t0) fun t13 => gdE t8 false (fun K => ATriple PR 482 [t13] S K) S fun t14 S_1 => gdQ t8 false (abi .lss t12 t14) fun t15 => bQ (apick t8 (bv true) t15) fun t16 => condW t16 (dropQ Q (.tuple [nilS, nilS, iv 3]) S_1) (ATriple PR 482 [t0] S_1 fun t18 S_2 => bQ (abi .add (iv 8) t18) fun t19 => bQ (sliceV 1 t0 (some (iv 8)) (some t19) none S_2) fun t22 => bQ (sliceV 1 t0 (some (iv 4)) none none S_2) fun t25 => ATriple PR 315 [t22] S_2 fun t23 S_3 => ((sliceV 1 t0 (some (iv 4)) none none S_3 = some t25) ∧ True) ∧ ATriple PR 482 [t25] S_3 fun t26 S_4 => bQ (abi .neq t23 t26) fun t27 => condW t27 (bQ (sliceV 1 t0 (some t19) none none S_4) fun t30 => dropQ Q (.tuple [nilS, t30, iv 4]) S_4) (bQ (sliceV 1 t0 (some (iv 8)) (some t19) none S_4) fun t33 => bQ (sliceV 1 t0 (some t19) none none S_4) fun t37 => ATriple PR 311 [t33] S_4 fun t34 S_5 => ((sliceV 1 t0 (some t19) none none S_5 = some t37) ∧ True) ∧ dropQ Q (.tuple [t34, t37, iv 0]) S_5))
theorem f425_ok : f425_s t0 S Q → ATriple PR 425 [t0] S Q := fun h => pF (fn := Tryz.f425) (.two (rg 3 0 0) (.two (.two (rg 11 256 0) (.two (.two (rg 3 0 0) (.nil)) (.nil))) (.two (rg 4 2 0) (.two (.two (.reg [0, 0, 3, 7, 0, 16, 63, 127] (pq 0 3 <| pq 4 2 <| .e 3 [(5, false)] <| .e 6 [] <| .q 7 false <| .done)) (.two (.two (.reg [0, 0, 3, 0, 15, 31] (pq 0 6 <| .done)) (.nil)) (.nil))) (.two (.reg [0, 0, 3, 7, 0, 0, 48, 15, 255, 511] (pq 0 3 <| pq 4 3 <| .e 3 [(6, false)] <| pq 7 3 <| .done)) (.nil)))))) h
def f314_s (t0 t1 : AV) (S : Store) (Q : QT) : Prop := bQ (acv (.int .u8) t1 S) fun t7 => bQ (abi .shr t1 (.lit (.int .u64 8))) fun t9 => bQ (acv (.int .u8) t9 S) fun t10 => bQ (abi .shr t1 (.lit (.int .u64 16))) fun t12 => bQ (acv (.int .u8) t12 S) fun t13 => bQ (abi .shr t1 (.lit (.int .u64 24))) fun t15 => bQ (acv (.int .u8) t15 S) fun t16 => bQ (frzOf (bslR true 1 5 1 4 4 [(0, t7), (1, t10), (2, t13), (3, t16)])) fun t17 => apW (some (5, 1, 1, .slice)) t0 t17 S fun t18 S_1 => dropQ Q t18 S_1
theorem f314_ok : f314_s t0 t1 S Q → ATriple PR 314 [t0, t1] S Q := fun h => pF (fn := Tryz.f314) (.two (rg 1 0 0) (.two (rg 15 8192 4096) (.nil))) h
noncomputable def f179_a1 : Ann := .two (rg 1 0 0) (.two (rg 1 0 0) (.two (.two (rg 3 0 0) (.one (.loop [3, 6, 7, 8]))) (.two (rg 2 0 0) (.nil))))
noncomputable def f179_c1 : Code := (cl (cl (cr (cl (cr (cr (bodyOf Tryz.f179)))))))
noncomputable def f179_c2 : Code := (cr (cr (cr (bodyOf Tryz.f179))))
def f179_L1 (K : AK) (t3 t6 t7 t8 : AV) (S : Store) : Prop := AI PR none 23 [.code f179_c1, .inLoop f179_c1] K (ofL [(3, t3), (6, t6), (7, t7), (8, t8)]) S
def f179_l1 (K : AK) (t3 t6 t7 t8 : AV) (S : Store) : Prop := bQ (abi .lss t8 t7) fun t9 => condW t9 (bQ (ixA 1 t6 t8 S) fun t10 => bQ (ldv false 1 t10 S) fun t11 => bQ (aln .slice t11 S) fun t14 => ATriple PR 314 [t3, t14] S fun t15 S_1 => ATriple PR 315 [t11] S_1 fun t17 S_2 => ATriple PR 314 [t15, t17] S_2 fun t18 S_3 => apW (some (5, 1, 1, .slice)) t18 t11 S_3 fun t20 S_4 => bQ (abi .add t8 (iv 1)) fun t21 => f179_L1 K t20 t6 t7 t21 S_4) (K (.exit 0) (ofL [(3, t3)]) S)
theorem f179_L1_pt : f179_l1 K t3 t6 t7 t8 S → f179_L1 K t3 t6 t7 t8 S := fun h => pL (.two (rg 1 0 0) (.two (.two (.nil) (.nil)) (.two (.one (.two (rg 3 0 0) (rg 10 360 0))) (rg 2 0 0)))) [3, 6, 7, 8] [3] h
noncomputable def f179_K1 (Q : QT) : AK := (AK.block 0 (AK.andThen (fun st S => W PR none 23 f179_c2 ((ar (ar (ar f179_a1)))) (retK PR Tryz.f179 (dropQ Q)) st S) (retK PR Tryz.f179 (dropQ Q))))
def f179_K1_e0 (Q : QT) (t3 : AV) (S : Store) : Prop := dropQ Q t3 S
theorem f179_K1_e0_pt : f179_K1_e0 Q t3 S → f179_K1 Q (.exit 0) (ofL [(3, t3)]) S := castP (by kernel_rfl)
def f179_s (t0 : AV) (S : Store) (Q : QT) : Prop := bQ (aln .slice t0 S) fun t7 => f179_L1 (f179_K1 Q) nilS t0 t7 (iv 0) S
theorem f179_ok : f179_s t0 S Q → ATriple PR 179 [t0] S Q := fun h => pF (fn := Tryz.f179) f179_a1 h
attribute [irreducible] f179_L1 f179_K1
noncomputable def f424_c1 : Code := (cl (cl (bodyOf Tryz.f424)))
def f424_L1 (K : AK) (t0 t1 : AV) (S : Store) : Prop := AI PR none 21 [.code f424_c1, .inLoop f424_c1] K (ofL [(0, t0), (1, t1)]) S
def f424_l1 (K : AK) (t0 t1 : AV) (S : Store) : Prop := bQ (ldv false 1 t1 S) fun t7 => ATriple PR 425 [t7] S fun t8 S_1 => bQ (aext t8 0) fun t9 => bQ (aext t8 1) fun t10 => bQ (aext t8 2) fun t11 => bQ (abi .neq t11 (iv 0)) fun t13 => gdQ t13 false (some t0) fun t15 => gdQ t13 false (some t9) fun t16 => gdE t13 false (fun K => callW PR t15 [t16] S_1 K) S_1 fun t17 S_2 => gdQ t13 false (aun .not t17) fun t18 => bQ (apick t13 (bv true) t18) fun t19 => condW t19 (K .ret (ofL []) S_2) (thenS (stv 1 t1 t10 S_2) fun _ S_3 => f424_L1 K t0 t1 S_3)
theorem f424_L1_pt : f424_l1 K t0 t1 S → f424_L1 K t0 t1 S := fun h => pL (.one (.two (rg 9 2 0) (.two (.two (rg 8 32 0) (.two (.nil) (.nil))) (rg 2 2 0)))) [0, 1] [] h
noncomputable def f424_K1 (Q : QT) : AK := (AK.block 0 (retK PR Tryz.f424 (dropQ Q)))
def f424_K1_ret (Q : QT) (S : Store) : Prop := dropQ Q (.tuple []) S
theorem f424_K1_ret_pt : f424_K1_ret Q S → f424_K1 Q .ret (ofL []) S := castP (by kernel_rfl)
def f424_s (t0 t1 : AV) (S : Store) (Q : QT) : Prop := f424_L1 (f424_K1 Q) t0 t1 S
theorem f424_ok : f424_s t0 t1 S Q → ATriple PR 424 [t0, t1] S Q := fun h => pF (fn := Tryz.f424) (.one (.loop [0, 1])) h
attribute [irreducible] f424_L1 f424_K1
def f317_s (t0 : AV) (S : Store) (Q : QT) : Prop := newW (boxR false 129 t0) S fun t1 S_1 => dropQ Q (.func (.func 424) [] [t1]) S_1
theorem f317_ok : f317_s t0 S Q → ATriple PR 317 [t0] S Q := fun h => pF (fn := Tryz.f317) (.two (rg 2 1 0) (.two (rg 2 0 0) (.nil))) h
noncomputable def f184_a1 : Ann := .two (rg 2 0 0) (.two (rg 1 1 0) (.two (rg 2 3 0) (.two (.two (rg 2 2 0) (.one (.loop [4, 5, 8]))) (.two (.reg [0, 0, 1, 7] (pq 0 4 <| .done)) (.nil)))))
noncomputable def f184_c1 : Code := (cl (cl (cr (cl (cr (cr (cr (bodyOf Tryz.f184))))))))
noncomputable def f184_c2 : Code := (cr (cl (cr (cl (cr (cr (cr (bodyOf Tryz.f184))))))))
noncomputable def f184_a2 : Ann := rg 1 0 0
noncomputable def f184_a3 : Ann := .one (.two (rg 5 24 4) (rg 6 32 0))
noncomputable def f184_c3 : Code := (cr (cr (cr (cr (bodyOf Tryz.f184)))))
def f184_R1 (K : AK) (t4 t5 t8 : AV) (S : Store) : Prop := AWp PR none 21 (.rangeFunc (.tmp 8) #[9] f184_c1 f184_c2) K (ofL [(4, t4), (5, t5), (8, t8)]) S
noncomputable def f184_rec1 (t4 t5 t8 : AV) (fn : FuncId) (D : Nat) (s : LoopState) (q : Option Code) : AObj := .lrec s q (ofL [(4, t4), (5, t5), (8, t8)]) 21 fn #[9] f184_c1 f184_c2 D
theorem f184_R1_pt {K : AK} {t4 t5 t8 : AV} {S : Store} {f : FuncId} {cap : List AV} (hg : t8 = .func (.func f) [] cap) (hb : hasBody PR f = true)
    (h : ∀ t fn D, S t = none → ATriple PR f (.yield t :: cap) (S.set t (f184_rec1 t4 t5 t8 fn D .ready none)) fun _ S' => ∃ state pend, S' t = some (f184_rec1 t4 t5 t8 fn D state pend) ∧ state ≠ .busy ∧ endK (mskK [4, 5] K) pend (ofL [(4, t4), (5, t5), (8, t8)]) (S'.erase t)) : f184_R1 K t4 t5 t8 S :=
  AI.mskK (AWp_range PR_nong rfl (by simpa [aev, ofL] using hg) hb h)
theorem f184_Y1_pt {t : Nat} {x : AV} {K : QT} {fn : FuncId} {D : Nat} {t4 t5 t8 : AV} {S : Store} (hS : S t = some (f184_rec1 t4 t5 t8 fn D .ready none)) (h : ∀ l, AWp PR (some l) 21 f184_c1 (asgK PR l 21 f184_c2 t (f184_rec1 t4 t5 t8 fn D) K) (ofL ((9, x) :: [(4, t4), (5, t5), (8, t8)])) S) : callW PR (.yield t) [x] S K := yield_pt hS h
def f184_as1 (l : Nat) (K : AK) (t9 t4 t5 t8 : AV) (S : Store) : Prop := K .normal (ofL [(4, t4), (5, t5), (6, t9)]) S
theorem f184_as1_pt {l : Nat} {K : AK} {t9 t4 t5 t8 : AV} {S : Store} (h : f184_as1 l K t9 t4 t5 t8 S) : AWp PR (some l) 21 f184_c1 K (ofL [(9, t9), (4, t4), (5, t5), (8, t8)]) S := by
  refine AI.mskK (ml := [4, 5, 6]) (W_ok PR_nong PR_mixed f184_c1 f184_a2 _ _ _ (by kernel_rfl) ?_)
  rw [show f184_as1 l K t9 t4 t5 t8 S = W PR (some l) 21 f184_c1 f184_a2 (mskK [4, 5, 6] K) (ofL [(9, t9), (4, t4), (5, t5), (8, t8)]) S by kernel_rfl] at h
  assumption
def f184_bo1 (l : Nat) (K : AK) (t4 t5 t6 : AV) (S : Store) : Prop := bQ (ldv false 1 t4 S) fun t10 => bQ (frzOf (bslR true 1 129 1 1 1 [(0, t6)])) fun t12 => apW (some (129, 1, 24, .slice)) t10 t12 S fun t13 S_1 => thenS (stv 1 t4 t13 S_1) fun _ S_2 => bQ (ldv false 1 t5 S_2) fun t14 => bQ (aln .slice t6 S_2) fun t16 => bQ (abi .add (iv 8) t16) fun t17 => bQ (abi .add t14 t17) fun t18 => thenS (stv 1 t5 t18 S_2) fun _ S_3 => K .normal (ofL []) S_3
theorem f184_bo1_pt {l : Nat} {K : AK} {t4 t5 t6 : AV} {S : Store} (h : f184_bo1 l K t4 t5 t6 S) : AWp PR (some l) 21 f184_c2 K (ofL [(4, t4), (5, t5), (6, t6)]) S := by
  refine AI.mskK (ml := []) (W_ok PR_nong PR_mixed f184_c2 f184_a3 _ _ _ (by kernel_rfl) ?_)
  rw [show f184_bo1 l K t4 t5 t6 S = W PR (some l) 21 f184_c2 f184_a3 (mskK [] K) (ofL [(4, t4), (5, t5), (6, t6)]) S by kernel_rfl] at h
  assumption
noncomputable def f184_K1 (Q : QT) : AK := (AK.block 0 (AK.andThen (fun st S => W PR none 21 f184_c3 ((ar (ar (ar (ar f184_a1))))) (retK PR Tryz.f184 (dropQ Q)) st S) (retK PR Tryz.f184 (dropQ Q))))
def f184_K1_normal (Q : QT) (t4 t5 : AV) (S : Store) : Prop := bQ (ldv false 1 t4 S) fun t19 => bQ (ldv false 1 t5 S) fun t20 => dropQ Q (.tuple [t19, t20]) S
theorem f184_K1_normal_pt : f184_K1_normal Q t4 t5 S → f184_K1 Q .normal (ofL [(4, t4), (5, t5)]) S := castP (by kernel_rfl)
def f184_s (t0 : AV) (S : Store) (Q : QT) : Prop := newW (some (.own (.row 265 1 [[nilS]]) fun u => .ptr u 0 0)) S fun t4 S_1 => newW (some (.own (.row 3 1 [[iv 0]]) fun u => .ptr u 0 0)) S_1 fun t5 S_2 => thenS (stv 1 t5 (iv 0) S_2) fun _ S_3 => ATriple PR 317 [t0] S_3 fun t8 S_4 => f184_R1 (f184_K1 Q) t4 t5 t8 S_4
theorem f184_ok : f184_s t0 S Q → ATriple PR 184 [t0] S Q := fun h => pF (fn := Tryz.f184) f184_a1 h
attribute [irreducible] f184_R1 f184_rec1 f184_K1
noncomputable def f452_a1 : Ann := .two (rg 3 1 0) (.two (.two (rg 3 0 0) (.two (.two (rg 4 2 0) (.nil)) (.nil))) (.two (rg 1 0 0) (.two (.two (rg 4 0 0) (.one (.loop [0, 2, 5, 13, 14, 15]))) (.two (.reg [0, 1, 3, 7, 0, 16, 15, 127, 255] (pq 0 6 <| .e 6 [(5, false)] <| pq 7 2 <| .done)) (.nil)))))
noncomputable def f452_c1 : Code := (cl (cl (cr (cl (cr (cr (cr (bodyOf Tryz.f452))))))))
noncomputable def f452_c2 : Code := (cr (cr (cr (cr (bodyOf Tryz.f452)))))
def f452_L1 (K : AK) (t0 t2 t5 t13 t14 t15 : AV) (S : Store) : Prop := AI PR none 31 [.code f452_c1, .inLoop f452_c1] K (ofL [(0, t0), (2, t2), (5, t5), (13, t13), (14, t14), (15, t15)]) S
def f452_l1 (K : AK) (t0 t2 t5 t13 t14 t15 : AV) (S : Store) : Prop := bQ (abi .lss t15 t14) fun t16 => condW t16 (bQ (ixA 1 t13 t15 S) fun t17 => bQ (ldv false 1 t17 S) fun t18 => bQ (abi .shl t5 (.lit (.int .u64 8))) fun t20 => bQ (acv (.int .u64) t18 S) fun t22 => bQ (abi .or t20 t22) fun t23 => bQ (abi .add t15 (iv 1)) fun t24 => f452_L1 K t0 t2 t23 t13 t14 t24 S) (K (.exit 0) (ofL [(0, t0), (2, t2), (5, t5)]) S)
theorem f452_L1_pt : f452_l1 K t0 t2 t5 t13 t14 t15 S → f452_L1 K t0 t2 t5 t13 t14 t15 S := fun h => pL (.two (rg 1 0 0) (.two (.two (.nil) (.nil)) (.two (.one (.two (rg 3 0 0) (rg 6 0 0))) (rg 2 0 0)))) [0, 2, 5, 13, 14, 15] [0, 2, 5] h
noncomputable def f452_K1 (Q : QT) : AK := (AK.block 0 (AK.andThen (fun st S => W PR none 31 f452_c2 ((ar (ar (ar (ar f452_a1))))) (retK PR Tryz.f452 (dropQ Q)) st S) (retK PR Tryz.f452 (dropQ Q))))
def f452_K1_e0 (Q : QT) (t0 t2 t5 : AV) (S : Store) : Prop := bQ (abi .xor t5 (.lit (.int .u64 9223372036854775808))) fun t26 => bQ (acv (.int .i64) t26 S) fun t27 => bQ (abld [bv false, iv 0, .lit (.string ⟨#[]⟩)] [(1, 1, t27)]) fun t28 => bQ (sliceV 1 t0 (some (iv 8)) none none S) fun t30 => thenS (stv 3 t2 t28 S) fun _ S_1 => ((sliceV 1 t0 (some (iv 8)) none none S_1 = some t30) ∧ True) ∧ retW (resC (ldv true 3 t2 S_1) (((some []).map ((iv 0) :: ·)).map (t30 :: ·))) (dropQ Q) S_1
theorem f452_K1_e0_pt : f452_K1_e0 Q t0 t2 t5 S → f452_K1 Q (.exit 0) (ofL [(0, t0), (2, t2), (5, t5)]) S := castP (by kernel_rfl)
def f452_s (t0 : AV) (S : Store) (Q : QT) : Prop := newW (some (.own (.row 296 3 [[bv false, iv 0, .lit (.string ⟨#[]⟩)]]) fun u => .ptr u 0 0)) S fun t2 S_1 => bQ (aln .slice t0 S_1) fun t9 => bQ (abi .lss t9 (iv 8)) fun t10 => condW t10 (bQ (abld [bv false, iv 0, .lit (.string ⟨#[]⟩)] []) fun t11 => thenS (stv 3 t2 t11 S_1) fun _ S_2 => retW (resC (ldv true 3 t2 S_2) (((some []).map ((iv 3) :: ·)).map (nilS :: ·))) (dropQ Q) S_2) (bQ (sliceV 1 t0 none (some (iv 8)) none S_1) fun t13 => bQ (aln .slice t13 S_1) fun t14 => f452_L1 (f452_K1 Q) t0 t2 (.lit (.int .u64 0)) t13 t14 (iv 0) S_1)
theorem f452_ok : f452_s t0 S Q → ATriple PR 452 [t0] S Q := fun h => pF (fn := Tryz.f452) f452_a1 h
attribute [irreducible] f452_L1 f452_K1
noncomputable def f453_c1 : Code := (cl (cr (bodyOf Tryz.f453)))
noncomputable def f453_c2 : Code := (restOf f453_c1 0)
def f453_L1 (K : AK) (t0 t2 : AV) (S : Store) : Prop := AI PR none 54 [.code f453_c1, .inScope f453_c1] K (ofL [(0, t0), (2, t2)]) S
def f453_G1_0 (K : AK) (t0 t2 t5 t6 : AV) (S : Store) : Prop := AI PR none 54 [.code f453_c2, .inScope f453_c1] K (ofL [(0, t0), (2, t2), (5, t5), (6, t6)]) S
def f453_g1_0 (K : AK) (t0 t2 t5 t6 : AV) (S : Store) : Prop := bQ (aln .slice t0 S) fun t9 => bQ (abi .eql t6 t9) fun t10 => condW t10 (bQ (abld [bv false, iv 0, .lit (.string ⟨#[]⟩)] []) fun t11 => thenS (stv 3 t2 t11 S) fun _ S_1 => K .ret (ofL [(2, t2), (3, nilS), (4, iv 3)]) S_1) (bQ (ixA 1 t0 t6 S) fun t14 => bQ (ldv false 1 t14 S) fun t15 => bQ (abi .neq t15 (uv 0)) fun t16 => condW t16 (bQ (ixA 1 t0 t6 S) fun t20 => bQ (ldv false 1 t20 S) fun t21 => bQ (frzOf (bslR true 1 5 1 1 1 [(0, t21)])) fun t22 => apW (some (5, 1, 1, .slice)) t5 t22 S fun t23 S_2 => bQ (abi .add t6 (iv 1)) fun t25 => f453_G1_0 K t0 t2 t23 t25 S_2) (bQ (abi .add t6 (iv 1)) fun t27 => bQ (aln .slice t0 S) fun t29 => bQ (abi .eql t27 t29) fun t30 => condW t30 (bQ (abld [bv false, iv 0, .lit (.string ⟨#[]⟩)] []) fun t31 => thenS (stv 3 t2 t31 S) fun _ S_3 => K .ret (ofL [(2, t2), (3, nilS), (4, iv 3)]) S_3) (bQ (abi .add t6 (iv 1)) fun t34 => bQ (ixA 1 t0 t34 S) fun t35 => bQ (ldv false 1 t35 S) fun t36 => bQ (abi .eql t36 (uv 255)) fun t38 => condW t38 (bQ (frzOf (bslR true 1 5 1 1 1 [(0, uv 0)])) fun t40 => apW (some (5, 1, 1, .slice)) t5 t40 S fun t41 S_4 => bQ (abi .add t6 (iv 2)) fun t43 => f453_G1_0 K t0 t2 t41 t43 S_4) (bQ (abi .eql t36 (uv 1)) fun t45 => condW t45 (bQ (acv .bytes t5 S) fun t47 => bQ (abld [bv false, iv 0, .lit (.string ⟨#[]⟩)] [(0, 1, bv true), (2, 1, t47)]) fun t48 => bQ (abi .add t6 (iv 2)) fun t51 => bQ (sliceV 1 t0 (some t51) none none S) fun t52 => thenS (stv 3 t2 t48 S) fun _ S_5 => ((sliceV 1 t0 (some t51) none none S_5 = some t52) ∧ True) ∧ K .ret (ofL [(2, t2), (3, t52), (4, iv 0)]) S_5) (bQ (abld [bv false, iv 0, .lit (.string ⟨#[]⟩)] []) fun t53 => thenS (stv 3 t2 t53 S) fun _ S_6 => K .ret (ofL [(2, t2), (3, nilS), (4, iv 2)]) S_6)))))
theorem f453_G1_0_pt : f453_g1_0 K t0 t2 t5 t6 S → f453_G1_0 K t0 t2 t5 t6 S := fun h => pS (.two (.nil) (.two (.two (rg 4 0 0) (.two (.two (rg 4 2 0) (.nil)) (.nil))) (.two (.two (rg 5 0 0) (.two (.two (rg 8 64 32) (.two (rg 3 0 0) (.nil))) (.nil))) (.two (.two (rg 5 0 0) (.two (.two (rg 4 2 0) (.nil)) (.nil))) (.two (.two (rg 5 0 0) (.one (.two (rg 2 0 0) (.two (.two (rg 4 4 2) (.two (rg 3 0 0) (.nil))) (.two (rg 2 0 0) (.two (.two (.reg [0, 1, 3, 0, 0, 16, 56, 7, 255, 511] (pq 0 7 <| .e 7 [(6, false)] <| pq 8 2 <| .done)) (.nil)) (.nil))))))) (.two (rg 4 2 0) (.nil))))))) [0, 2, 5, 6] [2, 3, 4] h
def f453_l1 (K : AK) (t0 t2 : AV) (S : Store) : Prop := f453_g1_0 K t0 t2 nilS (iv 0) S
theorem f453_L1_pt : f453_l1 K t0 t2 S → f453_L1 K t0 t2 S := fun h => pS (.two (rg 1 0 0) (.two (rg 1 0 0) (.two (.nil) (.two (.two (rg 4 0 0) (.two (.two (rg 4 2 0) (.nil)) (.nil))) (.two (.two (rg 5 0 0) (.two (.two (rg 8 64 32) (.two (rg 3 0 0) (.nil))) (.nil))) (.two (.two (rg 5 0 0) (.two (.two (rg 4 2 0) (.nil)) (.nil))) (.two (.two (rg 5 0 0) (.one (.two (rg 2 0 0) (.two (.two (rg 4 4 2) (.two (rg 3 0 0) (.nil))) (.two (rg 2 0 0) (.two (.two (.reg [0, 1, 3, 0, 0, 16, 56, 7, 255, 511] (pq 0 7 <| .e 7 [(6, false)] <| pq 8 2 <| .done)) (.nil)) (.nil))))))) (.two (rg 4 2 0) (.nil))))))))) [0, 2, 5, 6] [2, 3, 4] h
noncomputable def f453_K1 (Q : QT) : AK := (retK PR Tryz.f453 (dropQ Q))
def f453_K1_ret (Q : QT) (t2 t3 t4 : AV) (S : Store) : Prop := retW (resC (ldv true 3 t2 S) (((some []).map (t4 :: ·)).map (t3 :: ·))) (dropQ Q) S
theorem f453_K1_ret_pt : f453_K1_ret Q t2 t3 t4 S → f453_K1 Q .ret (ofL [(2, t2), (3, t3), (4, t4)]) S := castP (by kernel_rfl)
def f453_s (t0 : AV) (S : Store) (Q : QT) : Prop := newW (some (.own (.row 296 3 [[bv false, iv 0, .lit (.string ⟨#[]⟩)]]) fun u => .ptr u 0 0)) S fun t2 S_1 => f453_L1 (f453_K1 Q) t0 t2 S_1
theorem f453_ok : f453_s t0 S Q → ATriple PR 453 [t0] S Q := fun h => pF (fn := Tryz.f453) (.two (rg 3 1 0) (.loop [0, 2])) h
attribute [irreducible] f453_L1 f453_G1_0 f453_K1
noncomputable def f381_a1 : Ann := .two (rg 2 0 0) (.two (rg 1 0 0) (.two (.one (.loop [0, 4])) (.two (rg 3 0 0) (.nil))))
noncomputable def f381_c1 : Code := (cl (cl (cl (cr (cr (bodyOf Tryz.f381))))))
noncomputable def f381_a2 : Ann := .two (.two (rg 3 0 0) (.two (.nil) (.nil))) (.one (.two (.reg [0, 0, 2, 0, 9, 31, 63] (pq 0 3 <| .e 3 [(2, false)] <| .e 4 [(2, false)] <| pq 5 2 <| .done)) (.join [4, 5, 6, 7] (.two (rg 3 0 0) (.one (.two (rg 2 0 0) (.two (rg 9 66 0) (.two (rg 2 0 0) (.two (rg 9 66 0) (.nil))))))) (.two (.two (rg 2 0 0) (.two (.two (rg 3 0 0) (.nil)) (.nil))) (rg 7 8 4)))))
noncomputable def f381_c2 : Code := (cr (cr (cl (cr (cl (cl (cl (cr (cr (bodyOf Tryz.f381))))))))))
noncomputable def f381_c3 : Code := (cr (cr (cr (bodyOf Tryz.f381))))
def f381_L1 (K : AK) (t0 t4 : AV) (S : Store) : Prop := AI PR none 42 [.code f381_c1, .inLoop f381_c1] K (ofL [(0, t0), (4, t4)]) S
def f381_J2 (K : AK) (t4 t5 t6 t7 : AV) (S : Store) : Prop := AWp PR none 42 f381_c2 (AK.block 1 (AK.andThen (fun st S => AI PR none 42 [.code f381_c1, .inLoop f381_c1] K (mask [0, 4] st) S) (mskK [2, 3, 4] K))) (ofL [(4, t4), (5, t5), (6, t6), (7, t7)]) S
def f381_j2 (K : AK) (t4 t5 t6 t7 : AV) (S : Store) : Prop := bQ (abi .neq t7 (iv 0)) fun t34 => condW t34 (K .ret (ofL [(2, nilS), (3, t7), (4, t4)]) S) (bQ (ldv true 3 t5 S) fun t37 => bQ (frzOf (bslR true 3 296 3 1 1 [(0, t37)])) fun t38 => apW (some (296, 3, 32, .slice)) t4 t38 S fun t39 S_1 => f381_L1 K t6 t39 S_1)
theorem f381_J2_pt : f381_j2 K t4 t5 t6 t7 S → f381_J2 K t4 t5 t6 t7 S := fun h => pJ ((ar (ar (al (ar f381_a2))))) h
def f381_l1 (K : AK) (t0 t4 : AV) (S : Store) : Prop := bQ (aln .slice t0 S) fun t9 => bQ (abi .gtr t9 (iv 0)) fun t10 => condW t10 (bQ (abld [bv false, iv 0, .lit (.string ⟨#[]⟩)] []) fun t11 => bQ (sliceV 1 t0 (some (iv 1)) none none S) fun t13 => newW (some (.own (.row 296 3 [[bv false, iv 0, .lit (.string ⟨#[]⟩)]]) fun u => .ptr u 0 0)) S fun t5 S_1 => ((sliceV 1 t0 (some (iv 1)) none none S_1 = some t13) ∧ True) ∧ thenS (stv 3 t5 t11 S_1) fun _ S_2 => ((sliceV 1 t0 (some (iv 1)) none none S_2 = some t13) ∧ True) ∧ bQ (ixA 1 t0 (iv 0) S_2) fun t15 => bQ (ldv false 1 t15 S_2) fun t16 => bQ (abi .eql t16 (uv 1)) fun t18 => condW t18 (ATriple PR 452 [t13] S_2 fun t21 S_3 => bQ (aext t21 0) fun t22 => bQ (aext t21 1) fun t23 => bQ (aext t21 2) fun t24 => thenS (stv 3 t5 t22 S_3) fun _ S_4 => f381_J2 K t4 t5 t23 t24 S_4) (bQ (abi .eql t16 (uv 2)) fun t26 => condW t26 (ATriple PR 453 [t13] S_2 fun t29 S_5 => bQ (aext t29 0) fun t30 => bQ (aext t29 1) fun t31 => bQ (aext t29 2) fun t32 => thenS (stv 3 t5 t30 S_5) fun _ S_6 => f381_J2 K t4 t5 t31 t32 S_6) (f381_J2 K t4 t5 t13 (iv 2) S_2))) (K (.exit 0) (ofL [(2, .poison), (3, .poison), (4, t4)]) S)
theorem f381_L1_pt : f381_l1 K t0 t4 S → f381_L1 K t0 t4 S := fun h => pL f381_a2 [0, 4] [2, 3, 4] h
noncomputable def f381_K1 (Q : QT) : AK := (AK.block 0 (AK.andThen (fun st S => W PR none 42 f381_c3 ((ar (ar (ar f381_a1)))) (retK PR Tryz.f381 (dropQ Q)) st S) (retK PR Tryz.f381 (dropQ Q))))
def f381_K1_e0 (Q : QT) (t2 t3 t4 : AV) (S : Store) : Prop := dropQ Q (.tuple [t4, iv 0]) S
theorem f381_K1_e0_pt : f381_K1_e0 Q t2 t3 t4 S → f381_K1 Q (.exit 0) (ofL [(2, t2), (3, t3), (4, t4)]) S := castP (by kernel_rfl)
def f381_s (t0 : AV) (S : Store) (Q : QT) : Prop := f381_L1 (f381_K1 Q) t0 nilS S
theorem f381_ok : f381_s t0 S Q → ATriple PR 381 [t0] S Q := fun h => pF (fn := Tryz.f381) f381_a1 h
attribute [irreducible] f381_L1 f381_J2 f381_K1
noncomputable def f413_a1 : Ann := .two (rg 1 0 0) (.two (rg 1 0 0) (.two (.two (rg 3 0 0) (.one (.loop [3, 9, 10, 11]))) (.two (rg 2 0 0) (.nil))))
noncomputable def f413_c1 : Code := (cl (cl (cr (cl (cr (cr (bodyOf Tryz.f413)))))))
noncomputable def f413_a2 : Ann := .two (rg 1 0 0) (.two (.two (.nil) (.nil)) (.two (.one (.two (rg 4 12 0) (.two (.two (rg 2 0 0) (.two (.two (rg 4 4 2) (.two (.two (rg 4 0 0) (.one (.loop [3, 5, 9, 10, 11, 22, 23]))) (.two (rg 4 4 2) (.nil)))) (.nil))) (.two (rg 4 4 2) (.two (rg 5 0 0) (.two (rg 1 0 0) (.one (.loop [3, 7, 8, 9, 10, 11])))))))) (rg 2 0 0)))
noncomputable def f413_c2 : Code := (cl (cl (cr (cl (cr (cl (cr (cl (cr (cl (cl (cr (cr (cl (cl (cr (cl (cr (cr (bodyOf Tryz.f413))))))))))))))))))))
noncomputable def f413_c3 : Code := (cr (cr (cl (cr (cl (cr (cl (cl (cr (cr (cl (cl (cr (cl (cr (cr (bodyOf Tryz.f413)))))))))))))))))
noncomputable def f413_c4 : Code := (cr (cr (cl (cl (cr (cr (cl (cl (cr (cl (cr (cr (bodyOf Tryz.f413)))))))))))))
noncomputable def f413_a5 : Ann := (ar (ar (al (al (ar (ar f413_a2))))))
noncomputable def f413_c5 : Code := (cr (cr (cr (cl (cl (cr (cl (cr (cr (bodyOf Tryz.f413))))))))))
noncomputable def f413_a6 : Ann := (ar (ar (ar f413_a2)))
noncomputable def f413_c6 : Code := (cl (cl (cr (cr (cr (cr (cr (cl (cl (cr (cr (cl (cl (cr (cl (cr (cr (bodyOf Tryz.f413))))))))))))))))))
noncomputable def f413_c7 : Code := (cr (cr (cr (bodyOf Tryz.f413))))
def f413_L1 (K : AK) (t3 t9 t10 t11 : AV) (S : Store) : Prop := AI PR none 66 [.code f413_c1, .inLoop f413_c1] K (ofL [(3, t3), (9, t9), (10, t10), (11, t11)]) S
def f413_L2 (K : AK) (t3 t5 t9 t10 t11 t22 t23 : AV) (S : Store) : Prop := AI PR none 66 [.code f413_c2, .inLoop f413_c2] K (ofL [(3, t3), (5, t5), (9, t9), (10, t10), (11, t11), (22, t22), (23, t23)]) S
def f413_l2 (K : AK) (t3 t5 t9 t10 t11 t22 t23 : AV) (S : Store) : Prop := bQ (abi .lss t23 t22) fun t24 => condW t24 (bQ (padd t5 2) fun t27 => bQ (ldv false 1 t27 S) fun t28 => bQ (aixS t28 t23) fun t30 => bQ (frzOf (bslR true 1 5 1 1 1 [(0, t30)])) fun t31 => apW (some (5, 1, 1, .slice)) t3 t31 S fun t32 S_1 => bQ (padd t5 2) fun t33 => bQ (ldv false 1 t33 S_1) fun t34 => bQ (aixS t34 t23) fun t36 => bQ (abi .eql t36 (uv 0)) fun t37 => condW t37 (bQ (frzOf (bslR true 1 5 1 1 1 [(0, uv 255)])) fun t39 => apW (some (5, 1, 1, .slice)) t32 t39 S_1 fun t40 S_2 => bQ (abi .add t23 (iv 1)) fun t41 => f413_L2 K t40 t5 t9 t10 t11 t22 t41 S_2) (bQ (abi .add t23 (iv 1)) fun t41_1 => f413_L2 K t32 t5 t9 t10 t11 t22 t41_1 S_1)) (K (.exit 2) (ofL [(3, t3), (9, t9), (10, t10), (11, t11)]) S)
theorem f413_L2_pt : f413_l2 K t3 t5 t9 t10 t11 t22 t23 S → f413_L2 K t3 t5 t9 t10 t11 t22 t23 S := fun h => pL (.two (rg 1 0 0) (.two (.two (.nil) (.nil)) (.two (.one (.two (rg 2 0 0) (.two (rg 8 64 32) (.two (rg 5 0 0) (.two (rg 4 4 2) (.nil)))))) (rg 2 0 0)))) [3, 5, 9, 10, 11, 22, 23] [3, 9, 10, 11] h
noncomputable def f413_K1 (K : AK) : AK := (AK.block 2 (AK.andThen (fun st S => W PR none 66 f413_c3 ((ar (ar (al (ar (al (ar (al (al (ar (ar f413_a2))))))))))) (AK.andThen (fun st S => W PR none 66 f413_c4 f413_a5 (AK.block 1 (AK.andThen (fun st S => W PR none 66 f413_c5 f413_a6 (AK.andThen (fun st S => AI PR none 66 [.code f413_c1, .inLoop f413_c1] K (mask [3, 9, 10, 11] st) S) (mskK [3] K)) st S) (AK.andThen (fun st S => AI PR none 66 [.code f413_c1, .inLoop f413_c1] K (mask [3, 9, 10, 11] st) S) (mskK [3] K)))) st S) (AK.block 1 (AK.andThen (fun st S => W PR none 66 f413_c5 f413_a6 (AK.andThen (fun st S => AI PR none 66 [.code f413_c1, .inLoop f413_c1] K (mask [3, 9, 10, 11] st) S) (mskK [3] K)) st S) (AK.andThen (fun st S => AI PR none 66 [.code f413_c1, .inLoop f413_c1] K (mask [3, 9, 10, 11] st) S) (mskK [3] K))))) st S) (AK.andThen (fun st S => W PR none 66 f413_c4 f413_a5 (AK.block 1 (AK.andThen (fun st S => W PR none 66 f413_c5 f413_a6 (AK.andThen (fun st S => AI PR none 66 [.code f413_c1, .inLoop f413_c1] K (mask [3, 9, 10, 11] st) S) (mskK [3] K)) st S) (AK.andThen (fun st S => AI PR none 66 [.code f413_c1, .inLoop f413_c1] K (mask [3, 9, 10, 11] st) S) (mskK [3] K)))) st S) (AK.block 1 (AK.andThen (fun st S => W PR none 66 f413_c5 f413_a6 (AK.andThen (fun st S => AI PR none 66 [.code f413_c1, .inLoop f413_c1] K (mask [3, 9, 10, 11] st) S) (mskK [3] K)) st S) (AK.andThen (fun st S => AI PR none 66 [.code f413_c1, .inLoop f413_c1] K (mask [3, 9, 10, 11] st) S) (mskK [3] K)))))))
def f413_K1_e2 (K : AK) (t3 t9 t10 t11 : AV) (S : Store) : Prop := bQ (frzOf (bslR true 1 5 1 2 2 [(0, uv 0), (1, uv 1)])) fun t43 => apW (some (5, 1, 1, .slice)) t3 t43 S fun t44 S_1 => bQ (abi .add t11 (iv 1)) fun t64 => f413_L1 K t44 t9 t10 t64 S_1
theorem f413_K1_e2_pt : f413_K1_e2 K t3 t9 t10 t11 S → f413_K1 K (.exit 2) (ofL [(3, t3), (9, t9), (10, t10), (11, t11)]) S := castP (by kernel_rfl)
def f413_L3 (K : AK) (t3 t7 t8 t9 t10 t11 : AV) (S : Store) : Prop := AI PR none 66 [.code f413_c6, .inLoop f413_c6] K (ofL [(3, t3), (7, t7), (8, t8), (9, t9), (10, t10), (11, t11)]) S
def f413_l3 (K : AK) (t3 t7 t8 t9 t10 t11 : AV) (S : Store) : Prop := bQ (abi .geq t8 (iv 0)) fun t53 => condW t53 (bQ (abi .mul (iv 8) t8) fun t59 => bQ (abi .shr t7 t59) fun t60 => bQ (acv (.int .u8) t60 S) fun t61 => bQ (frzOf (bslR true 1 5 1 1 1 [(0, t61)])) fun t62 => apW (some (5, 1, 1, .slice)) t3 t62 S fun t63 S_1 => bQ (abi .sub t8 (iv 1)) fun t55 => f413_L3 K t63 t7 t55 t9 t10 t11 S_1) (K (.exit 4) (ofL [(3, t3), (9, t9), (10, t10), (11, t11)]) S)
theorem f413_L3_pt : f413_l3 K t3 t7 t8 t9 t10 t11 S → f413_L3 K t3 t7 t8 t9 t10 t11 S := fun h => pL (.two (.two (rg 2 0 0) (.two (.nil) (.nil))) (.two (.one (rg 9 128 64)) (rg 3 0 0))) [3, 7, 8, 9, 10, 11] [3, 9, 10, 11] h
noncomputable def f413_K2 (K : AK) : AK := (AK.block 4 (AK.block 1 (AK.andThen (fun st S => W PR none 66 f413_c5 f413_a6 (AK.andThen (fun st S => AI PR none 66 [.code f413_c1, .inLoop f413_c1] K (mask [3, 9, 10, 11] st) S) (mskK [3] K)) st S) (AK.andThen (fun st S => AI PR none 66 [.code f413_c1, .inLoop f413_c1] K (mask [3, 9, 10, 11] st) S) (mskK [3] K)))))
def f413_K2_e4 (K : AK) (t3 t9 t10 t11 : AV) (S : Store) : Prop := bQ (abi .add t11 (iv 1)) fun t64 => f413_L1 K t3 t9 t10 t64 S
theorem f413_K2_e4_pt : f413_K2_e4 K t3 t9 t10 t11 S → f413_K2 K (.exit 4) (ofL [(3, t3), (9, t9), (10, t10), (11, t11)]) S := castP (by kernel_rfl)
def f413_l1 (K : AK) (t3 t9 t10 t11 : AV) (S : Store) : Prop := bQ (abi .lss t11 t10) fun t12 => condW t12 (bQ (ixA 3 t9 t11 S) fun t13 => bQ (ldv true 3 t13 S) fun t14 => newW (some (.own (.row 296 3 [[bv false, iv 0, .lit (.string ⟨#[]⟩)]]) fun u => .ptr u 0 0)) S fun t5 S_1 => thenS (stv 3 t5 t14 S_1) fun _ S_2 => bQ (padd t5 0) fun t15 => bQ (ldv false 1 t15 S_2) fun t16 => condW t16 (bQ (frzOf (bslR true 1 5 1 1 1 [(0, uv 2)])) fun t18 => apW (some (5, 1, 1, .slice)) t3 t18 S_2 fun t19 S_3 => bQ (padd t5 2) fun t20 => bQ (ldv false 1 t20 S_3) fun t21 => bQ (aln .str t21 S_3) fun t22 => f413_L2 (f413_K1 K) t19 t5 t9 t10 t11 t22 (iv 0) S_3) (bQ (frzOf (bslR true 1 5 1 1 1 [(0, uv 1)])) fun t46 => apW (some (5, 1, 1, .slice)) t3 t46 S_2 fun t47 S_4 => bQ (padd t5 1) fun t48 => bQ (ldv false 1 t48 S_4) fun t49 => bQ (acv (.int .u64) t49 S_4) fun t50 => bQ (abi .xor t50 (.lit (.int .u64 9223372036854775808))) fun t51 => f413_L3 (f413_K2 K) t47 t51 (iv 7) t9 t10 t11 S_4)) (K (.exit 0) (ofL [(3, t3)]) S)
theorem f413_L1_pt : f413_l1 K t3 t9 t10 t11 S → f413_L1 K t3 t9 t10 t11 S := fun h => pL f413_a2 [3, 9, 10, 11] [3] h
noncomputable def f413_K3 (Q : QT) : AK := (AK.block 0 (AK.andThen (fun st S => W PR none 66 f413_c7 ((ar (ar (ar f413_a1)))) (retK PR Tryz.f413 (dropQ Q)) st S) (retK PR Tryz.f413 (dropQ Q))))
def f413_K3_e0 (Q : QT) (t3 : AV) (S : Store) : Prop := dropQ Q t3 S
theorem f413_K3_e0_pt : f413_K3_e0 Q t3 S → f413_K3 Q (.exit 0) (ofL [(3, t3)]) S := castP (by kernel_rfl)
def f413_s (t0 : AV) (S : Store) (Q : QT) : Prop := bQ (aln .slice t0 S) fun t10 => f413_L1 (f413_K3 Q) nilS t0 t10 (iv 0) S
theorem f413_ok : f413_s t0 S Q → ATriple PR 413 [t0] S Q := fun h => pF (fn := Tryz.f413) f413_a1 h
attribute [irreducible] f413_L1 f413_L2 f413_K1 f413_L3 f413_K2 f413_K3
def f305_s (t0 t1 : AV) (S : Store) (Q : QT) : Prop := bQ (abi .lss t0 (iv 0)) fun t8 => gdQ t8 false (some t0) fun t10 => gdQ t8 false (abi .geq t10 (iv 4)) fun t11 => bQ (apick t8 (bv true) t11) fun t12 => condW t12 (dropQ Q (.tuple [.lit (.string ⟨#[]⟩), iv 1]) S) (bQ (aln .str t1 S) fun t15 => bQ (abi .gtr t15 (iv 40)) fun t16 => condW t16 (dropQ Q (.tuple [.lit (.string ⟨#[]⟩), iv 5]) S) (bQ (abld [bv false, iv 0, .lit (.string ⟨#[]⟩)] [(1, 1, t0)]) fun t18 => bQ (abld [bv false, iv 0, .lit (.string ⟨#[]⟩)] [(0, 1, bv true), (2, 1, t1)]) fun t20 => bQ (frzOf (bslR true 3 296 3 2 2 [(0, t18), (1, t20)])) fun t21 => ATriple PR 413 [t21] S fun t22 S_1 => bQ (acv .bytes t22 S_1) fun t23 => dropQ Q (.tuple [t23, iv 0]) S_1))
theorem f305_ok : f305_s t0 t1 S Q → ATriple PR 305 [t0, t1] S Q := fun h => pF (fn := Tryz.f305) (.two (rg 2 0 0) (.two (.one (.two (rg 7 0 0) (.two (.two (rg 2 0 0) (.nil)) (.two (rg 4 0 0) (.two (.two (rg 2 0 0) (.nil)) (.nil)))))) (.two (rg 9 32 16) (.nil)))) h
def f256_s (t0 : AV) (S : Store) (Q : QT) : Prop := bQ (frzOf (strR t0)) fun t11 => ATriple PR 381 [t11] S fun t12 S_1 => bQ (aext t12 0) fun t13 => bQ (aext t12 1) fun t14 => bQ (abi .neq t14 (iv 0)) fun t16 => condW t16 (dropQ Q (.tuple [iv 0, .lit (.string ⟨#[]⟩), t14]) S_1) (bQ (aln .slice t13 S_1) fun t19 => bQ (abi .neq t19 (iv 2)) fun t20 => gdQ t20 false (some t13) fun t22 => gdQ t20 false (ixA 3 t22 (iv 0) S_1) fun t23 => gdQ t20 false (padd t23 0) fun t24 => gdQ t20 false (ldv false 1 t24 S_1) fun t25 => bQ (apick t20 (bv true) t25) fun t26 => gdQ t26 false (some t13) fun t28 => gdQ t26 false (ixA 3 t28 (iv 1) S_1) fun t29 => gdQ t26 false (padd t29 0) fun t30 => gdQ t26 false (ldv false 1 t30 S_1) fun t31 => gdQ t26 false (aun .not t31) fun t32 => bQ (apick t26 (bv true) t32) fun t33 => condW t33 (dropQ Q (.tuple [iv 0, .lit (.string ⟨#[]⟩), iv 2]) S_1) (bQ (ixA 3 t13 (iv 0) S_1) fun t36 => bQ (padd t36 1) fun t37 => bQ (ldv false 1 t37 S_1) fun t38 => bQ (ixA 3 t13 (iv 1) S_1) fun t40 => bQ (padd t40 2) fun t41 => bQ (ldv false 1 t41 S_1) fun t42 => ATriple PR 305 [t38, t42] S_1 fun t43 S_2 => bQ (aext t43 0) fun t44 => bQ (aext t43 1) fun t45 => bQ (abi .neq t45 (iv 0)) fun t47 => gdQ t47 false (some t44) fun t49 => gdQ t47 false (some t0) fun t50 => gdQ t47 false (abi .neq t49 t50) fun t51 => bQ (apick t47 (bv true) t51) fun t52 => condW t52 (dropQ Q (.tuple [iv 0, .lit (.string ⟨#[]⟩), iv 2]) S_2) (bQ (ixA 3 t13 (iv 0) S_2) fun t54 => bQ (padd t54 1) fun t55 => bQ (ldv false 1 t55 S_2) fun t56 => bQ (ixA 3 t13 (iv 1) S_2) fun t58 => bQ (padd t58 2) fun t59 => bQ (ldv false 1 t59 S_2) fun t60 => dropQ Q (.tuple [t56, t60, iv 0]) S_2)))
theorem f256_ok : f256_s t0 S Q → ATriple PR 256 [t0] S Q := fun h => pF (fn := Tryz.f256) (.two (rg 3 0 0) (.two (rg 8 4 0) (.two (.two (rg 2 0 0) (.two (.two (rg 4 0 0) (.nil)) (.nil))) (.two (.two (rg 16 0 0) (.two (.two (rg 3 0 0) (.nil)) (.nil))) (.two (.two (.reg [0, 1, 3, 7, 0, 16, 48, 112, 255, 511, 1023, 1023, 2047, 8191] (pq 0 8 <| .e 8 [] <| pq 9 5 <| .done)) (.two (rg 7 0 0) (.two (.two (rg 3 0 0) (.nil)) (.nil)))) (.two (.reg [0, 1, 3, 7, 0, 16, 48, 112, 15, 511, 1023] (pq 0 11 <| .done)) (.nil))))))) h
def f367_s (t0 t1 t2 : AV) (S : Store) (Q : QT) : Prop := bQ (abi .geq t0 t1) fun t9 => gdQ t9 true (some t0) fun t11 => gdQ t9 true (some t2) fun t12 => gdQ t9 true (abi .leq t11 t12) fun t13 => bQ (apick t9 t13 (bv false)) fun t14 => dropQ Q t14 S
theorem f367_ok : f367_s t0 t1 t2 S Q → ATriple PR 367 [t0, t1, t2] S Q := fun h => pF (fn := Tryz.f367) (.two (rg 1 0 0) (.two (rg 9 0 0) (.nil))) h
def f368_s (t0 : AV) (S : Store) (Q : QT) : Prop := bQ (frzOf (boxR true 90 t0)) fun t1 => bQ (padd t1 0) fun t3 => bQ (ldv false 1 t3 S) fun t4 => bQ (abi .geq t4 (iv 0)) fun t5 => gdQ t5 true (padd t1 0) fun t7 => gdQ t5 true (ldv false 1 t7 S) fun t8 => gdQ t5 true (padd t1 1) fun t9 => gdQ t5 true (ldv false 1 t9 S) fun t10 => gdQ t5 true (abi .lss t8 t10) fun t11 => bQ (apick t5 t11 (bv false)) fun t12 => gdQ t12 true (padd t1 1) fun t14 => gdQ t12 true (ldv false 1 t14 S) fun t15 => gdQ t12 true (abi .leq t15 (iv 1099511627776)) fun t16 => bQ (apick t12 t16 (bv false)) fun t17 => dropQ Q t17 S
theorem f368_ok : f368_s t0 S Q → ATriple PR 368 [t0] S Q := fun h => pF (fn := Tryz.f368) (.two (rg 2 0 1) (.two (rg 16 0 0) (.nil))) h
def f234_s (t0 : AV) (S : Store) (Q : QT) : Prop := bQ (frzOf (boxR true 112 t0)) fun t1 => bQ (padd t1 0) fun t8 => bQ (ldv false 1 t8 S) fun t9 => ATriple PR 256 [t9] S fun t10 S_1 => bQ (aext t10 0) fun t11 => bQ (aext t10 1) fun t12 => bQ (aext t10 2) fun t13 => bQ (padd t1 1) fun t14 => bQ (padd t14 0) fun t15 => bQ (ldv false 1 t15 S_1) fun t16 => ATriple PR 367 [t16, iv 0, iv 15] S_1 fun t17 S_2 => gdQ t17 true (padd t1 1) fun t19 => gdQ t17 true (padd t19 1) fun t20 => gdQ t17 true (ldv false 1 t20 S_2) fun t21 => gdE t17 true (fun K => ATriple PR 367 [t21, iv 1, iv 10000] S_2 K) S_2 fun t22 S_3 => bQ (apick t17 t22 (bv false)) fun t23 => gdQ t23 true (padd t1 1) fun t25 => gdQ t23 true (padd t25 2) fun t26 => gdQ t23 true (ldv false 1 t26 S_3) fun t27 => gdE t23 true (fun K => ATriple PR 367 [t27, iv 1, iv 100000] S_3 K) S_3 fun t28 S_4 => bQ (apick t23 t28 (bv false)) fun t29 => bQ (abi .eql t13 (iv 0)) fun t31 => gdQ t31 true (some t29) fun t33 => bQ (apick t31 t33 (bv false)) fun t34 => gdQ t34 true (padd t1 4) fun t36 => gdQ t34 true (ldv true 2 t36 S_4) fun t37 => gdE t34 true (fun K => ATriple PR 368 [t37] S_4 K) S_4 fun t38 S_5 => bQ (apick t34 t38 (bv false)) fun t39 => gdQ t39 true (padd t1 6) fun t41 => gdQ t39 true (ldv false 1 t41 S_5) fun t42 => gdQ t39 true (aln .str t42 S_5) fun t43 => gdQ t39 true (abi .leq t43 (iv 200)) fun t44 => bQ (apick t39 t44 (bv false)) fun t45 => gdQ t45 true (padd t1 7) fun t47 => gdQ t45 true (ldv false 1 t47 S_5) fun t48 => gdQ t45 true (aun .not t48) fun t49 => gdQ t45 true (some t49) fun t50 => gdQ t50 false (padd t1 6) fun t51 => gdQ t50 false (ldv false 1 t51 S_5) fun t52 => gdQ t50 false (abi .eql t52 (.lit (.string ⟨#[]⟩))) fun t53 => gdQ t45 true (apick t50 (bv true) t53) fun t54 => bQ (apick t45 t54 (bv false)) fun t55 => dropQ Q t55 S_5
theorem f234_ok : f234_s t0 S Q → ATriple PR 234 [t0] S Q := fun h => pF (fn := Tryz.f234) (.two (rg 2 0 1) (.two (rg 10 4 0) (.two (rg 17 16648 0) (.two (rg 27 256 0) (.nil))))) h
def f206_s (t0 t1 : AV) (S : Store) (Q : QT) : Prop := bQ (frzOf (boxR true 112 t0)) fun t2 => bQ (frzOf (boxR true 112 t1)) fun t3 => bQ (padd t2 0) fun t5 => bQ (ldv false 1 t5 S) fun t6 => bQ (padd t3 0) fun t7 => bQ (ldv false 1 t7 S) fun t8 => bQ (padd t2 1) fun t10 => bQ (padd t10 0) fun t11 => bQ (ldv false 1 t11 S) fun t12 => bQ (padd t3 1) fun t13 => bQ (padd t13 0) fun t14 => bQ (ldv false 1 t14 S) fun t15 => bQ (padd t2 1) fun t17 => bQ (padd t17 1) fun t18 => bQ (ldv false 1 t18 S) fun t19 => bQ (padd t3 1) fun t20 => bQ (padd t20 1) fun t21 => bQ (ldv false 1 t21 S) fun t22 => bQ (padd t2 1) fun t24 => bQ (padd t24 2) fun t25 => bQ (ldv false 1 t25 S) fun t26 => bQ (padd t3 1) fun t27 => bQ (padd t27 2) fun t28 => bQ (ldv false 1 t28 S) fun t29 => bQ (padd t2 4) fun t31 => bQ (padd t31 0) fun t32 => bQ (ldv false 1 t32 S) fun t33 => bQ (padd t3 4) fun t34 => bQ (padd t34 0) fun t35 => bQ (ldv false 1 t35 S) fun t36 => ATriple PR 349 [t6, t8] S fun t9 S_1 => ((ldv false 1 t11 S_1 = some t12) ∧ (ldv false 1 t14 S_1 = some t15) ∧ (ldv false 1 t18 S_1 = some t19) ∧ (ldv false 1 t21 S_1 = some t22) ∧ (ldv false 1 t25 S_1 = some t26) ∧ (ldv false 1 t28 S_1 = some t29) ∧ (ldv false 1 t32 S_1 = some t33) ∧ (ldv false 1 t35 S_1 = some t36) ∧ True) ∧ ATriple PR 298 [t12, t15] S_1 fun t16 S_2 => ((ldv false 1 t18 S_2 = some t19) ∧ (ldv false 1 t21 S_2 = some t22) ∧ (ldv false 1 t25 S_2 = some t26) ∧ (ldv false 1 t28 S_2 = some t29) ∧ (ldv false 1 t32 S_2 = some t33) ∧ (ldv false 1 t35 S_2 = some t36) ∧ True) ∧ ATriple PR 298 [t19, t22] S_2 fun t23 S_3 => ((ldv false 1 t25 S_3 = some t26) ∧ (ldv false 1 t28 S_3 = some t29) ∧ (ldv false 1 t32 S_3 = some t33) ∧ (ldv false 1 t35 S_3 = some t36) ∧ True) ∧ ATriple PR 298 [t26, t29] S_3 fun t30 S_4 => ((ldv false 1 t32 S_4 = some t33) ∧ (ldv false 1 t35 S_4 = some t36) ∧ True) ∧ ATriple PR 298 [t33, t36] S_4 fun t37 S_5 => bQ (frzOf (bslR true 1 3 1 5 5 [(0, t9), (1, t16), (2, t23), (3, t30), (4, t37)])) fun t38 => ATriple PR 348 [t38] S_5 fun t39 S_6 => dropQ Q t39 S_6
theorem f206_ok : f206_s t0 t1 S Q → ATriple PR 206 [t0, t1] S Q := fun h => pF (fn := Tryz.f206) (.two (rg 3 0 3) (.two (.reg [0, 1, 0, 4, 15, 0, 32, 96, 0, 256, 768, 2047, 0, 4096, 12288, 0, 32768, 98304, 262143, 0, 524288, 1572864, 0, 4194304, 12582912, 33554431, 0, 67108864, 201326592, 0, 536870912, 1610612736, 4294967295, 8589934591, 17179869183, 34359738367] (pq 0 4 <| pq 5 6 <| pq 12 6 <| pq 19 6 <| pq 26 6 <| .e 4 [(7, false), (10, false), (14, false), (17, false), (21, false), (24, false), (28, false), (31, false)] <| .e 11 [(14, false), (17, false), (21, false), (24, false), (28, false), (31, false)] <| .e 18 [(21, false), (24, false), (28, false), (31, false)] <| .e 25 [(28, false), (31, false)] <| .e 32 [] <| .q 33 true <| .e 34 [] <| .q 35 false <| .done)) (.nil))) h
end
end Go.Du
namespace Go.Du
open Go
attribute [local irreducible] ATriple W evP AI
abbrev u32v (n : Int) : AV := .lit (.int .u32 n)
abbrev u64v (n : Int) : AV := .lit (.int .u64 n)
theorem cv8 (n : Nat) (S : Store) : acv (.int .u8) (iv n) S = some (uv (n % 256 : Nat)) := by
  simp only [acv, acvI, IntKind.wrap_u8, Option.some.injEq, AV.lit.injEq, Value.int.injEq, true_and]; omega
theorem cv64 (n : Nat) (h : n < 256) (S : Store) : acv (.int .i64) (uv n) S = some (iv n) := by
  rw [acvI_uv, wrap_id (by omega) (by omega)]
set_option maxRecDepth 100000 in
theorem or8 (x : Nat) (h : x < 256) : abi .or (uv x) (uv 128) = some (uv (x % 128 + 128 : Nat)) := by
  have key : ∀ x : Fin 256, IntKind.u8.wrap (BitVec.ofInt 8 (x.val : Int) ||| BitVec.ofInt 8 128).toNat = (x.val % 128 + 128 : Nat) := by decide
  have := key ⟨x, h⟩
  simp only [abi, biv, isShift, Bool.false_eq_true, if_false, if_true, biInt, Option.map_some]
  rw [show IntKind.u8.bits = 8 from rfl]
  simp only at this
  rw [this]
set_option maxRecDepth 100000 in
theorem and8 (x : Nat) (h : x < 256) : abi .and (uv x) (uv 127) = some (uv (x % 128 : Nat)) := by
  have key : ∀ x : Fin 256, IntKind.u8.wrap (BitVec.ofInt 8 (x.val : Int) &&& BitVec.ofInt 8 127).toNat = (x.val % 128 : Nat) := by decide
  have := key ⟨x, h⟩
  simp only [abi, biv, isShift, Bool.false_eq_true, if_false, if_true, biInt, Option.map_some]
  rw [show IntKind.u8.bits = 8 from rfl]
  simp only at this
  rw [this]
theorem shrN (n k : Nat) (h : k ≤ 64) : abi .shr (iv n) (u64v k) = some (iv (n / 2 ^ k : Nat)) := by
  simp only [abi, biv, isShift, if_true, biShift]
  rw [if_neg (by omega)]
  simp only [Option.map_some, Option.some.injEq, AV.lit.injEq, Value.int.injEq, true_and]
  rw [show IntKind.i64.bits = 64 from rfl, show min (k : Int).toNat 64 = k by omega, Int.fdiv_eq_ediv_of_nonneg _ (by exact_mod_cast Nat.zero_le _)]
  push_cast; rfl
theorem shlN (n k : Nat) (h : k ≤ 64) (hn : n * 2 ^ k < 9223372036854775808) : abi .shl (iv n) (u64v k) = some (iv (n * 2 ^ k : Nat)) := by
  simp only [abi, biv, isShift, if_true, biShift]
  rw [if_neg (by omega)]
  simp only [Option.map_some, Option.some.injEq, AV.lit.injEq, Value.int.injEq, true_and]
  rw [show IntKind.i64.bits = 64 from rfl, show min (k : Int).toNat 64 = k by omega]
  have : ((n : Int) * 2 ^ k) = ((n * 2 ^ k : Nat) : Int) := by push_cast; rfl
  rw [this, wrap_id (by omega) (by omega)]
theorem shlI (n k : Nat) (h : k ≤ 64) (hn : n * 2 ^ k < 9223372036854775808) : abi .shl (iv n) (iv k) = some (iv (n * 2 ^ k : Nat)) := by
  have := shlN n k h hn
  simpa only [abi, biv, isShift, if_true] using this
theorem orN (a b k : Nat) (ha : a < 2 ^ k) (hab : b * 2 ^ k + a < 9223372036854775808) : abi .or (iv a) (iv (b * 2 ^ k : Nat)) = some (iv (b * 2 ^ k + a : Nat)) := by
  simp only [abi, biv, isShift, Bool.false_eq_true, if_false, if_true, biInt, Option.map_some, Option.some.injEq, AV.lit.injEq, Value.int.injEq, true_and]
  rw [show IntKind.i64.bits = 64 from rfl]
  have e : (BitVec.ofInt 64 (a : Int) ||| BitVec.ofInt 64 ((b * 2 ^ k : Nat) : Int)).toNat = b * 2 ^ k + a := by
    rw [BitVec.ofInt_natCast, BitVec.ofInt_natCast, BitVec.toNat_or, BitVec.toNat_ofNat, BitVec.toNat_ofNat, Nat.mod_eq_of_lt (by omega), Nat.mod_eq_of_lt (by omega), Nat.or_comm]
    rw [Nat.mul_comm, Nat.two_pow_add_eq_or_of_lt ha]
  rw [e, wrap_id (by omega) (by omega)]
def putN (n : Nat) : Bs := if n < 128 then [UInt8.ofNat n] else UInt8.ofNat (n % 128 + 128) :: putN (n / 128)
  termination_by n
  decreasing_by omega
theorem putN_lt {n : Nat} (h : n < 128) : putN n = [UInt8.ofNat n] := by rw [putN, if_pos h]
theorem putN_ge {n : Nat} (h : ¬ n < 128) : putN n = UInt8.ofNat (n % 128 + 128) :: putN (n / 128) := by rw [putN, if_neg h]
theorem putN_len (n : Nat) : ∀ k, n < 128 ^ k → (putN n).length ≤ max k 1 := by
  induction n using Nat.strongRecOn with
  | ind n ih =>
    intro k hk
    by_cases h : n < 128
    · rw [putN_lt h]; simp; omega
    · rw [putN_ge h]
      cases k with
      | zero => simp at hk; omega
      | succ k =>
        have h2 : n / 128 < 128 ^ k := by
          rw [Nat.div_lt_iff_lt_mul (by omega)]; rw [Nat.pow_succ] at hk; exact hk
        have := ih (n / 128) (by omega) k h2
        cases k with
        | zero => simp at h2; omega
        | succ k => simp; omega
theorem ofNat_toNat (n : Nat) (h : n < 256) : (UInt8.ofNat n).toNat = n := by simp; omega
theorem f177_loop2 (t9 t10 t11 : AV) (S0 : Store) (K : AK) : ∀ (n : Nat) (acc : Bs) (v : AV) (S : Store), n < 9223372036854775808 → acc.length + (putN n).length ≤ 1099511627776 → Grow 5 1 S0 (byt acc) v S →
    (∀ (v' : AV) (S' : Store) (m : Nat) (acc' : Bs), m < 128 → acc' ++ [UInt8.ofNat m] = acc ++ putN n → Grow 5 1 S0 (byt acc') v' S' → K (.exit 2) (ofL [(0, v'), (6, iv m), (9, t9), (10, t10), (11, t11)]) S') →
    f177_L2 K v (iv n) t9 t10 t11 S := by
  intro n
  induction n using Nat.strongRecOn with
  | ind n ih =>
    intro acc v S hn hlen hg hK
    refine f177_L2_pt ?_
    by_cases h : n < 128
    · have h1 : ¬ (128 : Int) ≤ n := by omega
      have h2 : ¬ (128 : Nat) ≤ n := by omega
      simp -implicitDefEqProofs [f177_l2, h1, h2]
      exact hK v S n acc h (by rw [putN_lt h]) hg
    · have h1 : (128 : Int) ≤ n := by omega
      have h2 : (128 : Nat) ≤ n := by omega
      have e1 := cv8 n
      have e2 := or8 (n % 256) (by omega)
      have e3 : abi .shr (iv n) (.lit (.int .u64 7)) = some (iv (n / 128 : Nat)) := shrN n 7 (by omega)
      have e4 : n % 256 % 128 = n % 128 := by omega
      rw [e4] at e2
      have e5 := bsl_byte (n % 128 + 128 : Nat) S
      have hb := ofNat_toNat (n % 128 + 128) (by omega)
      rw [putN_ge h] at hlen hK
      simp only [List.length_cons] at hlen
      simp -implicitDefEqProofs only [f177_l2, abi_geq, bQ_some, condW_bv, h1, ge_iff_le, decide_true, if_true, e1, e2, e3, e5]
      rw [← hb]
      refine hg.byte _ (by omega) fun v' S' hg' => ?_
      refine ih (n / 128) (by omega) _ v' S' (by omega) (by simp; omega) hg' fun v2 S2 m acc2 hm hacc h2 => ?_
      exact hK v2 S2 m acc2 hm (by rw [hacc]; simp) h2
abbrev nats (l : List Nat) : AV := .svals (l.map fun n : Nat => [iv n])
theorem f177_loop1 (l : List Nat) (hl : ∀ n ∈ l, n < 9223372036854775808) (hlen : l.length ≤ 1099511627776) (S0 : Store) (K : AK) (r : Bs) (hr : r.length ≤ 1099511627776) (h0 : ∀ v S, Grow 5 1 S0 (byt r) v S → K (.exit 0) (ofL [(0, v)]) S) :
    ∀ (j i : Nat) (acc : Bs) (v : AV) (S : Store), j + i = l.length → r = acc ++ (l.drop i).flatMap putN → Grow 5 1 S0 (byt acc) v S → f177_L1 K v (nats l) (iv l.length) (iv i) S := by
  intro j
  induction j with
  | zero =>
    intro i acc v S hi hacc hg
    refine f177_L1_pt ?_
    have : ¬ (i : Int) < l.length := by omega
    rw [List.drop_of_length_le (by omega)] at hacc
    simp at hacc
    subst hacc
    simp -implicitDefEqProofs [f177_l1, this]
    exact h0 _ _ hg
  | succ j ih =>
    intro i acc v S hi hacc hg
    refine f177_L1_pt ?_
    have h2 : i < l.length := by omega
    have h1 : (i : Int) < l.length := by omega
    have w1 : IntKind.i64.wrap ((i : Int) + 1) = i + 1 := wrap_id (by omega) (by omega)
    have x0 : ∀ S, ixA 1 (nats l) (iv i) S = some (.fptr [iv l[i]] 0) := fun S => ixA_map _ l i 1 S h2 fun _ => rfl
    have mx : amax (iv l[i]) (iv 0) = some (iv l[i]) := by simp [amax]; omega
    rw [List.drop_eq_getElem_cons h2] at hacc
    simp only [List.flatMap_cons] at hacc
    have hlr : r.length = acc.length + ((putN l[i]).length + ((l.drop (i + 1)).flatMap putN).length) := by rw [hacc]; simp
    simp -implicitDefEqProofs [f177_l1, h1, x0, mx]
    refine f177_loop2 _ _ _ S0 _ l[i] acc v S (hl _ (List.getElem_mem h2)) (by omega) hg fun v' S' m acc' hm hacc' hg' => ?_
    apply f177_K1_e2_pt
    have e1 := cv8 m
    rw [show m % 256 = m by omega] at e1
    have e2 := bsl_byte m S'
    have hb := ofNat_toNat m (by omega)
    have hl2 : acc'.length + 1 = acc.length + (putN l[i]).length := by have := congrArg List.length hacc'; simpa using this
    simp -implicitDefEqProofs only [f177_K1_e2, e1, bQ_some, e2, abi_add, w1]
    rw [← hb]
    refine hg'.byte _ (by omega) fun v2 S2 hg2 => ?_
    refine ih (i + 1) _ v2 S2 (by omega) ?_ hg2
    rw [hacc', hacc]; simp
theorem f177_c (b : AV) (bs : Bs) (l : List Nat) (S : Store) (z : Bool) (hb : SlIn b S (byt bs) z) (hl : ∀ n ∈ l, n < 9223372036854775808) (hlen : l.length ≤ 1099511627776) (hr : (bs ++ l.flatMap putN).length ≤ 1099511627776) {Q : AV → Store → Prop} (h : ∀ v S', Grow 5 1 S (byt (bs ++ l.flatMap putN)) v S' → Q v S') : ATriple PR 177 [b, nats l] S Q := by
  refine f177_ok ?_
  simp -implicitDefEqProofs only [f177_s]
  refine f311_c b bs S z hb (by simp at hr; omega) fun v S' hg => ?_
  simp only [aln_svals, List.length_map, bQ_some]
  refine f177_loop1 l hl hlen S _ _ hr ?_ l.length 0 bs v S' rfl rfl hg
  intro v S hg
  apply f177_K2_e0_pt
  exact dropQ_self (h _ _ hg)
end Go.Du
