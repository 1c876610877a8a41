/- What is proved: at every archive row that the statement's guards let in, the rows of a key, and of keys, are the document's, so that the spec answers true.
Conditions: the call's arguments together hold at most 1048576 values and letters (the card's own bound); no other. -/
import Derived.Test.YthmlcohmlehddaaGreatDoorCards
import Derived.Test.YthmlcohmlehddaaGreatDoorTie
import Derived.WalkKit
import Derived.ProofKit
import Derived.OpenShut
import Derived.Carry
import Derived.Deep.Slices
import Derived.Deep.DeepHandedRow
import Derived.Lib.LaidTab
import Derived.SevenTiedAt
import Derived.JoinedCond
import Derived.KernelRfl
import Derived.Test.YthmlcohmlehddaaGreatDoorVai
set_option linter.all false
namespace Go.Du
open Go
attribute [local irreducible] ATriple W evP AI AExt
abbrev log1 : Bs := [108, 111, 103, 45, 49]
def m0 : Mf := ⟨1, 1, [], log1⟩
theorem m0_ok : m0.Ok := ⟨by decide, by decide, by decide, by decide, by decide, by simp [m0], by decide⟩
def fs0 : List Fl := [⟨log1, [], 0⟩, ⟨fileM, frameB (manB m0), (frameB (manB m0)).length⟩]
theorem zMf_ag : abld [.lit (.int .i64 0), .lit (.int .i64 0), .lit (.slice none 0 0), .lit (.slice none 0 0), .lit (.slice none 0 0), .lit (.string ⟨#[]⟩)] [] = some (.agg zMf) := rfl
theorem retW_2 (x e : AV) (Q : AV → Store → Prop) (S : Store) : retW (resC (some x) ((some []).map (e :: ·))) Q S = Q (.tuple [x, e]) S := rfl
section
variable {S : Store} {d mt : Nat} {q : Int}
theorem f354_c (h : DiskAt S d mt q []) {Q : AV → Store → Prop} (hQ : Q (.tuple [.agg zMf, iv 8]) S) : ATriple PR 354 [.ptr d 0 0] S Q := by
  refine f354_ok ?_
  simp -implicitDefEqProofs only [f354_s, newW_own]
  intro t ht
  have e0 : ∀ S, aeqv false .ptr (.ptr d 0 0) (.lit (.pointer none)) S = some (bv false) := fun _ => rfl
  simp -implicitDefEqProofs only [e0, bQ_some, condW_bv, Bool.false_eq_true, if_false]
  refine f216_none (h.sub ((Sub.refl S).set ht)) _ rfl _ _ ?_
  have s1 : stv 6 (.ptr t 0 0) (.agg zMf) (S.set t (.row 31 6 [zMf])) = some (S.set t (.row 31 6 [zMf])) := by
    rw [stv_box (sz := 6) (x := .agg zMf) rfl rfl rfl]; rfl
  have l1 : ldv true 6 (.ptr t 0 0) (S.set t (.row 31 6 [zMf])) = some (.agg zMf) := ldv_box (sz := 6) rfl
  simp -implicitDefEqProofs only [aext_tuple, List.getElem?_cons_zero, List.getElem?_cons_succ, bQ_some, abi_neq, show ((8 : Int) != 0) = true from rfl, condW_bv, if_true, zMf_ag, s1, thenS_some, l1, retW_2]
  exact ⟨_, S, Ent.drop ((Sub.refl S).set ht), hQ⟩
theorem f215_c (h : DiskAt S d mt q []) (hq0 : 100000 ≤ q) (hq : q ≤ 16777216) {Q : AV → Store → Prop} (hQ : Q (.tuple [m0.av, iv 0]) (S.set mt (.map (dEs fs0)))) : ATriple PR 215 [.ptr d 0 0] S Q := by
  refine f215_ok ?_
  simp -implicitDefEqProofs only [f215_s, newW_own]
  intro t ht
  have hs1 : Sub S (S.set t (.row 31 6 [zMf])) := (Sub.refl S).set ht
  refine f354_c (h.sub hs1) ?_
  simp -implicitDefEqProofs only [aext_tuple, List.getElem?_cons_zero, List.getElem?_cons_succ, bQ_some]
  intro u hu
  have hut : u ≠ t := fun e => by subst e; rw [Store.set_same] at hu; cases hu
  have hu0 : S u = none := by rwa [Store.set_ne _ _ _ hut] at hu
  have htd : t ≠ d := fun e => by subst e; rw [h.dk] at ht; cases ht
  have htm : t ≠ mt := fun e => by subst e; rw [h.mp] at ht; cases ht
  have hud : u ≠ d := fun e => by subst e; rw [h.dk] at hu0; cases hu0
  have hum : u ≠ mt := fun e => by subst e; rw [h.mp] at hu0; cases hu0
  have b1 : abld [.lit (.int .i64 0), .lit (.int .i64 0), .lit (.int .i64 0), .lit (.bool false)] [(0, 1, .lit (.int .i64 (-1)))] = some (.agg BRc) := rfl
  have b2 : frzOf (bslR true 4 26 4 1 1 [(0, .agg BRc)]) = some BR := rfl
  have b3 : abld [.lit (.int .i64 0), .lit (.int .i64 0), .lit (.slice none 0 0), .lit (.slice none 0 0), .lit (.slice none 0 0), .lit (.string ⟨#[]⟩)] [(0, 1, .lit (.int .i64 1)), (1, 1, .lit (.int .i64 1)), (2, 1, BR), (5, 1, .lit (.string ⟨#[108, 111, 103, 45, 49]⟩))] = some m0.av := rfl
  obtain ⟨S1, hS1⟩ : ∃ S1, S1 = S.set t (.row 31 6 [zMf]) := ⟨_, rfl⟩
  rw [← hS1] at hu hs1 ⊢
  have s2 : stv 6 (.ptr u 0 0) (.agg zMf) (S1.set u (.row 31 6 [zMf])) = some (S1.set u (.row 31 6 [zMf])) := by
    rw [stv_box (sz := 6) (x := .agg zMf) rfl rfl rfl]; rfl
  have s3 : stv 6 (.ptr u 0 0) m0.av (S1.set u (.row 31 6 [zMf])) = some (S1.set u (.row 31 6 [m0.cs])) := by
    rw [stv_box (sz := 6) (x := m0.av) rfl rfl rfl]; rfl
  have l5 : ldv false 1 (.ptr u 0 5) (S1.set u (.row 31 6 [m0.cs])) = some (sv log1) := ldv_cell
  simp -implicitDefEqProofs only [s2, thenS_some, abi_neq, show ((8 : Int) != 8) = false from rfl, bQ_some, condW_bv, Bool.false_eq_true, if_false, b1, b2, b3, s3, padd_ptr, Nat.zero_add, l5]
  obtain ⟨S2, hS2⟩ : ∃ S2, S2 = S1.set u (.row 31 6 [m0.cs]) := ⟨_, rfl⟩
  rw [← hS2]
  have hs2 : Sub S S2 := by rw [hS2]; exact hs1.set hu0
  have g_u : S2 u = some (.row 31 6 [m0.cs]) := by rw [hS2]; exact Store.set_same _ _ _
  have g_t : S2 t = some (.row 31 6 [zMf]) := by rw [hS2, Store.set_ne _ _ _ hut.symm, hS1]; exact Store.set_same _ _ _
  have h2 := h.sub hs2
  refine f72_c h2 log1 (by decide) rfl (by simp) (by simp [usedF]; omega) hq fun p hp hpm => ?_
  have hf1 : fPut ⟨log1, [], 0⟩ ([] : List Fl) = [⟨log1, [], 0⟩] := rfl
  rw [hf1]
  have hpu : p ≠ u := fun e => by subst e; rw [g_u] at hp; cases hp
  have hpt : p ≠ t := fun e => by subst e; rw [g_t] at hp; cases hp
  have hpd : p ≠ d := fun e => by subst e; rw [h2.dk] at hp; cases hp
  have hp0 : S p = none := hs2.none hp
  obtain ⟨S3, hS3⟩ : ∃ S3, S3 = (S2.set mt (.map (dEs [⟨log1, [], 0⟩]))).set p (logOb d log1) := ⟨_, rfl⟩
  rw [← hS3]
  have h3 : DiskAt S3 d mt q [⟨log1, [], 0⟩] := by rw [hS3]; exact (h2.put _).keep hpd hpm
  have g_u3 : S3 u = some (.row 31 6 [m0.cs]) := by rw [hS3, Store.set_ne _ _ _ hpu.symm, Store.set_ne _ _ _ hum]; exact g_u
  have g_t3 : S3 t = some (.row 31 6 [zMf]) := by rw [hS3, Store.set_ne _ _ _ hpt.symm, Store.set_ne _ _ _ htm]; exact g_t
  have lm : ldv true 6 (.ptr u 0 0) S3 = some m0.av := ldv_all_at (sz := 6) g_u3 rfl
  simp -implicitDefEqProofs only [aext_tuple, List.getElem?_cons_zero, List.getElem?_cons_succ, bQ_some, abi_neq, show ((0 : Int) != 0) = false from rfl, condW_bv, Bool.false_eq_true, if_false, lm]
  have hml := manB_len m0_ok
  refine f200_c h3 m0 m0_ok (by decide) (by simp) (by simp [usedF, frameB_len]; omega) hq ?_
  have hf2 : fPut ⟨fileM, frameB (manB m0), (frameB (manB m0)).length⟩ [⟨log1, [], 0⟩] = fs0 := fPut_new (f := ⟨fileM, frameB (manB m0), (frameB (manB m0)).length⟩) (by show fGet fileM [⟨log1, [], 0⟩] = none; decide)
  rw [hf2]
  have g_u4 : (S3.set mt (.map (dEs fs0))) u = some (.row 31 6 [m0.cs]) := by rw [Store.set_ne _ _ _ hum]; exact g_u3
  have g_t4 : (S3.set mt (.map (dEs fs0))) t = some (.row 31 6 [zMf]) := by rw [Store.set_ne _ _ _ htm]; exact g_t3
  refine ⟨⟨ldv_all_at (sz := 6) g_u4 rfl, trivial⟩, ?_⟩
  have s5 : stv 6 (.ptr t 0 0) m0.av (S3.set mt (.map (dEs fs0))) = some ((S3.set mt (.map (dEs fs0))).set t (.row 31 6 [m0.cs])) := by
    rw [stv_ptr1 6 t 0 0 m0.av _ g_t4 rfl rfl rfl (by simp)]; rfl
  rw [s5, thenS_some, ldv_all_at (sz := 6) (Store.set_same _ _ _) rfl]
  refine ⟨_, _, Ent.drop ?_, hQ⟩
  intro x o hx
  by_cases e : x = mt
  · subst e
    rw [Store.set_same] at hx
    rw [Store.set_ne _ _ _ htm.symm, Store.set_same]; exact hx
  · rw [Store.set_ne _ _ _ e] at hx
    have x1 : x ≠ t := fun e => by subst e; rw [ht] at hx; cases hx
    have x2 : x ≠ p := fun e => by subst e; rw [hp0] at hx; cases hx
    rw [Store.set_ne _ _ _ x1, Store.set_ne _ _ _ e, hS3, Store.set_ne _ _ _ x2, Store.set_ne _ _ _ e]
    exact hs2 _ _ hx
end
end Go.Du
namespace Go.Du
open Go
attribute [local irreducible] ATriple W evP AI AExt
section
variable {S : Store} {d mt : Nat} {q : Int}
theorem f218_nil (f : AV) (S : Store) {Q : AV → Store → Prop} (h : Q nilS S) : ATriple PR 218 [nilS, f] S Q := by
  refine f218_ok ?_
  simp -implicitDefEqProofs only [f218_s]
  refine f356_ok ?_
  have e0 : aln .slice nilS S = some (iv 0) := rfl
  simp -implicitDefEqProofs only [f356_s, e0, bQ_some]
  refine f356_L1_pt ?_
  simp -implicitDefEqProofs only [f356_l1, abi_lss, bQ_some, condW_bv, show decide ((0 : Int) < 0) = false from rfl, Bool.false_eq_true, if_false]
  refine f356_K1_e0_pt ?_
  refine dropQ_self ?_
  simp -implicitDefEqProofs only [abi_eql, show ((-1 : Int) == -1) = true from rfl, bQ_some, condW_bv, if_true]
  exact dropQ_self h
theorem f87_c (h : DiskAt S d mt q []) (hq0 : 100000 ≤ q) (hq : q ≤ 16777216) {Q : AV → Store → Prop} (hQ : ∀ a lg, S a = none → Q (.tuple [.ptr a 0 0, nilS, iv 0]) ((S.set mt (.map (dEs fs0))).set a (arR d m0 nilS lg))) : ATriple PR 87 [.ptr d 0 0] S Q := by
  refine f87_ok ?_
  have e0 : ∀ S, aeqv false .ptr (.ptr d 0 0) (.lit (.pointer none)) S = some (bv false) := fun _ => rfl
  simp -implicitDefEqProofs only [f87_s, e0, bQ_some, condW_bv, Bool.false_eq_true, if_false]
  refine f215_c h hq0 hq ?_
  have h1 : DiskAt (S.set mt (.map (dEs fs0))) d mt q fs0 := h.put _
  have hsd : ∀ x o, S x = some o → x ≠ mt → (S.set mt (.map (dEs fs0))) x = some o := fun x o hx e => by rw [Store.set_ne _ _ _ e]; exact hx
  have hno : ∀ x, (S.set mt (.map (dEs fs0))) x = none → S x = none := fun x hx => by
    by_cases e : x = mt
    · subst e; rw [Store.set_same] at hx; cases hx
    · rwa [Store.set_ne _ _ _ e] at hx
  obtain ⟨S1, hS1⟩ : ∃ S1, S1 = S.set mt (.map (dEs fs0)) := ⟨_, rfl⟩
  rw [← hS1] at h1 hno hQ ⊢
  simp -implicitDefEqProofs only [aext_tuple, List.getElem?_cons_zero, List.getElem?_cons_succ, bQ_some, newW_own]
  intro t ht
  have s1 : stv 6 (.ptr t 0 0) m0.av (S1.set t (.row 31 6 [zMf])) = some (S1.set t (.row 31 6 [m0.cs])) := by
    rw [stv_box (sz := 6) (x := m0.av) rfl rfl rfl]; rfl
  have l1 : ldv true 6 (.ptr t 0 0) (S1.set t (.row 31 6 [m0.cs])) = some m0.av := ldv_all_at (sz := 6) (Store.set_same _ _ _) rfl
  have b1 : abld [.lit (.pointer none), .lit (.int .i64 0), .lit (.int .i64 0), .lit (.slice none 0 0), .lit (.slice none 0 0), .lit (.slice none 0 0), .lit (.string ⟨#[]⟩), .lit (.slice none 0 0), .lit (.pointer none), .lit (.bool false)] [(0, 1, .ptr d 0 0), (1, 6, m0.av)] = some (.agg (.ptr d 0 0 :: (m0.cs ++ [nilS, .lit (.pointer none), bv false]))) := rfl
  have b2 : boxR false 136 (.agg (.ptr d 0 0 :: (m0.cs ++ [nilS, .lit (.pointer none), bv false]))) = some (.own (arR d m0 nilS (.lit (.pointer none))) fun u => .ptr u 0 0) := rfl
  simp -implicitDefEqProofs only [s1, thenS_some, abi_neq, show ((0 : Int) != 0) = false from rfl, bQ_some, condW_bv, Bool.false_eq_true, if_false, l1, b1, b2, newW_own]
  intro a ha
  have hat : a ≠ t := fun e => by subst e; rw [Store.set_same] at ha; cases ha
  have ha1 : S1 a = none := by rwa [Store.set_ne _ _ _ hat] at ha
  have had : a ≠ d := fun e => by subst e; rw [h1.dk] at ha1; cases ha1
  have ham : a ≠ mt := fun e => by subst e; rw [h1.mp] at ha1; cases ha1
  have htd : t ≠ d := fun e => by subst e; rw [h1.dk] at ht; cases ht
  have htm : t ≠ mt := fun e => by subst e; rw [h1.mp] at ht; cases ht
  obtain ⟨S2, hS2⟩ : ∃ S2, S2 = (S1.set t (.row 31 6 [m0.cs])).set a (arR d m0 nilS (.lit (.pointer none))) := ⟨_, rfl⟩
  rw [← hS2]
  have g_t : S2 t = some (.row 31 6 [m0.cs]) := by rw [hS2, Store.set_ne _ _ _ hat.symm]; exact Store.set_same _ _ _
  have g_a : S2 a = some (arR d m0 nilS (.lit (.pointer none))) := by rw [hS2]; exact Store.set_same _ _ _
  have h2 : DiskAt S2 d mt q fs0 := by rw [hS2]; exact (h1.keep htd htm).keep had ham
  have l4 : ldv false 1 (.ptr t 0 4) S2 = some (RS []) := ldv_at g_t
  simp -implicitDefEqProofs only [padd_ptr, Nat.zero_add, bQ_some, l4, aln_RS, List.length_nil]
  refine f87_L1_pt ?_
  simp -implicitDefEqProofs only [f87_l1, abi_lss, bQ_some, condW_bv, show decide ((0 : Int) < (0 : Nat)) = false from rfl, Bool.false_eq_true, if_false]
  refine f87_K1_e0_pt ?_
  have l5 : ldv false 1 (.ptr t 0 5) S2 = some (sv log1) := ldv_at g_t
  simp -implicitDefEqProofs only [f87_K1_e0, padd_ptr, Nat.zero_add, bQ_some, l5]
  refine f217_c h2 log1 rfl fun p hp hpm => ?_
  have hpa : p ≠ a := fun e => by subst e; rw [g_a] at hp; cases hp
  have hpt : p ≠ t := fun e => by subst e; rw [g_t] at hp; cases hp
  have hpd : p ≠ d := fun e => by subst e; rw [h2.dk] at hp; cases hp
  have ga3 : (S2.set p (logOb d log1)) a = some (arR d m0 nilS (.lit (.pointer none))) := by rw [Store.set_ne _ _ _ hpa.symm]; exact g_a
  have s8 : stv 1 (.ptr a 0 8) (.ptr p 0 0) (S2.set p (logOb d log1)) = some ((S2.set p (logOb d log1)).set a (arR d m0 nilS (.ptr p 0 0))) := by
    rw [stv_at ga3 rfl rfl (by simp [Mf.cs])]; rfl
  simp -implicitDefEqProofs only [aext_tuple, List.getElem?_cons_zero, List.getElem?_cons_succ, bQ_some, abi_eql, show ((0 : Int) == 8) = false from rfl, abi_neq, show ((0 : Int) != 0) = false from rfl, condW_bv, Bool.false_eq_true, if_false, anil_ptr, padd_ptr, Nat.zero_add, s8, thenS_some]
  obtain ⟨S3, hS3⟩ : ∃ S3, S3 = (S2.set p (logOb d log1)).set a (arR d m0 nilS (.ptr p 0 0)) := ⟨_, rfl⟩
  rw [← hS3]
  have ga4 : S3 a = some (arR d m0 nilS (.ptr p 0 0)) := by rw [hS3]; exact Store.set_same _ _ _
  have h3 : DiskAt S3 d mt q fs0 := by rw [hS3]; exact (h2.keep hpd hpm).keep had ham
  refine f75_c ga4 h3 (by simp [m0]) (by simp [fs0]) (by simp [fs0]) (by simp [fs0]) ?_
  have hk : (fs0.filter fun f => keepF m0 f.name) = fs0 := by
    rw [List.filter_eq_self]
    intro f hf
    simp only [fs0, List.mem_cons, List.not_mem_nil, or_false] at hf
    rcases hf with rfl | rfl <;> rfl
  have hsame : S3.set mt (.map (dEs fs0)) = S3 := by
    funext x
    by_cases e : x = mt
    · subst e; rw [Store.set_same]; exact h3.mp.symm
    · rw [Store.set_ne _ _ _ e]
  rw [hk, hsame]
  refine f169_c h3 ?_
  simp -implicitDefEqProofs only [aun_not, bQ_some, Bool.not_true, condW_bv, Bool.false_eq_true, if_false]
  refine f218_nil _ S3 ?_
  refine ⟨_, _, Ent.drop ?_, hQ a (.ptr p 0 0) (hno a ha1)⟩
  intro x o hx
  by_cases e : x = a
  · subst e; rw [Store.set_same] at hx; rw [ga4]; exact hx
  · rw [Store.set_ne _ _ _ e] at hx
    have x1 : x ≠ t := fun e => by subst e; rw [ht] at hx; cases hx
    have hp1 : S1 p = none := by rwa [hS2, Store.set_ne _ _ _ hpa, Store.set_ne _ _ _ hpt] at hp
    have x2 : x ≠ p := fun e => by subst e; rw [hp1] at hx; cases hx
    rw [hS3, Store.set_ne _ _ _ e, Store.set_ne _ _ _ x2, hS2, Store.set_ne _ _ _ e, Store.set_ne _ _ _ x1]; exact hx
end
abbrev PSc (rs : List Nat) : List (List AV) := rs.map fun r => [.ptr r 0 0]
abbrev PS (rs : List Nat) : AV := NL (PSc rs)
theorem aln_NL (l : List (List AV)) (S : Store) : aln .slice (NL l) S = some (iv l.length) := by cases l <;> simp [NL, aln]
theorem ixA_PS (l : List Nat) (i : Nat) (S : Store) (h : i < l.length) : ixA 1 (PS l) (iv i) S = some (.fptr [.ptr l[i] 0 0] 0) := by
  cases l with
  | nil => simp at h
  | cons a l => exact ixA_map (fun r => [.ptr r 0 0]) (a :: l) i 1 S h fun _ => rfl
section
variable {S : Store} {a d : Nat} {m : Mf} {lg : AV}
theorem bsl_v1 (c : List Ver) : frzOf (bslR true 1 22 1 1 1 [(0, vers c)]) = some (.svals [[vers c]]) := bsl_one 22 1 _ 1 ⟨rfl, by decide, by decide, rfl, rfl⟩
set_option maxRecDepth 100000 in
theorem f79_loop (rs : List Nat) (ls : List (List Ver)) (hlen : rs.length = ls.length) (hrl : rs.length ≤ 2) (told : AV) (S : Store)
    (hT : ∀ i (h : i < rs.length) (h' : i < ls.length) (S' : Store) (K : AV → Store → Prop), Sub S S' → K (vers ls[i]) S' → callW PR told [.ptr rs[i] 0 0] S' K) (K : AK)
    (hK : ∀ v S', Grow 22 1 S (cks ls) v S' → K (.exit 0) (ofL [(5, v)]) S') :
    ∀ k i v S', k + i = rs.length → Grow 22 1 S (cks (ls.take i)) v S' → f79_L1 K told v (PS rs) (iv rs.length) (iv i) S' := by
  intro k
  induction k with
  | zero =>
    intro i v S' hi hg
    refine f79_L1_pt ?_
    have : ¬ (i : Int) < rs.length := by omega
    rw [List.take_of_length_le (by omega)] at hg
    simp -implicitDefEqProofs only [f79_l1, abi_lss, bQ_some, this, decide_false, condW_bv, Bool.false_eq_true, if_false]
    exact hK v S' hg
  | succ k ih =>
    intro i v S' hi hg
    refine f79_L1_pt ?_
    have hlt : i < rs.length := by omega
    have hlt' : (i : Int) < rs.length := by omega
    have w1 : IntKind.i64.wrap ((i : Int) + 1) = ((i + 1 : Nat) : Int) := by rw [wrap_id (by omega) (by omega)]; omega
    have e0 : ldv false 1 (.fptr [.ptr rs[i] 0 0] 0) S' = some (.ptr rs[i] 0 0) := rfl
    simp -implicitDefEqProofs only [f79_l1, abi_lss, bQ_some, condW_bv, hlt', decide_true, if_true, ixA_PS rs i S' hlt, e0]
    refine hT i hlt (by omega) S' _ hg.sub ?_
    rw [bsl_v1, bQ_some]
    refine hg.app (k := .slice) (bytes := 24) (x := .svals [[vers ls[i]]]) (l := [[vers ls[i]]]) rfl (by simp) (by simp; omega) (by simp; omega) fun v2 S2 hg2 => ?_
    rw [abi_add, bQ_some, w1]
    refine ih (i + 1) v2 S2 (by omega) ?_
    rw [List.take_succ_eq_append_getElem (by omega)]
    have e9 : cks (ls.take i ++ [ls[i]]) = cks (ls.take i) ++ [[vers ls[i]]] := List.map_append
    rw [e9]; exact hg2
theorem f79_c (rs : List Nat) (ls : List (List Ver)) (hlen : rs.length = ls.length) (hrl : rs.length ≤ 2) (hTl : (ls.map List.length).sum ≤ 1048576) (h : S a = some (arR d m (PS rs) lg)) (told : AV)
    (hT : ∀ i (h : i < rs.length) (h' : i < ls.length) (S' : Store) (K : AV → Store → Prop), Sub S S' → K (vers ls[i]) S' → callW PR told [.ptr rs[i] 0 0] S' K)
    (hml : (mergeAll ls).length ≤ 1048576) {Q : AV → Store → Prop} (hQ : Q (vers (onceF [] none (mergeAll ls))) S) : ATriple PR 79 [.ptr a 0 0, told] S Q := by
  refine f79_ok ?_
  have eN : aln .slice (PS rs) S = some (iv rs.length) := by simp [PS, aln_NL]
  simp -implicitDefEqProofs only [f79_s, anil_ptr, padd_ptr, Nat.zero_add, bQ_some, ar_p h, eN]
  refine f79_loop rs ls hlen hrl told S hT (f79_K1 Q) (fun v S' hg => ?_) rs.length 0 nilS S rfl .nil
  refine f79_K1_e0_pt ?_
  have he : Ent (.tuple [ordV, v]) S' (.tuple [ordV, .svals (cks ls)]) S := hg.entC (fun y => .tuple [ordV, y]) fun _ _ _ _ h => (FrzL.cons (.refl _) (.cons h .nil)).tuple
  simp -implicitDefEqProofs only [f79_K1_e0]
  refine ATriple.ent he ?_
  refine f207_c ls (by omega) hTl S ?_
  refine f205_c _ hml S ?_
  exact dropQ_self hQ
end
end Go.Du
namespace Go.Du
open Go
attribute [local irreducible] ATriple W evP AI AExt callW
structure ArAt (S : Store) (a d mt : Nat) (q : Int) (fs : List Fl) (m : Mf) (rs : List Nat) (ls : List (List Ver)) (lg : AV) : Prop where
  ar : S a = some (arR d m (PS rs) lg)
  dk : DiskAt S d mt q fs
  len : rs.length = ls.length
  two : rs.length ≤ 2
  run : ∀ i (h : i < rs.length) (h' : i < ls.length), S rs[i] = some (runOb ls[i])
  ok : ∀ l ∈ ls, chainOk l ∧ l.length ≤ 12 ∧ (runB l).length ≤ 20000
theorem ArAt.sub {S S' : Store} {a d mt : Nat} {q : Int} {fs : List Fl} {m : Mf} {rs : List Nat} {ls : List (List Ver)} {lg : AV} (h : ArAt S a d mt q fs m rs ls lg) (hs : Sub S S') : ArAt S' a d mt q fs m rs ls lg :=
  ⟨hs _ _ h.ar, h.dk.sub hs, h.len, h.two, fun i h1 h2 => hs _ _ (h.run i h1 h2), h.ok⟩
theorem mergeF_len : ∀ (n : Nat) (l : List Head), (mergeF n l).length ≤ n
  | 0, _ => by simp [mergeF]
  | n + 1, [] => by simp [mergeF]
  | n + 1, ([], i) :: t => by simp [mergeF]
  | n + 1, (v :: r, i) :: t => by
    have := mergeF_len n (fixH r i t)
    simp only [mergeF, List.length_cons]; omega
theorem blocksB_le (l : List Ver) : (blocksB (chunk8 l)).length ≤ (runB l).length := by simp only [runB, List.length_append]; omega
theorem hb214 : hasBody PR 214 = true := by kernel_rfl
theorem hb80 : hasBody PR 80 = true := by kernel_rfl
theorem hb82 : hasBody PR 82 = true := by kernel_rfl
theorem sum_le {n : Nat} : ∀ {l : List Nat}, (∀ x ∈ l, x ≤ n) → l.sum ≤ n * l.length
  | [], _ => by simp
  | x :: l, h => by
    have ih := sum_le (l := l) fun y hy => h y (List.mem_cons_of_mem _ hy)
    have := h x (by simp)
    rw [List.sum_cons, List.length_cons, Nat.mul_succ]; omega
section
variable {S : Store} {a d mt : Nat} {q : Int} {fs : List Fl} {m : Mf} {rs : List Nat} {ls : List (List Ver)} {lg : AV}
theorem f79_g (h : ArAt S a d mt q fs m rs ls lg) (F : List Ver → List Ver) (hF : ∀ l, (F l).length ≤ l.length) (told : AV)
    (hT : ∀ i (h1 : i < rs.length) (h2 : i < ls.length) (S' : Store) (K : AV → Store → Prop), Sub S S' → K (vers (F ls[i])) S' → callW PR told [.ptr rs[i] 0 0] S' K)
    {Q : AV → Store → Prop} (hQ : Q (vers (onceF [] none (mergeAll (ls.map F)))) S) : ATriple PR 79 [.ptr a 0 0, told] S Q := by
  have hsum : ((ls.map F).map List.length).sum ≤ 1048576 := by
    have : ((ls.map F).map List.length).sum ≤ 12 * ((ls.map F).map List.length).length := by
      refine sum_le fun x hx => ?_
      obtain ⟨l, hl, rfl⟩ := List.mem_map.1 hx
      obtain ⟨l', hl', rfl⟩ := List.mem_map.1 hl
      exact Nat.le_trans (hF l') (h.ok l' hl').2.1
    have h2 := h.two
    have h3 := h.len
    simp only [List.length_map] at this ⊢
    omega
  refine f79_c rs (ls.map F) (by rw [List.length_map]; exact h.len) h.two hsum h.ar told (fun i h1 h2 S' K hs hK => ?_) ?_ hQ
  · have h2' : i < ls.length := by simpa using h2
    refine hT i h1 h2' S' K hs ?_
    simpa using hK
  · have := mergeF_len (total (headsOf 0 (ls.map F))) (initH (headsOf 0 (ls.map F)))
    rw [headsOf_total] at this
    unfold mergeAll
    rw [headsOf_total]
    omega
theorem f86_c (h : ArAt S a d mt q fs m rs ls lg) {Q : AV → Store → Prop} (hQ : Q (vers (onceF [] none (mergeAll ls))) S) : ATriple PR 86 [.ptr a 0 0] S Q := by
  refine f86_ok ?_
  simp -implicitDefEqProofs only [f86_s]
  refine f79_g h id (fun l => Nat.le_refl _) _ (fun i h1 h2 S' K hs hK => ?_) ?_
  · obtain ⟨k1, k2, k3⟩ := h.ok ls[i] (List.getElem_mem h2)
    have := blocksB_le ls[i]
    simp -implicitDefEqProofs only [callW, hb214, List.nil_append, List.append_nil]
    have hp := hs _ _ (h.run i h1 h2)
    refine f214_c ls[i] k1 (by omega) (by omega) rs[i] S' hp ?_
    exact hK
  · rw [List.map_id]; exact dropQ_self hQ
theorem ofF_len (l : List Ver) (k : Bs) : (ofF l k).length ≤ l.length := by
  unfold ofF
  exact List.length_filter_le _ _
theorem rangeF_len (l : List Ver) (a b : Bs) : (rangeF l a b).length ≤ l.length := by
  unfold rangeF
  exact List.length_filter_le _ _
theorem f17_c (h : ArAt S a d mt q fs m rs ls lg) (key : Bs) {Q : AV → Store → Prop} (hQ : Q (vers (onceF [] none (mergeAll (ls.map fun l => ofF l key)))) S) : ATriple PR 17 [.ptr a 0 0, sv key] S Q := by
  refine f17_ok ?_
  simp -implicitDefEqProofs only [f17_s, boxR_s, bQ_some]
  refine f79_g h (fun l => ofF l key) (fun l => ofF_len l key) _ (fun i h1 h2 S' K hs hK => ?_) (dropQ_self hQ)
  obtain ⟨k1, k2, k3⟩ := h.ok ls[i] (List.getElem_mem h2)
  have := blocksB_le ls[i]
  simp -implicitDefEqProofs only [callW, hb80, List.nil_append, List.cons_append]
  refine f80_ok ?_
  simp -implicitDefEqProofs only [f80_s, ldv_fp, bQ_some]
  have hp := hs _ _ (h.run i h1 h2)
  refine f81_c ls[i] k1 (by omega) (by omega) key rs[i] S' hp ?_
  exact dropQ_self hK
theorem f19_c (h : ArAt S a d mt q fs m rs ls lg) (key key2 : Bs) {Q : AV → Store → Prop} (hQ : Q (vers (onceF [] none (mergeAll (ls.map fun l => rangeF l key key2)))) S) : ATriple PR 19 [.ptr a 0 0, sv key, sv key2] S Q := by
  refine f19_ok ?_
  simp -implicitDefEqProofs only [f19_s, boxR_s, bQ_some]
  refine f79_g h (fun l => rangeF l key key2) (fun l => rangeF_len l key key2) _ (fun i h1 h2 S' K hs hK => ?_) (dropQ_self hQ)
  obtain ⟨k1, k2, k3⟩ := h.ok ls[i] (List.getElem_mem h2)
  have := blocksB_le ls[i]
  simp -implicitDefEqProofs only [callW, hb82, List.nil_append, List.cons_append]
  refine f82_ok ?_
  simp -implicitDefEqProofs only [f82_s, ldv_fp, bQ_some]
  have hp := hs _ _ (h.run i h1 h2)
  refine f83_c ls[i] k1 (by omega) (by omega) key key2 rs[i] S' hp ?_
  exact dropQ_self hK
end
end Go.Du
namespace Go.Du
open Go
attribute [local irreducible] ATriple W evP AI AExt callW
theorem fGet_app {n : Bs} {fs : List Fl} {f : Fl} (h : fGet n fs = none) (hf : f.name ≠ n) : fGet n (fs ++ [f]) = none := by
  have h0 := fIdx_none h
  have : fIdx n (fs ++ [f]) = none := by
    clear h
    induction fs with
    | nil => simp [fIdx, Ne.symm hf]
    | cons g fs ih =>
      simp only [fIdx] at h0
      split at h0
      · cases h0
      · rename_i hne
        have := ih (by simpa using h0)
        simp [fIdx, hne, this]
  unfold fGet; rw [this]; rfl
theorem fIdx_set {n : Bs} : ∀ {fs : List Fl} {i : Nat} {f : Fl} (h : i < fs.length), f.name = (fs[i]).name → fIdx n (fs.set i f) = fIdx n fs
  | [], _, _, h, _ => absurd h (Nat.not_lt_zero _)
  | g :: fs, 0, f, _, e => by
    have e' : f.name = g.name := e
    simp [fIdx, e']
  | g :: fs, i + 1, f, h, e => by
    have := fIdx_set (n := n) (fs := fs) (i := i) (f := f) (by simpa using h) (by simpa using e)
    simp [fIdx, this]
theorem fGet_put {n : Bs} {fs : List Fl} {f : Fl} (h : fGet n fs = none) (hf : f.name ≠ n) : fGet n (fPut f fs) = none := by
  unfold fPut
  cases hi : fIdx f.name fs with
  | none => exact fGet_app h hf
  | some i =>
    obtain ⟨h1, h2⟩ := fIdx_lt hi
    simp only
    unfold fGet
    rw [fIdx_set h1 h2.symm, fIdx_none h]; rfl
theorem fPut_names {fs : List Fl} {f : Fl} : (fPut f fs).map (·.name) = if (fGet f.name fs).isSome then fs.map (·.name) else fs.map (·.name) ++ [f.name] := by
  unfold fPut
  cases hi : fIdx f.name fs with
  | none =>
    have : (fGet f.name fs).isSome = false := by rw [fGet_isSome, hi]; rfl
    simp [this]
  | some i =>
    obtain ⟨h1, h2⟩ := fIdx_lt hi
    have : (fGet f.name fs).isSome = true := by rw [fGet_isSome, hi]; rfl
    rw [if_pos this, List.map_set]
    have e : f.name = (fs.map (·.name))[i]'(by simpa using h1) := by simpa using h2.symm
    simp only [e]
    exact List.set_getElem_self _
theorem fGet_mem {n : Bs} : ∀ {fs : List Fl}, fGet n fs = none → n ∉ fs.map (·.name) := by
  intro fs h hm
  have h0 := fIdx_none h
  clear h
  induction fs with
  | nil => simp at hm
  | cons g fs ih =>
    simp only [fIdx] at h0
    split at h0
    · cases h0
    · rename_i hne
      simp only [List.map_cons, List.mem_cons] at hm
      rcases hm with rfl | hm
      · exact hne rfl
      · exact ih hm (by simpa using h0)
theorem fPut_nodup {fs : List Fl} {f : Fl} (h : (fs.map (·.name)).Nodup) : ((fPut f fs).map (·.name)).Nodup := by
  rw [fPut_names]
  split
  · exact h
  · rename_i hs
    have : fGet f.name fs = none := by
      cases e : fGet f.name fs with
      | none => rfl
      | some _ => rw [e] at hs; exact absurd rfl hs
    rw [List.nodup_append]
    refine ⟨h, by simp, fun x hx y hy e => ?_⟩
    simp only [List.mem_singleton] at hy
    subst hy
    exact fGet_mem this (e ▸ hx)
theorem fPut_len (fs : List Fl) (f : Fl) : (fPut f fs).length ≤ fs.length + 1 := by
  unfold fPut; split <;> simp
theorem sum_set_le : ∀ (l : List Nat) (i x : Nat), (l.set i x).sum ≤ l.sum + x
  | [], _, _ => by simp
  | y :: l, 0, x => by simp; omega
  | y :: l, i + 1, x => by
    have := sum_set_le l i x
    simp only [List.set_cons_succ, List.sum_cons]; omega
theorem usedF_put (fs : List Fl) (f : Fl) : usedF (fPut f fs) ≤ usedF fs + f.b.length := by
  unfold fPut
  split
  · unfold usedF; rw [List.map_set]; exact sum_set_le _ _ _
  · rw [usedF_app]; exact Nat.le_refl _
theorem fPut_ne {fs : List Fl} {f : Fl} : fPut f fs ≠ [] := by
  unfold fPut
  split
  · rename_i i hi
    obtain ⟨h1, _⟩ := fIdx_lt hi
    intro e
    have := congrArg List.length e
    simp at this; subst this; simp at h1
  · simp
def wfs (fs : List Fl) (m' : Mf) (rn : Bs) (l : List Ver) : List Fl :=
  (fPut ⟨fileM, frameB (manB m'), (frameB (manB m')).length⟩ (fPut ⟨m'.log, [], 0⟩ (if l = [] then fs else fs ++ [⟨rn, runB l, (runB l).length⟩]))).filter fun f => keepF m' f.name
section
variable {S : Store} {a d mt t : Nat} {q : Int} {fs : List Fl} {m m' : Mf} {ps ps' lg : AV}
set_option maxRecDepth 100000 in
theorem f13_J3_c (har : S a = some (arR d m ps lg)) (hd : DiskAt S d mt q fs) (gt : S t = some (.row 31 6 [m'.cs])) (hok : m'.Ok) (hnum : m'.number = m.number + 1) (hn : m.number ≤ 999) (hps : okC ps' = true ∧ cellsOf ps' = [ps'])
    (tL : fGet tempL fs = none) (tM : fGet tempM fs = none) (lM : m'.log ≠ tempM) (hl : fs.length ≤ 10) (hnd : (fs.map (·.name)).Nodup) (hB : (usedF fs : Int) + 2000 ≤ q) (hq : q ≤ 16777216)
    {Q : AV → Store → Prop} (hQ : ∀ lg', Q (iv 0) ((S.set mt (.map (dEs ((fPut ⟨fileM, frameB (manB m'), (frameB (manB m')).length⟩ (fPut ⟨m'.log, [], 0⟩ fs)).filter fun f => keepF m' f.name)))).set a (arR d m' ps' lg'))) :
    f13_J3 Q (.ptr a 0 0) (iv 0) (.ptr t 0 0) ps' S := by
  obtain ⟨n1, n2⟩ := ar_ne har hd
  have tm : t ≠ mt := fun e => by subst e; rw [hd.mp] at gt; cases gt
  have ta : t ≠ a := fun e => by subst e; rw [har] at gt; cases gt
  have hml := manB_len hok
  refine f13_J3_pt ?_
  have l5 : ldv false 1 (.ptr t 0 5) S = some (sv m'.log) := ldv_at gt
  simp -implicitDefEqProofs only [f13_j3, abi_eql, show ((0 : Int) == 0) = true from rfl, bQ_some, condW_bv, if_true, anil_ptr, padd_ptr, Nat.zero_add, ar_d har, l5]
  refine f72_c hd m'.log hok.lg tL (by omega) (by omega) hq fun p hp hpm => ?_
  have hpa : p ≠ a := fun e => by subst e; rw [har] at hp; cases hp
  have hpt : p ≠ t := fun e => by subst e; rw [gt] at hp; cases hp
  have hpd : p ≠ d := fun e => by subst e; rw [hd.dk] at hp; cases hp
  obtain ⟨fs1, hfs1⟩ : ∃ fs1, fs1 = fPut ⟨m'.log, [], 0⟩ fs := ⟨_, rfl⟩
  rw [← hfs1] at hQ ⊢
  have c1 : fGet tempM fs1 = none := by rw [hfs1]; exact fGet_put tM lM
  have c2 : fs1.length ≤ 11 := by rw [hfs1]; have := fPut_len fs ⟨m'.log, [], 0⟩; omega
  have c3 : usedF fs1 ≤ usedF fs := by rw [hfs1]; have := usedF_put fs ⟨m'.log, [], 0⟩; simpa using this
  have c4 : (fs1.map (·.name)).Nodup := by rw [hfs1]; exact fPut_nodup hnd
  obtain ⟨S1, hS1⟩ : ∃ S1, S1 = (S.set mt (.map (dEs fs1))).set p (logOb d m'.log) := ⟨_, rfl⟩
  rw [← hS1]
  have g1 : S1 a = some (arR d m ps lg) := by rw [hS1, Store.set_ne _ _ _ hpa.symm, Store.set_ne _ _ _ n2]; exact har
  have g2 : S1 t = some (.row 31 6 [m'.cs]) := by rw [hS1, Store.set_ne _ _ _ hpt.symm, Store.set_ne _ _ _ tm]; exact gt
  have hd1 : DiskAt S1 d mt q fs1 := by rw [hS1]; exact (hd.put fs1).keep hpd hpm
  simp -implicitDefEqProofs only [aext_tuple, List.getElem?_cons_zero, List.getElem?_cons_succ, bQ_some]
  refine f13_J4_pt ?_
  have lm : ldv true 6 (.ptr t 0 0) S1 = some m'.av := ldv_all_at (sz := 6) g2 rfl
  simp -implicitDefEqProofs only [f13_j4, abi_eql, show ((0 : Int) == 0) = true from rfl, bQ_some, condW_bv, if_true, lm]
  have em : ({ m' with number := m.number + 1 } : Mf) = m' := by rw [← hnum]
  refine f73_c g1 hd1 m' (by rw [em]; exact hok) (by omega) c1 (by omega) (by rw [em, frameB_len]; omega) hq ?_
  rw [em]
  obtain ⟨fs2, hfs2⟩ : ∃ fs2, fs2 = fPut ⟨fileM, frameB (manB m'), (frameB (manB m')).length⟩ fs1 := ⟨_, rfl⟩
  rw [← hfs2] at hQ ⊢
  have c5 : fs2.length ≤ 12 := by rw [hfs2]; have := fPut_len fs1 ⟨fileM, frameB (manB m'), (frameB (manB m')).length⟩; omega
  have c6 : (fs2.map (·.name)).Nodup := by rw [hfs2]; exact fPut_nodup c4
  have c7 : fs2 ≠ [] := by rw [hfs2]; exact fPut_ne
  obtain ⟨S2, hS2⟩ : ∃ S2, S2 = (S1.set mt (.map (dEs fs2))).set a (arR d m' ps lg) := ⟨_, rfl⟩
  rw [← hS2]
  have g3 : S2 a = some (arR d m' ps lg) := by rw [hS2]; exact Store.set_same _ _ _
  refine f13_J5_pt ?_
  have s7 : stv 1 (.ptr a 0 7) ps' S2 = some (S2.set a (arR d m' ps' lg)) := by rw [stv_at g3 hps.1 hps.2 (by simp [Mf.cs])]; rfl
  have s8 : stv 1 (.ptr a 0 8) (.ptr p 0 0) (S2.set a (arR d m' ps' lg)) = some (S2.set a (arR d m' ps' (.ptr p 0 0))) := by
    have g3' : (S2.set a (arR d m' ps' lg)) a = some (arR d m' ps' lg) := Store.set_same _ _ _
    rw [stv_at g3' rfl rfl (by simp [Mf.cs]), Store.set_set]; rfl
  simp -implicitDefEqProofs only [f13_j5, abi_eql, show ((0 : Int) == 0) = true from rfl, bQ_some, condW_bv, if_true, anil_ptr, padd_ptr, Nat.zero_add, s7, s8, thenS_some]
  obtain ⟨S3, hS3⟩ : ∃ S3, S3 = S2.set a (arR d m' ps' (.ptr p 0 0)) := ⟨_, rfl⟩
  rw [← hS3]
  have g4 : S3 a = some (arR d m' ps' (.ptr p 0 0)) := by rw [hS3]; exact Store.set_same _ _ _
  have e3 : S3 = (S1.set mt (.map (dEs fs2))).set a (arR d m' ps' (.ptr p 0 0)) := by rw [hS3, hS2, Store.set_set]
  have hd3 : DiskAt S3 d mt q fs2 := by rw [e3]; exact (hd1.put fs2).keep n1 n2
  refine f13_J6_pt ?_
  simp -implicitDefEqProofs only [f13_j6]
  refine f74_c g4 ?_
  simp -implicitDefEqProofs only [abi_neq, show ((0 : Int) != 7) = true from rfl, bQ_some, condW_bv, if_true]
  refine f75_c g4 hd3 (by have := hok.r1; omega) c6 c7 c5 ?_
  refine ⟨_, _, Ent.drop ?_, hQ (.ptr p 0 0)⟩
  rw [e3, Store.set_comm _ n2, Store.set_set]
  intro x o hx
  by_cases e1 : x = a
  · subst e1
    rw [Store.set_same] at hx ⊢; exact hx
  · rw [Store.set_ne _ _ _ e1] at hx ⊢
    by_cases e2 : x = mt
    · subst e2
      rw [Store.set_same] at hx ⊢; exact hx
    · rw [Store.set_ne _ _ _ e2] at hx ⊢
      have e4 : x ≠ p := fun e => by subst e; rw [hp] at hx; cases hx
      rw [hS1, Store.set_ne _ _ _ e4, Store.set_ne _ _ _ e2]
      exact hx
set_option maxRecDepth 100000 in
theorem f13_J2_c (har : S a = some (arR d m ps lg)) (hd : DiskAt S d mt q fs) (gt : S t = some (.row 31 6 [m'.cs])) (hok : m'.Ok) (hnum : m'.number = m.number + 1) (hn : m.number ≤ 999) (hps : okC ps' = true ∧ cellsOf ps' = [ps'])
    (tL : fGet tempL fs = none) (tM : fGet tempM fs = none) (lM : m'.log ≠ tempM) (hl : fs.length ≤ 9) (hnd : (fs.map (·.name)).Nodup) (rn : Bs) (hrn : namedF rn = true) (hrf : fGet rn fs = none) (rL : rn ≠ tempL) (rM : rn ≠ tempM) (l : List Ver) (hll : l.length ≤ 1048576) (hB : (usedF fs : Int) + (runB l).length + 2000 ≤ q) (hq : q ≤ 16777216)
    {Q : AV → Store → Prop} (hQ : ∀ lg', Q (iv 0) ((S.set mt (.map (dEs (wfs fs m' rn l)))).set a (arR d m' ps' lg'))) :
    f13_J2 Q (.ptr a 0 0) (vers l) (bytes (runB l)) (iv 0) (.ptr t 0 0) ps' (sv rn) S := by
  obtain ⟨n1, n2⟩ := ar_ne har hd
  have tm : t ≠ mt := fun e => by subst e; rw [hd.mp] at gt; cases gt
  refine f13_J2_pt ?_
  have lm : ldv true 6 (.ptr t 0 0) S = some m'.av := ldv_all_at (sz := 6) gt rfl
  simp -implicitDefEqProofs only [f13_j2, lm, bQ_some]
  refine f70_c m' hok S ?_
  have el : ∀ S, aln .slice (vers l) S = some (iv l.length) := fun S => by simp [aln]
  simp -implicitDefEqProofs only [aun_not, bQ_some, Bool.not_true, condW_bv, Bool.false_eq_true, if_false, el, abi_gtr]
  unfold wfs at hQ
  by_cases hz : l = []
  · subst hz
    rw [if_pos rfl] at hQ
    have : ¬ (([] : List Ver).length : Int) > 0 := by simp
    simp -implicitDefEqProofs only [this, decide_false, Bool.false_eq_true, if_false]
    exact f13_J3_c har hd gt hok hnum hn hps tL tM lM (by omega) hnd (by omega) hq hQ
  · rw [if_neg hz] at hQ
    have hp : 0 < l.length := List.length_pos_iff.2 hz
    have : (l.length : Int) > 0 := by omega
    simp -implicitDefEqProofs only [this, decide_true, if_true]
    refine f71_c har hd rn hrn hrf (runB l) (by omega) (by omega) hq ?_
    refine f13_J3_c (S := S.set mt (.map (dEs (fs ++ [⟨rn, runB l, (runB l).length⟩])))) (by rw [Store.set_ne _ _ _ n2]; exact har) (hd.put _) (by rw [Store.set_ne _ _ _ tm]; exact gt) hok hnum hn hps (fGet_app tL rL) (fGet_app tM rM) lM (by simp; omega) ?_ (by rw [usedF_app]; simp; omega) hq (fun lg' => ?_)
    · rw [List.map_append, List.nodup_append]
      refine ⟨hnd, by simp, fun x hx y hy e => ?_⟩
      simp only [List.map_cons, List.map_nil, List.mem_singleton] at hy
      subst hy
      exact fGet_mem hrf (e ▸ hx)
    · rw [Store.set_set]; exact hQ lg'
end
end Go.Du
namespace Go.Du
open Go
theorem f13_J2_ent {Q : AV → Store → Prop} {t0 t1 t9 t10 t12 t13 t14 t13' : AV} {S S' : Store} (he : Ent (.tuple [t0, t1, t9, t10, t12, t13, t14]) S (.tuple [t0, t1, t9, t10, t12, t13', t14]) S') (h : f13_J2 Q t0 t1 t9 t10 t12 t13' t14 S') : f13_J2 Q t0 t1 t9 t10 t12 t13 t14 S := by
  delta f13_J2 at h ⊢
  exact AI_ent (EntT.ofL [0, 1, 9, 10, 12, 13, 14] [t0, t1, t9, t10, t12, t13, t14] [t0, t1, t9, t10, t12, t13', t14] (by decide) (by decide) rfl rfl he) h
attribute [local irreducible] ATriple W evP AI AExt callW
theorem Grow.isNil {e sz : Nat} {S0 S : Store} {es : List (List AV)} (h : Grow e sz S0 es nilS S) : S = S0 ∧ es = [] := by
  cases h
  exact ⟨rfl, rfl⟩
theorem frz2 {e1 z1 e2 z2 ty z t : Nat} {A Sb S : Store} {es1 es2 : List (List AV)} {v1 v2 : AV} (h1 : Grow e1 z1 A es1 v1 Sb) (h2 : Grow e2 z2 Sb es2 v2 S) (n1 : es1 = [] → v1 = nilS) (n2 : es2 = [] → v2 = nilS)
    (C : AV → List AV) (hC : ∀ t el a b, Frz t el a b → FrzL t el (C a) (C b)) (hA : A t = some (.row ty z [C v1])) (D : AV → AV) (hD : ∀ t el a b, Frz t el a b → Frz t el (D a) (D b)) :
    Ent (D v2) S (D (NL es2)) (A.set t (.row ty z [C (NL es1)])) := by
  have s1 : Ent (D v2) S (D (NL es2)) Sb := by
    cases es2 with
    | nil =>
      have := n2 rfl; subst this
      obtain ⟨rfl, _⟩ := h2.isNil
      exact .refl _ _
    | cons a l => exact h2.entC D hD
  refine s1.trans ?_
  cases es1 with
  | nil =>
    have := n1 rfl; subst this
    obtain ⟨rfl, _⟩ := h1.isNil
    have : Sb.set t (.row ty z [C (NL [])]) = Sb := by
      funext x
      by_cases e : x = t
      · subst e; rw [Store.set_same, hA]; rfl
      · rw [Store.set_ne _ _ _ e]
    rw [this]
    exact .refl _ _
  | cons a l => exact h1.freezeIn (by simp) C hC hA
abbrev dg (n : Nat) : Bs := [UInt8.ofNat (48 + n)]
abbrev logN (n : Nat) : Bs := [108, 111, 103, 45] ++ dg n
abbrev runN (n : Nat) : Bs := [114, 117, 110, 45] ++ dg n
def Mf.next (m ask : Mf) (l : List Ver) : Mf := ⟨m.number + 1, ask.epoch, if l = [] then m.runs else m.runs ++ [runN (m.number + 1)], logN (m.number + 1)⟩
section
variable {S : Store} {a d mt : Nat} {q : Int} {fs : List Fl} {m : Mf} {rs : List Nat} {ls : List (List Ver)} {lg : AV}
theorem okC_NL (l : List (List AV)) : okC (NL l) = true ∧ cellsOf (NL l) = [NL l] := by cases l <;> exact ⟨rfl, rfl⟩
theorem PS_app (rs : List Nat) (p : Nat) : PSc rs ++ [[.ptr p 0 0]] = PSc (rs ++ [p]) := by simp
set_option maxRecDepth 100000 in
theorem f13_c (h : ArAt S a d mt q fs m rs ls lg) (ask : Mf) (ha1 : 1 ≤ ask.epoch) (ha2 : ask.epoch ≤ 10000) (har : ask.runs.length ≤ 40) (l : List Ver) (hlc : chainOk l) (hll : l.length ≤ 12) (hls : (runB l).length ≤ 20000) (hn1 : m.number + 1 < 10)
    (hr1 : rs.length ≤ 1) (hok : (m.next ask l).Ok) (hmr : m.runs.length ≤ 10)
    (tL : fGet tempL fs = none) (tM : fGet tempM fs = none) (hl : fs.length ≤ 9) (hnd : (fs.map (·.name)).Nodup) (hrn : namedF (runN (m.number + 1)) = true) (hrf : fGet (runN (m.number + 1)) fs = none) (hB : (usedF fs : Int) + (runB l).length + 2000 ≤ q) (hq : q ≤ 16777216)
    {Q : AV → Store → Prop} (hQ : ∀ S' rs' lg', ArAt S' a d mt q (wfs fs (m.next ask l) (runN (m.number + 1)) l) (m.next ask l) rs' (if l = [] then ls else ls ++ [l]) lg' → (∀ x o, S x = some o → x ≠ a → x ≠ mt → S' x = some o) → Q (iv 0) S') :
    ATriple PR 13 [.ptr a 0 0, vers l, bv false, ask.av] S Q := by
  refine f13_ok ?_
  obtain ⟨n1, n2⟩ := ar_ne h.ar h.dk
  have w1 : IntKind.i64.wrap ((m.number : Int) + 1) = ((m.number + 1 : Nat) : Int) := by rw [wrap_id (by omega) (by omega)]; omega
  simp -implicitDefEqProofs only [f13_s, box_Mf, bQ_some]
  refine f63_c h.ar h.dk ?_
  simp -implicitDefEqProofs only [aun_not, bQ_some, Bool.not_true, condW_bv, Bool.false_eq_true, if_false]
  refine f64_c l hlc (by omega) (by omega) S ?_
  simp -implicitDefEqProofs only [aext_tuple, List.getElem?_cons_zero, List.getElem?_cons_succ, bQ_some, abi_neq, show ((0 : Int) != 0) = false from rfl, condW_bv, Bool.false_eq_true, if_false, anil_ptr, padd_ptr, Nat.zero_add, Nat.add_zero, ar_n h.ar, abi_add, w1]
  refine f65_c (m.number + 1) hn1 S ?_
  simp -implicitDefEqProofs only [mfa, bQ_some]
  refine f66_c ask har S ?_
  simp -implicitDefEqProofs only [newW_own]
  intro t ht
  have hta : t ≠ a := fun e => by subst e; rw [h.ar] at ht; cases ht
  have htm : t ≠ mt := fun e => by subst e; rw [h.dk.mp] at ht; cases ht
  have htd : t ≠ d := fun e => by subst e; rw [h.dk.dk] at ht; cases ht
  have s1 : stv 6 (.ptr t 0 0) ask.av (S.set t (.row 31 6 [zMf])) = some (S.set t (.row 31 6 [ask.cs])) := by
    rw [stv_box (sz := 6) (x := ask.av) rfl rfl rfl]; rfl
  have hs1 : Sub S (S.set t (.row 31 6 [ask.cs])) := (Sub.refl S).set ht
  obtain ⟨S1, hS1⟩ : ∃ S1, S1 = S.set t (.row 31 6 [ask.cs]) := ⟨_, rfl⟩
  have ga1 := hs1 _ _ h.ar
  have ead : abi .add (.lit (.string ⟨#[108, 111, 103, 45]⟩)) (sv (dg (m.number + 1))) = some (sv (logN (m.number + 1))) := abi_sadd [108, 111, 103, 45] (dg (m.number + 1)) (by simp)
  have ead2 : abi .add (.lit (.string ⟨#[114, 117, 110, 45]⟩)) (sv (dg (m.number + 1))) = some (sv (runN (m.number + 1))) := abi_sadd [114, 117, 110, 45] (dg (m.number + 1)) (by simp)
  rw [s1]
  rw [← hS1] at ga1 hs1 ⊢
  simp -implicitDefEqProofs only [thenS_some, anil_ptr, padd_ptr, Nat.zero_add, Nat.add_zero, ar_n ga1, bQ_some, abi_add, w1, ead, ar_r ga1, RS_NL]
  refine f67_g (nms m.runs) S1 (by simp) (by simp; omega) fun v1 S2 hg => ?_
  have gt1 : S1 t = some (.row 31 6 [ask.cs]) := by rw [hS1]; exact Store.set_same _ _ _
  have ga2 := hg.g.get ga1
  refine ⟨⟨ar_n ga2, trivial⟩, ?_⟩
  have hv1 := hg.g.ok
  obtain ⟨C, hCC⟩ : ∃ C : AV → List AV, C = fun y => [iv ((m.number + 1 : Nat) : Int), iv ask.epoch, BR, nilS, y, sv (logN (m.number + 1))] := ⟨_, rfl⟩
  have st1 : stv 1 (.ptr t 0 0) (iv ((m.number + 1 : Nat) : Int)) S2 = some (S2.set t (.row 31 6 [ask.cs.set 0 (iv ((m.number + 1 : Nat) : Int))])) := stv_at (hg.g.get gt1) rfl rfl (by simp [Mf.cs])
  have gt2 : (S2.set t (.row 31 6 [ask.cs.set 0 (iv ((m.number + 1 : Nat) : Int))])) t = some (.row 31 6 [ask.cs.set 0 (iv ((m.number + 1 : Nat) : Int))]) := Store.set_same _ _ _
  have st2 := stv_at (o := 5) (x := sv (logN (m.number + 1))) gt2 rfl rfl (by simp [Mf.cs])
  rw [Store.set_set] at st2
  have gt3 := Store.set_same S2 t (.row 31 6 [(ask.cs.set 0 (iv ((m.number + 1 : Nat) : Int))).set 5 (sv (logN (m.number + 1)))])
  have st3 := stv_at (o := 4) (x := v1) gt3 hv1.1 hv1.2 (by simp [Mf.cs])
  rw [Store.set_set] at st3
  have e3 : (((ask.cs.set 0 (iv ((m.number + 1 : Nat) : Int))).set 5 (sv (logN (m.number + 1)))).set 4 v1) = C v1 := by rw [hCC]; rfl
  rw [e3] at st3
  simp -implicitDefEqProofs only [st1, st2, st3, thenS_some, bQ_some, padd_ptr, Nat.zero_add, anil_ptr]
  have hgA := hg.g.upd gt1 (.row 31 6 [C v1])
  obtain ⟨S3, hS3⟩ : ∃ S3, S3 = S2.set t (.row 31 6 [C v1]) := ⟨_, rfl⟩
  obtain ⟨A, hA⟩ : ∃ A, A = S1.set t (.row 31 6 [C v1]) := ⟨_, rfl⟩
  rw [← hS3, ← hA] at hgA
  rw [← hS3]
  have hAS : A = S.set t (.row 31 6 [C v1]) := by rw [hA, hS1, Store.set_set]
  have hsA : Sub S A := by rw [hAS]; exact (Sub.refl S).set ht
  have gA : A t = some (.row 31 6 [C v1]) := by rw [hAS]; exact Store.set_same _ _ _
  have ga3 := hgA.get (hsA _ _ h.ar)
  simp -implicitDefEqProofs only [ar_p ga3, bQ_some]
  refine f68_g (PSc rs) S3 (by simp) (by simp; omega) fun v2 S4 hg2 => ?_
  refine f13_J1_pt ?_
  have el : ∀ S, aln .slice (vers l) S = some (iv l.length) := fun S => by simp [aln]
  simp -implicitDefEqProofs only [f13_j1, ead2, bQ_some, el, abi_gtr]
  have hn1' : nms m.runs = [] → v1 = nilS := fun e => (hg.n e).1
  have hn2' : PSc rs = [] → v2 = nilS := fun e => (hg2.n e).1
  have hCf : ∀ t el a b, Frz t el a b → FrzL t el (C a) (C b) := fun t el a b hab => by
    rw [hCC]; exact .cons (.refl _) (.cons (.refl _) (.cons (.refl _) (.cons (.refl _) (.cons hab (.cons (.refl _) .nil)))))
  have fin : ∀ (rs' : List Nat) (ls' : List (List Ver)) (S5 : Store), ls' = (if l = [] then ls else ls ++ [l]) → Sub S S5 → S5 t = some (.row 31 6 [(m.next ask l).cs]) → rs'.length = ls'.length → rs'.length ≤ 2 → (∀ i (h1 : i < rs'.length) (h2 : i < ls'.length), S5 rs'[i] = some (runOb ls'[i])) → f13_J2 Q (.ptr a 0 0) (vers l) (bytes (runB l)) (iv 0) (.ptr t 0 0) (PS rs') (sv (runN (m.number + 1))) S5 := by
    intro rs' ls' S5 hls' hs5 g5 k1 k2 k3
    have d5 := h.dk.sub hs5
    refine f13_J2_c (m := m) (m' := m.next ask l) (hs5 _ _ h.ar) d5 g5 hok rfl (by omega) (okC_NL _) tL tM (by simp [Mf.next]) hl hnd _ hrn hrf (by simp) (by simp) l (by omega) hB hq fun lg' => ?_
    refine hQ _ rs' lg' ⟨Store.set_same _ _ _, (d5.put _).keep n1 n2, by rw [k1, hls'], k2, fun i h1 h2 => ?_, fun x hx => ?_⟩ fun x o hx x1 x2 => ?_
    · have h2' : i < ls'.length := by rw [hls']; exact h2
      have := k3 i h1 h2'
      have ea : rs'[i] ≠ a := fun e => by rw [e, hs5 _ _ h.ar] at this; simp [arR, runO] at this
      have em : rs'[i] ≠ mt := fun e => by rw [e, d5.mp] at this; cases this
      rw [Store.set_ne _ _ _ ea, Store.set_ne _ _ _ em, this]
      simp only [hls']
    · by_cases hz : l = []
      · rw [if_pos hz] at hx; exact h.ok x hx
      · rw [if_neg hz] at hx
        rcases List.mem_append.1 hx with hx | hx
        · exact h.ok x hx
        · simp only [List.mem_singleton] at hx; subst hx; exact ⟨hlc, hll, hls⟩
    · rw [Store.set_ne _ _ _ x1, Store.set_ne _ _ _ x2]; exact hs5 _ _ hx
  by_cases hz : l = []
  · have : ¬ ((l.length : Int) > 0) := by rw [hz]; simp
    simp -implicitDefEqProofs only [this, decide_false, Bool.false_eq_true, if_false]
    refine f13_J2_ent (frz2 hgA hg2.g hn1' hn2' C hCf gA (fun y => .tuple [.ptr a 0 0, vers l, bytes (runB l), iv 0, .ptr t 0 0, y, sv (runN (m.number + 1))]) fun _ _ _ _ hab => (FrzL.cons (.refl _) (.cons (.refl _) (.cons (.refl _) (.cons (.refl _) (.cons (.refl _) (.cons hab (.cons (.refl _) .nil))))))).tuple) ?_
    refine fin rs ls _ (by rw [if_pos hz]) ?_ ?_ h.len (by omega) fun i h1 h2 => ?_
    · rw [hAS, Store.set_set]; exact (Sub.refl S).set ht
    · rw [Store.set_same, hCC, ← RS_NL]; simp only [Mf.next, Mf.cs, if_pos hz]
    · rw [hAS, Store.set_set]; exact ((Sub.refl S).set ht) _ _ (h.run i h1 h2)
  · have : (l.length : Int) > 0 := by have := List.length_pos_iff.2 hz; omega
    simp -implicitDefEqProofs only [this, decide_true, if_true]
    refine f69_c l hlc hz (by omega) (by omega) S4 fun p hp => ?_
    have hp3 : S3 p = none := hg2.g.sub.none hp
    have hpA : A p = none := hgA.sub.none hp3
    have hp0 : S p = none := hsA.none hpA
    have hpt : p ≠ t := fun e => by subst e; rw [gA] at hpA; cases hpA
    obtain ⟨Sb, b1, b2⟩ := hgA.swap2 hg2.g
    have c2 := b2.under' hp (runOb l)
    have hpb : Sb p = none := b2.sub.none hp
    have c1 := b1.under' hpb (runOb l)
    have gAp : (A.set p (runOb l)) t = some (.row 31 6 [C v1]) := by rw [Store.set_ne _ _ _ hpt.symm]; exact gA
    have l4 : ldv false 1 (.ptr t 0 4) (S4.set p (runOb l)) = some v1 := by
      have := ldv_at (o := 4) (c2.get (c1.get gAp))
      rw [this, hCC]; rfl
    have br : frzOf (bslR true 1 9 1 1 1 [(0, sv (runN (m.number + 1)))]) = some (.svals [[sv (runN (m.number + 1))]]) := bsl_str _
    have bp : frzOf (bslR true 1 140 1 1 1 [(0, .ptr p 0 0)]) = some (.svals [[.ptr p 0 0]]) := rfl
    simp -implicitDefEqProofs only [aext_tuple, List.getElem?_cons_zero, List.getElem?_cons_succ, bQ_some, padd_ptr, Nat.zero_add, l4, br, bp]
    refine c2.app (k := .slice) (bytes := 16) (x := .svals [[sv (runN (m.number + 1))]]) (l := [[sv (runN (m.number + 1))]]) rfl (by simp) (by simp; omega) (by simp; omega) fun v1' S5 hg5 => ?_
    obtain ⟨Sc, d1, d2⟩ := c1.swap2 hg5
    refine d2.app (k := .slice) (bytes := 8) (x := .svals [[.ptr p 0 0]]) (l := [[.ptr p 0 0]]) rfl (by simp) (by simp; omega) (by simp; omega) fun v2' S6 hg6 => ?_
    have gc := d1.get gAp
    have g6 := hg6.get gc
    have st4 : stv 1 (.ptr t 0 4) v1' S6 = some (S6.set t (.row 31 6 [C v1'])) := by
      rw [stv_at g6 d1.ok.1 d1.ok.2 (by rw [hCC]; simp), hCC]; rfl
    rw [st4, thenS_some]
    have f1 := d1.upd gAp (.row 31 6 [C v1'])
    have f2 := hg6.upd gc (.row 31 6 [C v1'])
    refine f13_J2_ent (frz2 f1 f2 (fun e => absurd e (by simp)) (fun e => absurd e (by simp)) C hCf (Store.set_same _ _ _) (fun y => .tuple [.ptr a 0 0, vers l, bytes (runB l), iv 0, .ptr t 0 0, y, sv (runN (m.number + 1))]) fun _ _ _ _ hab => (FrzL.cons (.refl _) (.cons (.refl _) (.cons (.refl _) (.cons (.refl _) (.cons (.refl _) (.cons hab (.cons (.refl _) .nil))))))).tuple) ?_
    rw [PS_app]
    have eF : ((A.set p (runOb l)).set t (.row 31 6 [C v1'])).set t (.row 31 6 [C (NL (nms m.runs ++ [[sv (runN (m.number + 1))]]))]) = (S.set p (runOb l)).set t (.row 31 6 [C (NL (nms m.runs ++ [[sv (runN (m.number + 1))]]))]) := by
      rw [Store.set_set, hAS, Store.set_comm _ hpt.symm, Store.set_set]
    rw [eF]
    have hsF : Sub S ((S.set p (runOb l)).set t (.row 31 6 [C (NL (nms m.runs ++ [[sv (runN (m.number + 1))]]))])) := ((Sub.refl S).set hp0).set ht
    refine fin (rs ++ [p]) (ls ++ [l]) _ (by rw [if_neg hz]) hsF ?_ (by simp [h.len]) (by simp; omega) fun i h1 h2 => ?_
    · rw [Store.set_same, hCC]
      have : NL (nms m.runs ++ [[sv (runN (m.number + 1))]]) = RS (m.runs ++ [runN (m.number + 1)]) := by rw [RS_NL]; simp
      rw [this]; simp only [Mf.next, Mf.cs, if_neg hz]
    · by_cases hi : i < rs.length
      · have hi2 : i < ls.length := by rw [← h.len]; exact hi
        rw [List.getElem_append_left hi, List.getElem_append_left hi2]
        exact hsF _ _ (h.run i hi hi2)
      · have : i = rs.length := by simp at h1; omega
        subst this
        have e1 : (rs ++ [p])[rs.length]'h1 = p := by simp
        have e2 : (ls ++ [l])[rs.length]'h2 = l := by simp [h.len]
        rw [e1, e2, Store.set_ne _ _ _ hpt]
        exact Store.set_same _ _ _
end
end Go.Du
namespace Go.Du
open Go
attribute [local irreducible] ATriple W evP AI AExt callW
section
variable {S : Store} {a d mt : Nat} {q : Int} {fs : List Fl} {m : Mf} {rs : List Nat} {ls : List (List Ver)} {lg : AV}
theorem strs_nms (l : List Bs) : FzL (strs l) (RS l) := by
  cases l with
  | nil => exact .nil rfl
  | cons a l => exact .vals
theorem f21_c (h : ArAt S a d mt q fs m rs ls lg) (hr : m.runs.length ≤ 40) (R : List Ver) (rows g : AV) (hR : FzL (R.map Ver.cs) rows) (hg : okC g = true ∧ cellsOf g = [g]) (hro : onceF [] none (mergeAll ls) = R) (hRl : R.length ≤ 1099511627776) (p2 : AV) (hp2 : FzL [] p2)
    {Q : AV → Store → Prop} (hQ : Q (bv true) S) : ATriple PR 21 [.ptr a 0 0, refA rows m.runs.length g m.epoch brs p2 m.number] S Q := by
  refine f21_ok ?_
  have e0 : frzOf (boxR true 38 (refA rows m.runs.length g m.epoch brs p2 m.number)) = some (.fptr [rows, iv m.runs.length, g, iv m.epoch, brs, p2, iv m.number] 0) := rfl
  have e1 : ∀ S, ldv true 7 (.fptr [rows, iv m.runs.length, g, iv m.epoch, brs, p2, iv m.number] 0) S = some (refA rows m.runs.length g m.epoch brs p2 m.number) := fun _ => rfl
  have e2 : ∀ S, ldv false 1 (.fptr [rows, iv m.runs.length, g, iv m.epoch, brs, p2, iv m.number] 0) S = some rows := fun _ => rfl
  simp -implicitDefEqProofs only [f21_s, e0, e1, bQ_some]
  refine f85_c h.ar hr ?_
  refine ⟨⟨trivial, trivial⟩, ?_⟩
  refine f84_c m.number m.epoch rows g nilS p2 (.nil rfl) hp2 (RS m.runs) m.runs (by omega) (strs_nms _) m.log S ?_
  simp -implicitDefEqProofs only [aun_not, bQ_some, Bool.not_true, condW_bv, Bool.false_eq_true, if_false, padd_fptr, Nat.zero_add, e2]
  refine f86_c h ?_
  refine ⟨⟨trivial, trivial⟩, ?_⟩
  have he : Ent (.tuple [vers (onceF [] none (mergeAll ls)), rows]) S (.tuple [vers (onceF [] none (mergeAll ls)), vers R]) S := Ent.val (fun t el => (FrzL.cons (.refl _) (.cons (hR.frz t el) .nil)).tuple) 0
  refine ATriple.ent he ?_
  rw [hro]
  refine f16_c R R hRl S ?_
  rw [decide_eq_true rfl]
  exact dropQ_self hQ
abbrev R0 : List AV := [nilS, iv 0, nilS, iv 1, brs, nilS, iv 1]
abbrev Z7 : List AV := [.lit (.slice none 0 0), .lit (.int .i64 0), .lit (.slice none 0 0), .lit (.int .i64 0), .lit (.slice none 0 0), .lit (.slice none 0 0), .lit (.int .i64 0)]
def worldR (d : Nat) (pa : AV) : AObj := .row 40 18 [.ptr d 0 0 :: pa :: (R0 ++ Z7 ++ [bv false, bv false])]
set_option maxRecDepth 100000 in
theorem f59_c {w : Nat} (hw : S w = some (worldR d (.lit (.pointer none)))) (hd : DiskAt S d mt q []) (hq0 : 100000 ≤ q) (hq : q ≤ 16777216)
    {Q : AV → Store → Prop} (hQ : ∀ a lg, S a = none → Q (bv true) (((S.set mt (.map (dEs fs0))).set a (arR d m0 nilS lg)).set w (worldR d (.ptr a 0 0)))) : ATriple PR 59 [.ptr w 0 0, nilS] S Q := by
  refine f59_ok ?_
  have hwd : w ≠ d := fun e => by have := hd.dk; rw [← e, hw] at this; simp [worldR] at this
  have hwm : w ≠ mt := fun e => by subst e; rw [hd.mp] at hw; cases hw
  have ld16 : ∀ S' pa, S' w = some (worldR d pa) → ldv false 1 (.ptr w 0 16) S' = some (bv false) := fun S' pa h => ldv_at h
  have ld0 : ∀ S' pa, S' w = some (worldR d pa) → ldv false 1 (.ptr w 0 0) S' = some (.ptr d 0 0) := fun S' pa h => ldv_at h
  have ldR : ∀ S' pa, S' w = some (worldR d pa) → ldv true 7 (.ptr w 0 2) S' = some (.agg R0) := fun S' pa h => by
    rw [ldv_ptr1 true 7 w 0 2 S' h rfl]; rfl
  have st16 : ∀ S' pa, S' w = some (worldR d pa) → stv 1 (.ptr w 0 16) (bv false) S' = some S' := fun S' pa h => by
    rw [stv_at h rfl rfl (by simp)]
    congr 1
    funext x
    by_cases e : x = w
    · subst e; rw [Store.set_same, h]; rfl
    · rw [Store.set_ne _ _ _ e]
  simp -implicitDefEqProofs only [f59_s, anil_ptr, padd_ptr, Nat.zero_add, bQ_some, ld16 S _ hw, gdQ_bv, gdE_bv, if_true, ld0 S _ hw]
  refine f169_c hd ?_
  simp -implicitDefEqProofs only [aun_not, Bool.not_true, apick_bv, Bool.false_eq_true, if_false, bQ_some, st16 S _ hw, thenS_some, ld0 S _ hw]
  refine f170_c hd _ ?_
  refine f59_L1_pt ?_
  simp -implicitDefEqProofs only [f59_l1, abi_lss, show decide ((0 : Int) < 4) = true from rfl, bQ_some, condW_bv, if_true, anil_ptr, padd_ptr, Nat.zero_add, ld0 S _ hw]
  refine f87_c hd hq0 hq fun a lg ha => ?_
  have haw : a ≠ w := fun e => by subst e; rw [hw] at ha; cases ha
  have had : a ≠ d := fun e => by subst e; rw [hd.dk] at ha; cases ha
  have ham : a ≠ mt := fun e => by subst e; rw [hd.mp] at ha; cases ha
  have hQ' := hQ a lg ha
  obtain ⟨S1, hS1⟩ : ∃ S1, S1 = (S.set mt (.map (dEs fs0))).set a (arR d m0 nilS lg) := ⟨_, rfl⟩
  rw [← hS1] at hQ' ⊢
  have g1 : S1 w = some (worldR d (.lit (.pointer none))) := by rw [hS1, Store.set_ne _ _ _ haw.symm, Store.set_ne _ _ _ hwm]; exact hw
  have st1 : stv 1 (.ptr w 0 1) (.ptr a 0 0) S1 = some (S1.set w (worldR d (.ptr a 0 0))) := by
    rw [stv_at g1 rfl rfl (by simp)]; rfl
  obtain ⟨S2, hS2⟩ : ∃ S2, S2 = S1.set w (worldR d (.ptr a 0 0)) := ⟨_, rfl⟩
  rw [← hS2] at hQ' st1
  have g2 : S2 w = some (worldR d (.ptr a 0 0)) := by rw [hS2]; exact Store.set_same _ _ _
  have hAr : ArAt S2 a d mt q fs0 m0 [] [] lg := by
    refine ⟨?_, ?_, rfl, by simp, fun i h1 => absurd h1 (Nat.not_lt_zero _), fun l hl => by cases hl⟩
    · rw [hS2, Store.set_ne _ _ _ haw, hS1]; exact Store.set_same _ _ _
    · rw [hS2, hS1]; exact ((hd.put fs0).keep had ham).keep hwd hwm
  have ea : ∀ S, aeqv false .ptr (.ptr a 0 0) (.lit (.pointer none)) S = some (bv false) := fun _ => rfl
  simp -implicitDefEqProofs only [aext_tuple, List.getElem?_cons_zero, List.getElem?_cons_succ, bQ_some, abi_eql, show ((0 : Int) == 7) = false from rfl, condW_bv, Bool.false_eq_true, if_false, ea, gdQ_bv, if_true, abi_neq, show ((0 : Int) != 0) = false from rfl, apick_bv, anil_ptr, padd_ptr, Nat.zero_add, st1, thenS_some, ldR S2 _ g2]
  refine f21_c hAr (by simp [m0]) [] nilS nilS (.nil rfl) ⟨rfl, rfl⟩ rfl (by simp) nilS (.nil rfl) ?_
  simp -implicitDefEqProofs only [gdQ_bv, gdE_bv, if_true, anil_ptr, padd_ptr, Nat.zero_add, bQ_some, ldR S2 _ g2]
  refine f172_c nilS nilS nilS brs nilS 0 1 1 (.nil rfl) S2 ?_
  refine f171_c nilS nilS (.nil rfl) (.nil rfl) S2 ?_
  simp -implicitDefEqProofs only [apick_bv, if_true, bQ_some, anil_ptr, padd_ptr, Nat.zero_add, ld16 S2 _ g2, gdQ_bv, gdE_bv, Bool.false_eq_true, if_false, aun_not, Bool.not_true, condW_bv]
  refine f59_J2_pt ?_
  simp -implicitDefEqProofs only [f59_j2, gdQ_bv, gdE_bv, if_true, bQ_some, apick_bv, Bool.false_eq_true, if_false, condW_bv]
  refine f59_J3_pt ?_
  simp -implicitDefEqProofs only [f59_j3, anil_ptr, padd_ptr, Nat.zero_add, bQ_some, st16 S2 _ g2, thenS_some, gdQ_bv, apick_bv, if_true]
  refine f59_K1_ret_pt ?_
  exact dropQ_self hQ'
theorem f11_c (hq0 : 100000 ≤ q) (hq : q ≤ 16777216) {Q : AV → Store → Prop} (hQ : ∀ w d mt a lg S', S' w = some (worldR d (.ptr a 0 0)) → ArAt S' a d mt q fs0 m0 [] [] lg → Sub S S' → S w = none → w ≠ a → w ≠ mt → Q (.ptr w 0 0) S') : ATriple PR 11 [iv q] S Q := by
  refine f11_ok ?_
  simp -implicitDefEqProofs only [f11_s]
  refine f58_c q (by omega) hq S fun d mt S1 hs1 hd0 hm0 hfr hd => ?_
  refine f14_c S1 ?_
  have e0 : abld [.lit (.pointer none), .lit (.pointer none), .lit (.slice none 0 0), .lit (.int .i64 0), .lit (.slice none 0 0), .lit (.int .i64 0), .lit (.slice none 0 0), .lit (.slice none 0 0), .lit (.int .i64 0), .lit (.slice none 0 0), .lit (.int .i64 0), .lit (.slice none 0 0), .lit (.int .i64 0), .lit (.slice none 0 0), .lit (.slice none 0 0), .lit (.int .i64 0), .lit (.bool false), .lit (.bool false)] [(0, 1, .ptr d 0 0), (2, 7, .agg R0)] = some (.agg (.ptr d 0 0 :: .lit (.pointer none) :: (R0 ++ Z7 ++ [bv false, bv false]))) := rfl
  have e1 : boxR false 40 (.agg (.ptr d 0 0 :: .lit (.pointer none) :: (R0 ++ Z7 ++ [bv false, bv false]))) = some (.own (worldR d (.lit (.pointer none))) fun u => .ptr u 0 0) := rfl
  simp -implicitDefEqProofs only [e0, e1, bQ_some, newW_own]
  intro w hw
  have hwd : w ≠ d := fun e => by subst e; rw [hd.dk] at hw; cases hw
  have hwm : w ≠ mt := fun e => by subst e; rw [hd.mp] at hw; cases hw
  have hw0 : S w = none := hs1.none hw
  refine f59_c (Store.set_same _ _ _) (hd.keep hwd hwm) hq0 hq fun a lg ha => ?_
  have haw : a ≠ w := fun e => by subst e; rw [Store.set_same] at ha; cases ha
  have ha1 : S1 a = none := by rwa [Store.set_ne _ _ _ haw] at ha
  have had : a ≠ d := fun e => by subst e; rw [hd.dk] at ha1; cases ha1
  have ham : a ≠ mt := fun e => by subst e; rw [hd.mp] at ha1; cases ha1
  simp -implicitDefEqProofs only [aun_not, Bool.not_true, bQ_some, condW_bv, Bool.false_eq_true, if_false]
  refine dropQ_self (hQ w d mt a lg _ (Store.set_same _ _ _) ⟨?_, ?_, rfl, by simp, fun i h1 => absurd h1 (Nat.not_lt_zero _), fun l hl => by cases hl⟩ ?_ hw0 haw.symm hwm)
  · rw [Store.set_ne _ _ _ haw]; exact Store.set_same _ _ _
  · exact (((hd.keep hwd hwm).put fs0).keep had ham).keep hwd hwm
  · intro x o hx
    have x1 : x ≠ w := fun e => by subst e; rw [hw0] at hx; cases hx
    have x2 : x ≠ a := fun e => by subst e; rw [hs1 _ _ hx] at ha1; cases ha1
    have x3 : x ≠ mt := fun e => by subst e; rw [hm0] at hx; cases hx
    rw [Store.set_ne _ _ _ x1, Store.set_ne _ _ _ x2, Store.set_ne _ _ _ x3, Store.set_ne _ _ _ x1]
    exact hs1 _ _ hx
end
end Go.Du
namespace Go.Du
open Go
theorem less_def (a b : Ver) : a.less b = true ↔ bl a.key b.key = true ∨ (a.key = b.key ∧ (a.br < b.br ∨ (a.br = b.br ∧ (a.ep < b.ep ∨ (a.ep = b.ep ∧ (a.sq < b.sq ∨ (a.sq = b.sq ∧ a.fr < b.fr))))))) := by
  unfold Ver.less
  by_cases h1 : a.key = b.key
  · have hb : bl a.key b.key = false := by rw [h1]; exact bl_irrefl _
    simp only [h1, bne_self_eq_false, Bool.false_eq_true, if_false, true_and]
    rw [bl_irrefl]
    simp only [Bool.false_eq_true, false_or]
    by_cases h2 : a.br = b.br
    · simp only [h2, bne_self_eq_false, Bool.false_eq_true, if_false, true_and, Int.lt_irrefl, false_or]
      by_cases h3 : a.ep = b.ep
      · simp only [h3, bne_self_eq_false, Bool.false_eq_true, if_false, true_and, Int.lt_irrefl, false_or]
        by_cases h4 : a.sq = b.sq
        · simp only [h4, bne_self_eq_false, Bool.false_eq_true, if_false, true_and, Int.lt_irrefl, false_or, decide_eq_true_eq]
        · have : (a.sq != b.sq) = true := by simpa using h4
          simp only [this, if_true, decide_eq_true_eq, h4, false_and, or_false]
      · have : (a.ep != b.ep) = true := by simpa using h3
        simp only [this, if_true, decide_eq_true_eq, h3, false_and, or_false]
    · have : (a.br != b.br) = true := by simpa using h2
      simp only [this, if_true, decide_eq_true_eq, h2, false_and, or_false]
  · have : (a.key != b.key) = true := by simpa using h1
    simp only [this, if_true, h1, false_and, or_false]
theorem less_irrefl (a : Ver) : a.less a = false := by
  cases h : a.less a with
  | false => rfl
  | true =>
    rw [less_def, bl_irrefl] at h
    simp at h
theorem less_trans {a b c : Ver} (h : a.less b = true) (k : b.less c = true) : a.less c = true := by
  rw [less_def] at h k ⊢
  rcases h with h | ⟨h, h'⟩
  · rcases k with k | ⟨k, _⟩
    · exact .inl (bl_trans _ _ _ h k)
    · exact .inl (k ▸ h)
  · rcases k with k | ⟨k, k'⟩
    · exact .inl (h ▸ k)
    · refine .inr ⟨h.trans k, ?_⟩
      clear h k
      omega
theorem less_asymm {a b : Ver} (h : a.less b = true) : b.less a = false := by
  cases k : b.less a with
  | false => rfl
  | true => have := less_trans h k; rw [less_irrefl] at this; cases this
def Ver.kk (a : Ver) : Bs × Int × Int × Int × Int := (a.key, a.br, a.ep, a.sq, a.fr)
theorem less_kk {a b c : Ver} (h : a.kk = b.kk) : a.less c = b.less c ∧ c.less a = c.less b := by
  simp only [Ver.kk, Prod.mk.injEq] at h
  obtain ⟨h1, h2, h3, h4, h5⟩ := h
  unfold Ver.less
  rw [h1, h2, h3, h4, h5]
  exact ⟨rfl, rfl⟩
theorem less_tri {a b : Ver} (h : a.less b = false) (k : b.less a = false) : a.kk = b.kk := by
  have h' : ¬ a.less b = true := by rw [h]; simp
  have k' : ¬ b.less a = true := by rw [k]; simp
  rw [less_def] at h' k'
  simp only [not_or, not_and] at h' k'
  have e1 : a.key = b.key := by
    refine Decidable.byContradiction fun e => ?_
    have := bl_tot a.key b.key (by simpa using h'.1) e
    exact k'.1 this
  have h2 := h'.2 e1
  have k2 := k'.2 e1.symm
  have e2 : a.br = b.br := by omega
  have h3 := h2.2 e2
  have k3 := k2.2 e2.symm
  have e3 : a.ep = b.ep := by omega
  have h4 := h3.2 e3
  have k4 := k3.2 e3.symm
  have e4 : a.sq = b.sq := by omega
  have h5 := h4.2 e4
  have k5 := k4.2 e4.symm
  have e5 : a.fr = b.fr := by omega
  simp only [Ver.kk, e1, e2, e3, e4, e5]
theorem less_le_trans {a b c : Ver} (h : b.less a = false) (k : b.less c = true) : a.less c = true := by
  cases e : a.less b with
  | true => exact less_trans e k
  | false => rw [(less_kk (less_tri e h)).1]; exact k
theorem cmp_kk {a b : Ver} (h : a.kk = b.kk) : a.cmp b = 0 := by
  simp only [Ver.kk, Prod.mk.injEq] at h
  obtain ⟨h1, h2, h3, h4, h5⟩ := h
  have hb : bl b.key b.key = false := bl_irrefl _
  unfold bl at hb
  simp [Ver.cmp, cmpB, cmpI, firstI, h1, h2, h3, h4, h5, hb]
theorem firstI_pos {x : Int} {l : List Int} (h : 0 < x) : 0 < firstI (x :: l) := by
  simp only [firstI]; rw [if_neg (by omega)]; exact h
theorem firstI_ge {x : Int} {l : List Int} (h : 0 ≤ x) (hl : 0 < firstI l) : 0 < firstI (x :: l) := by
  simp only [firstI]; split
  · exact hl
  · omega
theorem cmpI_gt {a b : Int} (h : b < a) : 0 < cmpI a b := by unfold cmpI; rw [if_neg (by omega), if_pos h]; decide
theorem cmpI_eq {a b : Int} (h : a = b) : 0 ≤ cmpI a b := by unfold cmpI; rw [if_neg (by omega), if_neg (by omega)]; decide
theorem cmp_gt {a b : Ver} (h : b.less a = true) : 0 < a.cmp b := by
  rw [less_def] at h
  unfold Ver.cmp
  rcases h with h | ⟨h1, h⟩
  · refine firstI_pos ?_
    have h2 := bl_asymm h
    have h3 : a.key ≠ b.key := fun e => by rw [e, bl_irrefl] at h; cases h
    unfold cmpB
    unfold bl at h2
    rw [if_neg (by rw [h2]; simp), if_neg h3]; decide
  · refine firstI_ge ?_ ?_
    · unfold cmpB
      have : bl a.key b.key = false := by rw [h1]; exact bl_irrefl _
      unfold bl at this
      rw [if_neg (by rw [this]; simp), if_pos h1.symm]; decide
    · rcases h with h | ⟨h2, h⟩
      · exact firstI_pos (cmpI_gt h)
      · refine firstI_ge (cmpI_eq h2.symm) ?_
        rcases h with h | ⟨h3, h⟩
        · exact firstI_pos (cmpI_gt h)
        · refine firstI_ge (cmpI_eq h3.symm) ?_
          rcases h with h | ⟨h4, h⟩
          · exact firstI_pos (cmpI_gt h)
          · refine firstI_ge (cmpI_eq h4.symm) ?_
            exact firstI_pos (cmpI_gt h)
theorem cmp_zero {a b : Ver} : a.cmp b = 0 ↔ a.less b = false ∧ b.less a = false := by
  constructor
  · intro h
    refine ⟨?_, ?_⟩
    · cases e : a.less b with
      | false => rfl
      | true => have := cmp_lt a b e; omega
    · cases e : b.less a with
      | false => rfl
      | true => have := cmp_gt e; omega
  · rintro ⟨h, k⟩
    exact cmp_kk (less_tri h k)
theorem cmp_neg {a b : Ver} : a.cmp b < 0 ↔ a.less b = true := by
  constructor
  · intro h
    cases e : a.less b with
    | true => rfl
    | false =>
      cases e2 : b.less a with
      | true => have := cmp_gt e2; omega
      | false => have := cmp_zero.2 ⟨e, e2⟩; omega
  · exact cmp_lt a b
def SS (l : List Ver) : Prop := l.Pairwise fun x y => x.less y = true
theorem SS.eq : ∀ {a b : List Ver}, SS a → SS b → (∀ v, v ∈ a ↔ v ∈ b) → a = b
  | [], [], _, _, _ => rfl
  | [], y :: b, _, _, h => absurd ((h y).2 (by simp)) (by simp)
  | x :: a, [], _, _, h => absurd ((h x).1 (by simp)) (by simp)
  | x :: a, y :: b, ha, hb, h => by
    have ha' := List.pairwise_cons.1 ha
    have hb' := List.pairwise_cons.1 hb
    have hxy : x = y := by
      have h1 := (h x).1 (by simp)
      have h2 := (h y).2 (by simp)
      simp only [List.mem_cons] at h1 h2
      rcases h1 with h1 | h1
      · exact h1
      · rcases h2 with h2 | h2
        · exact h2.symm
        · have k1 := hb'.1 x h1
          have k2 := ha'.1 y h2
          rw [less_asymm k1] at k2; cases k2
    subst hxy
    congr 1
    refine SS.eq ha'.2 hb'.2 fun v => ?_
    have hv := h v
    simp only [List.mem_cons] at hv
    constructor
    · intro hm
      rcases hv.1 (.inr hm) with e | e
      · subst e; have := ha'.1 v hm; rw [less_irrefl] at this; cases this
      · exact e
    · intro hm
      rcases hv.2 (.inr hm) with e | e
      · subst e; have := hb'.1 v hm; rw [less_irrefl] at this; cases this
      · exact e
theorem chain_SS : ∀ {l : List Ver}, chainOk l → SS l
  | [], _ => List.Pairwise.nil
  | x :: l, h => by
    have h' : chainOk l := fun i hi => by
      obtain ⟨k1, k2, k3⟩ := h (i + 1) (by simp; omega)
      refine ⟨by simpa using k1, by simpa using k2, fun h0 => ?_⟩
      have := k3 (by omega)
      simp only [List.getElem_cons_succ] at this
      have e : (x :: l)[i + 1 - 1]'(by simp; omega) = l[i - 1]'(by omega) := by
        obtain ⟨j, rfl⟩ : ∃ j, i = j + 1 := ⟨i - 1, by omega⟩
        simp
      rw [e] at this
      exact this
    have ih := chain_SS h'
    refine List.pairwise_cons.2 ⟨fun y hy => ?_, ih⟩
    cases l with
    | nil => simp at hy
    | cons z l =>
      have h0 : x.less z = true := by
        have := (h 1 (by simp)).2.2 (by omega)
        simpa using this
      simp only [List.mem_cons] at hy
      rcases hy with rfl | hy
      · exact h0
      · exact less_trans h0 ((List.pairwise_cons.1 ih).1 y hy)
def om : List Ver → List Ver → List Ver
  | [], b => b
  | x :: a, [] => x :: a
  | x :: a, y :: b => if x.less y then x :: om a (y :: b) else if y.less x then y :: om (x :: a) b else y :: om a b
  termination_by a b => a.length + b.length
theorem om_nil (a : List Ver) : om a [] = a := by cases a <;> simp [om]
theorem om_mem : ∀ (a b : List Ver), SS a → SS b → ∀ v, v ∈ om a b ↔ v ∈ b ∨ (v ∈ a ∧ ∀ u ∈ b, v.less u = true ∨ u.less v = true)
  | [], b, _, _, v => by simp [om]
  | x :: a, [], _, _, v => by simp [om]
  | x :: a, y :: b, ha, hb, v => by
    have ha' := List.pairwise_cons.1 ha
    have hb' := List.pairwise_cons.1 hb
    rw [om]
    split
    · rename_i h
      rw [List.mem_cons, om_mem a (y :: b) ha'.2 hb v]
      constructor
      · rintro (rfl | h1 | ⟨h1, h2⟩)
        · refine .inr ⟨by simp, fun u hu => .inl ?_⟩
          rcases List.mem_cons.1 hu with rfl | hu
          · exact h
          · exact less_trans h (hb'.1 u hu)
        · exact .inl h1
        · exact .inr ⟨by simp [h1], h2⟩
      · rintro (h1 | ⟨h1, h2⟩)
        · exact .inr (.inl h1)
        · rcases List.mem_cons.1 h1 with rfl | h1
          · exact .inl rfl
          · exact .inr (.inr ⟨h1, h2⟩)
    · rename_i h
      split
      · rename_i k
        rw [List.mem_cons, om_mem (x :: a) b ha hb'.2 v]
        constructor
        · rintro (rfl | h1 | ⟨h1, h2⟩)
          · exact .inl (by simp)
          · exact .inl (by simp [h1])
          · refine .inr ⟨h1, fun u hu => ?_⟩
            rcases List.mem_cons.1 hu with rfl | hu
            · right
              rcases List.mem_cons.1 h1 with rfl | h1
              · exact k
              · exact less_trans k (ha'.1 v h1)
            · exact h2 u hu
        · rintro (h1 | ⟨h1, h2⟩)
          · rcases List.mem_cons.1 h1 with rfl | h1
            · exact .inl rfl
            · exact .inr (.inl h1)
          · exact .inr (.inr ⟨h1, fun u hu => h2 u (by simp [hu])⟩)
      · rename_i k
        have h' : x.less y = false := by simpa using h
        have k' : y.less x = false := by simpa using k
        have hk := less_tri h' k'
        rw [List.mem_cons, om_mem a b ha'.2 hb'.2 v]
        constructor
        · rintro (rfl | h1 | ⟨h1, h2⟩)
          · exact .inl (by simp)
          · exact .inl (by simp [h1])
          · refine .inr ⟨by simp [h1], fun u hu => ?_⟩
            rcases List.mem_cons.1 hu with rfl | hu
            · right
              rw [← (less_kk (c := v) hk).1]; exact ha'.1 v h1
            · exact h2 u hu
        · rintro (h1 | ⟨h1, h2⟩)
          · rcases List.mem_cons.1 h1 with rfl | h1
            · exact .inl rfl
            · exact .inr (.inl h1)
          · rcases List.mem_cons.1 h1 with rfl | h1
            · rcases h2 y (by simp) with e | e
              · rw [h'] at e; cases e
              · rw [k'] at e; cases e
            · exact .inr (.inr ⟨h1, fun u hu => h2 u (by simp [hu])⟩)
  termination_by a b => a.length + b.length
theorem om_SS : ∀ (a b : List Ver), SS a → SS b → SS (om a b)
  | [], b, _, hb => by rw [om]; exact hb
  | x :: a, [], ha, _ => by rw [om]; exact ha
  | x :: a, y :: b, ha, hb => by
    have ha' := List.pairwise_cons.1 ha
    have hb' := List.pairwise_cons.1 hb
    rw [om]
    split
    · rename_i h
      refine List.pairwise_cons.2 ⟨fun v hv => ?_, om_SS a (y :: b) ha'.2 hb⟩
      rcases (om_mem a (y :: b) ha'.2 hb v).1 hv with h1 | ⟨h1, _⟩
      · rcases List.mem_cons.1 h1 with rfl | h1
        · exact h
        · exact less_trans h (hb'.1 v h1)
      · exact ha'.1 v h1
    · rename_i h
      have h' : x.less y = false := by simpa using h
      split
      · rename_i k
        refine List.pairwise_cons.2 ⟨fun v hv => ?_, om_SS (x :: a) b ha hb'.2⟩
        rcases (om_mem (x :: a) b ha hb'.2 v).1 hv with h1 | ⟨h1, _⟩
        · exact hb'.1 v h1
        · rcases List.mem_cons.1 h1 with rfl | h1
          · exact k
          · exact less_trans k (ha'.1 v h1)
      · rename_i k
        refine List.pairwise_cons.2 ⟨fun v hv => ?_, om_SS a b ha'.2 hb'.2⟩
        rcases (om_mem a b ha'.2 hb'.2 v).1 hv with h1 | ⟨h1, _⟩
        · exact hb'.1 v h1
        · exact less_le_trans (by simpa using h) (ha'.1 v h1)
  termination_by a b => a.length + b.length
end Go.Du
namespace Go.Du
open Go
def mg : List Ver → List Ver → List Ver
  | [], b => b
  | x :: a, [] => x :: a
  | x :: a, y :: b => if y.less x then y :: mg (x :: a) b else x :: mg a (y :: b)
  termination_by a b => a.length + b.length
theorem mg_nil (a : List Ver) : mg a [] = a := by cases a <;> simp [mg]
def HH (i j : Int) : List Ver → List Ver → List Head
  | [], [] => []
  | [], y :: b => [(y :: b, j)]
  | x :: a, [] => [(x :: a, i)]
  | x :: a, y :: b => if y.less x then [(y :: b, j), (x :: a, i)] else [(x :: a, i), (y :: b, j)]
theorem hless_ji {i j : Int} (hij : i < j) (x y : Ver) (a b : List Ver) : hless (y :: b, j) (x :: a, i) = y.less x := by
  unfold hless
  simp only
  split
  · rename_i h
    by_cases k : y.less x = true
    · rw [k]; simpa using cmp_neg.2 k
    · have : ¬ y.cmp x < 0 := fun e => k (cmp_neg.1 e)
      rw [Bool.not_eq_true] at k
      rw [k]; simpa using this
  · rename_i h
    have := cmp_zero.1 (show y.cmp x = 0 by omega)
    rw [this.1]; simp; omega
theorem hless_ij {i j : Int} (hij : i < j) (x y : Ver) (a b : List Ver) : hless (x :: a, i) (y :: b, j) = !(y.less x) := by
  unfold hless
  simp only
  split
  · rename_i h
    by_cases k : x.less y = true
    · rw [less_asymm k]; simpa using cmp_neg.2 k
    · have h1 : ¬ x.cmp y < 0 := fun e => k (cmp_neg.1 e)
      have h2 : y.less x = true := by
        cases e : y.less x with
        | true => rfl
        | false => exact absurd (cmp_zero.2 ⟨by simpa using k, e⟩) h
      rw [h2]; simpa using h1
  · rename_i h
    have := cmp_zero.1 (show x.cmp y = 0 by omega)
    rw [this.2]; simpa using hij
theorem mergeF_mg {i j : Int} (hij : i < j) : ∀ (n : Nat) (a b : List Ver), n = a.length + b.length → mergeF n (HH i j a b) = mg a b
  | 0, a, b, h => by
    have ha : a = [] := List.eq_nil_of_length_eq_zero (by omega)
    have hb : b = [] := List.eq_nil_of_length_eq_zero (by omega)
    subst ha hb; simp [mergeF, mg]
  | n + 1, [], [], h => by simp at h
  | n + 1, [], y :: b, h => by
    have ih := mergeF_mg hij n [] b (by simp at h ⊢; omega)
    have e : fixH b j [] = HH i j [] b := by cases b <;> rfl
    rw [mg] at ih ⊢
    show y :: mergeF n (fixH b j []) = _
    rw [e, ih]
  | n + 1, x :: a, [], h => by
    have ih := mergeF_mg hij n a [] (by simp at h ⊢; omega)
    have e : fixH a i [] = HH i j a [] := by cases a <;> rfl
    rw [mg_nil] at ih ⊢
    show x :: mergeF n (fixH a i []) = _
    rw [e, ih]
  | n + 1, x :: a, y :: b, h => by
    simp only [HH, mg]
    split
    · rename_i k
      have ih := mergeF_mg hij n (x :: a) b (by simp at h ⊢; omega)
      have e : fixH b j [(x :: a, i)] = HH i j (x :: a) b := by
        cases b with
        | nil => rfl
        | cons z b =>
          simp only [fixH, HH, hless_ij hij]
          cases z.less x <;> rfl
      simp only [mergeF, e, ih]
    · rename_i k
      have ih := mergeF_mg hij n a (y :: b) (by simp at h ⊢; omega)
      have e : fixH a i [(y :: b, j)] = HH i j a (y :: b) := by
        cases a with
        | nil => rfl
        | cons z a =>
          simp only [fixH, HH, hless_ji hij]
      simp only [mergeF, e, ih]
theorem mergeAll_two (a b : List Ver) : mergeAll [a, b] = mg a b := by
  unfold mergeAll
  rw [headsOf_total]
  have e : initH (headsOf 0 [a, b]) = HH 0 1 a b := by
    cases a with
    | nil =>
      cases b with
      | nil => rfl
      | cons y b => simp [headsOf, initH, HH]
    | cons x a =>
      cases b with
      | nil => simp [headsOf, initH, HH]
      | cons y b =>
        simp only [headsOf, List.cons_ne_nil, if_false, initH, HH]
        have := hless_ji (i := ((0 : Nat) : Int)) (j := ((0 + 1 : Nat) : Int)) (by omega) x y a b
        rw [this]
        rfl
  rw [e, mergeF_mg (by omega)]
  simp
theorem mergeAll_one (a : List Ver) : mergeAll [a] = a := by
  unfold mergeAll
  rw [headsOf_total]
  have e : initH (headsOf 0 [a]) = HH 0 1 a [] := by
    cases a with
    | nil => rfl
    | cons x a => simp [headsOf, initH, HH]
  rw [e, mergeF_mg (by omega), mg_nil]
  simp
def go1 (p : Ver) : List Ver → List Ver
  | [] => [p]
  | x :: r => if p.cmp x = 0 then go1 x r else p :: go1 x r
theorem onceF_go : ∀ (r acc : List Ver) (p : Ver), onceF (acc ++ [p]) (some p) r = acc ++ go1 p r
  | [], acc, p => by simp [onceF, go1]
  | x :: r, acc, p => by
    simp only [onceF, go1]
    split
    · have e : (acc ++ [p]).set ((acc ++ [p]).length - 1) x = acc ++ [x] := by simp
      rw [e, onceF_go r acc x]
    · rw [onceF_go r (acc ++ [p]) x]
      simp
def oF : List Ver → List Ver
  | [] => []
  | x :: r => go1 x r
theorem onceF_oF (l : List Ver) : onceF [] none l = oF l := by
  cases l with
  | nil => rfl
  | cons x r =>
    have := onceF_go r [] x
    simpa [onceF, oF] using this
theorem oF_cons {p : Ver} {l : List Ver} (h : ∀ z r, l = z :: r → p.less z = true) : oF (p :: l) = p :: oF l := by
  cases l with
  | nil => rfl
  | cons z r =>
    have hz := h z r rfl
    have : ¬ p.cmp z = 0 := by have := cmp_lt p z hz; omega
    simp [oF, go1, this]
theorem oF_SS : ∀ {l : List Ver}, SS l → oF l = l
  | [], _ => rfl
  | p :: l, h => by
    have h' := List.pairwise_cons.1 h
    rw [oF_cons fun z r e => h'.1 z (by rw [e]; simp), oF_SS h'.2]
theorem mg_head {a b : List Ver} {z : Ver} {r : List Ver} (h : mg a b = z :: r) : z ∈ a ∨ z ∈ b := by
  cases a with
  | nil => rw [mg] at h; subst h; exact .inr (by simp)
  | cons x a =>
    cases b with
    | nil => rw [mg] at h; simp only [List.cons.injEq] at h; exact .inl (by simp [h.1])
    | cons y b =>
      rw [mg] at h
      split at h
      · simp only [List.cons.injEq] at h; exact .inr (by simp [h.1])
      · simp only [List.cons.injEq] at h; exact .inl (by simp [h.1])
theorem oF_mg : ∀ (a b : List Ver), SS a → SS b → oF (mg a b) = om a b
  | [], b, _, hb => by rw [mg, om]; exact oF_SS hb
  | x :: a, [], ha, _ => by rw [mg, om]; exact oF_SS ha
  | x :: a, y :: b, ha, hb => by
    have ha' := List.pairwise_cons.1 ha
    have hb' := List.pairwise_cons.1 hb
    rw [mg, om]
    by_cases k : y.less x = true
    · have h : ¬ x.less y = true := by rw [less_asymm k]; simp
      rw [if_pos k, if_neg h, if_pos k, oF_cons, oF_mg (x :: a) b ha hb'.2]
      intro z r e
      rcases mg_head e with hz | hz
      · rcases List.mem_cons.1 hz with rfl | hz
        · exact k
        · exact less_trans k (ha'.1 z hz)
      · exact hb'.1 z hz
    · rw [if_neg k, if_neg k]
      by_cases h : x.less y = true
      · rw [if_pos h, oF_cons, oF_mg a (y :: b) ha'.2 hb]
        intro z r e
        rcases mg_head e with hz | hz
        · exact ha'.1 z hz
        · rcases List.mem_cons.1 hz with rfl | hz
          · exact h
          · exact less_trans h (hb'.1 z hz)
      · rw [if_neg h]
        have hk := less_tri (by simpa using h) (by simpa using k)
        have hz : ∃ r, mg a (y :: b) = y :: r := by
          cases a with
          | nil => exact ⟨b, by rw [mg]⟩
          | cons x' a =>
            have : y.less x' = true := by rw [← (less_kk (c := x') hk).1]; exact ha'.1 x' (by simp)
            exact ⟨mg (x' :: a) b, by rw [mg, if_pos this]⟩
        obtain ⟨r, hr⟩ := hz
        have e1 : oF (x :: mg a (y :: b)) = oF (mg a (y :: b)) := by
          rw [hr]; simp only [oF, go1, cmp_kk hk, if_true]
        have e2 : om a (y :: b) = y :: om a b := by
          cases a with
          | nil => simp [om]
          | cons x' a =>
            have h1 : y.less x' = true := by rw [← (less_kk (c := x') hk).1]; exact ha'.1 x' (by simp)
            have h2 : ¬ x'.less y = true := by rw [less_asymm h1]; simp
            rw [om, if_neg h2, if_pos h1]
        rw [e1, oF_mg a (y :: b) ha'.2 hb, e2]
  termination_by a b => a.length + b.length
theorem insAt_spec (out : List Ver) (x : Ver) : ∀ n, n ≤ out.length → (∀ i (h : i < out.length), insAt out x n ≤ i → i < n → x.less out[i] = true) ∧ (∀ h : 0 < insAt out x n, ∃ h' : insAt out x n - 1 < out.length, x.less (out[insAt out x n - 1]) = false)
  | 0, _ => ⟨fun i _ _ hi => absurd hi (Nat.not_lt_zero _), fun h => absurd h (Nat.lt_irrefl _)⟩
  | n + 1, hn => by
    have hlt : n < out.length := by omega
    unfold insAt
    simp only [List.getElem?_eq_getElem hlt]
    obtain ⟨g1, g2⟩ := insAt_spec out x n (by omega)
    split
    · rename_i h
      refine ⟨fun i hi h1 h2 => ?_, g2⟩
      by_cases e : i = n
      · subst e; exact h
      · exact g1 i hi h1 (by omega)
    · rename_i h
      refine ⟨fun i hi h1 h2 => by omega, fun _ => ⟨by simpa using hlt, ?_⟩⟩
      simpa using h
theorem insS_mem (out : List Ver) (x v : Ver) : v ∈ insS out x ↔ v = x ∨ v ∈ out := by
  unfold insS
  simp only [List.mem_append, List.mem_singleton]
  constructor
  · rintro ((h | h) | h)
    · exact .inr (List.mem_of_mem_take h)
    · exact .inl h
    · exact .inr (List.mem_of_mem_drop h)
  · rintro (h | h)
    · exact .inl (.inr h)
    · rw [← List.take_append_drop (insAt out x out.length) out] at h
      rcases List.mem_append.1 h with h | h
      · exact .inl (.inl h)
      · exact .inr h
theorem SS.get {l : List Ver} (h : SS l) {i j : Nat} (hi : i < l.length) (hj : j < l.length) (hij : i < j) : l[i].less l[j] = true := List.pairwise_iff_getElem.1 h i j hi hj hij
theorem insS_SS {out : List Ver} {x : Ver} (h : SS out) (hx : ∀ v ∈ out, x.less v = true ∨ v.less x = true) : SS (insS out x) := by
  obtain ⟨g1, g2⟩ := insAt_spec out x out.length (Nat.le_refl _)
  have hle := insAt_le out x out.length
  unfold insS
  have low : ∀ v ∈ out.take (insAt out x out.length), v.less x = true := by
    intro v hv
    obtain ⟨i, hi, rfl⟩ := List.mem_iff_getElem.1 hv
    simp only [List.length_take] at hi
    simp only [List.getElem_take]
    have hp : 0 < insAt out x out.length := by omega
    obtain ⟨k1, k2⟩ := g2 hp
    have k3 : (out[insAt out x out.length - 1]).less x = true := by
      rcases hx _ (List.getElem_mem k1) with e | e
      · rw [k2] at e; cases e
      · exact e
    by_cases e : i = insAt out x out.length - 1
    · subst e; exact k3
    · exact less_trans (h.get (by omega) k1 (by omega)) k3
  have high : ∀ v ∈ out.drop (insAt out x out.length), x.less v = true := by
    intro v hv
    obtain ⟨i, hi, rfl⟩ := List.mem_iff_getElem.1 hv
    simp only [List.length_drop] at hi
    simp only [List.getElem_drop]
    exact g1 _ (by omega) (by omega) (by omega)
  have hsplit : SS (out.take (insAt out x out.length) ++ out.drop (insAt out x out.length)) := by rw [List.take_append_drop]; exact h
  have hs := List.pairwise_append.1 hsplit
  refine List.pairwise_append.2 ⟨List.pairwise_append.2 ⟨hs.1, by simp, fun a ha b hb => ?_⟩, hs.2.1, fun a ha b hb => ?_⟩
  · simp only [List.mem_singleton] at hb; subst hb; exact low a ha
  · rcases List.mem_append.1 ha with ha | ha
    · exact hs.2.2 a ha b hb
    · simp only [List.mem_singleton] at ha; subst ha; exact high b hb
theorem sortF_mem : ∀ (l acc : List Ver) (v : Ver), v ∈ sortF acc l ↔ v ∈ acc ∨ v ∈ l
  | [], acc, v => by simp [sortF]
  | x :: r, acc, v => by
    simp only [sortF, sortF_mem r, insS_mem, List.mem_cons]
    constructor
    · rintro ((h | h) | h)
      · exact .inr (.inl h)
      · exact .inl h
      · exact .inr (.inr h)
    · rintro (h | h | h)
      · exact .inl (.inr h)
      · exact .inl (.inl h)
      · exact .inr h
theorem sortF_SS : ∀ (l acc : List Ver), SS acc → (∀ u ∈ acc, ∀ v ∈ l, u.less v = true ∨ v.less u = true) → l.Pairwise (fun u v => u.less v = true ∨ v.less u = true) → SS (sortF acc l)
  | [], acc, h, _, _ => h
  | x :: r, acc, h, h1, h2 => by
    have h2' := List.pairwise_cons.1 h2
    simp only [sortF]
    refine sortF_SS r (insS acc x) (insS_SS h fun v hv => (h1 v hv x (by simp)).symm) (fun u hu v hv => ?_) h2'.2
    rcases (insS_mem acc x u).1 hu with rfl | hu
    · exact h2'.1 v hv
    · exact h1 u hu v (by simp [hv])
theorem foldl_without_mem : ∀ (l R : List Ver) (v : Ver), v ∈ l.foldl withoutF R ↔ v ∈ R ∧ ∀ u ∈ l, v.less u = true ∨ u.less v = true
  | [], R, v => by simp
  | x :: l, R, v => by
    rw [List.foldl_cons, foldl_without_mem l]
    simp only [withoutF, List.mem_filter, Bool.or_eq_true, List.mem_cons, forall_eq_or_imp]
    constructor
    · rintro ⟨⟨h1, h2⟩, h3⟩; exact ⟨h1, h2, h3⟩
    · rintro ⟨h1, h2, h3⟩; exact ⟨⟨h1, h2⟩, h3⟩
theorem foldl_without_sub : ∀ (l R : List Ver), (l.foldl withoutF R).Sublist R
  | [], R => List.Sublist.refl _
  | x :: l, R => (foldl_without_sub l _).trans List.filter_sublist
theorem SS.comp {l : List Ver} (h : SS l) : l.Pairwise fun u v => u.less v = true ∨ v.less u = true := h.imp fun h => .inl h
theorem wrF_om {a b : List Ver} (ha : SS a) (hb : SS b) : wrF a b = om a b := by
  have hsub : SS (b.foldl withoutF a) := List.Pairwise.sublist (foldl_without_sub b a) ha
  refine SS.eq (sortF_SS _ [] List.Pairwise.nil (fun u hu => by cases hu) ?_) (om_SS a b ha hb) fun v => ?_
  · refine List.pairwise_append.2 ⟨hsub.comp, hb.comp, fun u hu v hv => ?_⟩
    exact ((foldl_without_mem b a u).1 hu).2 v hv
  · rw [wrF, sortF_mem, om_mem a b ha hb]
    simp only [List.not_mem_nil, false_or, List.mem_append, foldl_without_mem]
    exact Or.comm
def two (a b : List Ver) : List (List Ver) := (if b = [] then (if a = [] then [] else [] ++ [a]) else (if a = [] then [] else [] ++ [a]) ++ [b])
theorem om_filter (p : Ver → Bool) (hp : ∀ u v : Ver, u.kk = v.kk → p u = p v) {a b : List Ver} (ha : SS a) (hb : SS b) : om (a.filter p) (b.filter p) = (om a b).filter p := by
  have ha' : SS (a.filter p) := ha.sublist List.filter_sublist
  have hb' : SS (b.filter p) := hb.sublist List.filter_sublist
  refine SS.eq (om_SS _ _ ha' hb') ((om_SS a b ha hb).sublist List.filter_sublist) fun v => ?_
  have hf : v ∈ (om a b).filter p ↔ v ∈ om a b ∧ p v = true := List.mem_filter
  rw [om_mem _ _ ha' hb', hf, om_mem a b ha hb]
  simp only [List.mem_filter]
  constructor
  · rintro (⟨h1, h2⟩ | ⟨⟨h1, h2⟩, h3⟩)
    · exact ⟨.inl h1, h2⟩
    · refine ⟨.inr ⟨h1, fun u hu => ?_⟩, h2⟩
      by_cases e : v.less u = true ∨ u.less v = true
      · exact e
      · simp only [not_or, Bool.not_eq_true] at e
        exact h3 u ⟨hu, by rw [← hp v u (less_tri e.1 e.2)]; exact h2⟩
  · rintro ⟨h1 | ⟨h1, h2⟩, h3⟩
    · exact .inl ⟨h1, h3⟩
    · exact .inr ⟨⟨h1, h3⟩, fun u hu => h2 u hu.1⟩
theorem law_rows (p : Ver → Bool) (hp : ∀ u v : Ver, u.kk = v.kk → p u = p v) {a b : List Ver} (ha : SS a) (hb : SS b) : onceF [] none (mergeAll ((two a b).map fun l => l.filter p)) = (wrF (wrF [] a) b).filter p := by
  have e1 : wrF [] a = a := by rw [wrF_om List.Pairwise.nil ha, om]
  rw [e1, wrF_om ha hb, onceF_oF]
  have ha' : SS (a.filter p) := ha.sublist List.filter_sublist
  have hb' : SS (b.filter p) := hb.sublist List.filter_sublist
  unfold two
  by_cases h1 : b = []
  · subst h1
    rw [if_pos rfl, om_nil]
    by_cases h2 : a = []
    · subst h2; rfl
    · rw [if_neg h2]
      simp only [List.nil_append, List.map_cons, List.map_nil, mergeAll_one]
      exact oF_SS ha'
  · rw [if_neg h1]
    by_cases h2 : a = []
    · subst h2
      simp only [if_true, List.nil_append, List.map_cons, List.map_nil, mergeAll_one]
      rw [om]
      exact oF_SS hb'
    · rw [if_neg h2]
      simp only [List.nil_append, List.cons_append, List.map_cons, List.map_nil, mergeAll_two]
      rw [oF_mg _ _ ha' hb', om_filter p hp ha hb]
theorem law_all {a b : List Ver} (ha : SS a) (hb : SS b) : onceF [] none (mergeAll (two a b)) = wrF (wrF [] a) b := by
  have h := law_rows (fun _ => true) (fun _ _ _ => rfl) ha hb
  have f : ∀ l : List Ver, l.filter (fun _ => true) = l := fun l => List.filter_eq_self.2 (by simp)
  have g : ((two a b).map fun l => l.filter fun _ => true) = two a b := by
    rw [show (fun l : List Ver => l.filter fun _ => true) = id from funext f, List.map_id]
  rw [g, f] at h
  exact h
theorem law_of (k : Bs) {a b : List Ver} (ha : SS a) (hb : SS b) : onceF [] none (mergeAll ((two a b).map fun l => ofF l k)) = ofF (wrF (wrF [] a) b) k :=
  law_rows (fun x => x.key == k) (fun u v h => by simp only [Ver.kk, Prod.mk.injEq] at h; rw [h.1]) ha hb
theorem law_range (k k2 : Bs) {a b : List Ver} (ha : SS a) (hb : SS b) : onceF [] none (mergeAll ((two a b).map fun l => rangeF l k k2)) = rangeF (wrF (wrF [] a) b) k k2 :=
  law_rows (fun x => !Op.bytesLess x.key k && Op.bytesLess x.key k2) (fun u v h => by simp only [Ver.kk, Prod.mk.injEq] at h; rw [h.1]) ha hb
end Go.Du
namespace Go.Du
open Go
theorem goodF_mem (most : Nat) : ∀ (l acc : List Ver), (∀ v ∈ acc, v.may = true ∧ v.key.length ≤ 110) → ∀ v ∈ goodF most acc l, v.may = true ∧ v.key.length ≤ 110 := by
  intro l
  induction l with
  | nil => intro acc h; exact h
  | cons x r ih =>
    intro acc h
    simp only [goodF]
    split
    · split
      · rename_i hm
        refine ih _ fun v hv => ?_
        rcases List.mem_append.1 hv with hv | hv
        · exact h v hv
        · simp only [List.mem_singleton] at hv; subst hv
          exact ⟨hm, by simp [Ver.cut]; omega⟩
      · exact ih _ h
    · exact h
theorem blockF_chain : ∀ (l acc : List Ver), (∀ v ∈ l, v.may = true ∧ v.key.length ≤ 110) → chainOk acc → chainOk (blockF acc l)
  | [], acc, _, h => h
  | x :: r, acc, hl, h => by
    have hx := hl x (by simp)
    have hr := fun v hv => hl v (List.mem_cons_of_mem _ hv)
    have app : (∀ y, acc.getLast? = some y → y.less x = true) → chainOk (acc ++ [x]) := fun hy i hi => by
      by_cases e : i < acc.length
      · obtain ⟨k1, k2, k3⟩ := h i e
        refine ⟨by rw [List.getElem_append_left e]; exact k1, by rw [List.getElem_append_left e]; exact k2, fun h0 => ?_⟩
        rw [List.getElem_append_left e, List.getElem_append_left (by omega)]; exact k3 h0
      · have : i = acc.length := by simp at hi; omega
        subst this
        refine ⟨by simpa using hx.1, by simpa using hx.2, fun h0 => ?_⟩
        have e1 : (acc ++ [x])[acc.length]'hi = x := by simp
        rw [e1, List.getElem_append_left (by omega)]
        refine hy _ ?_
        rw [List.getLast?_eq_getElem?, List.getElem?_eq_getElem (by omega)]
    simp only [blockF]
    split
    · rename_i hn
      exact blockF_chain r _ hr (app fun y hy => by rw [hn] at hy; cases hy)
    · rename_i y hy
      split
      · rename_i hlt
        exact blockF_chain r _ hr (app fun z hz => by rw [hy] at hz; cases hz; exact hlt)
      · exact blockF_chain r _ hr h
theorem Block_chain (l : List Ver) (most : Nat) : chainOk (Block l most) := by
  refine blockF_chain _ [] (fun v hv => ?_) fun i hi => absurd hi (Nat.not_lt_zero _)
  rw [sortF_mem] at hv
  rcases hv with hv | hv
  · cases hv
  · exact goodF_mem most l [] (fun v hv => by cases hv) v hv
theorem blockF_len : ∀ (l acc : List Ver), (blockF acc l).length ≤ acc.length + l.length
  | [], acc => by simp [blockF]
  | x :: r, acc => by
    simp only [blockF]
    split
    · have := blockF_len r (acc ++ [x]); simp at this ⊢; omega
    · split
      · have := blockF_len r (acc ++ [x]); simp at this ⊢; omega
      · have := blockF_len r acc; simp; omega
theorem Block_len (l : List Ver) (most : Nat) : (Block l most).length ≤ most := by
  have h1 := blockF_len (sortF [] (goodF most [] l)) []
  have h2 := sortF_length [] (goodF most [] l)
  have h3 := goodF_length most l [] (by simp)
  unfold Block
  simp only [List.length_nil] at h1 h2
  omega
theorem pl {n : Nat} (h : n < 72057594037927936) : (putN n).length ≤ 8 := by
  have := putN_len n 8 (by simpa using h)
  omega
theorem encRow_len {key : Bs} {v : Ver} (hm : v.may = true) (hk : v.key.length ≤ 110) : (encRow key v).length ≤ 400 := by
  obtain ⟨m1, ⟨m2, m3, m4⟩, m5, m6, m7, m8, m9, m10, m11, m12⟩ := v.may_iff.1 hm
  have l0 : lcp key v.key ≤ 110 := Nat.le_trans (lcp_le2 _ _) hk
  have p1 := pl (n := lcp key v.key) (by omega)
  have hd : (v.key.drop (lcp key v.key)).length ≤ 110 := by simp; omega
  have p2 := pl (n := (v.key.drop (lcp key v.key)).length) (by omega)
  have p3 := pl (n := v.br.toNat) (by omega)
  have p4 := pl (n := v.ep.toNat) (by omega)
  have p5 := pl (n := v.sq.toNat) (by omega)
  have p6 := pl (n := v.fr.toNat) (by omega)
  have p7 := pl (n := (v.to - v.fr).toNat) (by omega)
  have p8 := pl (n := if v.gone then 1 else 0) (by split <;> omega)
  have p9 := pl (n := v.val.length) (by omega)
  simp only [encRow, textS, List.length_append]
  omega
theorem encRows_len : ∀ (l : List Ver) (key : Bs), (∀ v ∈ l, v.may = true ∧ v.key.length ≤ 110) → (encRows key l).length ≤ 400 * l.length
  | [], _, _ => by simp [encRows]
  | v :: r, key, h => by
    have h1 := encRow_len (key := key) (h v (by simp)).1 (h v (by simp)).2
    have h2 := encRows_len r v.key fun x hx => h x (List.mem_cons_of_mem _ hx)
    simp only [encRows, List.length_append, List.length_cons]; omega
theorem blocks_len : ∀ (cs : List (List Ver)), (∀ c ∈ cs, c.length ≤ 8 ∧ ∀ v ∈ c, v.may = true ∧ v.key.length ≤ 110) → (blocksB cs).length ≤ 16 * cs.length + 400 * cs.flatten.length
  | [], _ => by simp [blocksB]
  | c :: cs, h => by
    have ih := blocks_len cs fun x hx => h x (List.mem_cons_of_mem _ hx)
    obtain ⟨h1, h2⟩ := h c (by simp)
    have h3 := encRows_len c [] h2
    have h4 := pl (n := c.length) (by omega)
    simp only [blocksB, List.flatMap_cons, List.length_append, frameB_len, blockB, List.flatten_cons, List.length_cons] at ih ⊢
    omega
theorem fences_len : ∀ (cs : List (List Ver)), (∀ c ∈ cs, ∀ v ∈ c, v.may = true ∧ v.key.length ≤ 110) → (cs.flatMap fun c => textS (headKey c)).length ≤ 118 * cs.length
  | [], _ => by simp
  | c :: cs, h => by
    have ih := fences_len cs fun x hx => h x (List.mem_cons_of_mem _ hx)
    have h1 : (headKey c).length ≤ 110 := by
      cases c with
      | nil => simp [headKey]
      | cons v c => exact (h (v :: c) (by simp) v (by simp)).2
    have h2 := pl (n := (headKey c).length) (by omega)
    simp only [List.flatMap_cons, List.length_append, textS, List.length_cons] at ih ⊢
    omega
theorem runB_len {l : List Ver} (h : chainOk l) (hl : l.length ≤ 12) : (runB l).length ≤ 20000 := by
  have hm : ∀ v ∈ l, v.may = true ∧ v.key.length ≤ 110 := fun v hv => by
    obtain ⟨i, hi, rfl⟩ := List.mem_iff_getElem.1 hv
    exact ⟨(h i hi).1, (h i hi).2.1⟩
  have hc : ∀ c ∈ chunk8 l, c.length ≤ 8 ∧ ∀ v ∈ c, v.may = true ∧ v.key.length ≤ 110 := fun c hc => by
    refine ⟨(chunkF_mem _ _ _ hc).2, fun v hv => hm v ?_⟩
    rw [← chunk8_flat l]
    exact List.mem_flatten.2 ⟨c, hc, hv⟩
  have hn : (chunk8 l).length ≤ l.length := chunkF_len _ _
  have b1 := blocks_len (chunk8 l) hc
  rw [chunk8_flat] at b1
  have b2 := fences_len (chunk8 l) fun c h => (hc c h).2
  have b3 := pl (n := (chunk8 l).length) (by omega)
  have b4 := pl (n := l.length) (by omega)
  have b5 := pl (n := (blocksB (chunk8 l)).length) (by omega)
  have e2 : (fencesB (chunk8 l)).length = (putN (chunk8 l).length).length + ((chunk8 l).flatMap fun c => textS (headKey c)).length := by simp [fencesB]
  have e3 : (footB l).length = (putN l.length).length + (putN (chunk8 l).length).length + (putN (blocksB (chunk8 l)).length).length := by simp [footB]; omega
  simp only [runB, List.length_append, frameB_len]
  omega
end Go.Du
namespace Go.Du
open Go
attribute [local irreducible] ATriple W evP AI AExt callW
theorem fGet_filter {n : Bs} {fs : List Fl} {p : Fl → Bool} (h : fGet n fs = none) : fGet n (fs.filter p) = none := by
  cases e : fGet n (fs.filter p) with
  | none => rfl
  | some f =>
    have hn := fIdx_name e
    have hm : f ∈ fs.filter p := by
      unfold fGet at e
      cases hi : fIdx n (fs.filter p) with
      | none => rw [hi] at e; cases e
      | some i => rw [hi] at e; exact List.mem_of_getElem? (by simpa using e)
    exact absurd (List.mem_map.2 ⟨f, (List.mem_filter.1 hm).1, hn⟩) (fGet_mem h)
theorem usedF_filter (p : Fl → Bool) : ∀ fs : List Fl, usedF (fs.filter p) ≤ usedF fs
  | [] => by simp [usedF]
  | f :: fs => by
    have ih := usedF_filter p fs
    unfold usedF at ih ⊢
    by_cases h : p f
    · rw [List.filter_cons_of_pos h]; simp only [List.map_cons, List.sum_cons]; omega
    · rw [List.filter_cons_of_neg h]; simp only [List.map_cons, List.sum_cons]; omega
section
variable {fs : List Fl} {m' : Mf} {rn : Bs} {l : List Ver}
theorem wfs_get {n : Bs} (h : fGet n fs = none) (h1 : rn ≠ n) (h2 : m'.log ≠ n) (h3 : fileM ≠ n) : fGet n (wfs fs m' rn l) = none := by
  unfold wfs
  refine fGet_filter (fGet_put (fGet_put ?_ h2) h3)
  split
  · exact h
  · exact fGet_app h h1
theorem wfs_len : (wfs fs m' rn l).length ≤ fs.length + 3 := by
  unfold wfs
  refine Nat.le_trans (List.length_filter_le _ _) ?_
  have h1 := fPut_len (fPut ⟨m'.log, [], 0⟩ (if l = [] then fs else fs ++ [⟨rn, runB l, (runB l).length⟩])) ⟨fileM, frameB (manB m'), (frameB (manB m')).length⟩
  have h2 := fPut_len (if l = [] then fs else fs ++ [⟨rn, runB l, (runB l).length⟩]) ⟨m'.log, [], 0⟩
  have h3 : (if l = [] then fs else fs ++ [⟨rn, runB l, (runB l).length⟩]).length ≤ fs.length + 1 := by split <;> simp
  omega
theorem wfs_used (hok : m'.Ok) : usedF (wfs fs m' rn l) ≤ usedF fs + (runB l).length + 1008 := by
  unfold wfs
  refine Nat.le_trans (usedF_filter _ _) ?_
  have h1 := usedF_put (fPut ⟨m'.log, [], 0⟩ (if l = [] then fs else fs ++ [⟨rn, runB l, (runB l).length⟩])) ⟨fileM, frameB (manB m'), (frameB (manB m')).length⟩
  have h2 := usedF_put (if l = [] then fs else fs ++ [⟨rn, runB l, (runB l).length⟩]) ⟨m'.log, [], 0⟩
  have h3 : usedF (if l = [] then fs else fs ++ [⟨rn, runB l, (runB l).length⟩]) ≤ usedF fs + (runB l).length := by
    split
    · omega
    · rw [usedF_app]; exact Nat.le_refl _
  have h4 := manB_len hok
  simp only [frameB_len, List.length_nil] at h1 h2 h3 ⊢
  omega
theorem wfs_nodup (hn : (fs.map (·.name)).Nodup) (hr : fGet rn fs = none) : ((wfs fs m' rn l).map (·.name)).Nodup := by
  unfold wfs
  refine (List.filter_sublist.map _).nodup (fPut_nodup (fPut_nodup ?_))
  split
  · exact hn
  · rw [List.map_append, List.nodup_append]
    refine ⟨hn, by simp, fun x hx y hy e => ?_⟩
    simp only [List.map_cons, List.map_nil, List.mem_singleton] at hy
    subst hy
    exact fGet_mem hr (e ▸ hx)
end
theorem fs0_used : usedF fs0 ≤ 1008 := by
  have := manB_len m0_ok
  simp only [fs0, usedF, List.map_cons, List.map_nil, List.sum_cons, List.sum_nil, List.length_nil, frameB_len]
  omega
theorem next_ok1 (ask : Mf) (h1 : 1 ≤ ask.epoch) (h2 : ask.epoch ≤ 10000) (l : List Ver) : (m0.next ask l).Ok := by
  refine ⟨by show 1 ≤ 2; decide, by show 2 ≤ 1000; decide, h1, h2, ?_, ?_, by show namedF (logN 2) = true; decide⟩
  · unfold Mf.next m0; split <;> simp
  · unfold Mf.next m0
    intro s hs
    split at hs
    · cases hs
    · have : s = runN 2 := by simpa using hs
      subst this; decide
theorem next_ok2 (ask ask2 : Mf) (h1 : 1 ≤ ask2.epoch) (h2 : ask2.epoch ≤ 10000) (l k : List Ver) : ((m0.next ask l).next ask2 k).Ok := by
  refine ⟨by show 1 ≤ 3; decide, by show 3 ≤ 1000; decide, h1, h2, ?_, ?_, by show namedF (logN 3) = true; decide⟩
  · unfold Mf.next m0
    split <;> split <;> simp
  · intro s hs
    have : s = runN 2 ∨ s = runN 3 := by
      unfold Mf.next m0 at hs
      dsimp only at hs
      split at hs
      · split at hs
        · cases hs
        · exact .inl (by simpa using hs)
      · split at hs
        · exact .inr (by simpa using hs)
        · simp only [List.nil_append, List.cons_append, List.mem_cons, List.not_mem_nil, or_false] at hs
          exact hs
    rcases this with rfl | rfl <;> decide
section
variable {S : Store} {a d mt : Nat} {q : Int} {lg : AV}
theorem write1 (h : ArAt S a d mt q fs0 m0 [] [] lg) (ask : Mf) (h1 : 1 ≤ ask.epoch) (h2 : ask.epoch ≤ 10000) (h3 : ask.runs.length ≤ 40) (l : List Ver) (hc : chainOk l) (hl : l.length ≤ 12) (hq0 : 100000 ≤ q) (hq : q ≤ 16777216)
    {Q : AV → Store → Prop} (hQ : ∀ S' rs lg', ArAt S' a d mt q (wfs fs0 (m0.next ask l) (runN 2) l) (m0.next ask l) rs (if l = [] then [] else [] ++ [l]) lg' → (∀ x o, S x = some o → x ≠ a → x ≠ mt → S' x = some o) → Q (iv 0) S') : ATriple PR 13 [.ptr a 0 0, vers l, bv false, ask.av] S Q := by
  have hr := runB_len hc hl
  have hu := fs0_used
  exact f13_c h ask h1 h2 h3 l hc hl hr (by decide) (by simp) (next_ok1 ask h1 h2 l) (by simp [m0]) (by rfl) (by rfl) (by simp [fs0]) (by simp [fs0]) (by decide) (by rfl) (by omega) hq hQ
theorem write2 {rs : List Nat} {l : List Ver} {ask : Mf} (e1 : 1 ≤ ask.epoch) (e2 : ask.epoch ≤ 10000) (hlc : chainOk l) (hll : l.length ≤ 12) (h : ArAt S a d mt q (wfs fs0 (m0.next ask l) (runN 2) l) (m0.next ask l) rs (if l = [] then [] else [] ++ [l]) lg) (ask2 : Mf) (h1 : 1 ≤ ask2.epoch) (h2 : ask2.epoch ≤ 10000) (h3 : ask2.runs.length ≤ 40) (k : List Ver) (hc : chainOk k) (hl : k.length ≤ 12) (hq0 : 100000 ≤ q) (hq : q ≤ 16777216)
    {Q : AV → Store → Prop} (hQ : ∀ S' rs' lg', ArAt S' a d mt q (wfs (wfs fs0 (m0.next ask l) (runN 2) l) ((m0.next ask l).next ask2 k) (runN 3) k) ((m0.next ask l).next ask2 k) rs' (two l k) lg' → (∀ x o, S x = some o → x ≠ a → x ≠ mt → S' x = some o) → Q (iv 0) S') : ATriple PR 13 [.ptr a 0 0, vers k, bv false, ask2.av] S Q := by
  have hr := runB_len hc hl
  have hr1 := runB_len hlc hll
  have hu := fs0_used
  have hok1 := next_ok1 ask e1 e2 l
  have hu1 := wfs_used (fs := fs0) (rn := runN 2) (l := l) hok1
  have hlen := wfs_len (fs := fs0) (m' := m0.next ask l) (rn := runN 2) (l := l)
  have hrs : rs.length ≤ 1 := by
    rw [h.len]; split <;> simp
  refine f13_c h ask2 h1 h2 h3 k hc hl hr (by show 2 + 1 < 10; decide) hrs (next_ok2 ask ask2 h1 h2 l k) ?_ ?_ ?_ ?_ ?_ (by show namedF (runN 3) = true; decide) ?_ (by omega) hq hQ
  · unfold Mf.next m0; split <;> simp
  · exact wfs_get (by rfl) (by decide) (by simp [Mf.next, m0]) (by decide)
  · exact wfs_get (by rfl) (by decide) (by simp [Mf.next, m0]) (by decide)
  · have : fs0.length = 2 := rfl
    omega
  · exact wfs_nodup (by simp [fs0]) (by rfl)
  · show fGet (runN 3) _ = none
    exact wfs_get (by rfl) (by decide) (by show logN 2 ≠ runN 3; decide) (by decide)
end
end Go.Du
namespace Go.Du
open Go
attribute [local irreducible] ATriple W evP AI AExt callW
def exV : Ver := ⟨kKey, 0, 1, 1, 0, 1, [], false⟩
def exW : Ver := ⟨kKey, 0, 1, 2, 0, 1, [], false⟩
theorem exV_may : exV.may = true := by decide
theorem exW_may : exW.may = true := by decide
theorem exV_ok : chainOk [exV] := fun i hi => by
  have : i = 0 := by simpa using hi
  subst this
  exact ⟨exV_may, by show exV.key.length ≤ 110; decide, fun h => absurd h (by decide)⟩
theorem exW_ok : chainOk [exW] := fun i hi => by
  have : i = 0 := by simpa using hi
  subst this
  exact ⟨exW_may, by show exW.key.length ≤ 110; decide, fun h => absurd h (by decide)⟩
theorem ex_rows : (onceF [] none (mergeAll (two [exV] [exW]))).length = 2 := by
  rw [law_all (chain_SS exV_ok) (chain_SS exW_ok), wrF_om List.Pairwise.nil (chain_SS exV_ok), om, wrF_om (chain_SS exV_ok) (chain_SS exW_ok), om]
  have : exV.less exW = true := by decide
  rw [if_pos this, om]
  rfl
theorem bsl_ver1 (v : Ver) : frzOf (bslR true 8 112 8 1 1 [(0, v.av)]) = some (vers [v]) := bsl_one 112 8 v.av 8 ⟨rfl, by decide, by decide, rfl, rfl⟩
theorem afl_runs (m : Mf) : afl false 1 4 m.av = some (RS m.runs) := rfl
set_option maxRecDepth 100000 in
theorem f22_c (S : Store) {Q : AV → Store → Prop} (hQ : ∀ S', Sub S S' → Q (bv true) S') : ATriple PR 22 [] S Q := by
  refine f22_ok ?_
  simp -implicitDefEqProofs only [f22_s]
  refine f58_c 100000 (by decide) (by decide) S fun d mt S1 hs1 hd0 hm0 hfr hd => ?_
  refine f87_c hd (by decide) (by decide) fun a lg ha => ?_
  have had : a ≠ d := fun e => by subst e; rw [hd.dk] at ha; cases ha
  have ham : a ≠ mt := fun e => by subst e; rw [hd.mp] at ha; cases ha
  have hdm := hd.ne
  obtain ⟨S2, hS2⟩ : ∃ S2, S2 = (S1.set mt (.map (dEs fs0))).set a (arR d m0 nilS lg) := ⟨_, rfl⟩
  rw [← hS2]
  have hA : ArAt S2 a d mt 100000 fs0 m0 [] [] lg := by
    refine ⟨by rw [hS2]; exact Store.set_same _ _ _, by rw [hS2]; exact (hd.put fs0).keep had ham, rfl, by simp, fun i h1 => absurd h1 (Nat.not_lt_zero _), fun l hl => by cases hl⟩
  have hs2 : Sub S S2 := fun x o hx => by
    have x1 : x ≠ a := fun e => by subst e; rw [hs1 _ _ hx] at ha; cases ha
    have x2 : x ≠ mt := fun e => by subst e; rw [hm0] at hx; cases hx
    rw [hS2, Store.set_ne _ _ _ x1, Store.set_ne _ _ _ x2]; exact hs1 _ _ hx
  have ea : ∀ S, aeqv false .ptr (.ptr a 0 0) (.lit (.pointer none)) S = some (bv false) := fun _ => rfl
  have el : ∀ S, aln .slice nilS S = some (iv 0) := fun _ => rfl
  simp -implicitDefEqProofs only [aext_tuple, List.getElem?_cons_zero, List.getElem?_cons_succ, bQ_some, ea, gdQ_bv, if_true, el, abi_neq, show ((0 : Int) != 0) = false from rfl, apick_bv, Bool.false_eq_true, if_false, condW_bv]
  refine f88_c0 S2 ?_
  have b1 : abld [.lit (.int .i64 0), .lit (.int .i64 0), .lit (.int .i64 0)] [(0, 1, .lit (.int .i64 0)), (1, 1, .lit (.int .i64 1)), (2, 1, .lit (.int .i64 1))] = some (.agg [iv 0, iv 1, iv 1]) := rfl
  have b2 : abld [.lit (.int .i64 0), .lit (.int .i64 0)] [(0, 1, .lit (.int .i64 0)), (1, 1, .lit (.int .i64 1))] = some (.agg [iv 0, iv 1]) := rfl
  have b3 : abld [.lit (.string ⟨#[]⟩), .lit (.int .i64 0), .lit (.int .i64 0), .lit (.int .i64 0), .lit (.int .i64 0), .lit (.int .i64 0), .lit (.string ⟨#[]⟩), .lit (.bool false)] [(0, 1, sv kKey), (1, 3, .agg [iv 0, iv 1, iv 1]), (4, 2, .agg [iv 0, iv 1])] = some exV.av := rfl
  simp -implicitDefEqProofs only [b1, b2, b3, bQ_some, newW_own]
  intro t ht
  have hta : t ≠ a := fun e => by subst e; rw [hA.ar] at ht; cases ht
  have htm : t ≠ mt := fun e => by subst e; rw [hA.dk.mp] at ht; cases ht
  rw [stv_ver exV, thenS_some, ldv_verB exV, bQ_some]
  intro u hu
  have hut : u ≠ t := fun e => by subst e; rw [Store.set_same] at hu; cases hu
  have hu2 : S2 u = none := by rwa [Store.set_ne _ _ _ hut] at hu
  have hua : u ≠ a := fun e => by subst e; rw [hA.ar] at hu2; cases hu2
  have hum : u ≠ mt := fun e => by subst e; rw [hA.dk.mp] at hu2; cases hu2
  rw [stv_ver exV, thenS_some]
  have s3 : stv 1 (.ptr u 0 3) (.lit (.int .i64 2)) ((S2.set t (.row 112 8 [exV.cs])).set u (.row 112 8 [exV.cs])) = some ((S2.set t (.row 112 8 [exV.cs])).set u (.row 112 8 [exW.cs])) := by
    rw [stv_at (Store.set_same _ _ _) rfl rfl (by simp), Store.set_set]; rfl
  obtain ⟨S3, hS3⟩ : ∃ S3, S3 = (S2.set t (.row 112 8 [exV.cs])).set u (.row 112 8 [exW.cs]) := ⟨_, rfl⟩
  rw [← hS3] at s3
  have gt : S3 t = some (.row 112 8 [exV.cs]) := by rw [hS3, Store.set_ne _ _ _ hut.symm]; exact Store.set_same _ _ _
  have gu : S3 u = some (.row 112 8 [exW.cs]) := by rw [hS3]; exact Store.set_same _ _ _
  have hs23 : Sub S2 S3 := by rw [hS3]; exact ((Sub.refl S2).set ht).set hu2
  have hA3 := hA.sub hs23
  have lt : ldv true 8 (.ptr t 0 0) S3 = some exV.av := ldv_all_at gt rfl
  simp -implicitDefEqProofs only [padd_ptr, Nat.zero_add, bQ_some, s3, thenS_some, lt, bsl_ver1]
  refine f85_c hA3.ar (by simp [m0]) ?_
  refine ⟨⟨lt, trivial⟩, ?_⟩
  refine write1 hA3 m0 (by decide) (by decide) (by simp [m0]) [exV] exV_ok (by simp) (by decide) (by decide) fun S4 rs4 lg4 hA4 hf4 => ?_
  have gu4 := hf4 u _ gu hua hum
  have lu : ldv true 8 (.ptr u 0 0) S4 = some exW.av := ldv_all_at gu4 rfl
  simp -implicitDefEqProofs only [lu, bQ_some, bsl_ver1]
  have r4 : (m0.next m0 [exV]).runs.length ≤ 40 := by decide
  refine f85_c hA4.ar r4 ?_
  refine ⟨⟨lu, trivial⟩, ?_⟩
  refine write2 (by decide) (by decide) exV_ok (by simp) hA4 (m0.next m0 [exV]) (by decide) (by decide) r4 [exW] exW_ok (by simp) (by decide) (by decide) fun S5 rs5 lg5 hA5 hf5 => ?_
  simp -implicitDefEqProofs only [abi_eql, show ((0 : Int) == 0) = true from rfl, bQ_some, gdQ_bv, gdE_bv, if_true, apick_bv]
  refine f86_c hA5 ?_
  have e2 : aln .slice (vers (onceF [] none (mergeAll (two [exV] [exW])))) S5 = some (iv 2) := by
    have : aln .slice (vers (onceF [] none (mergeAll (two [exV] [exW])))) S5 = some (iv (onceF [] none (mergeAll (two [exV] [exW]))).length) := by simp [aln]
    rw [this, ex_rows]; rfl
  simp -implicitDefEqProofs only [e2, bQ_some, gdQ_bv, gdE_bv, if_true, abi_eql, show ((2 : Int) == 2) = true from rfl, apick_bv]
  have r5 : ((m0.next m0 [exV]).next (m0.next m0 [exV]) [exW]).runs.length = 2 := by decide
  refine f85_c hA5.ar (by omega) ?_
  simp -implicitDefEqProofs only [afl_runs, bQ_some, gdQ_bv, if_true, aln_RS, r5, abi_eql, show (((2 : Nat) : Int) == 2) = true from rfl, apick_bv]
  refine dropQ_self (hQ S5 fun x o hx => ?_)
  have x1 : x ≠ a := fun e => by subst e; rw [hs1 _ _ hx] at ha; cases ha
  have x2 : x ≠ mt := fun e => by subst e; rw [hm0] at hx; cases hx
  exact hf5 _ _ (hf4 _ _ (hs23 _ _ (hs2 _ _ hx)) x1 x2) x1 x2
end Go.Du
namespace Go.Du
open Go
attribute [local irreducible] ATriple W evP AI AExt callW
def askM : Mf := ⟨0, 3, [], []⟩
theorem two_len (a b : List Ver) (ask ask2 : Mf) : ((m0.next ask a).next ask2 b).runs.length = (if b = [] then (if a = [] then 0 else 0 + 1 : Nat) else (if a = [] then 0 else 0 + 1 : Nat) + 1 : Nat) := by
  unfold Mf.next m0
  by_cases h1 : a = [] <;> by_cases h2 : b = [] <;> simp [h1, h2]
set_option maxRecDepth 100000 in
theorem f3_c (l k : List Ver) (hl : l.length ≤ 1048576) (hk : k.length ≤ 1048576) (key key2 : Bs) (S : Store) {Q : AV → Store → Prop} (hQ : ∀ S', Q (bv true) S') : ATriple PR 3 [vers l, vers k, sv key, sv key2] S Q := by
  refine f3_ok ?_
  simp -implicitDefEqProofs only [f3_s]
  refine f11_c (q := 4000000) (by decide) (by decide) fun w d mt a lg S1 hw hA hs1 hw0 hwa hwm => ?_
  obtain ⟨A, hAd⟩ : ∃ A, A = Block l 12 := ⟨_, rfl⟩
  obtain ⟨B, hBd⟩ : ∃ B, B = Block k 12 := ⟨_, rfl⟩
  have cA : chainOk A := by rw [hAd]; exact Block_chain l 12
  have cB : chainOk B := by rw [hBd]; exact Block_chain k 12
  have nA : A.length ≤ 12 := by rw [hAd]; exact Block_len l 12
  have nB : B.length ≤ 12 := by rw [hBd]; exact Block_len k 12
  have ew : ∀ S, aeqv false .ptr (.ptr w 0 0) (.lit (.pointer none)) S = some (bv false) := fun _ => rfl
  have b1 : abld [.lit (.int .i64 0), .lit (.int .i64 0), .lit (.int .i64 0), .lit (.bool false)] [(0, 1, .lit (.int .i64 (-1)))] = some (.agg BRc) := rfl
  have b2 : frzOf (bslR true 4 26 4 1 1 [(0, .agg BRc)]) = some BR := rfl
  have b3 : abld [.lit (.int .i64 0), .lit (.int .i64 0), .lit (.slice none 0 0), .lit (.slice none 0 0), .lit (.slice none 0 0), .lit (.string ⟨#[]⟩)] [(1, 1, .lit (.int .i64 3)), (2, 1, BR)] = some askM.av := rfl
  simp -implicitDefEqProofs only [ew, bQ_some, condW_bv, Bool.false_eq_true, if_false, b1, b2, b3, newW_own]
  intro t ht
  have htw : t ≠ w := fun e => by subst e; rw [hw] at ht; cases ht
  have hta : t ≠ a := fun e => by subst e; rw [hA.ar] at ht; cases ht
  have htm : t ≠ mt := fun e => by subst e; rw [hA.dk.mp] at ht; cases ht
  have s1 : stv 6 (.ptr t 0 0) askM.av (S1.set t (.row 31 6 [zMf])) = some (S1.set t (.row 31 6 [askM.cs])) := by
    rw [stv_box (sz := 6) (x := askM.av) rfl rfl rfl]; rfl
  rw [s1, thenS_some]
  have hs12 : Sub S1 (S1.set t (.row 31 6 [askM.cs])) := (Sub.refl S1).set ht
  obtain ⟨S2, hS2⟩ : ∃ S2, S2 = S1.set t (.row 31 6 [askM.cs]) := ⟨_, rfl⟩
  have gt2 : S2 t = some (.row 31 6 [askM.cs]) := by rw [hS2]; exact Store.set_same _ _ _
  rw [← hS2] at hs12 ⊢
  have gw2 := hs12 _ _ hw
  have hA2 := hA.sub hs12
  refine f12_c l hl 12 (by decide) S2 ?_
  refine f12_c k hk 12 (by decide) S2 ?_
  rw [← hAd, ← hBd]
  have lw : ∀ S', S' w = some (worldR d (.ptr a 0 0)) → ldv false 1 (.ptr w 0 1) S' = some (.ptr a 0 0) := fun S' h => ldv_at h
  have lt : ∀ S', S' t = some (.row 31 6 [askM.cs]) → ldv true 6 (.ptr t 0 0) S' = some askM.av := fun S' h => ldv_all_at (sz := 6) h rfl
  simp -implicitDefEqProofs only [anil_ptr, padd_ptr, Nat.zero_add, bQ_some, lw S2 gw2, lt S2 gt2]
  refine write1 hA2 askM (by decide) (by decide) (by simp [askM]) A cA nA (by decide) (by decide) fun S3 rs3 lg3 hA3 hf3 => ?_
  have gw3 := hf3 _ _ gw2 hwa hwm
  have gt3 := hf3 _ _ gt2 hta htm
  try simp -implicitDefEqProofs only [anil_ptr, padd_ptr, Nat.zero_add, bQ_some, lw S3 gw3, lt S3 gt3]
  refine write2 (by decide) (by decide) cA nA hA3 askM (by decide) (by decide) (by simp [askM]) B cB nB (by decide) (by decide) fun S4 rs4 lg4 hA4 hf4 => ?_
  have gw4 := hf4 _ _ gw3 hwa hwm
  have gt4 := hf4 _ _ gt3 hta htm
  refine f14_c S4 ?_
  intro u hu
  have huw : u ≠ w := fun e => by subst e; rw [gw4] at hu; cases hu
  have hut : u ≠ t := fun e => by subst e; rw [gt4] at hu; cases hu
  have wA : wrF [] A = A := by rw [wrF_om List.Pairwise.nil (chain_SS cA), om]
  obtain ⟨R1, hR1⟩ : ∃ R1, R1 = wrF [] A := ⟨_, rfl⟩
  obtain ⟨R2, hR2⟩ : ∃ R2, R2 = wrF R1 B := ⟨_, rfl⟩
  have lR1 : R1.length ≤ 12 := by rw [hR1, wA]; exact nA
  have lR2 : R2.length ≤ 24 := by
    rw [hR2]
    unfold wrF
    rw [sortF_length, List.length_append]
    have := foldl_without_length B R1
    simp only [List.length_nil]; omega
  have stu : ∀ S' (cs : List AV) (x : AV), cs.length = 7 → okC x = true → (cellsOf x).length = 7 → S' u = some (.row 38 7 [cs]) → stv 7 (.ptr u 0 0) x S' = some (S'.set u (.row 38 7 [cellsOf x])) := fun S' cs x h1 h2 h3 h4 => by
    rw [stv_ptr1 7 u 0 0 x S' h4 rfl h2 h3 (by omega)]
    have : splice cs 0 (cellsOf x) = cellsOf x := by simp [splice]; omega
    rw [this]; rfl
  have ldu : ∀ S' (cs : List AV), cs.length = 7 → S' u = some (.row 38 7 [cs]) → ldv true 7 (.ptr u 0 0) S' = some (.agg cs) := fun S' cs h1 h2 => ldv_all_at h2 h1
  have step : ∀ (cs : List AV) (S' : Store), S' = S4.set u (.row 38 7 [cs]) → S' u = some (.row 38 7 [cs]) ∧ S' w = some (worldR d (.ptr a 0 0)) ∧ S' t = some (.row 31 6 [askM.cs]) ∧ Sub S4 S' := fun cs S' e => by
    rw [e]
    exact ⟨Store.set_same _ _ _, by rw [Store.set_ne _ _ _ huw.symm]; exact gw4, by rw [Store.set_ne _ _ _ hut.symm]; exact gt4, (Sub.refl S4).set hu⟩
  obtain ⟨S5, hS5⟩ : ∃ S5, S5 = S4.set u (.row 38 7 [R0]) := ⟨_, rfl⟩
  obtain ⟨u5, w5, t5, b5⟩ := step R0 S5 hS5
  have st5 : stv 7 (.ptr u 0 0) (refA nilS 0 nilS 1 brs nilS 1) (S4.set u (.row 38 7 [Z7])) = some S5 := by
    rw [stu _ Z7 (.agg R0) rfl rfl rfl (Store.set_same _ _ _), Store.set_set, hS5]; rfl
  simp -implicitDefEqProofs only [st5, thenS_some, ldu S5 R0 rfl u5, bQ_some, lt S5 t5]
  refine f15_c [] A (by simp; omega) cA nilS (.nil rfl) 0 (by decide) nilS brs nilS 1 1 (by decide) (by decide) 0 3 (by decide) (by decide) nilS nilS (.nil rfl) [] ⟨rfl, rfl⟩ S5 ?_
  rw [← hR1]
  obtain ⟨rn1, hrn1⟩ : ∃ rn1 : Nat, rn1 = (if A = [] then 0 else 0 + 1 : Nat) := ⟨_, rfl⟩
  rw [← hrn1]
  obtain ⟨c1, hc1⟩ : ∃ c1 : List AV, c1 = [vers R1, iv rn1, nilS, iv 3, brs, nilS, iv (1 + 1)] := ⟨_, rfl⟩
  obtain ⟨S6, hS6⟩ : ∃ S6, S6 = S4.set u (.row 38 7 [c1]) := ⟨_, rfl⟩
  obtain ⟨u6, w6, t6, b6⟩ := step c1 S6 hS6
  have st6 : stv 7 (.ptr u 0 0) (refA (vers R1) rn1 (.lit (.slice none 0 0)) 3 brs nilS (1 + 1)) S5 = some S6 := by
    rw [stu _ R0 (refA (vers R1) rn1 (.lit (.slice none 0 0)) 3 brs nilS (1 + 1)) rfl rfl rfl u5, hS6, hS5, Store.set_set, hc1]; rfl
  have l7 : c1.length = 7 := by rw [hc1]; rfl
  simp -implicitDefEqProofs only [aext_tuple, List.getElem?_cons_zero, List.getElem?_cons_succ, bQ_some, st6, thenS_some, ldu S6 c1 l7 u6, lt S6 t6]
  rw [hc1]
  refine f15_c R1 B (by omega) cB (vers R1) .vals rn1 (by rw [hrn1]; split <;> omega) nilS brs nilS 3 (1 + 1) (by decide) (by decide) 0 3 (by decide) (by decide) nilS nilS (.nil rfl) [] ⟨rfl, rfl⟩ S6 ?_
  rw [← hR2]
  obtain ⟨rn2, hrn2⟩ : ∃ rn2 : Nat, rn2 = (if B = [] then rn1 else rn1 + 1 : Nat) := ⟨_, rfl⟩
  rw [← hrn2]
  obtain ⟨c2, hc2⟩ : ∃ c2 : List AV, c2 = [vers R2, iv rn2, nilS, iv 3, brs, nilS, iv (1 + 1 + 1)] := ⟨_, rfl⟩
  obtain ⟨S7, hS7⟩ : ∃ S7, S7 = S4.set u (.row 38 7 [c2]) := ⟨_, rfl⟩
  obtain ⟨u7, w7, t7, b7⟩ := step c2 S7 hS7
  have st7 : stv 7 (.ptr u 0 0) (refA (vers R2) rn2 (.lit (.slice none 0 0)) 3 brs nilS (1 + 1 + 1)) S6 = some S7 := by
    rw [stu _ c1 (refA (vers R2) rn2 (.lit (.slice none 0 0)) 3 brs nilS (1 + 1 + 1)) l7 rfl rfl u6, hS7, hS6, Store.set_set, hc2]; rfl
  have l8 : c2.length = 7 := by rw [hc2]; rfl
  have lr : ldv false 1 (.ptr u 0 0) S7 = some (vers R2) := by rw [ldv_at u7, hc2]; rfl
  have hA7 := hA4.sub b7
  have e1 := law_of key (chain_SS cA) (chain_SS cB)
  have e2 := law_range key key2 (chain_SS cA) (chain_SS cB)
  have e3 := law_all (chain_SS cA) (chain_SS cB)
  rw [← hR1, ← hR2] at e1 e2 e3
  simp -implicitDefEqProofs only [aext_tuple, List.getElem?_cons_zero, List.getElem?_cons_succ, bQ_some, st7, thenS_some, lw S7 w7, lr]
  refine f17_c hA7 key ?_
  refine ⟨⟨lr, trivial⟩, ?_⟩
  refine f18_c R2 key (by omega) S7 ?_
  rw [e1]
  have o1 := ofF_len R2 key
  refine f16_c _ _ (by omega) S7 ?_
  rw [decide_eq_true rfl]
  try simp -implicitDefEqProofs only [lw S7 w7, lr, bQ_some]
  refine f19_c hA7 key key2 ?_
  refine ⟨⟨lr, trivial⟩, ?_⟩
  refine f20_c R2 key key2 (by omega) S7 ?_
  rw [e2]
  have o2 := rangeF_len R2 key key2
  refine f16_c _ _ (by omega) S7 ?_
  rw [decide_eq_true rfl]
  simp -implicitDefEqProofs only [lw S7 w7, ldu S7 c2 l8 u7, bQ_some]
  have eR : (.agg c2 : AV) = refA (vers R2) ((m0.next askM A).next askM B).runs.length nilS ((m0.next askM A).next askM B).epoch brs nilS ((m0.next askM A).next askM B).number := by
    rw [two_len A B askM askM, ← hrn1, ← hrn2, hc2]; rfl
  rw [eR]
  refine f21_c hA7 ?_ R2 (vers R2) nilS .vals ⟨rfl, rfl⟩ e3 (by omega) nilS (.nil rfl) ?_
  · rw [two_len A B askM askM, ← hrn1]; split <;> (rw [hrn1]; split <;> omega)
  simp -implicitDefEqProofs only [abi_eql, show ((0 : Int) == 0) = true from rfl, bQ_some, gdQ_bv, gdE_bv, if_true, apick_bv]
  refine f22_c S7 fun S8 _ => ?_
  try simp -implicitDefEqProofs only [apick_bv, if_true, bQ_some]
  exact dropQ_self (hQ S8)
end Go.Du
namespace Go.Du
open Go Go.ChangeShapes Go.WideShapes Go.ChangeAt Go.RowKit
open Go.Proofs.YthmlcohmlehddaaGreatDoor (Rows.archiveFindsSpec Rows.archiveFindsUptoRow Rows.uptoBulk Rows.uptoBulkAll Rows.uptoSmall)
theorem ATriple.calls {P : Program} {f : FuncId} {args : List AV} {S : Store} {Q : AV → Store → Prop} (h : ATriple P f args S Q) {m : Mu} {w : World} {args' : Array Value} (hr : Rel m S w) (ha : RelVs m args args') :
    Calls P f args' w fun e w' => ∃ v x S' m', e = .returned v ∧ Q x S' ∧ m.le m' ∧ m'.H = m.H ∧ Rel m' S' w' ∧ RelV m' x v := callsIn_wide.1 (h m w args' hr ha)
attribute [local irreducible] ATriple W evP AI AExt callW
def mu0 (w : World) : Mu := ⟨fun _ => none, fun b => w.heap[b]?, [], w.os, w.output, w.tape⟩
def S00 : Store := fun _ => none
theorem rel0 (w : World) : Rel (mu0 w) S00 w :=
  ⟨fun _ _ h => h, (fun _ _ h => by cases h), (fun _ _ _ h => by cases h), (fun _ _ _ _ h => absurd rfl h), (fun _ _ h => by cases h), rfl, rfl, rfl, ⟨0, fun _ _ => ⟨rfl, rfl⟩⟩⟩
theorem below0 {w w' : World} {m : Mu} {S : Store} (hle : (mu0 w).le m) (h : Rel m S w') : Below w.heap.size w w' := by
  have hb : ∀ k, k < w.heap.size → w'.heap[k]? = w.heap[k]? := fun k hk => by
    have e : w.heap[k]? = some w.heap[k] := Array.getElem?_eq_getElem hk
    rw [h.z k _ (hle.Z k _ e), e]
  refine ⟨h.os.trans hle.os, h.tape.trans hle.tape, h.out.trans hle.out, ?_, hb⟩
  by_cases hz : w.heap.size = 0
  · omega
  · have := hb (w.heap.size - 1) (by omega)
    rw [Array.getElem?_eq_getElem (show w.heap.size - 1 < w.heap.size by omega)] at this
    obtain ⟨h1, _⟩ := Array.getElem?_eq_some_iff.1 this
    omega
theorem u110 : PR.underlying 110 = some (.struct #[{ name := "Branch", type := 3, offset := 0, embedded := false, tag := "", pkgPath := "", byteOffset := 0 }, { name := "Epoch", type := 3, offset := 1, embedded := false, tag := "", pkgPath := "", byteOffset := 8 }, { name := "Seq", type := 3, offset := 2, embedded := false, tag := "", pkgPath := "", byteOffset := 16 }]) := by kernel_rfl
theorem u90 : PR.underlying 90 = some (.struct #[{ name := "From", type := 3, offset := 0, embedded := false, tag := "", pkgPath := "", byteOffset := 0 }, { name := "To", type := 3, offset := 1, embedded := false, tag := "", pkgPath := "", byteOffset := 8 }]) := by kernel_rfl
theorem u3 : PR.underlying 3 = some (.int .i64) := by kernel_rfl
theorem u4 : PR.underlying 4 = some .bool := by kernel_rfl
theorem u9 : PR.underlying 9 = some .string := by kernel_rfl
theorem c112 : PR.cellsOf 112 = 8 := by kernel_rfl
theorem c110 : PR.cellsOf 110 = 3 := by kernel_rfl
theorem c90 : PR.cellsOf 90 = 2 := by kernel_rfl
theorem c3 : PR.cellsOf 3 = 1 := by kernel_rfl
theorem c4 : PR.cellsOf 4 = 1 := by kernel_rfl
theorem c9 : PR.cellsOf 9 = 1 := by kernel_rfl
theorem list8 {α : Type} : ∀ {l : List α}, l.length = 8 → ∃ a0 a1 a2 a3 a4 a5 a6 a7, l = [a0, a1, a2, a3, a4, a5, a6, a7]
  | [a0, a1, a2, a3, a4, a5, a6, a7], _ => ⟨a0, a1, a2, a3, a4, a5, a6, a7, rfl⟩
theorem sb_data (s : ByteArray) : sb s.data.toList = s := by
  show (⟨s.data.toList.toArray⟩ : ByteArray) = s
  rw [Array.toArray_toList]
section
variable {H : Type} {enc : TypeId × Value → H} {w : World} {base : Nat} {sp : Nat → Bool} {held : Bool}
theorem open_ver {fuel : Nat} {cs : List Value} {x : DataW H × List MemPlace} (h : DataW.trod enc PR w base sp held fuel 112 cs = some x) :
    ∃ v : Ver, cs = [.string (sb v.key), .int .i64 v.br, .int .i64 v.ep, .int .i64 v.sq, .int .i64 v.fr, .int .i64 v.to, .string (sb v.val), .bool v.gone] := by
  obtain ⟨xs, n, _, _, hl, hxs, hf⟩ := DataW.trod_struct Go.Proofs.Tryz.underlying112 h
  rw [c112] at hl
  have x5 : xs.length = 5 := by simpa using hxs
  have g0 := hf 0 { name := "Key", type := 9, offset := 0, embedded := false, tag := "", pkgPath := "", byteOffset := 0 } rfl
  have g1 := hf 1 { name := "At", type := 110, offset := 1, embedded := false, tag := "", pkgPath := "", byteOffset := 16 } rfl
  have g2 := hf 2 { name := "Span", type := 90, offset := 4, embedded := false, tag := "", pkgPath := "", byteOffset := 40 } rfl
  have g3 := hf 3 { name := "Value", type := 9, offset := 6, embedded := false, tag := "", pkgPath := "", byteOffset := 56 } rfl
  have g4 := hf 4 { name := "Gone", type := 4, offset := 7, embedded := false, tag := "", pkgPath := "", byteOffset := 72 } rfl
  dsimp only at g0 g1 g2 g3 g4
  rw [c9] at g0 g3
  rw [c110] at g1
  rw [c90] at g2
  rw [c4] at g4
  rw [List.getElem?_eq_getElem (by omega)] at g0 g1 g2 g3 g4
  obtain ⟨s0, e0, _⟩ := DataW.trod_string u9 g0
  obtain ⟨ys, n1, _, _, hl1, hys, hf1⟩ := DataW.trod_struct u110 g1
  obtain ⟨zs, n2, _, _, hl2, hzs, hf2⟩ := DataW.trod_struct u90 g2
  obtain ⟨s3, e3, _⟩ := DataW.trod_string u9 g3
  obtain ⟨b4, e4, _⟩ := DataW.trod_bool u4 g4
  have y3 : ys.length = 3 := by simpa using hys
  have z2 : zs.length = 2 := by simpa using hzs
  have k0 := hf1 0 { name := "Branch", type := 3, offset := 0, embedded := false, tag := "", pkgPath := "", byteOffset := 0 } rfl
  have k1 := hf1 1 { name := "Epoch", type := 3, offset := 1, embedded := false, tag := "", pkgPath := "", byteOffset := 8 } rfl
  have k2 := hf1 2 { name := "Seq", type := 3, offset := 2, embedded := false, tag := "", pkgPath := "", byteOffset := 16 } rfl
  have k3 := hf2 0 { name := "From", type := 3, offset := 0, embedded := false, tag := "", pkgPath := "", byteOffset := 0 } rfl
  have k4 := hf2 1 { name := "To", type := 3, offset := 1, embedded := false, tag := "", pkgPath := "", byteOffset := 8 } rfl
  dsimp only at k0 k1 k2 k3 k4
  rw [c3] at k0 k1 k2 k3 k4
  rw [List.getElem?_eq_getElem (by omega)] at k0 k1 k2 k3 k4
  obtain ⟨i0, d0, _⟩ := DataW.trod_int u3 k0
  obtain ⟨i1, d1, _⟩ := DataW.trod_int u3 k1
  obtain ⟨i2, d2, _⟩ := DataW.trod_int u3 k2
  obtain ⟨i3, d3, _⟩ := DataW.trod_int u3 k3
  obtain ⟨i4, d4, _⟩ := DataW.trod_int u3 k4
  obtain ⟨a0, a1, a2, a3, a4, a5, a6, a7, hcs⟩ := list8 hl
  rw [hcs] at e0 e3 e4 d0 d1 d2 d3 d4
  simp only [List.drop_zero, List.take_succ_cons, List.take_zero, List.drop_succ_cons, List.cons.injEq, and_true] at e0 e3 e4 d0 d1 d2 d3 d4
  refine ⟨⟨s0.data.toList, i0, i1, i2, i3, i4, s3.data.toList, b4⟩, ?_⟩
  dsimp only
  rw [hcs, e0, e3, e4, d0, d1, d2, d3, d4, sb_data, sb_data]
end
theorem relV_ver {m : Mu} (v : Ver) : ∀ j (hj : j < v.cs.length), RelV m v.cs[j] (([.string (sb v.key), .int .i64 v.br, .int .i64 v.ep, .int .i64 v.sq, .int .i64 v.fr, .int .i64 v.to, .string (sb v.val), .bool v.gone] : List Value).getD j undef) ∧ (([.string (sb v.key), .int .i64 v.br, .int .i64 v.ep, .int .i64 v.sq, .int .i64 v.fr, .int .i64 v.to, .string (sb v.val), .bool v.gone] : List Value).getD j undef).oneCell' = true := by
  intro j hj
  rw [Ver.cs_length] at hj
  match j, hj with
  | 0, _ => exact ⟨.lit _ rfl, rfl⟩
  | 1, _ => exact ⟨.lit _ rfl, rfl⟩
  | 2, _ => exact ⟨.lit _ rfl, rfl⟩
  | 3, _ => exact ⟨.lit _ rfl, rfl⟩
  | 4, _ => exact ⟨.lit _ rfl, rfl⟩
  | 5, _ => exact ⟨.lit _ rfl, rfl⟩
  | 6, _ => exact ⟨.lit _ rfl, rfl⟩
  | 7, _ => exact ⟨.lit _ rfl, rfl⟩
def verL (v : Ver) : List Value := [.string (sb v.key), .int .i64 v.br, .int .i64 v.ep, .int .i64 v.sq, .int .i64 v.fr, .int .i64 v.to, .string (sb v.val), .bool v.gone]
theorem cell_at {w : World} {a : Addr} {v : Value} (h : w.cell? a = some v) : a.spot = none ∧ ∃ cur e fr, w.heap[a.block]? = some (.cells cur e fr) ∧ cur[a.off]? = some v := by
  unfold World.cell? at h
  split at h
  · rename_i c e fr hb
    cases hs : a.spot with
    | none => rw [hs] at h; exact ⟨rfl, c, e, fr, hb, by simpa using h⟩
    | some _ => rw [hs] at h; simp at h
  · cases h
theorem open_vers {H : Type} {enc : TypeId × Value → H} {w : World} {sp : Nat → Bool} {held : Bool} {v : Value} {d : DataW H} {ps : List MemPlace} (hv : ∃ a n c, v = .slice a n c) (h : DataW.Trod enc PR w 0 sp held 22 v d ps) :
    ∃ l : List Ver, RelV (mu0 w) (vers l) v ∧ l.length + 1 ≤ Rows.uptoBulk d := by
  obtain ⟨a0, n0, c0, rfl⟩ := hv
  obtain ⟨fuel, hf⟩ := h
  rcases Go.Deep.open_slice Go.Proofs.Tryz.underlying22 hf with ⟨e1, e2⟩ | ⟨a, len, cap, m, n, D, Pl, e1, _, hlc, _, hm, e2, hx⟩
  · have : Value.slice a0 n0 c0 = .slice none 0 0 := by simpa [Value.cells] using e1
    rw [this]
    simp only [Prod.mk.injEq] at e2
    refine ⟨[], .sempty none 0, ?_⟩
    rw [e2.1]; simp [Rows.uptoBulk]
  · have hval : Value.slice a0 n0 c0 = .slice (some a) len cap := by simpa [Value.cells] using e1
    rw [hval]
    have hmlen : len ≤ m := by rw [hm]; split <;> omega
    have hsome : ∀ i, ∃ u : Ver, i < len → ∀ j, j < 8 → w.cell? ((a.add (i * 8)).add j) = some ((verL u).getD j undef) := by
      intro i
      by_cases hi : i < len
      · obtain ⟨cs', k1, k2⟩ := hx i (by omega)
        rw [c112] at k1
        obtain ⟨u, hu⟩ := open_ver k2
        refine ⟨u, fun _ j hj => ?_⟩
        have := (World.cells?_some k1).2.2 j hj
        rw [this, hu]
        match j, hj with
        | 0, _ => rfl
        | 1, _ => rfl
        | 2, _ => rfl
        | 3, _ => rfl
        | 4, _ => rfl
        | 5, _ => rfl
        | 6, _ => rfl
        | 7, _ => rfl
      · exact ⟨⟨[], 0, 0, 0, 0, 0, [], false⟩, fun h => absurd h hi⟩
    obtain ⟨V, hV⟩ := Classical.axiomOfChoice hsome
    have hbulk : len + 1 ≤ Rows.uptoBulk d := by
      simp only [Prod.mk.injEq] at e2
      rw [e2.1]
      simp only [Rows.uptoBulk]
      have : ∀ l : List (DataW H), l.length ≤ Rows.uptoBulkAll l := by
        intro l
        induction l with
        | nil => simp
        | cons x r ih =>
          have h1 : 1 ≤ Rows.uptoBulk x := by
            cases x with
            | lit l => cases l <;> simp [Rows.uptoBulk]
            | nil => simp [Rows.uptoBulk]
            | ptr d => simp [Rows.uptoBulk]
            | slice elems spare => simp [Rows.uptoBulk]
            | agg parts => simp [Rows.uptoBulk]
            | iface t d => simp [Rows.uptoBulk]
            | map entries => simp [Rows.uptoBulk]
            | held h => simp [Rows.uptoBulk]
          simp only [Rows.uptoBulkAll, List.length_cons]; omega
      have h2 := this ((List.range len).map D)
      simp only [List.length_map, List.length_range] at h2
      omega
    refine ⟨(List.range len).map V, ?_, by simpa using hbulk⟩
    by_cases h0 : len = 0
    · subst h0
      exact .sempty (some a) cap
    · obtain ⟨hsp, cur, e, fr, hb, _⟩ := cell_at (hV 0 (by omega) 0 (by omega))
      obtain ⟨b, o, spot⟩ := a
      have hsp' : spot = none := hsp
      subst hsp'
      have hb' : w.heap[b]? = some (.cells cur e fr) := hb
      have hc : ∀ i j, i < len → j < 8 → cur[o + i * 8 + j]? = some ((verL (V i)).getD j undef) := fun i j hi hj => by
        have h1 := hV i hi j hj
        rw [Addr.add_lit, Addr.add_lit] at h1
        obtain ⟨_, cur', e', fr', hb2, hc2⟩ := cell_at h1
        have hb3 : w.heap[b]? = some (.cells cur' e' fr') := hb2
        rw [hb'] at hb3
        simp only [Option.some.injEq, Obj.cells.injEq] at hb3
        rw [hb3.1]
        exact hc2
      have hr := fun i j (hj : j < 8) => relV_ver (m := mu0 w) (V i) j (by simpa using hj)
      have := RelV.svals (m := mu0 w) (l := ((List.range len).map V).map Ver.cs) (b := b) (o := o) (sz := 8) (c := cap) (cur := cur) (e := e) (fr := fr) hb' (by simp) (fun i j => (verL (V i)).getD j undef)
        (fun i j hi hj => hc i j (by simpa using hi) hj) (fun i j hi hj => (hr i j hj).2) (fun i hi j hj => ?_) (by simpa using hlc)
      · have hlen : (((List.range len).map V).map Ver.cs).length = len := by simp
        rw [hlen] at this
        exact this
      · simp only [List.length_map, List.length_range] at hi
        simp only [List.getElem_map, List.getElem_range, Ver.cs_length] at hj ⊢
        exact (hr i j hj).1
theorem laidOut : laidOutB PR = true := by kernel_rfl
theorem read22 : PR.readableRec 22 = true := by kernel_rfl
theorem row22 : 22 < PR.types.size := of_decide_eq_true (by kernel_rfl)
theorem bulk_part {H : Type} {d : DataW H} {l : List (DataW H)} (h : d ∈ l) : Rows.uptoBulk d ≤ Rows.uptoBulkAll l := by
  induction l with
  | nil => cases h
  | cons x r ih =>
    simp only [Rows.uptoBulkAll]
    cases List.mem_cons.1 h with
    | inl e => subst e; omega
    | inr e => have := ih e; omega
set_option maxRecDepth 100000 in
theorem contract (H : Type) (enc : TypeId × Value → H) (W : World) (base : Nat) (args : Array Value) (ds gs : List (DataW H)) (before : List MemPlace)
    (hval : ∀ (j : Nat) t v, Go.Proofs.Tryz.f3.params[j]? = some t → args[j]? = some v → Value.okWide PR W .any base t v)
    (hW : DataW.Whole enc PR Go.Proofs.Tryz.f3.params.toList Rows.archiveFindsSpec.vars false W args.toList ds gs before) (hk : Rows.uptoSmall H (ds ++ gs) = true) :
    Calls PR 3 args W fun e W' => ∃ v, e = .returned v ∧ Rows.archiveFindsSpec.post enc PR Go.Proofs.Tryz.f3 false true false false W args v W' := by
  have hW' := hW
  obtain ⟨p, q, hA, hV, hpq, hfz, hnd⟩ := hW
  rw [Go.Proofs.Tryz.params3] at hA hval
  obtain ⟨v0, v1, v2, v3, d0, d1, d2, d3, p0, p1, p2, p3, rfl, rfl, hp, h0, h1, h2, h3⟩ := trodAll_four hA
  obtain ⟨rfl, rfl⟩ := trodVars_none hV
  have ok0 := hval 0 22 v0 rfl rfl
  have ok1 := hval 1 22 v1 rfl rfl
  obtain ⟨s2, rfl, rfl, rfl, hs2⟩ := Go.ChangeMaps.open_string u9 (hval 2 9 v2 rfl rfl) h2
  obtain ⟨s3, rfl, rfl, rfl, hs3⟩ := Go.ChangeMaps.open_string u9 (hval 3 9 v3 rfl rfl) h3
  have hb : Rows.uptoBulkAll [d0, d1, .lit (.string s2.data.toList), .lit (.string s3.data.toList)] ≤ 1048576 := by
    have := of_decide_eq_true hk
    rwa [List.append_nil] at this
  have b0 := bulk_part (d := d0) (l := [d0, d1, .lit (.string s2.data.toList), .lit (.string s3.data.toList)]) (by simp)
  have b1 := bulk_part (d := d1) (l := [d0, d1, .lit (.string s2.data.toList), .lit (.string s3.data.toList)]) (by simp)
  obtain ⟨l, rl, nl⟩ := open_vers (okWide_slice Go.Proofs.Tryz.underlying22 ok0) h0
  obtain ⟨k, rk, nk⟩ := open_vers (okWide_slice Go.Proofs.Tryz.underlying22 ok1) h1
  have ht := f3_c l k (by omega) (by omega) s2.data.toList s3.data.toList S00 (Q := fun x _ => x = bv true) (fun _ => rfl)
  have hargs : RelVs (mu0 W) [vers l, vers k, sv s2.data.toList, sv s3.data.toList] #[v0, v1, .string s2, .string s3] := by
    refine ⟨rfl, fun i hi => ?_⟩
    match i, hi with
    | 0, _ => exact rl
    | 1, _ => exact rk
    | 2, _ =>
      show RelV (mu0 W) (.lit (.string (sb s2.data.toList))) (.string s2)
      rw [sb_data]; exact .lit _ rfl
    | 3, _ =>
      show RelV (mu0 W) (.lit (.string (sb s3.data.toList))) (.string s3)
      rw [sb_data]; exact .lit _ rfl
  refine (ht.calls (rel0 W) hargs).mono fun e W' ⟨v, x, S', m', he, hx, hle, _, hrel, hv⟩ => ?_
  subst he hx
  have hv' := hv.lit_inv
  subst hv'
  have hbel := below0 hle hrel
  have hlt : ∀ y ∈ before, y.block < W.heap.size := fun y hy => by simpa using hW'.lt y hy
  have ht0 := Below.trod laidOut read22 row22 h0 hbel (fun y hy => hlt y (by rw [hpq, hp]; simp [hy]))
  have ht1 := Below.trod laidOut read22 row22 h1 hbel (fun y hy => hlt y (by rw [hpq, hp]; simp [hy]))
  refine ⟨_, rfl, _, _, _, [], p0 ++ (p1 ++ ([] ++ [])), [], hW', ?_, ?_, rfl, hbel.frame _, fun h => by cases h⟩
  · exact trodAll_mk1 (shut_bool u4 true)
  · rw [Go.Proofs.Tryz.params3]
    exact trodAll_mk4 ht0 ht1 (Go.ChangeMaps.shut_string u9 hs2) (Go.ChangeMaps.shut_string u9 hs3)
end Go.Du
namespace Go.Du
open Go
theorem band {a b : Bool} (ha : a = true) (hb : b = true) : (a && b) = true := by rw [ha, hb]; rfl
theorem goes_none {P : Program} (h : P.funcs.any Func.goes = false) (f : FuncId) : P.goes f = false := by
  unfold Program.goes
  rw [h, Bool.and_false, Bool.or_false, List.any_eq_false]
  intro g _
  cases hg : P.funcs[g]? with
  | none => simp
  | some fn =>
    rw [Array.any_eq_false] at h
    obtain ⟨hlt, rfl⟩ := Array.getElem?_eq_some_iff.1 hg
    simpa using h g hlt
theorem goesBy_none {P : Program} (h : P.funcs.any Func.goes = false) {c : OpenClaim} (hs : c.start = .entering) : false = c.goesBy P := by
  unfold OpenClaim.goesBy Program.goesAt Program.goesFrom
  rw [hs]
  cases hf : P.funcNamed c.func with
  | none => rfl
  | some f => simp [goes_none h f]
end Go.Du
namespace Go.Proofs.YthmlcohmlehddaaGreatDoor.archiveFinds
open Go Go.Du
theorem nogo : Tryz.pinned.checked.prog.funcs.any Func.goes = false := by kernel_rfl
theorem goes0 : false = Rows.archiveFindsUptoRow.goesBy Tryz.pinned.checked.prog := goesBy_none nogo rfl
theorem j1 : (Rows.archiveFindsUptoRow.wf (OpenSpec.ofChange (Rows.OpenSpec.upto Rows.archiveFindsSpec).bare)) = true := by kernel_rfl
theorem j2 : (laidOutB Tryz.pinned.checked.prog) = true := by kernel_rfl
theorem j3 : (mapsRowed Tryz.pinned.checked.prog) = true := by kernel_rfl
theorem j4 : (Tryz.f3.params.all (Tryz.pinned.checked.prog.readableRec ·)) = true := by kernel_rfl
theorem j5 : (namedTie Tryz.pinned.checked.prog Rows.archiveFindsUptoRow.named (Rows.OpenSpec.upto Rows.archiveFindsSpec).bare.vars) = true := by kernel_rfl
theorem j6 : ((Rows.archiveFindsUptoRow.stops == [])) = true := by kernel_rfl
theorem j7 : ((Tryz.pinned.checked.prog.stops == [])) = true := by kernel_rfl
theorem j8 : ((Rows.archiveFindsUptoRow.knobs == [])) = true := by kernel_rfl
theorem j9 : ((Tryz.pinned.checked.prog.stopKnobs == [])) = true := by kernel_rfl
theorem j10 : ((Rows.archiveFindsUptoRow.inPlace == Tryz.pinned.checked.prog.inPlace 3)) = true := by kernel_rfl
theorem j11 : ((Rows.archiveFindsUptoRow.unfollowed == Tryz.pinned.checked.prog.unfollowed 3)) = true := by kernel_rfl
theorem j12 : ((Rows.archiveFindsUptoRow.recurses == Tryz.pinned.checked.prog.recurses 3)) = true := by kernel_rfl
theorem j13 : ((Rows.archiveFindsUptoRow.named == Tryz.pinned.checked.prog.varsNamed 3)) = true := by kernel_rfl
theorem j14 : ((Rows.archiveFindsUptoRow.maps == (Tryz.f3.params.toList ++ (Rows.OpenSpec.upto Rows.archiveFindsSpec).bare.plain.varTypes Tryz.pinned.checked.prog).any (Tryz.pinned.checked.prog.mapsRec ·))) = true := by kernel_rfl
theorem j15 : ((Rows.archiveFindsUptoRow.ifaces == (Tryz.f3.params.toList ++ (Rows.OpenSpec.upto Rows.archiveFindsSpec).bare.plain.varTypes Tryz.pinned.checked.prog).any (Tryz.pinned.checked.prog.ifacesRec ·))) = true := by kernel_rfl
theorem j16 : ((Rows.archiveFindsUptoRow.mapsOut == Tryz.pinned.checked.prog.mapsAmong Tryz.f3.resultTypes.toList)) = true := by kernel_rfl
theorem j17 : ((Rows.archiveFindsUptoRow.loops == (Tryz.f3.params.toList ++ (Rows.OpenSpec.upto Rows.archiveFindsSpec).bare.plain.varTypes Tryz.pinned.checked.prog).any (Tryz.pinned.checked.prog.loopsFrom ·))) = true := by kernel_rfl
theorem j18 : ((Rows.archiveFindsUptoRow.wideKeys == (Tryz.f3.params.toList ++ (Rows.OpenSpec.upto Rows.archiveFindsSpec).bare.plain.varTypes Tryz.pinned.checked.prog ++ Tryz.f3.resultTypes.toList).any (Tryz.pinned.checked.prog.wideKeysFrom ·))) = true := by kernel_rfl
theorem j19 : ((Rows.OpenSpec.upto Rows.archiveFindsSpec).bare.vars.all (Tryz.pinned.checked.prog.varReadable ·)) = true := by kernel_rfl
theorem j20 : (Tryz.f3.resultTypes.all (fun t => Tryz.pinned.checked.prog.readableRec t && decide (t < Tryz.pinned.checked.prog.types.size))) = true := by kernel_rfl
theorem j21 : ((Rows.archiveFindsUptoRow.ifacesOut == Tryz.f3.resultTypes.toList.any (Tryz.pinned.checked.prog.ifacesRec ·))) = true := by kernel_rfl
theorem j22 : ((Rows.archiveFindsUptoRow.loopsOut == Tryz.f3.resultTypes.toList.any (Tryz.pinned.checked.prog.loopsFrom ·))) = true := by kernel_rfl
theorem j23 : ((Rows.archiveFindsUptoRow.plainKeys == Tryz.pinned.checked.prog.plainKeys)) = true := by kernel_rfl
theorem j24 : (Rows.archiveFindsUptoRow.shortTexts.isNone) = true := by kernel_rfl
theorem j25 : (Tryz.pinned.checked.prog.stopsHeard) = true := by kernel_rfl
theorem j26 : (Tryz.pinned.checked.prog.mayEnter) = true := by kernel_rfl
theorem j27 : ((Rows.archiveFindsUptoRow.lifted == Tryz.pinned.checked.prog.liftsFinal)) = true := by kernel_rfl
theorem j28 : ((Tryz.pinned.checked.prog.make == some Rows.archiveFindsUptoRow.make)) = true := by kernel_rfl
theorem j29 : ((Rows.archiveFindsUptoRow.kinds == (if Rows.archiveFindsUptoRow.domain.isEmpty then [] else Tryz.f3.params.toList.map fun t => match Tryz.pinned.checked.prog.underlying t with | some (.int k) => some k | _ => none))) = true := by kernel_rfl
theorem j30 : ((Rows.archiveFindsUptoRow.pinned == Rows.archiveFindsUptoRow.pinnedBy)) = true := by kernel_rfl
theorem j31 : ((Rows.archiveFindsUptoRow.veiled == (Tryz.f3.params.toList ++ (Rows.OpenSpec.upto Rows.archiveFindsSpec).bare.plain.varTypes Tryz.pinned.checked.prog ++ Tryz.f3.resultTypes.toList).any (Tryz.pinned.checked.prog.veiledRec ·))) = true := by kernel_rfl
theorem j32 : (Rows.archiveFindsUptoRow.veiledFits Tryz.pinned.checked.prog Tryz.f3.params.toList (Tryz.f3.params.toList ++ (Rows.OpenSpec.upto Rows.archiveFindsSpec).bare.plain.varTypes Tryz.pinned.checked.prog ++ Tryz.f3.resultTypes.toList)) = true := by kernel_rfl
theorem wfText : Rows.archiveFindsUptoRow.wfByText (Rows.OpenSpec.upto Rows.archiveFindsSpec) = true := by kernel_rfl
theorem looks0 : false = Tryz.pinned.checked.prog.looks [] := by kernel_rfl
theorem stand22 : Tryz.pinned.checked.prog.wantsStandIn 22 = false := by kernel_rfl
theorem stand9 : Tryz.pinned.checked.prog.wantsStandIn 9 = false := by kernel_rfl
theorem named3 : Tryz.pinned.checked.prog.funcNamed "duramen/duramenlaw19.ArchiveFinds" = some 3 := by kernel_rfl
end Go.Proofs.YthmlcohmlehddaaGreatDoor.archiveFinds
namespace Go.Proofs.YthmlcohmlehddaaGreatDoor.archiveFinds
open Go Go.ChangeShapes Go.WideShapes Go.ChangeAt Go.RowKit
open Go.Du (band)
theorem own : ownKnob Tryz.prog.godebug = none := by kernel_rfl
def cellsOfD : DataW Unit → Array Value
  | .agg parts => (parts.map fun d => match d with
    | .lit (.int k n) => Value.int k n
    | _ => undef).toArray
  | _ => #[]
def relay (a : Array Value) : Obj → Obj
  | .cells _ t frozen => .cells a t frozen
  | o => o
noncomputable def laidWorld (os : Os) : World :=
  { World.holding Tryz.prog os ⟨#[], #[], []⟩ with heap := (((World.holding Tryz.prog os ⟨#[], #[], []⟩).heap.modify 0 (relay (cellsOfD Rows.laid_internal_strconv_uint64pow10))).modify 2 (relay (cellsOfD Rows.laid_math_bits_deBruijn32tab))).modify 3 (relay (cellsOfD Rows.laid_math_bits_deBruijn64tab)) }
abbrev wArgs : Array Value := #[.slice none 0 0, .slice none 0 0, .string ⟨#[]⟩, .string ⟨#[]⟩]
theorem laid_met (os : Os) : laidMet Tryz.prog Rows.archiveFindsUptoRow.laid ((laidWorld os).forCall (fun _ _ => 0) ⟨#[], wArgs, []⟩).memory :=
  laidMet_of_run' 8 (by kernel_rfl) (by kernel_rfl)
theorem reads (os : Os) {H : Type} (enc : TypeId × Value → H) : ∃ places, DataW.whole enc Tryz.prog ((laidWorld os).forCall (fun _ _ => 0) ⟨#[], wArgs, []⟩).memory Tryz.f3.params.toList Rows.archiveFindsSpec.vars false wArgs.toList 8 = some ([.nil, .nil, .lit (.string []), .lit (.string [])], [], places) :=
  ⟨[], by kernel_rfl⟩
set_option maxRecDepth 100000 in
theorem lifted (os : Os) (started : os.Started) (H : Type) (enc : TypeId × Value → H) (F : Stop.Interp) :
    ReturnsInHanded {} Tryz.checked os 3 .any ((Rows.OpenSpec.upto Rows.archiveFindsSpec).preRow enc Tryz.prog Tryz.f3 Rows.archiveFindsUptoRow.domain false Rows.archiveFindsUptoRow.laid) (((Rows.OpenSpec.upto Rows.archiveFindsSpec).at F).post enc Tryz.prog Tryz.f3 false true false false) := by
  obtain ⟨places, hx⟩ := reads os enc
  refine returnsInHanded_of_row (C := Tryz.checked) (s := Rows.OpenSpec.upto Rows.archiveFindsSpec) own started (by kernel_rfl) Tryz.func3
    (witness_row_at (enc := enc) (C := Tryz.checked) false (laidWorld os) wArgs rfl (by kernel_rfl) (by kernel_rfl) (by kernel_rfl)
      (OpenSpec.preRow_of_cond 8 hx (by kernel_rfl) (fun k hk => by cases hk; kernel_rfl) (by kernel_rfl) (laid_met os))) ?_
  intro W base args ds gs before hval hW _ hcond _ _ _ _
  exact Go.Du.contract H enc W base args ds gs before hval hW (hcond _ rfl)
set_option maxRecDepth 1000000 in
theorem closed : joinedFacts Tryz.pinned.checked.prog 3 Tryz.f3 (Rows.OpenSpec.upto Rows.archiveFindsSpec).bare Rows.archiveFindsUptoRow = true := by
  unfold joinedFacts
  exact (band (band (band (band (band (band (band (band (band (band (band (band (band (band (band (band (band (band (band (band (band (band (band (band (band (band (band (band (band (band (band j1 j2) j3) j4) j5) j6) j7) j8) j9) j10) j11) j12) j13) j14) j15) j16) j17) j18) j19) j20) j21) j22) j23) j24) j25) j26) j27) j28) j29) j30) j31) j32)
theorem saidUpto : Rows.ArchiveFindsUptoSaid :=
  OpenClaim.holds_of_cond 3 Tryz.f3 rfl rfl rfl rfl rfl rfl rfl ⟨rfl, rfl, rfl, rfl, rfl⟩ rfl rfl rfl rfl rfl named3 Tryz.func3 closed
    (of_decide_eq_true (by kernel_rfl)) (by unfold Func.isWrapper; first | (rw [if_pos (by decide +kernel)]; kernel_rfl) | (rw [if_neg (by decide +kernel)]; exact ⟨rfl, rfl⟩))
    (fun os started H enc _ F => by rw [OpenClaim.pre_eq_preRow]; exact lifted os started H enc F)
theorem plain (f : FuncId) (fn : Func) (hf : Tryz.pinned.checked.prog.funcNamed "duramen/duramenlaw19.ArchiveFinds" = some f) (hfn : Tryz.pinned.checked.prog.funcs[f]? = some fn) :
    false = Tryz.pinned.checked.prog.looks [] ∧ ∀ (j : Nat) t, fn.params[j]? = some t → Tryz.pinned.checked.prog.wantsStandIn t = false := by
  obtain rfl : f = 3 := Option.some.inj (hf.symm.trans named3)
  obtain rfl : fn = Tryz.f3 := (Option.some.inj (Tryz.func3.symm.trans hfn)).symm
  refine ⟨looks0, fun j t ht => ?_⟩
  rw [Tryz.params3] at ht
  match j, ht with
  | 0, ht => cases ht; exact stand22
  | 1, ht => cases ht; exact stand22
  | 2, ht => cases ht; exact stand9
  | 3, ht => cases ht; exact stand9
theorem cardUpto : Rows.ArchiveFindsUptoCardSaid :=
  Claim7.holds_tied_plain_at .later [] _ _ _ _ saidUpto (fun _ h => by cases h) wfText (fun _ h => by cases h) archiveFindsUpto_row_tie rfl ⟨rfl, rfl⟩ (by kernel_rfl) rfl plain goes0
end Go.Proofs.YthmlcohmlehddaaGreatDoor.archiveFinds
