/- What is proved: at every archive row that the statement's guards let in, the rows of a key, and of keys, are the document's, so that the spec answers true.
Conditions: the call's arguments together hold at most 1048576 values and letters (the card's own bound); no other. -/
import Derived.Test.YthmlcohmlehddaaGreatDoorVac
import Derived.Test.YthmlcohmlehddaaGreatDoorVad
import Derived.Test.YthmlcohmlehddaaGreatDoorVaf
set_option linter.all false
namespace Go.Du
open Go
attribute [local irreducible] ATriple W evP AI
def St2 (e sz : Nat) (Sx : Store) (t : Nat) (ob : AObj) (u : Nat) (ob2 : AObj) (es : List (List AV)) (v : AV) (S : Store) : Prop :=
  t ≠ u ∧ Grow e sz ((Sx.set u ob2).set t ob) es v S
section
variable {e sz t u : Nat} {Sx S : Store} {ob ob2 : AObj} {es : List (List AV)} {v : AV}
theorem St2.one (h : St2 e sz Sx t ob u ob2 es v S) : S t = some ob := h.2.box.1
theorem St2.two (h : St2 e sz Sx t ob u ob2 es v S) : S u = some ob2 := by
  have := h.2
  rw [Store.set_comm _ h.1.symm] at this
  exact this.box.1
theorem St2.set1 (h : St2 e sz Sx t ob u ob2 es v S) (ob' : AObj) : St2 e sz Sx t ob' u ob2 es v (S.set t ob') := ⟨h.1, h.2.box.2 ob'⟩
theorem St2.set2 (h : St2 e sz Sx t ob u ob2 es v S) (ob' : AObj) : St2 e sz Sx t ob u ob' es v (S.set u ob') := by
  refine ⟨h.1, ?_⟩
  have := h.2
  rw [Store.set_comm _ h.1.symm] at this ⊢
  exact this.box.2 ob'
theorem St2.mk' (h : Grow e sz (Sx.set t ob) es v S) (hu : S u = none) (ob2 : AObj) : St2 e sz Sx t ob u ob2 es v (S.set u ob2) := by
  have hne : t ≠ u := fun e => by subst e; rw [h.box.1] at hu; cases hu
  refine ⟨hne, ?_⟩
  rw [Store.set_comm _ hne.symm]
  exact h.under' hu ob2
end
theorem stv_n {S : Store} {t ty z o n : Nat} {cs : List AV} {x : AV} (h : S t = some (.row ty z [cs])) (hx : okC x = true) (hc : (cellsOf x).length = n) (ho : o + n ≤ cs.length) : stv n (.ptr t 0 o) x S = some (S.set t (.row ty z [splice cs o (cellsOf x)])) := by
  rw [stv_ptr1 n t 0 o x S h rfl hx hc ho]; rfl
abbrev vcs (k : Bs) (a b c d e : Int) (s : Bs) (g : Bool) : List AV := [sv k, iv a, iv b, iv c, iv d, iv e, sv s, bv g]
abbrev vob (k : Bs) (a b c d e : Int) (s : Bs) (g : Bool) : AObj := .row 112 8 [vcs k a b c d e s g]
set_option maxRecDepth 100000 in
theorem f185_row (v : Ver) (hm : v.may = true) (rest : Bs) (t u : Nat) (out : List Ver) (ho : out.length ≤ 1000) (x : AV) (Sx S : Store) (n : Int) (t0 : AV)
    (rem r1 r2 r3 r4 r5 r6 : Bs) (q0 : rem = putN v.br.toNat ++ r1) (q1 : r1 = putN v.ep.toNat ++ r2) (q2 : r2 = putN v.sq.toNat ++ r3) (q3 : r3 = putN v.fr.toNat ++ r4) (q4 : r4 = putN (v.to - v.fr).toNat ++ r5) (q5 : r5 = putN (if v.gone = true then 1 else 0) ++ r6) (q6 : r6 = textS v.val ++ rest)
    (hrl : rem.length ≤ 1099511627776) (hg : St2 112 8 Sx t (rdr rem) u (vob v.key 0 0 0 0 0 [] false) (out.map Ver.cs) x S) (K : AK)
    (h : ∀ x' S' Sy, Sub Sx Sy → Grow 112 8 (Sy.set t (rdr rest)) ((out ++ [v]).map Ver.cs) x' S' → f185_L1 K t0 (.ptr t 0 0) (iv n) (sv v.key) x' S') (hu : Sx u = none) :
    f185_J2 K t0 (.ptr t 0 0) (iv n) x (.ptr u 0 0) S := by
  refine f185_J2_pt ?_
  obtain ⟨m1, ⟨m2, m3, m4⟩, m5, m6, m7, m8, m9, m10, m11, m12⟩ := v.may_iff.1 hm
  have n1 : (v.br.toNat : Int) = v.br := Int.toNat_of_nonneg m7
  have n2 : (v.ep.toNat : Int) = v.ep := Int.toNat_of_nonneg (by omega)
  have n3 : (v.sq.toNat : Int) = v.sq := Int.toNat_of_nonneg (by omega)
  have n4 : (v.fr.toNat : Int) = v.fr := Int.toNat_of_nonneg m2
  have n5 : ((v.to - v.fr).toNat : Int) = v.to - v.fr := Int.toNat_of_nonneg (by omega)
  have k0 := congrArg List.length q0
  have k1 := congrArg List.length q1
  have k2 := congrArg List.length q2
  have k3 := congrArg List.length q3
  have k4 := congrArg List.length q4
  have k5 := congrArg List.length q5
  have k6 := congrArg List.length q6
  simp only [List.length_append] at k0 k1 k2 k3 k4 k5 k6
  simp -implicitDefEqProofs only [f185_j2]
  refine f319_c t r1 v.br.toNat (by omega) _ q0 (by omega) S hg.one ?_
  replace hg := hg.set1 (rdr r1)
  refine f319_c t r2 v.ep.toNat (by omega) _ q1 (by omega) _ hg.one ?_
  replace hg := hg.set1 (rdr r2)
  refine f319_c t r3 v.sq.toNat (by omega) _ q2 (by omega) _ hg.one ?_
  replace hg := hg.set1 (rdr r3)
  have e1 : abld [.lit (.int .i64 0), .lit (.int .i64 0), .lit (.int .i64 0)] [(0, 1, iv v.br.toNat), (1, 1, iv v.ep.toNat), (2, 1, iv v.sq.toNat)] = some (.agg [iv v.br, iv v.ep, iv v.sq]) := by
    rw [n1, n2, n3]; rfl
  have z1 : stv 3 (.ptr u 0 1) (.agg [iv v.br, iv v.ep, iv v.sq]) (((S.set t (rdr r1)).set t (rdr r2)).set t (rdr r3)) = some ((((S.set t (rdr r1)).set t (rdr r2)).set t (rdr r3)).set u (vob v.key v.br v.ep v.sq 0 0 [] false)) := stv_n (n := 3) (o := 1) (x := .agg [iv v.br, iv v.ep, iv v.sq]) hg.two rfl rfl (by simp)
  simp only [e1, bQ_some, padd_ptr, Nat.zero_add, z1, thenS_some, Nat.add_zero, Nat.reduceAdd]
  replace hg := hg.set2 (vob v.key v.br v.ep v.sq 0 0 [] false)
  refine f319_c t r4 v.fr.toNat (by omega) _ q3 (by omega) _ hg.one ?_
  replace hg := hg.set1 (rdr r4)
  rw [stv_at hg.two rfl rfl (by simp), thenS_some, n4]
  replace hg := hg.set2 (vob v.key v.br v.ep v.sq v.fr 0 [] false)
  have y1 := ldv_at (o := 4) hg.two
  simp only [List.getElem?_cons_succ, List.getElem?_cons_zero] at y1
  simp only [List.set_cons_succ, List.set_cons_zero]
  rw [y1, bQ_some]
  refine f319_c t r5 (v.to - v.fr).toNat (by omega) _ q4 (by omega) _ hg.one ?_
  replace hg := hg.set1 (rdr r5)
  have y2 := ldv_at (o := 4) hg.two
  simp only [List.getElem?_cons_succ, List.getElem?_cons_zero] at y2
  refine ⟨⟨y2, trivial⟩, ?_⟩
  have wt : IntKind.i64.wrap (v.fr + (v.to - v.fr)) = v.to := by rw [wrap_id (by omega) (by omega)]; omega
  rw [n5, abi_add, bQ_some, wt]
  rw [stv_at hg.two rfl rfl (by simp), thenS_some]
  replace hg := hg.set2 (vob v.key v.br v.ep v.sq v.fr v.to [] false)
  refine f319_c t r6 (if v.gone = true then 1 else 0) (by split <;> omega) _ q5 (by omega) _ hg.one ?_
  replace hg := hg.set1 (rdr r6)
  have ge : abi .eql (iv ((if v.gone = true then 1 else 0 : Nat) : Int)) (.lit (.int .i64 1)) = some (bv v.gone) := by cases v.gone <;> rfl
  rw [ge, bQ_some]
  rw [stv_at hg.two rfl rfl (by simp), thenS_some]
  replace hg := hg.set2 (vob v.key v.br v.ep v.sq v.fr v.to [] v.gone)
  refine f321_c t rest v.val 200 m5 (by omega) _ q6 (by omega) _ hg.one ?_
  replace hg := hg.set1 (rdr rest)
  rw [stv_at hg.two rfl rfl (by simp), thenS_some]
  replace hg := hg.set2 (vob v.key v.br v.ep v.sq v.fr v.to v.val v.gone)
  have y3 := ldv_all_at hg.two (show _ = 8 from rfl)
  have y4 := fun (S' : Store) (hh : S' u = some (vob v.key v.br v.ep v.sq v.fr v.to v.val v.gone)) => ldv_at (o := 0) hh
  have bs : frzOf (bslR true 8 112 8 1 1 [(0, .agg (vcs v.key v.br v.ep v.sq v.fr v.to v.val v.gone))]) = some (.svals [v.cs]) := bsl_ver v
  simp only [List.set_cons_succ, List.set_cons_zero]
  rw [y3, bQ_some, bs, bQ_some, y4 _ hg.two]
  simp only [List.getElem?_cons_zero, bQ_some]
  have hg2 := hg.2
  refine Grow.ver (p := v) hg2 (by omega) fun x' S' hg' => ?_
  have hgs := hg'
  rw [Store.set_comm _ hg.1.symm] at hgs
  refine ⟨⟨by rw [y4 _ hgs.box.1]; rfl, trivial⟩, ?_⟩
  exact h x' S' _ ((Sub.refl Sx).set hu) hg'
end Go.Du
namespace Go.Du
open Go
attribute [local irreducible] ATriple W evP AI
theorem abi_sadd (a b : Bs) (h : a.length + b.length ≤ 9223372036854775807) : abi .add (sv a) (sv b) = some (sv (a ++ b)) := by
  have : ¬ ((a.length + b.length : Nat) : Int) > 9223372036854775807 := by omega
  simp only [abi, biv, biStr, sb_size]
  rw [if_neg this, sb_append]; rfl
theorem Sub.none {A B : Store} (h : Sub A B) {u : Nat} (hu : B u = none) : A u = none := by
  cases e : A u with
  | none => rfl
  | some o => rw [h u o e] at hu; cases hu
theorem none_of_set {S : Store} {t u : Nat} {o : AObj} (h : (S.set t o) u = none) : S u = none := by
  have hne : u ≠ t := fun e => by subst e; simp at h
  rwa [Store.set_ne _ _ _ hne] at h
theorem f186_loop (l : Bs) (hB : l.length ≤ 1099511627776) (K : AK) (S : Store) (h : K (.exit 0) (ofL [(4, .poison)]) S) : ∀ (n i : Nat), n + i = l.length → f186_L1 K (bytes l) (bytes l) (iv l.length) (iv i) S := by
  intro n
  induction n with
  | zero =>
    intro i hi
    refine f186_L1_pt ?_
    have : ¬ (i : Int) < l.length := by omega
    simp -implicitDefEqProofs [f186_l1, this]
    exact h
  | succ n ih =>
    intro i hi
    refine f186_L1_pt ?_
    have h2 : i < l.length := by omega
    have h1 : (i : Int) < l.length := by omega
    have w1 : IntKind.i64.wrap ((i : Int) + 1) = i + 1 := wrap_id (by omega) (by omega)
    have x0 := ixA_bytes l i S h2
    simp -implicitDefEqProofs [f186_l1, h1, x0, w1]
    exact ih (i + 1) (by omega)
theorem f186_c (l : Bs) (hB : l.length ≤ 1099511627776) (S : Store) {Q : AV → Store → Prop} (h : Q (bv true) S) : ATriple PR 186 [bytes l, bytes l] S Q := by
  refine f186_ok ?_
  simp -implicitDefEqProofs [f186_s]
  refine f186_loop l hB _ S ?_ l.length 0 rfl
  apply f186_K1_e0_pt
  exact dropQ_self h
theorem key_len (v : Ver) (hm : v.may = true) : v.key.length ≤ 100 := by
  obtain ⟨kn, ks, k1, k2, k3⟩ := keyE_inv _ (v.may_iff.1 hm).1
  have := keyOf_len kn ks
  rw [k3]; omega
set_option maxRecDepth 100000 in
theorem f185_loop (l : List Ver) (hB : l.length ≤ 1000) (hm : ∀ v ∈ l, v.may = true) (t0 : AV) (t : Nat) (S0 : Store) (K : AK)
    (h0 : ∀ x S Sx, Sub S0 Sx → Grow 112 8 (Sx.set t (rdr [])) (l.map Ver.cs) x S → K (.exit 0) (ofL [(0, t0), (4, .ptr t 0 0), (7, x)]) S) :
    ∀ (n i : Nat) (key rem : Bs) (x : AV) (S Sx : Store), n + i = l.length → key.length ≤ 100 → rem = encRows key (l.drop i) → rem.length ≤ 1099511627776 → Sub S0 Sx → Grow 112 8 (Sx.set t (rdr rem)) ((l.take i).map Ver.cs) x S → f185_L1 K t0 (.ptr t 0 0) (iv l.length) (sv key) x S := by
  intro n
  induction n with
  | zero =>
    intro i key rem x S Sx hi hk hrem hrl hs hg
    refine f185_L1_pt ?_
    have hil : i = l.length := by omega
    rw [List.drop_of_length_le (by omega)] at hrem
    rw [List.take_of_length_le (by omega)] at hg
    simp only [encRows] at hrem
    subst hrem
    have hln := hg.len
    simp at hln
    simp -implicitDefEqProofs only [f185_l1]
    refine f320_c t _ S hg.box.1 ?_
    simp -implicitDefEqProofs [hln]
    exact h0 _ _ _ hs hg
  | succ n ih =>
    intro i key rem x S Sx hi hk hrem hrl hs hg
    refine f185_L1_pt ?_
    have h2 : i < l.length := by omega
    have h1 : (i : Int) < l.length := by omega
    have hln := hg.len
    have htk : (l.take i).length = i := by simp; omega
    simp only [List.length_map, htk] at hln
    rw [List.drop_eq_getElem_cons h2] at hrem
    simp only [encRows] at hrem
    have hmv := hm _ (List.getElem_mem h2)
    generalize hv : l[i] = v at *
    have hkv := key_len v hmv
    obtain ⟨r6, q6⟩ : ∃ r, r = textS v.val ++ encRows v.key (l.drop (i + 1)) := ⟨_, rfl⟩
    obtain ⟨r5, q5⟩ : ∃ r, r = putN (if v.gone = true then 1 else 0) ++ r6 := ⟨_, rfl⟩
    obtain ⟨r4, q4⟩ : ∃ r, r = putN (v.to - v.fr).toNat ++ r5 := ⟨_, rfl⟩
    obtain ⟨r3, q3⟩ : ∃ r, r = putN v.fr.toNat ++ r4 := ⟨_, rfl⟩
    obtain ⟨r2, q2⟩ : ∃ r, r = putN v.sq.toNat ++ r3 := ⟨_, rfl⟩
    obtain ⟨r1, q1⟩ : ∃ r, r = putN v.ep.toNat ++ r2 := ⟨_, rfl⟩
    obtain ⟨r0, q0⟩ : ∃ r, r = putN v.br.toNat ++ r1 := ⟨_, rfl⟩
    obtain ⟨ra, qa⟩ : ∃ r, r = textS (v.key.drop (lcp key v.key)) ++ r0 := ⟨_, rfl⟩
    have qr : rem = putN (lcp key v.key) ++ ra := by
      rw [hrem, qa, q0, q1, q2, q3, q4, q5, q6]; simp [encRow]
    have kr := congrArg List.length qr
    have ka := congrArg List.length qa
    simp only [List.length_append] at kr ka
    have hl1 := lcp_le1 key v.key
    have hl2 := lcp_le2 key v.key
    have mn : amin (iv (lcp key v.key)) (iv key.length) = some (iv (lcp key v.key)) := by
      have : ¬ (key.length : Int) < (lcp key v.key : Int) := by omega
      simp [amin, this]
    have sh := sliceS_hi key (lcp key v.key) (by omega) (by omega)
    simp only [Int.toNat_natCast] at sh
    have hkk : key.take (lcp key v.key) ++ v.key.drop (lcp key v.key) = v.key := by rw [lcp_take]; exact List.take_append_drop _ _
    have ad := abi_sadd (key.take (lcp key v.key)) (v.key.drop (lcp key v.key)) (by simp; omega)
    rw [hkk] at ad
    have hb : abld ver0 [(0, 1, sv v.key)] = some (.agg (vcs v.key 0 0 0 0 0 [] false)) := rfl
    have st := fun (S : Store) (u : Nat) => stv_box (S := S) (t := u) (ty := 112) (z := 8) (cs := ver0) (x := .agg (vcs v.key 0 0 0 0 0 [] false)) (sz := 8) rfl rfl rfl
    simp only [cellsOf_agg] at st
    have nxt : ∀ x' S' Sy, Sub Sx Sy → Grow 112 8 (Sy.set t (rdr (encRows v.key (l.drop (i + 1))))) ((l.take i ++ [v]).map Ver.cs) x' S' → f185_L1 K t0 (.ptr t 0 0) (iv l.length) (sv v.key) x' S' := by
      intro x' S' Sy hsy hgy
      refine ih (i + 1) v.key _ x' S' Sy (by omega) hkv rfl ?_ (hs.trans hsy) ?_
      · have k6 := congrArg List.length q6
        have k5 := congrArg List.length q5
        have k4 := congrArg List.length q4
        have k3 := congrArg List.length q3
        have k2 := congrArg List.length q2
        have k1 := congrArg List.length q1
        have k0 := congrArg List.length q0
        simp only [List.length_append] at k0 k1 k2 k3 k4 k5 k6
        omega
      · have : l.take (i + 1) = l.take i ++ [v] := by rw [← hv]; exact List.take_succ_eq_append_getElem h2
        rw [this]; exact hgy
    simp -implicitDefEqProofs only [f185_l1]
    refine f320_c t _ S hg.box.1 ?_
    simp -implicitDefEqProofs only [abi_eql, bQ_some, beq_self_eq_true, gdQ_bv, if_true, hln, abi_lss, h1, decide_true, apick_bv, condW_bv]
    refine f319_c t ra (lcp key v.key) (by omega) _ qr hrl S hg.box.1 ?_
    have hg1 := hg.box.2 (rdr ra)
    simp -implicitDefEqProofs only [aln_str, bQ_some, mn, sh]
    constructor
    · refine f321_c t r0 (v.key.drop (lcp key v.key)) 200 (by simp; omega) (by omega) _ qa (by omega) _ hg1.box.1 ?_
      have hg2 := hg1.box.2 (rdr r0)
      refine ⟨⟨trivial, trivial⟩, ?_⟩
      simp -implicitDefEqProofs only [ad, bQ_some, hb, newW_own]
      intro u hu
      refine ⟨⟨trivial, trivial⟩, ?_⟩
      rw [st, thenS_some]
      have hs2 := St2.mk' hg2 hu (vob v.key 0 0 0 0 0 [] false)
      exact f185_row v hmv _ t u (l.take i) (by omega) x Sx _ _ t0 r0 r1 r2 r3 r4 r5 r6 q0 q1 q2 q3 q4 q5 q6 (by omega) hs2 K nxt (none_of_set (hg2.sub.none hu))
    · simp -implicitDefEqProofs only [newW_own]
      intro u hu
      have hs1 := St2.mk' hg1 hu (.row 112 8 [ver0])
      refine ⟨⟨trivial, trivial⟩, ?_⟩
      refine f321_c t r0 (v.key.drop (lcp key v.key)) 200 (by simp; omega) (by omega) _ qa (by omega) _ hs1.one ?_
      refine ⟨⟨trivial, trivial⟩, ?_⟩
      simp -implicitDefEqProofs only [ad, bQ_some, hb]
      have hs2 := hs1.set1 (rdr r0)
      have z1 : stv 8 (.ptr u 0 0) (.agg (vcs v.key 0 0 0 0 0 [] false)) (((S.set t (rdr ra)).set u (.row 112 8 [ver0])).set t (rdr r0)) = some ((((S.set t (rdr ra)).set u (.row 112 8 [ver0])).set t (rdr r0)).set u (vob v.key 0 0 0 0 0 [] false)) := stv_n (n := 8) (o := 0) (x := .agg (vcs v.key 0 0 0 0 0 [] false)) hs2.two rfl rfl (by simp)
      rw [z1, thenS_some]
      have hs3 := hs2.set2 (vob v.key 0 0 0 0 0 [] false)
      exact f185_row v hmv _ t u (l.take i) (by omega) x Sx _ _ t0 r0 r1 r2 r3 r4 r5 r6 q0 q1 q2 q3 q4 q5 q6 (by omega) hs3 K nxt (none_of_set (hg1.sub.none hu))
theorem f185_L1_clo {K : AK} {t0 t4 t5 t6 t7 : AV} {S : Store} (h : f185_L1 (clo 86 K) t0 t4 t5 t6 t7 S) : f185_L1 K t0 t4 t5 t6 t7 S := by
  delta f185_L1 at h ⊢
  exact AI_clo h
theorem f185_c (l : List Ver) (h1 : 1 ≤ l.length) (h8 : l.length ≤ 8) (hl : chainOk l) (hr : (blockB l).length ≤ 1099511627776) (S : Store) {Q : AV → Store → Prop} (h : Q (.tuple [vers l, iv 0]) S) : ATriple PR 185 [bytes (blockB l)] S Q := by
  refine f185_ok ?_
  have hm : ∀ v ∈ l, v.may = true := fun v hv => by
    obtain ⟨i, hi, rfl⟩ := List.mem_iff_getElem.1 hv
    exact (hl i hi).1
  have hne : byt (blockB l) ≠ [] := by
    have : 0 < (blockB l).length := by
      unfold blockB
      by_cases h : l.length < 128
      · rw [putN_lt h]; simp
      · rw [putN_ge h]; simp
    intro e
    have := congrArg List.length e
    simp at this; rw [this] at *; simp_all
  simp -implicitDefEqProofs only [f185_s]
  refine f318_c _ _ S false (.vals hne) hr fun t ht => ?_
  refine f319_c t (encRows [] l) l.length (by omega) _ rfl hr _ (Store.set_same _ _ _) ?_
  rw [Store.set_set]
  refine f185_L1_clo ?_
  refine f185_loop l (by omega) hm _ t S _ ?_ l.length 0 [] _ _ _ S rfl (by simp) rfl (by simp [blockB] at hr ⊢; omega) (.refl S) .nil
  intro x S' Sx hs hg
  refine ⟨ofL [(0, bytes (blockB l)), (4, .ptr t 0 0), (7, vers l)], Sx.set t (rdr []), ?_, ?_⟩
  · refine EntT.ofL [0, 4, 7] [bytes (blockB l), .ptr t 0 0, x] [bytes (blockB l), .ptr t 0 0, vers l] (by decide) (by decide) rfl rfl ?_
    exact hg.entC (fun y => .tuple [bytes (blockB l), .ptr t 0 0, y]) fun tt el a c hac => (FrzL.cons (.refl _) (.cons (.refl _) (.cons hac .nil))).tuple
  apply f185_K1_e0_pt
  simp -implicitDefEqProofs only [f185_K1_e0]
  refine f320_c t _ _ (Store.set_same _ _ _) ?_
  simp -implicitDefEqProofs
  refine f312_c l h1 h8 hl _ ?_
  simp -implicitDefEqProofs
  refine f313_c l (by omega) hm hr _ ?_
  refine f186_c _ hr _ ?_
  simp -implicitDefEqProofs
  refine ⟨_, S, .drop (hs.set ht), h⟩
end Go.Du
namespace Go.Du
open Go
attribute [local irreducible] ATriple W evP AI
def crc1 (x : Int) : Int :=
  IntKind.u32.wrap (BitVec.ofInt 32 (x.fdiv 2) ^^^ BitVec.ofInt 32 (IntKind.u32.wrap (BitVec.ofInt 32 3988292384 &&& BitVec.ofInt 32 (IntKind.u32.wrap (0 - IntKind.u32.wrap (BitVec.ofInt 32 x &&& BitVec.ofInt 32 1).toNat))).toNat)).toNat
def crcX (x : Int) (b : UInt8) : Int := IntKind.u32.wrap (BitVec.ofInt 32 x ^^^ BitVec.ofInt 32 (IntKind.u32.wrap b.toNat)).toNat
def crc8 : Nat → Int → Int
  | 0, x => x
  | n + 1, x => crc8 n (crc1 x)
def crcL : Int → Bs → Int
  | x, [] => x
  | x, b :: l => crcL (crc8 8 (crcX x b)) l
def sumI (l : Bs) : Int := IntKind.u32.wrap (BitVec.ofInt 32 IntKind.u32.max ^^^ BitVec.ofInt 32 (crcL 4294967295 l)).toNat
theorem sumI_lo (l : Bs) : 0 ≤ sumI l ∧ sumI l < 4294967296 := by
  unfold sumI
  rw [IntKind.wrap_u32]; omega
theorem crc1_walk (x : Int) {K : AV → Prop} (h : K (u32v (crc1 x))) : bQ (abi .shr (u32v x) (.lit (.int .u64 1))) fun t19 => bQ (abi .and (u32v x) (.lit (.int .u32 1))) fun t21 => bQ (aun .neg t21) fun t22 => bQ (abi .and (.lit (.int .u32 3988292384)) t22) fun t23 => bQ (abi .xor t19 t23) K := by
  have e1 : abi .shr (u32v x) (.lit (.int .u64 1)) = some (u32v (x.fdiv 2)) := rfl
  have e2 : abi .and (u32v x) (.lit (.int .u32 1)) = some (u32v (IntKind.u32.wrap (BitVec.ofInt 32 x &&& BitVec.ofInt 32 1).toNat)) := rfl
  have e3 : ∀ y : Int, aun .neg (u32v y) = some (u32v (IntKind.u32.wrap (0 - y))) := fun y => rfl
  have e4 : ∀ y : Int, abi .and (.lit (.int .u32 3988292384)) (u32v y) = some (u32v (IntKind.u32.wrap (BitVec.ofInt 32 3988292384 &&& BitVec.ofInt 32 y).toNat)) := fun y => rfl
  have e5 : ∀ y z : Int, abi .xor (u32v y) (u32v z) = some (u32v (IntKind.u32.wrap (BitVec.ofInt 32 y ^^^ BitVec.ofInt 32 z).toNat)) := fun y z => rfl
  rw [e1, e2, bQ_some, bQ_some, e3, bQ_some, e4, bQ_some, e5, bQ_some]
  exact h
theorem f315_loop2 (t6 t7 t8 : AV) (K : AK) (S : Store) : ∀ (n i : Nat) (x : Int), n + i = 8 → K (.exit 2) (ofL [(3, u32v (crc8 n x)), (6, t6), (7, t7), (8, t8)]) S → f315_L2 K (u32v x) t6 t7 t8 (iv i) S := by
  intro n
  induction n with
  | zero =>
    intro i x hi h
    refine f315_L2_pt ?_
    have : i = 8 := by omega
    subst this
    simp -implicitDefEqProofs [f315_l2]
    exact h
  | succ n ih =>
    intro i x hi h
    refine f315_L2_pt ?_
    have h1 : (i : Int) < 8 := by omega
    have w1 : IntKind.i64.wrap ((i : Int) + 1) = i + 1 := wrap_id (by omega) (by omega)
    simp -implicitDefEqProofs only [f315_l2, abi_lss, bQ_some, condW_bv, h1, decide_true, if_true]
    refine crc1_walk x ?_
    rw [abi_add, bQ_some, w1]
    exact ih (i + 1) _ (by omega) h
theorem f315_loop1 (l : Bs) (hB : l.length ≤ 1099511627776) (K : AK) (S : Store) (h : K (.exit 0) (ofL [(3, u32v (crcL 4294967295 l))]) S) : ∀ (n i : Nat) (x : Int), n + i = l.length → crcL x (l.drop i) = crcL 4294967295 l → f315_L1 K (u32v x) (bytes l) (iv l.length) (iv i) S := by
  intro n
  induction n with
  | zero =>
    intro i x hi hx
    refine f315_L1_pt ?_
    have : ¬ (i : Int) < l.length := by omega
    rw [List.drop_of_length_le (by omega)] at hx
    simp only [crcL] at hx
    simp -implicitDefEqProofs [f315_l1, this]
    rw [hx]; exact h
  | succ n ih =>
    intro i x hi hx
    refine f315_L1_pt ?_
    have h2 : i < l.length := by omega
    have h1 : (i : Int) < l.length := by omega
    have w1 : IntKind.i64.wrap ((i : Int) + 1) = i + 1 := wrap_id (by omega) (by omega)
    have x0 := ixA_bytes l i S h2
    rw [List.drop_eq_getElem_cons h2] at hx
    simp only [crcL] at hx
    have e1 : acv (.int .u32) (uv l[i].toNat) S = some (u32v (IntKind.u32.wrap l[i].toNat)) := rfl
    have e2 : abi .xor (u32v x) (u32v (IntKind.u32.wrap l[i].toNat)) = some (u32v (crcX x l[i])) := rfl
    simp -implicitDefEqProofs only [f315_l1, abi_lss, bQ_some, condW_bv, h1, decide_true, if_true, x0, ldv_fptr, ldc_false, List.getElem?_cons_zero, e1, e2]
    refine f315_loop2 _ _ _ _ S 8 0 _ rfl ?_
    apply f315_K1_e2_pt
    simp -implicitDefEqProofs only [f315_K1_e2, abi_add, bQ_some, w1]
    exact ih (i + 1) _ (by omega) hx
theorem f315_c (l : Bs) (hB : l.length ≤ 1099511627776) (S : Store) {Q : AV → Store → Prop} (h : Q (iv (sumI l)) S) : ATriple PR 315 [bytes l] S Q := by
  refine f315_ok ?_
  simp -implicitDefEqProofs only [f315_s, aln_svals, List.length_map, bQ_some]
  refine f315_loop1 l hB _ S ?_ l.length 0 _ rfl rfl
  apply f315_K2_e0_pt
  have e1 : ∀ x, aun .xor (u32v x) = some (u32v (IntKind.u32.wrap (BitVec.ofInt 32 IntKind.u32.max ^^^ BitVec.ofInt 32 x).toNat)) := fun x => rfl
  have e2 : acv (.int .i64) (u32v (sumI l)) S = some (iv (sumI l)) := by
    have : acv (.int .i64) (u32v (sumI l)) S = some (iv (IntKind.i64.wrap (sumI l))) := rfl
    have hs := sumI_lo l
    rw [this, wrap_id (by omega) (by omega)]
  simp -implicitDefEqProofs only [f315_K2_e0, e1, bQ_some]
  rw [show IntKind.u32.wrap (BitVec.ofInt 32 IntKind.u32.max ^^^ BitVec.ofInt 32 (crcL 4294967295 l)).toNat = sumI l from rfl, e2, bQ_some]
  exact dropQ_self h
def le4 (n : Nat) : Bs := [UInt8.ofNat (n % 256), UInt8.ofNat (n / 256 % 256), UInt8.ofNat (n / 65536 % 256), UInt8.ofNat (n / 16777216 % 256)]
theorem f314_c (b : AV) (bs : Bs) (n : Nat) (S0 S : Store) (hg : Grow 5 1 S0 (byt bs) b S) (hb : bs.length ≤ 109951162777) {Q : AV → Store → Prop} (h : ∀ v S', Grow 5 1 S0 (byt (bs ++ le4 n)) v S' → Q v S') : ATriple PR 314 [b, iv n] S Q := by
  refine f314_ok ?_
  have s1 : abi .shr (iv n) (.lit (.int .u64 8)) = some (iv (n / 256 : Nat)) := shrN n 8 (by omega)
  have s2 : abi .shr (iv n) (.lit (.int .u64 16)) = some (iv (n / 65536 : Nat)) := shrN n 16 (by omega)
  have s3 : abi .shr (iv n) (.lit (.int .u64 24)) = some (iv (n / 16777216 : Nat)) := shrN n 24 (by omega)
  have e : ∀ a b c d : Nat, frzOf (bslR true 1 5 1 4 4 [(0, uv a), (1, uv b), (2, uv c), (3, uv d)]) = some (.svals [[uv a], [uv b], [uv c], [uv d]]) := fun _ _ _ _ => rfl
  simp -implicitDefEqProofs only [f314_s, cv8, bQ_some, s1, s2, s3, e]
  have e2 : AV.svals [[uv (n % 256 : Nat)], [uv (n / 256 % 256 : Nat)], [uv (n / 65536 % 256 : Nat)], [uv (n / 16777216 % 256 : Nat)]] = bytes (le4 n) := by
    simp only [bytes, le4, List.map_cons, List.map_nil]
    rw [ofNat_toNat _ (by omega), ofNat_toNat _ (by omega), ofNat_toNat _ (by omega), ofNat_toNat _ (by omega)]
  rw [e2]
  refine hg.bytes (l := le4 n) rfl (by simp [le4]; omega) fun v S' hg' => ?_
  exact dropQ_self (h v S' hg')
theorem f482_c (n : Nat) (hn : n < 4294967296) (rest l : Bs) (hl : l = le4 n ++ rest) (S : Store) {Q : AV → Store → Prop} (h : Q (iv n) S) : ATriple PR 482 [bytes l] S Q := by
  refine f482_ok ?_
  have x0 := bytes_get l 0 (UInt8.ofNat (n % 256)) (by rw [hl]; rfl) S
  have x1 := bytes_get l 1 (UInt8.ofNat (n / 256 % 256)) (by rw [hl]; rfl) S
  have x2 := bytes_get l 2 (UInt8.ofNat (n / 65536 % 256)) (by rw [hl]; rfl) S
  have x3 := bytes_get l 3 (UInt8.ofNat (n / 16777216 % 256)) (by rw [hl]; rfl) S
  rw [ofNat_toNat _ (by omega)] at x0 x1 x2 x3
  simp only [Int.natCast_zero, Int.cast_ofNat_Int, Int.natCast_one] at x0 x1 x2 x3
  have s1 := shlN (n / 256 % 256) 8 (by omega) (by omega)
  have s2 := shlN (n / 65536 % 256) 16 (by omega) (by omega)
  have s3 := shlN (n / 16777216 % 256) 24 (by omega) (by omega)
  have o1 := orN (n % 256) (n / 256 % 256) 8 (by omega) (by omega)
  have o2 := orN (n / 256 % 256 * 2 ^ 8 + n % 256) (n / 65536 % 256) 16 (by omega) (by omega)
  have o3 := orN (n / 65536 % 256 * 2 ^ 16 + (n / 256 % 256 * 2 ^ 8 + n % 256)) (n / 16777216 % 256) 24 (by omega) (by omega)
  have e : n / 16777216 % 256 * 2 ^ 24 + (n / 65536 % 256 * 2 ^ 16 + (n / 256 % 256 * 2 ^ 8 + n % 256)) = n := by omega
  rw [e] at o3
  simp only [Int.cast_ofNat_Int] at s1 s2 s3
  have c0 := fun S => cv64 (n % 256) (by omega) S
  have c1 := fun S => cv64 (n / 256 % 256) (by omega) S
  have c2 := fun S => cv64 (n / 65536 % 256) (by omega) S
  have c3 := fun S => cv64 (n / 16777216 % 256) (by omega) S
  simp -implicitDefEqProofs only [f482_s, x0, bQ_some, ldv_fptr, ldc_false, List.getElem?_cons_zero, c0, x1, c1, s1, o1, x2, c2, s2, o2, x3, c3, s3, o3]
  exact dropQ_self h
end Go.Du
namespace Go.Du
open Go
attribute [local irreducible] ATriple W evP AI
def frameB (x : Bs) : Bs := le4 x.length ++ le4 (sumI x).toNat ++ x
theorem frameB_len (x : Bs) : (frameB x).length = 8 + x.length := by simp [frameB, le4]; omega
abbrev bss (l : List Bs) : List (List AV) := l.map fun x => [bytes x]
theorem f179_loop (l : List Bs) (hl : l.length ≤ 1000000) (S0 : Store) (K : AK) (r : Bs) (hr : r.length ≤ 1099511627) (h0 : ∀ v S, Grow 5 1 S0 (byt r) v S → K (.exit 0) (ofL [(3, v)]) S) :
    ∀ (n i : Nat) (acc : Bs) (v : AV) (S : Store), n + i = l.length → r = acc ++ (l.drop i).flatMap frameB → Grow 5 1 S0 (byt acc) v S → f179_L1 K v (.svals (bss l)) (iv l.length) (iv i) S := by
  intro n
  induction n with
  | zero =>
    intro i acc v S hi hacc hg
    refine f179_L1_pt ?_
    have : ¬ (i : Int) < l.length := by omega
    rw [List.drop_of_length_le (by omega)] at hacc
    simp at hacc
    subst hacc
    simp -implicitDefEqProofs [f179_l1, this]
    exact h0 _ _ hg
  | succ n ih =>
    intro i acc v S hi hacc hg
    refine f179_L1_pt ?_
    have h2 : i < l.length := by omega
    have h1 : (i : Int) < l.length := by omega
    have w1 : IntKind.i64.wrap ((i : Int) + 1) = i + 1 := wrap_id (by omega) (by omega)
    have x0 : ∀ S, ixA 1 (.svals (bss l)) (iv i) S = some (.fptr [bytes l[i]] 0) := fun S => ixA_map _ l i 1 S h2 fun _ => rfl
    rw [List.drop_eq_getElem_cons h2] at hacc
    simp only [List.flatMap_cons] at hacc
    have hlr := congrArg List.length hacc
    simp only [List.length_append, frameB_len] at hlr
    generalize l[i] = x at *
    have hsum := sumI_lo x
    simp -implicitDefEqProofs only [f179_l1, abi_lss, bQ_some, condW_bv, h1, decide_true, if_true, x0, ldv_fptr, ldc_false, List.getElem?_cons_zero, aln_svals, List.length_map]
    refine f314_c v acc x.length S0 S hg (by omega) fun v1 S1 hg1 => ?_
    refine f315_c x (by omega) S1 ?_
    have hst : iv (sumI x) = iv ((sumI x).toNat : Int) := by rw [Int.toNat_of_nonneg hsum.1]
    rw [hst]
    refine f314_c v1 _ (sumI x).toNat S0 S1 hg1 (by simp [le4]; omega) fun v2 S2 hg2 => ?_
    refine hg2.bytes (l := x) rfl (by simp [le4]; omega) fun v3 S3 hg3 => ?_
    rw [abi_add, bQ_some, w1]
    refine ih (i + 1) _ v3 S3 (by omega) ?_ hg3
    rw [hacc]; simp [frameB]
theorem f179_c (l : List Bs) (hl : l.length ≤ 1000000) (hr : (l.flatMap frameB).length ≤ 1099511627) (S : Store) {Q : AV → Store → Prop} (h : ∀ v S', Grow 5 1 S (byt (l.flatMap frameB)) v S' → Q v S') : ATriple PR 179 [.svals (bss l)] S Q := by
  refine f179_ok ?_
  simp -implicitDefEqProofs only [f179_s, aln_svals, List.length_map, bQ_some]
  refine f179_loop l hl S _ _ hr ?_ l.length 0 [] nilS S rfl rfl .nil
  intro v S' hg
  apply f179_K1_e0_pt
  exact dropQ_self (h v S' hg)
theorem f425_nil (S : Store) {Q : AV → Store → Prop} (h : Q (.tuple [nilS, nilS, iv 3]) S) : ATriple PR 425 [bytes []] S Q := by
  refine f425_ok ?_
  simp -implicitDefEqProofs [f425_s]
  exact dropQ_self h
theorem f425_c (x rest b : Bs) (hx : x ≠ []) (hxl : x.length < 4294967296) (hb : b = frameB x ++ rest) (hB : b.length ≤ 1099511627776) (S : Store) {Q : AV → Store → Prop} (h : Q (.tuple [bytes x, bytes rest, iv 0]) S) : ATriple PR 425 [bytes b] S Q := by
  refine f425_ok ?_
  have hl := congrArg List.length hb
  simp only [List.length_append, frameB_len] at hl
  have hsum := sumI_lo x
  have c1 : ¬ (b.length : Int) < 8 := by omega
  have c1' : ¬ b.length < 8 := by omega
  have w1 : IntKind.i64.wrap ((b.length : Int) - 8) = (b.length : Int) - 8 := wrap_id (by omega) (by omega)
  have c2 : ¬ (b.length : Int) - 8 < x.length := by omega
  have w2 : IntKind.i64.wrap (8 + (x.length : Int)) = ((8 + x.length : Nat) : Int) := by rw [wrap_id (by omega) (by omega)]; omega
  have q1 : b = le4 x.length ++ (le4 (sumI x).toNat ++ x ++ rest) := by rw [hb]; simp [frameB]
  have q2 : b.drop 4 = le4 (sumI x).toNat ++ (x ++ rest) := by rw [hb]; simp [frameB, le4]
  have q3 : (b.drop 8).take (8 + x.length - 8) = x := by rw [hb]; simp [frameB, le4]
  have q4 : b.drop (8 + x.length) = rest := by
    rw [hb, Nat.add_comm];
    have : (frameB x).length = x.length + 8 := by rw [frameB_len]; omega
    rw [← this, List.drop_left]
  have s1 := fun S => bytes_cut b 8 (8 + x.length) (by omega) (by omega) S
  have s2 := fun S => bytes_drop b 4 (by omega) S
  have s3 := fun S => bytes_drop b (8 + x.length) (by omega) S
  simp only [q3] at s1
  simp only [q2] at s2
  simp only [q4] at s3
  simp only [Int.cast_ofNat_Int] at s1 s2
  have hst : iv (sumI x) = iv ((sumI x).toNat : Int) := by rw [Int.toNat_of_nonneg hsum.1]
  simp -implicitDefEqProofs only [f425_s, aln_svals, List.length_map, bQ_some, abi_lss, c1, decide_false, gdQ_bv, if_true, abi_sub, w1, gdE_bv]
  refine f482_c x.length hxl _ b q1 S ?_
  simp -implicitDefEqProofs only [gdQ_bv, bQ_some, abi_lss, c2, decide_false, apick_bv, condW_bv, Bool.false_eq_true, if_false, if_true]
  refine f482_c x.length hxl _ b q1 S ?_
  simp -implicitDefEqProofs only [abi_add, bQ_some, w2, s1, s2]
  refine f315_c x (by omega) S ?_
  refine ⟨⟨trivial, trivial⟩, ?_⟩
  refine f482_c (sumI x).toNat (by omega) (x ++ rest) _ rfl S ?_
  rw [hst]
  simp -implicitDefEqProofs only [abi_neq, bQ_some, bne_self_eq_false, condW_bv, Bool.false_eq_true, if_false, s1, s3]
  have hne : byt x ≠ [] := by simpa [byt] using hx
  refine ATriple.drop (f311_c _ x S false (.vals hne) (by omega) fun v S' hg => ⟨bytes x, S, hg.ent, ?_⟩)
  refine ⟨⟨trivial, trivial⟩, ?_⟩
  exact dropQ_self h
end Go.Du
namespace Go.Du
open Go
attribute [local irreducible] ATriple W evP AI
section
variable {e sz : Nat} {S0 S : Store} {es : List (List AV)} {v : AV} {b : Nat} {o : AObj}
theorem Grow.get (h : Grow e sz S0 es v S) (hb : S0 b = some o) : S b = some o := h.sub b o hb
theorem Grow.upd (h : Grow e sz S0 es v S) (hb : S0 b = some o) (o' : AObj) : Grow e sz (S0.set b o') es v (S.set b o') := by
  have e : S0.set b o = S0 := by
    funext x; by_cases hx : x = b
    · subst hx; simp [hb]
    · rw [Store.set_ne _ _ _ hx]
  rw [← e] at h
  exact h.box.2 o'
theorem Grow.erase (h : Grow e sz S0 es v S) (hb : S0 b = some o) : Grow e sz (S0.erase b) es v (S.erase b) := by
  cases h with
  | nil => exact .nil
  | own ht =>
    rename_i t
    have hne : b ≠ t := fun e => by subst e; rw [hb] at ht; cases ht
    have : (S0.set t (.row e sz es)).erase b = (S0.erase b).set t (.row e sz es) := by
      funext x
      by_cases h1 : x = b
      · subst h1; rw [Store.erase_same, Store.set_ne _ _ _ hne, Store.erase_same]
      · rw [Store.erase_ne _ _ h1]
        by_cases h2 : x = t
        · subst h2; simp
        · rw [Store.set_ne _ _ _ h2, Store.set_ne _ _ _ h2, Store.erase_ne _ _ h1]
    rw [this]
    exact .own (by rw [Store.erase_ne _ _ hne.symm]; exact ht)
end
theorem Sub.erase {A B : Store} (h : Sub A B) {t : Nat} (ht : A t = Option.none) : Sub A (B.erase t) := by
  intro u o hu
  have hne : u ≠ t := fun e => by subst e; rw [ht] at hu; cases hu
  rw [Store.erase_ne _ _ hne]; exact h u o hu
theorem f317_c (b : Bs) (S : Store) {Q : AV → Store → Prop} (h : ∀ u, S u = none → Q (.func (.func 424) [] [.ptr u 0 0]) (S.set u (.row 129 1 [[bytes b]]))) : ATriple PR 317 [bytes b] S Q := by
  refine f317_ok ?_
  simp -implicitDefEqProofs only [f317_s, boxR_svals, mkNew_false, newW_own]
  intro u hu
  exact dropQ_self (h u hu)
theorem f424_c (t u : Nat) (fs : List Bs) (hfs : ∀ x ∈ fs, x ≠ [] ∧ x.length < 4294967296) (hB : (fs.flatMap frameB).length ≤ 1099511627776) (I : Nat → Store → Prop)
    (hy : ∀ i (hi : i < fs.length) S (K : AV → Store → Prop), I i S → S u = some (.row 129 1 [[bytes ((fs.drop i).flatMap frameB)]]) → (∀ S', I (i + 1) S' → S' u = some (.row 129 1 [[bytes ((fs.drop i).flatMap frameB)]]) → K (bv true) S') → callW PR (.yield t) [bytes fs[i]] S K)
    (hset : ∀ i S o, I i S → I i (S.set u o)) (S : Store) (h0 : I 0 S) (hu : S u = some (.row 129 1 [[bytes (fs.flatMap frameB)]])) {Q : AV → Store → Prop} (h : ∀ S', I fs.length S' → Q (.tuple []) S') :
    ATriple PR 424 [.yield t, .ptr u 0 0] S Q := by
  refine f424_ok ?_
  simp -implicitDefEqProofs only [f424_s]
  have loop : ∀ (n i : Nat) (S : Store), n + i = fs.length → I i S → S u = some (.row 129 1 [[bytes ((fs.drop i).flatMap frameB)]]) → f424_L1 (f424_K1 Q) (.yield t) (.ptr u 0 0) S := by
    intro n
    induction n with
    | zero =>
      intro i S hi hI hS
      refine f424_L1_pt ?_
      rw [List.drop_of_length_le (by omega)] at hS
      simp only [List.flatMap_nil] at hS
      have e1 := ldv_at (o := 0) hS
      simp only [List.getElem?_cons_zero] at e1
      simp -implicitDefEqProofs only [f424_l1, e1, bQ_some]
      refine f425_nil S ?_
      simp -implicitDefEqProofs
      apply f424_K1_ret_pt
      have : i = fs.length := by omega
      subst this
      exact dropQ_self (h S hI)
    | succ n ih =>
      intro i S hi hI hS
      refine f424_L1_pt ?_
      have h2 : i < fs.length := by omega
      have e1 := ldv_at (o := 0) hS
      simp only [List.getElem?_cons_zero] at e1
      have hd : (fs.drop i).flatMap frameB = frameB fs[i] ++ (fs.drop (i + 1)).flatMap frameB := by
        rw [List.drop_eq_getElem_cons h2, List.flatMap_cons]
      have hlen : ((fs.drop i).flatMap frameB).length ≤ 1099511627776 := by
        have : fs.flatMap frameB = (fs.take i).flatMap frameB ++ (fs.drop i).flatMap frameB := by rw [← List.flatMap_append, List.take_append_drop]
        rw [this] at hB; simp only [List.length_append] at hB; omega
      have hf := hfs _ (List.getElem_mem h2)
      simp -implicitDefEqProofs only [f424_l1, e1, bQ_some]
      refine f425_c fs[i] _ _ hf.1 hf.2 hd hlen S ?_
      simp -implicitDefEqProofs
      refine hy i h2 S _ hI hS fun S' hI' hS' => ?_
      simp -implicitDefEqProofs
      rw [stv_at hS' rfl rfl (by simp), thenS_some]
      simp only [List.set_cons_zero]
      exact ih (i + 1) _ (by omega) (hset _ _ _ hI') (Store.set_same _ _ _)
  exact loop fs.length 0 S rfl h0 hu
theorem hasBody424 : hasBody PR 424 = true := by kernel_rfl
theorem bsl_bytes (x : Bs) : frzOf (bslR true 1 129 1 1 1 [(0, bytes x)]) = some (.svals [[bytes x]]) := bsl_one 129 1 _ 1 ⟨rfl, by decide, by decide, rfl, rfl⟩
def frLen (l : List Bs) : Nat := (l.map fun x => 8 + x.length).sum
theorem frLen_eq (l : List Bs) : (l.flatMap frameB).length = frLen l := by
  induction l with
  | nil => rfl
  | cons x l ih => rw [List.flatMap_cons, List.length_append, ih, frameB_len]; simp [frLen]
theorem frLen_app (a b : List Bs) : frLen (a ++ b) = frLen a + frLen b := by simp [frLen]
set_option maxRecDepth 100000 in
theorem f184_c (fs : List Bs) (hfs : ∀ x ∈ fs, x ≠ [] ∧ x.length < 4294967296) (hB : (fs.flatMap frameB).length ≤ 1099511627) (S : Store) {Q : AV → Store → Prop} (h : Q (.tuple [.svals (bss fs), iv (fs.flatMap frameB).length]) S) : ATriple PR 184 [bytes (fs.flatMap frameB)] S Q := by
  refine f184_ok ?_
  have hlenfs : fs.length ≤ 1099511627 := by
    have : fs.length ≤ frLen fs := by
      clear hfs hB h
      induction fs with
      | nil => simp
      | cons x l ih => simp only [frLen, List.map_cons, List.sum_cons, List.length_cons] at ih ⊢; omega
    rw [frLen_eq] at hB; omega
  simp -implicitDefEqProofs only [f184_s, newW_own]
  intro a ha b hb
  have hab : b ≠ a := fun e => by subst e; simp at hb
  rw [stv_at (Store.set_same _ _ _) rfl rfl (by simp), thenS_some, Store.set_set]
  simp only [List.set_cons_zero]
  refine f317_c _ _ fun u hu => ?_
  have hub : u ≠ b := fun e => by subst e; simp at hu
  have hua : u ≠ a := fun e => by subst e; rw [Store.set_ne _ _ _ hub] at hu; simp at hu
  have hb0 : S b = none := by rwa [Store.set_ne _ _ _ hab] at hb
  have hu0 : S u = none := by rwa [Store.set_ne _ _ _ hub, Store.set_ne _ _ _ hua] at hu
  refine f184_R1_pt rfl hasBody424 fun t fn D ht => ?_
  have htu : t ≠ u := fun e => by subst e; simp at ht
  have htb : t ≠ b := fun e => by subst e; rw [Store.set_ne _ _ _ htu] at ht; simp at ht
  have hta : t ≠ a := fun e => by subst e; rw [Store.set_ne _ _ _ htu, Store.set_ne _ _ _ htb] at ht; simp at ht
  have ht0 : S t = none := by rwa [Store.set_ne _ _ _ htu, Store.set_ne _ _ _ htb, Store.set_ne _ _ _ hta] at ht
  have hrec : ∃ R : LoopState → Option Code → AObj, R = fun s q => f184_rec1 (.ptr a 0 0) (.ptr b 0 0) (.func (.func 424) [] [.ptr u 0 0]) fn D s q := ⟨_, rfl⟩
  obtain ⟨R, hR⟩ := hrec
  let I : Nat → Store → Prop := fun i S' => ∃ v S0 r, Grow 129 1 S0 (bss (fs.take i)) v S' ∧ S0 a = some (.row 265 1 [[v]]) ∧ S0 b = some (.row 3 1 [[iv (frLen (fs.take i))]]) ∧ S0 u = some r ∧ S0 t = some (R .ready none) ∧ Sub S S0
  refine f424_c t u fs hfs (by omega) I ?_ ?_ _ ?_ ?_ ?_
  ·
    rintro i hi S' K ⟨v, S0, r, hg, ga, gb, gu, gt, gs⟩ hSu hK
    have hSt := hg.get gt
    rw [hR] at hSt
    refine f184_Y1_pt hSt fun l => ?_
    apply f184_as1_pt
    refine ⟨rfl, hSt, ?_⟩
    apply f184_bo1_pt
    have hgb := hg.upd gt (R .busy none)
    have hga := hgb.get (show (S0.set t (R .busy none)) a = _ by rw [Store.set_ne _ _ _ hta.symm]; exact ga)
    have e1 := ldv_at (o := 0) hga
    simp only [List.getElem?_cons_zero] at e1
    simp only [hR] at e1 hgb
    simp -implicitDefEqProofs only [f184_bo1, e1, bQ_some, bsl_bytes]
    refine hgb.app (k := .slice) (bytes := 24) (x := .svals [[bytes fs[i]]]) (l := [[bytes fs[i]]]) rfl (by simp) (by simp; omega) (by simp; omega) fun v2 S2 hg2 => ?_
    have ga2 : (S0.set t (f184_rec1 (.ptr a 0 0) (.ptr b 0 0) (.func (.func 424) [] [.ptr u 0 0]) fn D .busy none)) a = some (.row 265 1 [[v]]) := by rw [Store.set_ne _ _ _ hta.symm]; exact ga
    have gb2 : (S0.set t (f184_rec1 (.ptr a 0 0) (.ptr b 0 0) (.func (.func 424) [] [.ptr u 0 0]) fn D .busy none)) b = some (.row 3 1 [[iv (frLen (fs.take i))]]) := by rw [Store.set_ne _ _ _ htb.symm]; exact gb
    rw [stv_at (hg2.get ga2) hg2.ok.1 hg2.ok.2 (by simp), thenS_some]
    simp only [List.set_cons_zero]
    have hg3 := hg2.upd ga2 (.row 265 1 [[v2]])
    have gb3 := (Store.set_ne (S0.set t (f184_rec1 (.ptr a 0 0) (.ptr b 0 0) (.func (.func 424) [] [.ptr u 0 0]) fn D .busy none)) a (.row 265 1 [[v2]]) hab).trans gb2
    have e2 := ldv_at (o := 0) (hg3.get gb3)
    simp only [List.getElem?_cons_zero] at e2
    have hfl : frLen (fs.take i) + (8 + fs[i].length) = frLen (fs.take (i + 1)) := by
      rw [List.take_succ_eq_append_getElem hi, frLen_app]; simp [frLen]
    have hle : frLen (fs.take (i + 1)) ≤ frLen fs := by
      have := frLen_app (fs.take (i + 1)) (fs.drop (i + 1))
      rw [List.take_append_drop] at this; omega
    rw [frLen_eq] at hB
    have w1 : IntKind.i64.wrap (8 + (fs[i].length : Int)) = ((8 + fs[i].length : Nat) : Int) := by rw [wrap_id (by omega) (by omega)]; omega
    have w2 : IntKind.i64.wrap ((frLen (fs.take i) : Int) + ((8 + fs[i].length : Nat) : Int)) = (frLen (fs.take (i + 1)) : Int) := by rw [wrap_id (by omega) (by omega)]; omega
    simp -implicitDefEqProofs only [e2, bQ_some, aln_svals, List.length_map, abi_add, w1, w2]
    rw [stv_at (hg3.get gb3) rfl rfl (by simp), thenS_some]
    simp only [List.set_cons_zero]
    have hg4 := hg3.upd gb3 (.row 3 1 [[iv (frLen (fs.take (i + 1)))]])
    have gt4 : (((S0.set t (f184_rec1 (.ptr a 0 0) (.ptr b 0 0) (.func (.func 424) [] [.ptr u 0 0]) fn D .busy none)).set a (.row 265 1 [[v2]])).set b (.row 3 1 [[iv (frLen (fs.take (i + 1)))]])) t = some (f184_rec1 (.ptr a 0 0) (.ptr b 0 0) (.func (.func 424) [] [.ptr u 0 0]) fn D .busy none) := by
      rw [Store.set_ne _ _ _ htb, Store.set_ne _ _ _ hta]; simp
    refine ⟨hg4.get gt4, ?_⟩
    have hg5 := hg4.upd gt4 (R .ready none)
    have huS : ((((S0.set t (f184_rec1 (.ptr a 0 0) (.ptr b 0 0) (.func (.func 424) [] [.ptr u 0 0]) fn D .busy none)).set a (.row 265 1 [[v2]])).set b (.row 3 1 [[iv (frLen (fs.take (i + 1)))]])).set t (R .ready none)) u = some r := by
      rw [Store.set_ne _ _ _ htu.symm, Store.set_ne _ _ _ hub, Store.set_ne _ _ _ hua, Store.set_ne _ _ _ htu.symm]; exact gu
    have hru : r = .row 129 1 [[bytes ((fs.drop i).flatMap frameB)]] := by
      have := hg.get gu; rw [hSu] at this; simpa using this.symm
    rw [hR] at hg5 huS
    refine hK _ ⟨v2, _, r, ?_, ?_, ?_, huS, ?_, ?_⟩ ?_
    · have e : bss (fs.take (i + 1)) = bss (fs.take i) ++ [[bytes fs[i]]] := by rw [List.take_succ_eq_append_getElem hi]; simp only [bss, List.map_append, List.map_cons, List.map_nil]
      rw [e]; exact hg5
    · rw [Store.set_ne _ _ _ hta.symm, Store.set_ne _ _ _ hab.symm]; simp
    · rw [Store.set_ne _ _ _ htb.symm]; simp
    · rw [hR]; simp
    · exact (((gs.set ht0).set ha).set hb0).set ht0
    · rw [← hru]; exact hg5.get huS
  · rintro i S' o ⟨v, S0, r, hg, ga, gb, gu, gt, gs⟩
    refine ⟨v, _, o, hg.upd gu o, ?_, ?_, by simp, ?_, gs.set hu0⟩
    · rw [Store.set_ne _ _ _ hua.symm]; exact ga
    · rw [Store.set_ne _ _ _ hub.symm]; exact gb
    · rw [Store.set_ne _ _ _ htu]; exact gt
  · refine ⟨nilS, _, .row 129 1 [[bytes (fs.flatMap frameB)]], .nil, ?_, ?_, ?_, ?_, ?_⟩
    rotate_right
    · exact (((((Sub.refl S).set ha).set hb0).set hu0).set ht0)
    · rw [Store.set_ne _ _ _ hta.symm, Store.set_ne _ _ _ hua.symm, Store.set_ne _ _ _ hab.symm]; simp
    · rw [Store.set_ne _ _ _ htb.symm, Store.set_ne _ _ _ hub.symm]; simp [frLen]
    · rw [Store.set_ne _ _ _ htu.symm, Store.set_same]
    · rw [hR]; simp
  · rw [Store.set_ne _ _ _ htu.symm, Store.set_same]
  · rintro S' ⟨v, S0, r, hg, ga, gb, gu, gt, gs⟩
    refine ⟨.ready, none, by rw [hg.get gt, hR], by simp, ?_⟩
    show f184_K1 Q .normal (ofL [(4, .ptr a 0 0), (5, .ptr b 0 0)]) _
    apply f184_K1_normal_pt
    have hg2 := hg.erase gt
    have ga2 : (S0.erase t) a = some (.row 265 1 [[v]]) := by rw [Store.erase_ne _ _ hta.symm]; exact ga
    have gb2 : (S0.erase t) b = some (.row 3 1 [[iv (frLen (fs.take fs.length))]]) := by rw [Store.erase_ne _ _ htb.symm]; exact gb
    have e1 := ldv_at (o := 0) (hg2.get ga2)
    have e2 := ldv_at (o := 0) (hg2.get gb2)
    simp only [List.getElem?_cons_zero] at e1 e2
    simp -implicitDefEqProofs only [f184_K1_normal, e1, e2, bQ_some]
    rw [List.take_length] at hg2
    rw [List.take_length, ← frLen_eq]
    exact ⟨_, S, (hg2.entC (fun x => .tuple [x, iv (fs.flatMap frameB).length]) fun tt el p q hpq => (FrzL.cons hpq (.cons (.refl _) .nil)).tuple).trans (.drop (gs.erase ht0)), h⟩
end Go.Du
namespace Go.Du
open Go
attribute [local irreducible] ATriple W evP AI
def chunkF : Nat → List Ver → List (List Ver)
  | 0, _ => []
  | n + 1, l => if l = [] then [] else l.take 8 :: chunkF n (l.drop 8)
def chunk8 (l : List Ver) : List (List Ver) := chunkF l.length l
theorem chunkF_fuel : ∀ (n : Nat) (l : List Ver), l.length ≤ n → chunkF n l = chunkF l.length l := by
  intro n
  induction n using Nat.strongRecOn with
  | ind n ih =>
    intro l hl
    cases n with
    | zero => have : l = [] := List.length_eq_zero_iff.1 (by omega); subst this; rfl
    | succ n =>
      cases l with
      | nil => simp [chunkF]
      | cons x r =>
        have hne : (x :: r) ≠ [] := by simp
        simp only [List.length_cons, chunkF, if_neg hne]
        congr 1
        have hd : ((x :: r).drop 8).length ≤ r.length := by simp
        simp only [List.length_cons] at hl
        rw [ih n (by omega) _ (by omega)]
        exact (ih r.length (by omega) _ hd).symm
theorem chunk8_nil : chunk8 [] = [] := rfl
theorem chunk8_cons (l : List Ver) (h : l ≠ []) : chunk8 l = l.take 8 :: chunk8 (l.drop 8) := by
  cases l with
  | nil => exact absurd rfl h
  | cons x r =>
    unfold chunk8
    simp only [List.length_cons, chunkF, if_neg h]
    congr 1
    exact chunkF_fuel _ _ (by simp)
abbrev cks (c : List (List Ver)) : List (List AV) := c.map fun l => [vers l]
theorem f418_c (l : List Ver) (hB : l.length ≤ 1048576) (t : Nat) (I : List (List Ver) → Store → Prop)
    (hy : ∀ pre c S (K : AV → Store → Prop), c ≠ [] → (∃ r, pre ++ c :: r = chunk8 l) → I pre S → (∀ S', I (pre ++ [c]) S' → K (bv true) S') → callW PR (.yield t) [vers c] S K)
    (S : Store) (h0 : I [] S) {Q : AV → Store → Prop} (h : ∀ S', I (chunk8 l) S' → Q (.tuple []) S') :
    ATriple PR 418 [.yield t, .fptr [vers l] 0, .fptr [iv 8] 0] S Q := by
  refine f418_ok ?_
  simp -implicitDefEqProofs only [f418_s]
  have loop : ∀ (n i : Nat) (pre : List (List Ver)) (S : Store), l.length - i ≤ n → i ≤ l.length + 8 → I pre S → pre ++ chunk8 (l.drop i) = chunk8 l → f418_L1 (f418_K1 Q) (.yield t) (.fptr [vers l] 0) (.fptr [iv 8] 0) (iv i) S := by
    intro n
    induction n using Nat.strongRecOn with
    | ind n ih =>
      intro i pre S hn hi hI hp
      refine f418_L1_pt ?_
      by_cases hlt : i < l.length
      · have h1 : (i : Int) < l.length := by omega
        have hne : l.drop i ≠ [] := by
          intro e
          have := congrArg List.length e
          simp at this; omega
        rw [chunk8_cons _ hne, List.drop_drop] at hp
        have s1 : sliceV 8 (vers l) (some (iv i)) none none S = some (vers (l.drop i)) := sliceV_lo Ver.cs l i 8 S (by omega) Ver.cs_length
        obtain ⟨k, hk⟩ : ∃ k, k = min 8 (l.length - i) := ⟨_, rfl⟩
        have mn : amin (iv 8) (iv (l.drop i).length) = some (iv k) := by
          simp only [amin, List.length_drop]
          split
          · have : k = l.length - i := by omega
            rw [this]
          · have : k = 8 := by omega
            rw [this]; rfl
        have w1 : IntKind.i64.wrap ((i : Int) + k) = ((i + k : Nat) : Int) := by rw [wrap_id (by omega) (by omega)]; omega
        have w2 : IntKind.i64.wrap ((i : Int) + 8) = ((i + 8 : Nat) : Int) := by rw [wrap_id (by omega) (by omega)]; omega
        have s2 : sliceV 8 (vers l) (some (iv i)) (some (iv (i + k : Nat))) (some (iv (i + k : Nat))) S = some (vers ((l.drop i).take k)) := by
          have hb : bnds (l.map Ver.cs).length (some (iv i)) (some (iv (i + k : Nat))) (some (iv (i + k : Nat))) = some (i, i + k) := by
            simp only [bnds, bnd, List.length_map]
            rw [if_pos ⟨by omega, by omega, by omega, .inr ⟨by simp, trivial⟩⟩]
            simp only [Int.toNat_natCast]
          have hall : ((l.map Ver.cs).all fun c => c.length == 8) = true := by simp
          simp only [sliceV, hall, if_true, asl, hb, Option.map_some]
          rw [if_neg (by omega), show i + k - i = k by omega, ← List.map_drop, ← List.map_take]
        have hc : (l.drop i).take k = (l.drop i).take 8 := by
          by_cases h8 : 8 ≤ l.length - i
          · rw [show k = 8 by omega]
          · rw [List.take_of_length_le (by simp; omega), List.take_of_length_le (by simp; omega)]
        rw [hc] at s2
        have hcne : (l.drop i).take 8 ≠ [] := by
          intro e
          have := congrArg List.length e
          simp at this; omega
        simp -implicitDefEqProofs only [f418_l1, ldv_fptr, ldc_false, List.getElem?_cons_zero, bQ_some, aln_svals, List.length_map, abi_lss, h1, decide_true, condW_bv, if_true, s1, mn, abi_add, w1, s2]
        refine hy pre _ S _ hcne ⟨_, hp⟩ hI fun S' hI' => ?_
        simp -implicitDefEqProofs only [aun_not, bQ_some, condW_bv, Bool.not_true, Bool.false_eq_true, if_false, w2]
        exact ih (l.length - (i + 8)) (by omega) (i + 8) _ S' (Nat.le_refl _) (by omega) hI' (by rw [← hp]; simp)
      · have h1 : ¬ (i : Int) < l.length := by omega
        rw [List.drop_of_length_le (by omega), chunk8_nil, List.append_nil] at hp
        subst hp
        simp -implicitDefEqProofs only [f418_l1, ldv_fptr, ldc_false, List.getElem?_cons_zero, bQ_some, aln_svals, List.length_map, abi_lss, h1, decide_false, condW_bv, Bool.false_eq_true, if_false]
        apply f418_K1_e0_pt
        exact dropQ_self (h S hI)
  exact loop l.length 0 [] S (by omega) (by omega) h0 (by simp)
theorem f310_c (l : List Ver) (S : Store) {Q : AV → Store → Prop} (h : Q (.func (.func 418) [] [.fptr [vers l] 0, .fptr [iv 8] 0]) S) : ATriple PR 310 [vers l, iv 8] S Q := by
  refine f310_ok ?_
  simp -implicitDefEqProofs [f310_s]
  exact dropQ_self h
theorem hasBody418 : hasBody PR 418 = true := by kernel_rfl
theorem chunkF_len (n : Nat) : ∀ l : List Ver, (chunkF n l).length ≤ l.length := by
  induction n with
  | zero => intro l; simp [chunkF]
  | succ n ih =>
    intro l
    simp only [chunkF]
    split
    · simp
    · rename_i hne
      have := ih (l.drop 8)
      have hp : 0 < l.length := List.length_pos_iff.2 hne
      simp only [List.length_cons, List.length_drop] at this ⊢; omega
theorem chunkF_mem (n : Nat) : ∀ (l c : List Ver), c ∈ chunkF n l → 1 ≤ c.length ∧ c.length ≤ 8 := by
  induction n with
  | zero => intro l c hc; simp [chunkF] at hc
  | succ n ih =>
    intro l c hc
    simp only [chunkF] at hc
    split at hc
    · simp at hc
    · rename_i hne
      simp only [List.mem_cons] at hc
      rcases hc with rfl | hc
      · have hp : 0 < l.length := List.length_pos_iff.2 hne
        simp; omega
      · exact ih _ _ hc
set_option maxRecDepth 100000 in
theorem f176_c (l : List Ver) (hB : l.length ≤ 1048576) (S : Store) {Q : AV → Store → Prop} (h : Q (.svals (cks (chunk8 l))) S) : ATriple PR 176 [vers l] S Q := by
  refine f176_ok ?_
  simp -implicitDefEqProofs only [f176_s, newW_own]
  intro a ha
  refine f310_c l _ ?_
  refine f176_R1_pt rfl hasBody418 fun t fn D ht => ?_
  have hta : t ≠ a := fun e => by subst e; simp at ht
  have ht0 : S t = none := by rwa [Store.set_ne _ _ _ hta] at ht
  obtain ⟨R, hR⟩ : ∃ R, R = f176_rec1 (.ptr a 0 0) (.func (.func 418) [] [.fptr [vers l] 0, .fptr [iv 8] 0]) fn D := ⟨_, rfl⟩
  rw [← hR]
  let I : List (List Ver) → Store → Prop := fun pre S' => ∃ v S0, Grow 22 1 S0 (cks pre) v S' ∧ S0 a = some (.row 258 1 [[v]]) ∧ S0 t = some (R .ready none) ∧ Sub S S0
  have hfin : ∀ S', I (chunk8 l) S' → ∃ state pend, S' t = some (R state pend) ∧ state ≠ .busy ∧ endK (mskK [3] (f176_K1 Q)) pend (ofL [(3, .ptr a 0 0), (6, .func (.func 418) [] [.fptr [vers l] 0, .fptr [iv 8] 0])]) (S'.erase t) := by
    rintro S' ⟨v, S0, hg, ga, gt, gs⟩
    refine ⟨.ready, none, hg.get gt, by simp, ?_⟩
    show f176_K1 Q .normal (ofL [(3, .ptr a 0 0)]) _
    apply f176_K1_normal_pt
    have hg2 := hg.erase gt
    have ga2 : (S0.erase t) a = some (.row 258 1 [[v]]) := by rw [Store.erase_ne _ _ hta.symm]; exact ga
    have e1 := ldv_at (o := 0) (hg2.get ga2)
    simp only [List.getElem?_cons_zero] at e1
    simp -implicitDefEqProofs only [f176_K1_normal, e1, bQ_some]
    exact ⟨_, S, hg2.ent.trans (.drop (gs.erase ht0)), h⟩
  refine f418_c l hB t I ?_ _ ?_ hfin
  · rintro pre c S' K hc ⟨r, hr⟩ ⟨v, S0, hg, ga, gt, gs⟩ hK
    have hpl : pre.length + 1 ≤ 1048576 := by
      have h1 := congrArg List.length hr
      have h2 := chunkF_len l.length l
      simp only [List.length_append, List.length_cons] at h1
      unfold chunk8 at h1; omega
    have hSt := hg.get gt
    have hSt' := hSt
    rw [hR] at hSt'
    refine f176_Y1_pt hSt' fun l' => ?_
    rw [← hR]
    apply f176_as1_pt
    refine ⟨rfl, hSt, ?_⟩
    apply f176_bo1_pt
    have hgb := hg.upd gt (R .busy none)
    have ga2 : (S0.set t (R .busy none)) a = some (.row 258 1 [[v]]) := by rw [Store.set_ne _ _ _ hta.symm]; exact ga
    have e1 := ldv_at (o := 0) (hgb.get ga2)
    simp only [List.getElem?_cons_zero] at e1
    simp -implicitDefEqProofs only [f176_bo1, e1, bQ_some]
    have hcl : c.length ≤ 1048576 := by
      have := chunkF_mem l.length l c (by rw [show chunkF l.length l = chunk8 l from rfl, ← hr]; simp)
      omega
    refine ATriple.drop (f230_c _ c _ false (.vals (by simpa using hc)) (by omega) fun v1 S1 hg1 => ⟨vers c, _, hg1.ent, ?_⟩)
    refine ⟨⟨e1, trivial⟩, ?_⟩
    have e2 : frzOf (bslR true 1 22 1 1 1 [(0, vers c)]) = some (.svals [[vers c]]) := bsl_one 22 1 _ 1 ⟨rfl, by decide, by decide, rfl, rfl⟩
    rw [e2, bQ_some]
    refine hgb.app (k := .slice) (bytes := 24) (x := .svals [[vers c]]) (l := [[vers c]]) rfl (by simp) (by simp; omega) (by simp; omega) fun v2 S2 hg2 => ?_
    rw [stv_at (hg2.get ga2) hg2.ok.1 hg2.ok.2 (by simp), thenS_some]
    simp only [List.set_cons_zero]
    have hg3 := hg2.upd ga2 (.row 258 1 [[v2]])
    have gt3 := (Store.set_ne (S0.set t (R .busy none)) a (.row 258 1 [[v2]]) hta).trans (Store.set_same S0 t (R .busy none))
    refine ⟨hg3.get gt3, ?_⟩
    have hg4 := hg3.upd gt3 (R .ready none)
    refine hK _ ⟨v2, _, by simpa using hg4, ?_, by simp, ((gs.set ht0).set ha).set ht0⟩
    rw [Store.set_ne _ _ _ hta.symm]; simp
  · refine ⟨nilS, _, .nil, ?_, by simp, ((Sub.refl S).set ha).set ht0⟩
    rw [Store.set_ne _ _ _ hta.symm]; simp
end Go.Du
namespace Go.Du
open Go
attribute [local irreducible] ATriple W evP AI
theorem Grow.swap2 {e sz e' sz' : Nat} {S0 Sa S : Store} {es es' : List (List AV)} {v v' : AV} (h : Grow e sz S0 es v Sa) (k : Grow e' sz' Sa es' v' S) : ∃ Sb, Grow e' sz' S0 es' v' Sb ∧ Grow e sz Sb es v S := by
  cases k with
  | nil => exact ⟨S0, .nil, h⟩
  | own ht =>
    rename_i t
    cases h with
    | nil => exact ⟨_, .own ht, .nil⟩
    | own hu =>
      rename_i u
      have hne : t ≠ u := fun e => by subst e; simp at ht
      have ht' : S0 t = none := by rwa [Store.set_ne _ _ _ hne] at ht
      refine ⟨_, .own ht', ?_⟩
      rw [Store.set_comm _ hne.symm]
      exact .own (by rw [Store.set_ne _ _ _ hne.symm]; exact hu)
theorem chainOk.drop {l : List Ver} (h : chainOk l) (n : Nat) : chainOk (l.drop n) := by
  intro i hi
  simp only [List.length_drop] at hi
  obtain ⟨a, b, c⟩ := h (n + i) (by omega)
  simp only [List.getElem_drop]
  refine ⟨a, b, fun h0 => ?_⟩
  have := c (by omega)
  simpa [show n + i - 1 = n + (i - 1) by omega] using this
theorem chainOk.take {l : List Ver} (h : chainOk l) (n : Nat) : chainOk (l.take n) := by
  intro i hi
  simp only [List.length_take] at hi
  obtain ⟨a, b, c⟩ := h i (by omega)
  simp only [List.getElem_take]
  exact ⟨a, b, c⟩
theorem chunkF_chain (n : Nat) : ∀ (l : List Ver), chainOk l → ∀ c ∈ chunkF n l, chainOk c := by
  induction n with
  | zero => intro l _ c hc; simp [chunkF] at hc
  | succ n ih =>
    intro l hl c hc
    simp only [chunkF] at hc
    split at hc
    · simp at hc
    · simp only [List.mem_cons] at hc
      rcases hc with rfl | hc
      · exact hl.take 8
      · exact ih _ (hl.drop 8) _ hc
def headKey (c : List Ver) : Bs :=
  match c with
  | [] => []
  | v :: _ => v.key
theorem headKey_get (c : List Ver) (h : 0 < c.length) : (c[0]).key = headKey c := by
  cases c with
  | nil => simp at h
  | cons a b => rfl
def blocksB (cs : List (List Ver)) : Bs := cs.flatMap fun c => frameB (blockB c)
def fencesB (cs : List (List Ver)) : Bs := putN cs.length ++ cs.flatMap fun c => textS (headKey c)
def footB (l : List Ver) : Bs := putN l.length ++ putN (chunk8 l).length ++ putN (blocksB (chunk8 l)).length
def runB (l : List Ver) : Bs := blocksB (chunk8 l) ++ (frameB (fencesB (chunk8 l)) ++ frameB (footB l))
theorem blocksB_mem {cs : List (List Ver)} {c : List Ver} (h : c ∈ cs) : (blockB c).length + 8 ≤ (blocksB cs).length := by
  induction cs with
  | nil => simp at h
  | cons x cs ih =>
    simp only [blocksB, List.flatMap_cons, List.length_append, frameB_len] at ih ⊢
    simp only [List.mem_cons] at h
    rcases h with rfl | h
    · omega
    · have := ih h; omega
theorem f64_L1_clo {K : AK} {t0 t4 t5 t6 t26 t27 t28 : AV} {S : Store} (h : f64_L1 (clo 64 K) t0 t4 t5 t6 t26 t27 t28 S) : f64_L1 K t0 t4 t5 t6 t26 t27 t28 S := by
  delta f64_L1 at h ⊢
  exact AI_clo h
theorem f64_loop (cs : List (List Ver)) (hcs : ∀ c ∈ cs, chainOk c ∧ 1 ≤ c.length ∧ c.length ≤ 8) (hcl : cs.length ≤ 1048576) (h1 : (blocksB cs).length ≤ 1099511627) (h2 : (fencesB cs).length ≤ 1099511627) (t0 : AV) (S0 : Store) (K : AK)
    (h0 : ∀ v1 v2 Sa S, Grow 5 1 S0 (byt (blocksB cs)) v1 Sa → Grow 5 1 Sa (byt (fencesB cs)) v2 S → K (.exit 1) (ofL [(0, t0), (4, v1), (5, v2), (6, .svals (cks cs))]) S) :
    ∀ (n i : Nat) (v1 v2 : AV) (Sa S : Store), n + i = cs.length → Grow 5 1 S0 (byt (blocksB (cs.take i))) v1 Sa → Grow 5 1 Sa (byt (putN cs.length ++ (cs.take i).flatMap fun c => textS (headKey c))) v2 S →
      f64_L1 K t0 v1 v2 (.svals (cks cs)) (.svals (cks cs)) (iv cs.length) (iv i) S := by
  intro n
  induction n with
  | zero =>
    intro i v1 v2 Sa S hi hg1 hg2
    refine f64_L1_pt ?_
    have : ¬ (i : Int) < cs.length := by omega
    rw [List.take_of_length_le (by omega)] at hg1 hg2
    simp -implicitDefEqProofs [f64_l1, this]
    exact h0 _ _ _ _ hg1 hg2
  | succ n ih =>
    intro i v1 v2 Sa S hi hg1 hg2
    refine f64_L1_pt ?_
    have hlt : i < cs.length := by omega
    have hlt' : (i : Int) < cs.length := by omega
    have w1 : IntKind.i64.wrap ((i : Int) + 1) = ((i + 1 : Nat) : Int) := by rw [wrap_id (by omega) (by omega)]; omega
    have x0 : ∀ S, ixA 1 (.svals (cks cs)) (iv i) S = some (.fptr [vers cs[i]] 0) := fun S => ixA_map _ cs i 1 S hlt fun _ => rfl
    obtain ⟨hch, hc1, hc8⟩ := hcs _ (List.getElem_mem hlt)
    have hm := blocksB_mem (List.getElem_mem hlt)
    have htk : cs.take (i + 1) = cs.take i ++ [cs[i]] := List.take_succ_eq_append_getElem hlt
    have hb1 : blocksB (cs.take (i + 1)) = blocksB (cs.take i) ++ frameB (blockB cs[i]) := by rw [htk]; simp only [blocksB, List.flatMap_append, List.flatMap_cons, List.flatMap_nil, List.append_nil]
    have hf1 : (cs.take (i + 1)).flatMap (fun c => textS (headKey c)) = (cs.take i).flatMap (fun c => textS (headKey c)) ++ textS (headKey cs[i]) := by rw [htk]; simp only [List.flatMap_append, List.flatMap_cons, List.flatMap_nil, List.append_nil]
    have hlen1 : (blocksB (cs.take (i + 1))).length ≤ (blocksB cs).length := by
      have : blocksB cs = blocksB (cs.take (i + 1)) ++ blocksB (cs.drop (i + 1)) := by simp only [blocksB]; rw [← List.flatMap_append, List.take_append_drop]
      rw [this]; simp
    have hlen2 : (putN cs.length).length + ((cs.take (i + 1)).flatMap (fun c => textS (headKey c))).length ≤ (fencesB cs).length := by
      have : cs.flatMap (fun c => textS (headKey c)) = (cs.take (i + 1)).flatMap (fun c => textS (headKey c)) ++ (cs.drop (i + 1)).flatMap (fun c => textS (headKey c)) := by rw [← List.flatMap_append, List.take_append_drop]
      simp only [fencesB, List.length_append]; rw [this]; simp only [List.length_append]; omega
    have hp : (putN cs.length).length ≤ (fencesB cs).length := by simp [fencesB]
    rw [hb1, List.length_append] at hlen1
    rw [hf1, List.length_append] at hlen2
    rw [frameB_len] at hlen1
    simp -implicitDefEqProofs only [f64_l1, abi_lss, bQ_some, condW_bv, hlt', decide_true, if_true, x0, ldv_fptr, ldc_false, List.getElem?_cons_zero]
    refine f178_c cs[i] hc1 hc8 hch (by omega) S ?_
    have e1 : frzOf (bslR true 1 129 1 1 1 [(0, bytes (blockB cs[i]))]) = some (.svals (bss [blockB cs[i]])) := bsl_bytes _
    simp -implicitDefEqProofs only [aext_tuple, List.getElem?_cons_zero, List.getElem?_cons_succ, bQ_some, e1]
    refine ATriple.drop (f179_c [blockB cs[i]] (by simp) (by simp [frameB_len]; omega) S fun v S' hg => ⟨bytes ([blockB cs[i]].flatMap frameB), S, hg.ent, ?_⟩)
    simp only [List.flatMap_cons, List.flatMap_nil, List.append_nil]
    obtain ⟨Sb, hg2', hg1'⟩ := hg1.swap2 hg2
    refine hg1'.bytes (l := frameB (blockB cs[i])) rfl (by rw [frameB_len]; omega) fun v1' S1 hn1 => ?_
    obtain ⟨Sc, hn1', hn2⟩ := hg2'.swap2 hn1
    have hk : ∃ p, ixA 8 (vers cs[i]) (iv 0) S1 = some p ∧ padd p 0 = some p ∧ ldv false 1 p S1 = some (sv (headKey cs[i])) := by
      have hx := ixA_ver cs[i] 0 S1 (by omega)
      refine ⟨_, hx, rfl, ?_⟩
      rw [← headKey_get cs[i] (by omega)]; rfl
    obtain ⟨p, q1, q2, q3⟩ := hk
    simp -implicitDefEqProofs only [q1, q2, q3, bQ_some, bsl_str1]
    refine f180_g v2 _ [headKey cs[i]] _ S1 hn2 (by simp) (by simp only [List.length_append, List.flatMap_cons, List.flatMap_nil, List.append_nil]; omega) fun v2' S2 hn3 => ?_
    rw [abi_add, bQ_some, w1]
    refine ih (i + 1) v1' v2' Sc S2 (by omega) ?_ ?_
    · rw [hb1]; exact hn1'
    · rw [hf1, ← List.append_assoc]; simpa using hn3
theorem bsl_nats3 (a b c : Nat) : frzOf (bslR true 1 3 1 3 3 [(0, iv a), (1, iv b), (2, iv c)]) = some (nats [a, b, c]) := rfl
set_option maxRecDepth 100000 in
theorem f64_c (l : List Ver) (hl : chainOk l) (hB : l.length ≤ 100000) (hr : (runB l).length ≤ 1099511627) (S : Store) {Q : AV → Store → Prop} (h : Q (.tuple [bytes (runB l), iv 0]) S) : ATriple PR 64 [vers l] S Q := by
  refine f64_ok ?_
  have hrl : (runB l).length = (blocksB (chunk8 l)).length + (8 + (fencesB (chunk8 l)).length + (8 + (footB l).length)) := by simp only [runB, List.length_append, frameB_len]
  have hfoot : (footB l).length = (putN l.length).length + (putN (chunk8 l).length).length + (putN (blocksB (chunk8 l)).length).length := by simp [footB]; omega
  have hfen : (fencesB (chunk8 l)).length = (putN (chunk8 l).length).length + ((chunk8 l).flatMap fun c => textS (headKey c)).length := by simp [fencesB]
  have hcl : (chunk8 l).length ≤ l.length := chunkF_len _ _
  have c1 : ¬ (100000 : Int) < l.length := by omega
  have c1' : ¬ 100000 < l.length := by omega
  simp -implicitDefEqProofs only [f64_s]
  refine f175_c l (by omega) hl S ?_
  simp -implicitDefEqProofs [c1, c1']
  refine f176_c l (by omega) S ?_
  simp -implicitDefEqProofs only [aln_svals, List.length_map, bQ_some, bsl_nat]
  refine f177_g nilS [] [(chunk8 l).length] S S .nil (by simp; omega) (by simp) (by simp; omega) fun v S1 hg => ?_
  simp only [List.flatMap_cons, List.flatMap_nil, List.append_nil, List.nil_append] at hg
  refine f64_L1_clo ?_
  refine f64_loop (chunk8 l) (fun c hc => ⟨chunkF_chain _ _ hl _ hc, chunkF_mem _ _ _ hc⟩) (by omega) (by omega) (by omega) _ S _ ?_ (chunk8 l).length 0 nilS v S S1 rfl .nil (by simpa using hg)
  intro v1 v2 Sa S2 hg1 hg2
  refine ⟨ofL [(0, vers l), (4, v1), (5, bytes (fencesB (chunk8 l))), (6, .svals (cks (chunk8 l)))], Sa, ?_, ?_⟩
  · refine EntT.ofL [0, 4, 5, 6] [vers l, v1, v2, .svals (cks (chunk8 l))] [vers l, v1, bytes (fencesB (chunk8 l)), .svals (cks (chunk8 l))] (by decide) (by decide) rfl rfl ?_
    exact hg2.entC (fun y => .tuple [vers l, v1, y, .svals (cks (chunk8 l))]) fun tt el a c hac => (FrzL.cons (.refl _) (.cons (.refl _) (.cons hac (.cons (.refl _) .nil)))).tuple
  apply f64_K1_e1_pt
  have hl4 := hg1.len
  simp only [List.length_map] at hl4
  simp -implicitDefEqProofs only [f64_K1_e1, aln_svals, List.length_map, bQ_some, hl4, bsl_nats3]
  refine ATriple.drop (f177_c nilS [] [l.length, (chunk8 l).length, (blocksB (chunk8 l)).length] Sa true (.nil Sa) ?_ (by simp) (by simp; omega) fun v S' hgf => ⟨bytes (footB l), Sa, ?_, ?_⟩)
  · intro n hn
    simp only [List.mem_cons, List.not_mem_nil, or_false] at hn
    rcases hn with rfl | rfl | rfl <;> omega
  · have e : ([] : Bs) ++ [l.length, (chunk8 l).length, (blocksB (chunk8 l)).length].flatMap putN = footB l := by simp [footB]
    rw [e] at hgf; exact hgf.ent
  have e1 : frzOf (bslR true 1 129 1 2 2 [(0, bytes (fencesB (chunk8 l))), (1, bytes (footB l))]) = some (.svals (bss [fencesB (chunk8 l), footB l])) := rfl
  simp only [e1, bQ_some]
  refine ATriple.drop (f179_c [fencesB (chunk8 l), footB l] (by simp) (by simp [frameB_len]; omega) Sa fun v S' hgf => ⟨bytes ([fencesB (chunk8 l), footB l].flatMap frameB), Sa, hgf.ent, ?_⟩)
  refine hg1.bytes (l := [fencesB (chunk8 l), footB l].flatMap frameB) rfl (by simp [frameB_len]; omega) fun v3 S3 hg3 => ?_
  have e2 : blocksB (chunk8 l) ++ [fencesB (chunk8 l), footB l].flatMap frameB = runB l := by simp [runB]
  rw [e2] at hg3
  exact ⟨_, _, hg3.entC (fun a => .tuple [a, iv 0]) fun t el a b hab => (FrzL.cons hab (.cons (.refl _) .nil)).tuple, h⟩
end Go.Du
namespace Go.Du
open Go
attribute [local irreducible] ATriple W evP AI
theorem chunkF_flat (n : Nat) : ∀ l : List Ver, l.length ≤ n → (chunkF n l).flatten = l := by
  induction n with
  | zero => intro l hl; have : l = [] := List.length_eq_zero_iff.1 (by omega); subst this; rfl
  | succ n ih =>
    intro l hl
    simp only [chunkF]
    split
    · rename_i h; simp [h]
    · rename_i hne
      have hp : 0 < l.length := List.length_pos_iff.2 hne
      rw [List.flatten_cons, ih _ (by simp; omega), List.take_append_drop]
theorem chunk8_flat (l : List Ver) : (chunk8 l).flatten = l := chunkF_flat _ l (Nat.le_refl _)
theorem putN_pos (n : Nat) : 0 < (putN n).length := by
  by_cases h : n < 128
  · rw [putN_lt h]; simp
  · rw [putN_ge h]; simp
abbrev blks (l : List Ver) : List Bs := (chunk8 l).map blockB
abbrev fncs (l : List Ver) : List Bs := (chunk8 l).map headKey
theorem runB_frames (l : List Ver) : runB l = (blks l ++ [fencesB (chunk8 l), footB l]).flatMap frameB := by
  simp [runB, blocksB, List.flatMap_map]
theorem Grow.freezeIn {e sz ty z p : Nat} {S0 S : Store} {es : List (List AV)} {v x : AV} (hes : es ≠ []) (h : Grow e sz S0 es v S) (C : AV → List AV) (hC : ∀ t el a b, Frz t el a b → FrzL t el (C a) (C b)) (hp : S0 p = some (.row ty z [C v])) :
    Ent x S x (S0.set p (.row ty z [C (.svals es)])) := by
  cases h with
  | nil => exact absurd rfl hes
  | own ht =>
    rename_i t
    have hne : p ≠ t := fun e => by subst e; rw [hp] at ht; cases ht
    refine Ent.freeze (t := t) (Store.set_same S0 t (.row e sz es)) (.refl _) fun u o' hu => ?_
    have hfr : Frz t es (.sref t 0 es.length) (.svals es) := by
      have := Frz.sref (t := t) (elems := es) (off := 0) (len := es.length) (by omega)
      simpa using this
    by_cases hup : u = p
    · subst hup
      simp only [Store.set_same, Option.some.injEq] at hu
      subst hu
      refine ⟨hne, .row ty z [C (.sref t 0 es.length)], by rw [Store.set_ne _ _ _ hne]; exact hp, ?_⟩
      refine .row rfl fun i hi hi' => ?_
      have hi0 : i = 0 := by simpa using hi
      subst hi0
      exact (hC _ _ _ _ hfr).pts
    · rw [Store.set_ne _ _ _ hup] at hu
      have hut : u ≠ t := fun e => by subst e; rw [ht] at hu; cases hu
      exact ⟨hut, o', by rw [Store.set_ne _ _ _ hut]; exact hu, .refl _⟩
theorem f69_L1_clo {K : AK} {t0 t6 t7 t38 t39 t40 : AV} {S : Store} (h : f69_L1 (clo 87 K) t0 t6 t7 t38 t39 t40 S) : f69_L1 K t0 t6 t7 t38 t39 t40 S := by
  delta f69_L1 at h ⊢
  exact AI_clo h
abbrev runO (bl : AV) (v : AV) (n : Int) : AObj := .row 269 3 [[bl, v, iv n]]
set_option maxRecDepth 100000 in
theorem f69_loop (cs : List (List Ver)) (hcs : ∀ c ∈ cs, chainOk c ∧ 1 ≤ c.length ∧ c.length ≤ 8) (hcl : cs.length ≤ 1048576) (hB : (blocksB cs).length ≤ 1099511627) (p : Nat) (t0 : AV) (bl : AV) (Sb : Store) (K : AK)
    (h0 : ∀ v1 v2 S0 Sa S, Grow 112 8 S0 (cs.flatten.map Ver.cs) v1 Sa → Grow 9 1 Sa (strs (cs.map headKey)) v2 S → S0 p = some (runO bl v2 0) → Sub Sb S0 → K (.exit 0) (ofL [(0, t0), (2, .poison), (3, .poison), (6, .ptr p 0 0), (7, v1)]) S) (hpb : Sb p = none) :
    ∀ (n i : Nat) (v1 v2 : AV) (S0 Sa S : Store), n + i = cs.length → Grow 112 8 S0 ((cs.take i).flatten.map Ver.cs) v1 Sa → Grow 9 1 Sa (strs ((cs.take i).map headKey)) v2 S → S0 p = some (runO bl v2 0) → Sub Sb S0 →
      f69_L1 K t0 (.ptr p 0 0) v1 (.svals (bss (cs.map blockB))) (iv cs.length) (iv i) S := by
  intro n
  induction n with
  | zero =>
    intro i v1 v2 S0 Sa S hi hg1 hg2 hp hs
    refine f69_L1_pt ?_
    have : ¬ (i : Int) < cs.length := by omega
    rw [List.take_of_length_le (by omega)] at hg1 hg2
    simp -implicitDefEqProofs [f69_l1, this]
    exact h0 _ _ _ _ _ hg1 hg2 hp hs
  | succ n ih =>
    intro i v1 v2 S0 Sa S hi hg1 hg2 hp hs
    refine f69_L1_pt ?_
    have hlt : i < cs.length := by omega
    have hlt' : (i : Int) < cs.length := by omega
    have w1 : IntKind.i64.wrap ((i : Int) + 1) = ((i + 1 : Nat) : Int) := by rw [wrap_id (by omega) (by omega)]; omega
    have x0 : ∀ S, ixA 1 (.svals (bss (cs.map blockB))) (iv i) S = some (.fptr [bytes (blockB cs[i])] 0) := fun S => by
      have := ixA_map (fun x => [bytes x]) (cs.map blockB) i 1 S (by simpa using hlt) fun _ => rfl
      simpa using this
    obtain ⟨hch, hc1, hc8⟩ := hcs _ (List.getElem_mem hlt)
    have hm := blocksB_mem (List.getElem_mem hlt)
    have htk : cs.take (i + 1) = cs.take i ++ [cs[i]] := List.take_succ_eq_append_getElem hlt
    have hfl : ∀ k, k ≤ cs.length → (cs.take k).flatten.length ≤ 8 * k := by
      intro k
      induction k with
      | zero => intro _; simp
      | succ k ihk =>
        intro hk
        have hk' : k < cs.length := by omega
        rw [List.take_succ_eq_append_getElem hk', List.flatten_append, List.length_append]
        have := ihk (by omega)
        have h8 := (hcs _ (List.getElem_mem hk')).2.2
        simp only [List.flatten_cons, List.flatten_nil, List.append_nil]; omega
    have hfi := hfl i (by omega)
    simp -implicitDefEqProofs only [f69_l1, abi_lss, bQ_some, condW_bv, hlt', decide_true, if_true, x0, ldv_fptr, ldc_false, List.getElem?_cons_zero]
    refine f185_c cs[i] hc1 hc8 hch (by omega) S ?_
    simp -implicitDefEqProofs only [aext_tuple, List.getElem?_cons_zero, List.getElem?_cons_succ, bQ_some, abi_neq, bne_self_eq_false, condW_bv, Bool.false_eq_true, if_false]
    obtain ⟨Sc, hg2', hg1'⟩ := hg1.swap2 hg2
    refine hg1'.app (k := .slice) (bytes := 80) (x := vers cs[i]) (l := cs[i].map Ver.cs) rfl (by simp) (by simp only [List.length_map]; omega) (by simp only [List.length_map]; omega) fun v1' S1 hn1 => ?_
    obtain ⟨Sd, hn1', hn2⟩ := hg2'.swap2 hn1
    have hp1 := hn2.get (hn1'.get hp)
    have e1 := ldv_at (o := 1) hp1
    simp only [List.getElem?_cons_zero, List.getElem?_cons_succ] at e1
    have q1 := ixA_ver cs[i] 0 S1 (by omega)
    have q3 : ldv false 1 (.fptr (cs[i][0]'(by omega)).cs 0) S1 = some (sv (headKey cs[i])) := by rw [← headKey_get cs[i] (by omega)]; rfl
    simp only [Int.natCast_zero, Int.cast_ofNat_Int] at q1
    simp -implicitDefEqProofs only [anil, padd_ptr, padd_fptr, Nat.zero_add, Nat.add_zero, bQ_some, e1, q1, q3, bsl_str]
    refine hn2.app (k := .slice) (bytes := 16) (x := .svals [[sv (headKey cs[i])]]) (l := [[sv (headKey cs[i])]]) rfl (by simp) (by simp; omega) (by simp; omega) fun v2' S2 hn3 => ?_
    have hp2 := hn3.get (hn1'.get hp)
    rw [stv_at hp2 hn3.ok.1 hn3.ok.2 (by simp), thenS_some]
    simp only [List.set_cons_zero, List.set_cons_succ]
    have hn4 := hn1'.upd hp (runO bl v2' 0)
    have hn5 := hn3.upd (hn1'.get hp) (runO bl v2' 0)
    rw [abi_add, bQ_some, w1]
    refine ih (i + 1) v1' v2' (S0.set p (runO bl v2' 0)) (Sd.set p (runO bl v2' 0)) (S2.set p (runO bl v2' 0)) (by omega) ?_ ?_ (Store.set_same _ _ _) (hs.set hpb)
    · have e : (cs.take (i + 1)).flatten.map Ver.cs = (cs.take i).flatten.map Ver.cs ++ cs[i].map Ver.cs := by
        rw [htk]; simp only [List.flatten_append, List.flatten_cons, List.flatten_nil, List.append_nil, List.map_append]
      rw [e]; exact hn4
    · have e : strs ((cs.take (i + 1)).map headKey) = strs ((cs.take i).map headKey) ++ [[sv (headKey cs[i])]] := by
        rw [htk]; simp only [strs, List.map_append, List.map_cons, List.map_nil]
      rw [e]; exact hn5
abbrev runOb (l : List Ver) : AObj := runO (.svals (bss (blks l))) (.svals (strs (fncs l))) l.length
set_option maxRecDepth 100000 in
theorem f69_c (l : List Ver) (hl : chainOk l) (hne : l ≠ []) (hB : l.length ≤ 100000) (hr : (runB l).length ≤ 1099511627) (S : Store) {Q : AV → Store → Prop} (h : ∀ p, S p = none → Q (.tuple [.ptr p 0 0, iv 0]) (S.set p (runOb l))) : ATriple PR 69 [bytes (runB l)] S Q := by
  refine f69_ok ?_
  have hrl : (runB l).length = (blocksB (chunk8 l)).length + (8 + (fencesB (chunk8 l)).length + (8 + (footB l).length)) := by simp only [runB, List.length_append, frameB_len]
  have hcs : ∀ c ∈ chunk8 l, chainOk c ∧ 1 ≤ c.length ∧ c.length ≤ 8 := fun c hc => ⟨chunkF_chain _ _ hl _ hc, chunkF_mem _ _ _ hc⟩
  have hcl : (chunk8 l).length ≤ l.length := chunkF_len _ _
  have hpos : 0 < (chunk8 l).length := by rw [chunk8_cons l hne]; simp
  simp -implicitDefEqProofs only [f69_s]
  have hfs : ∀ x ∈ blks l ++ [fencesB (chunk8 l), footB l], x ≠ [] ∧ x.length < 4294967296 := by
    intro x hx
    have pos : ∀ y : Bs, 0 < y.length → y ≠ [] := fun y hy e => by rw [e] at hy; simp at hy
    simp only [List.mem_append, List.mem_map, List.mem_cons, List.not_mem_nil, or_false] at hx
    rcases hx with ⟨c, hc, rfl⟩ | rfl | rfl
    · have := blocksB_mem hc
      refine ⟨pos _ ?_, by omega⟩
      have := putN_pos c.length
      simp only [blockB, List.length_append]; omega
    · refine ⟨pos _ ?_, by omega⟩
      have := putN_pos (chunk8 l).length
      simp only [fencesB, List.length_append]; omega
    · refine ⟨pos _ ?_, by omega⟩
      have := putN_pos l.length
      simp only [footB, List.length_append]; omega
  have hrf := runB_frames l
  rw [hrf]
  refine f184_c _ hfs (by rw [← hrf]; exact hr) S ?_
  rw [← hrf]
  have hlen : (blks l ++ [fencesB (chunk8 l), footB l]).length = (chunk8 l).length + 2 := by simp
  have c1 : ¬ (((chunk8 l).length + 2 : Nat) : Int) < 2 := by omega
  have w1 : IntKind.i64.wrap ((((chunk8 l).length + 2 : Nat) : Int) - 2) = ((chunk8 l).length : Int) := by rw [wrap_id (by omega) (by omega)]; omega
  have s1 : sliceV 1 (.svals (bss (blks l ++ [fencesB (chunk8 l), footB l]))) none (some (iv (chunk8 l).length)) none S = some (.svals (bss (blks l))) := by
    have := sliceV_hi (fun x => [bytes x]) (blks l ++ [fencesB (chunk8 l), footB l]) (chunk8 l).length 1 S (by omega) fun _ => rfl
    rw [this, List.take_left' (by simp)]
  have e1 : abld [.lit (.slice none 0 0), .lit (.slice none 0 0), .lit (.int .i64 0)] [(0, 1, .svals (bss (blks l)))] = some (.agg [.svals (bss (blks l)), nilS, iv 0]) := by simp [abld, afill, splice]
  simp -implicitDefEqProofs only [aext_tuple, List.getElem?_cons_zero, List.getElem?_cons_succ, bQ_some, aln_svals, List.length_map, abi_neq, bne_self_eq_false, gdQ_bv, if_true, hlen, abi_lss, c1, decide_false, apick_bv, Bool.false_eq_true, if_false, condW_bv, abi_sub, w1, s1, e1, boxR_agg, mkNew_false, newW_own]
  intro p hp
  have e2 := ldv_at (S := S.set p (.row 269 3 [[.svals (bss (blks l)), nilS, iv 0]])) (o := 0) (Store.set_same _ _ _)
  simp only [List.getElem?_cons_zero] at e2
  simp -implicitDefEqProofs only [anil, bQ_some, padd_ptr, Nat.zero_add, List.length_cons, List.length_nil, e2, aln_svals, List.length_map]
  refine f69_L1_clo ?_
  refine f69_loop (chunk8 l) hcs (by omega) (by omega) p _ (.svals (bss (blks l))) S _ ?_ hp (chunk8 l).length 0 nilS nilS _ _ _ rfl .nil .nil (Store.set_same _ _ _) ((Sub.refl S).set hp)
  intro v1 v2 S0 Sa S2 hg1 hg2 hpp hs
  rw [chunk8_flat] at hg1
  obtain ⟨Sb, hf, hall⟩ := hg1.swap2 hg2
  refine ⟨ofL [(0, bytes (runB l)), (2, .poison), (3, .poison), (6, .ptr p 0 0), (7, vers l)], Sb, ?_, ?_⟩
  · have := EntT.ofL (n := 87) [0, 6, 7] [bytes (runB l), .ptr p 0 0, v1] [bytes (runB l), .ptr p 0 0, vers l] (by decide) (by decide) rfl rfl (hall.entC (fun y => .tuple [bytes (runB l), .ptr p 0 0, y]) fun tt el a c hac => (FrzL.cons (.refl _) (.cons (.refl _) (.cons hac .nil))).tuple)
    have eqs : ∀ (x : AV) (i : Nat), ofL [(0, bytes (runB l)), (2, .poison), (3, .poison), (6, .ptr p 0 0), (7, x)] i = ofL ([0, 6, 7].zip [bytes (runB l), .ptr p 0 0, x]) i := by
      intro x i
      simp only [List.zip_cons_cons, List.zip_nil_right, ofL]
      by_cases h2 : i = 2
      · subst h2; simp
      · by_cases h3 : i = 3
        · subst h3; simp
        · simp only [h2, h3, if_false]
    intro m w a hr ht
    obtain ⟨m', a1, a2, a3, a4⟩ := this m w a hr ⟨ht.1, fun i hi => by rw [← eqs]; exact ht.2 i hi⟩
    exact ⟨m', a1, a2, a3, a4.1, fun i hi => by rw [eqs]; exact a4.2 i hi⟩
  apply f69_K1_e0_pt
  simp -implicitDefEqProofs only [f69_K1_e0]
  refine f64_c l hl hB hr Sb ?_
  simp -implicitDefEqProofs only [aext_tuple, List.getElem?_cons_zero, List.getElem?_cons_succ, bQ_some, abi_neq, bne_self_eq_false, gdQ_bv, gdE_bv, if_true]
  refine f186_c _ (by omega) Sb ?_
  have hpb := hf.get hpp
  simp -implicitDefEqProofs only [gdQ_bv, if_true, aun_not, bQ_some, Bool.not_true, apick_bv, Bool.false_eq_true, if_false, condW_bv, aln_svals, List.length_map, anil, padd_ptr, Nat.zero_add]
  rw [stv_at hpb rfl rfl (by simp), thenS_some]
  simp only [List.set_cons_succ, List.set_cons_zero]
  have hf2 := hf.upd hpp (runO (.svals (bss (blks l))) v2 l.length)
  refine ⟨_, S.set p (runOb l), ?_, h p hp⟩
  have hfn : strs (fncs l) ≠ [] := fun e => by
    have := congrArg List.length e
    simp only [List.length_map, List.length_nil] at this; omega
  refine (hf2.freezeIn hfn (fun y => [.svals (bss (blks l)), y, iv l.length]) (fun t el a b hab => .cons (.refl _) (.cons hab (.cons (.refl _) .nil))) (Store.set_same _ _ _)).trans (.drop ?_)
  rw [Store.set_set]
  intro u o hu
  by_cases hup : u = p
  · subst hup; rw [Store.set_same] at hu ⊢; exact hu
  · rw [Store.set_ne _ _ _ hup] at hu ⊢; exact hs u o hu
end Go.Du
namespace Go.Du
open Go
attribute [local irreducible] ATriple W evP AI
abbrev bl := Op.bytesLess
theorem bl_irrefl : ∀ a : Bs, bl a a = false
  | [] => rfl
  | x :: a => by
    have := bl_irrefl a
    simp [bl, Op.bytesLess, UInt8.lt_irrefl] at this ⊢; exact this
theorem bl_trans : ∀ a b c : Bs, bl a b = true → bl b c = true → bl a c = true
  | _, [], _, h, _ => by cases ‹List UInt8› <;> simp [bl, Op.bytesLess] at h
  | _, _ :: _, [], _, h => by simp [bl, Op.bytesLess] at h
  | [], _ :: _, _ :: _, _, _ => rfl
  | x :: a, y :: b, z :: c, h, k => by
    simp only [bl, Op.bytesLess, Bool.or_eq_true, decide_eq_true_eq, Bool.and_eq_true, beq_iff_eq] at h k ⊢
    rcases h with h | ⟨rfl, h⟩
    · rcases k with k | ⟨rfl, k⟩
      · exact .inl (UInt8.lt_trans h k)
      · exact .inl h
    · rcases k with k | ⟨rfl, k⟩
      · exact .inl k
      · exact .inr ⟨rfl, bl_trans a b c h k⟩
theorem bl_tot : ∀ a b : Bs, bl a b = false → a ≠ b → bl b a = true
  | [], [], _, h => absurd rfl h
  | _ :: _, [], _, _ => rfl
  | [], _ :: _, h, _ => by simp [bl, Op.bytesLess] at h
  | x :: a, y :: b, h, k => by
    simp only [bl, Op.bytesLess, Bool.or_eq_false_iff, decide_eq_false_iff_not, Bool.and_eq_false_imp, beq_iff_eq, Bool.or_eq_true, decide_eq_true_eq, Bool.and_eq_true] at h ⊢
    by_cases e : x = y
    · subst e
      exact .inr ⟨rfl, bl_tot a b (h.2 rfl) (fun e => k (by rw [e]))⟩
    · refine .inl ?_
      have h1 := h.1
      rcases UInt8.lt_or_lt_of_ne e with g | g
      · exact absurd g h1
      · exact g
theorem bl_asymm {a b : Bs} (h : bl a b = true) : bl b a = false := by
  cases e : bl b a with
  | false => rfl
  | true => have := bl_trans a b a h e; rw [bl_irrefl] at this; cases this
theorem bl_le_trans {a b c : Bs} (h : bl b a = false) (k : bl b c = true) : bl a c = true := by
  by_cases e : a = b
  · subst e; exact k
  · exact bl_trans a b c (bl_tot b a h (fun q => e q.symm)) k
theorem bl_trans_le {a b c : Bs} (h : bl a b = true) (k : bl c b = false) : bl a c = true := by
  by_cases e : b = c
  · subst e; exact h
  · exact bl_trans a b c h (bl_tot c b k (fun q => e q.symm))
theorem f486_c (s : Bs) (S : Store) {Q : AV → Store → Prop} (h : Q (bv false) S) : ATriple PR 486 [sv s] S Q := by
  refine f486_ok ?_
  simp -implicitDefEqProofs [f486_s]
  exact dropQ_self h
theorem f471_c (a b : Bs) (S : Store) {Q : AV → Store → Prop} (h : Q (bv (bl a b)) S) : ATriple PR 471 [sv a, sv b] S Q := by
  refine f471_ok ?_
  simp -implicitDefEqProofs only [f471_s]
  refine f431_c a S ?_
  simp -implicitDefEqProofs
  exact dropQ_self h
theorem f438_loop (f : List Bs) (key : Bs) (hs : ∀ i j (hi : i < f.length) (hj : j < f.length), i ≤ j → bl f[j] f[i] = false) (hB : f.length ≤ 1048576) (K : AK) (S : Store)
    (h : ∀ at' : Nat, at' ≤ f.length → (∀ i (hi : i < f.length), i < at' → bl f[i] key = true) → K (.exit 0) (ofL [(0, .svals (strs f)), (1, sv key), (6, iv f.length), (7, iv at')]) S) :
    ∀ (n lo hi : Nat), hi - lo ≤ n → lo ≤ hi → hi ≤ f.length → (∀ i (h : i < f.length), i < lo → bl f[i] key = true) → f438_L1 K (.svals (strs f)) (sv key) (iv f.length) (iv lo) (iv hi) S := by
  intro n
  induction n using Nat.strongRecOn with
  | ind n ih =>
    intro lo hi hn hlh hhf hlo
    refine f438_L1_pt ?_
    by_cases hlt : lo < hi
    · have h1 : (lo : Int) < hi := by omega
      obtain ⟨mid, hmid⟩ : ∃ mid, mid = (lo + hi) / 2 := ⟨_, rfl⟩
      have w1 : IntKind.i64.wrap ((lo : Int) + hi) = ((lo + hi : Nat) : Int) := by rw [wrap_id (by omega) (by omega)]; omega
      have c1 : acv (.int .u64) (iv ((lo + hi : Nat) : Int)) S = some (u64v ((lo + hi : Nat) : Int)) := by
        have : acv (.int .u64) (iv ((lo + hi : Nat) : Int)) S = some (u64v (IntKind.u64.wrap ((lo + hi : Nat) : Int))) := rfl
        rw [this, IntWalk.u64_in _ (by omega)]
      have c2 : abi .shr (u64v ((lo + hi : Nat) : Int)) (.lit (.int .u64 1)) = some (u64v (mid : Int)) := by
        have : abi .shr (u64v ((lo + hi : Nat) : Int)) (.lit (.int .u64 1)) = some (u64v ((((lo + hi : Nat) : Int)).fdiv 2)) := rfl
        rw [this, Int.fdiv_eq_ediv_of_nonneg _ (by omega), hmid]; congr 3
      have c3 : acv (.int .i64) (u64v (mid : Int)) S = some (iv mid) := by
        have : acv (.int .i64) (u64v (mid : Int)) S = some (iv (IntKind.i64.wrap mid)) := rfl
        rw [this, wrap_id (by omega) (by omega)]
      have hmf : mid < f.length := by omega
      have x0 : ixA 1 (.svals (strs f)) (iv mid) S = some (.fptr [sv f[mid]] 0) := ixA_map _ f mid 1 S hmf fun _ => rfl
      have w2 : IntKind.i64.wrap ((mid : Int) + 1) = ((mid + 1 : Nat) : Int) := by rw [wrap_id (by omega) (by omega)]; omega
      simp -implicitDefEqProofs only [f438_l1, abi_lss, bQ_some, condW_bv, h1, decide_true, if_true, abi_add, w1, c1, c2, c3, x0, ldv_fptr, ldc_false, List.getElem?_cons_zero]
      refine f471_c _ _ S ?_
      cases hb : bl f[mid] key with
      | true =>
        simp -implicitDefEqProofs only [condW_bv, if_true, abi_add, w2, bQ_some]
        refine ih (hi - (mid + 1)) (by omega) (mid + 1) hi (Nat.le_refl _) (by omega) hhf fun i hi' hlt' => ?_
        exact bl_le_trans (hs i mid hi' hmf (by omega)) hb
      | false =>
        simp -implicitDefEqProofs only [condW_bv, Bool.false_eq_true, if_false]
        exact ih (mid - lo) (by omega) lo mid (Nat.le_refl _) (by omega) (by omega) hlo
    · have h1 : ¬ (lo : Int) < hi := by omega
      simp -implicitDefEqProofs only [f438_l1, abi_lss, bQ_some, condW_bv, h1, decide_false, Bool.false_eq_true, if_false]
      exact h lo (by omega) hlo
theorem f438_c (f : List Bs) (key : Bs) (hs : ∀ i j (hi : i < f.length) (hj : j < f.length), i ≤ j → bl f[j] f[i] = false) (hB : f.length ≤ 1048576) (S : Store) {Q : AV → Store → Prop}
    (h : ∀ (at' : Nat) (b : Bool), at' ≤ f.length → (∀ i (hi : i < f.length), i < at' → bl f[i] key = true) → Q (.tuple [iv at', bv b]) S) : ATriple PR 438 [.svals (strs f), sv key] S Q := by
  refine f438_ok ?_
  simp -implicitDefEqProofs only [f438_s, aln_svals, List.length_map, bQ_some]
  refine f438_loop f key hs hB _ S ?_ f.length 0 f.length (by omega) (by omega) (Nat.le_refl _) (by intro i _ h; omega)
  intro at' h1 h2
  apply f438_K1_e0_pt
  by_cases hlt : at' < f.length
  · have h3 : (at' : Int) < f.length := by omega
    have x0 : ixA 1 (.svals (strs f)) (iv at') S = some (.fptr [sv f[at']] 0) := ixA_map _ f at' 1 S hlt fun _ => rfl
    by_cases he : f[at'] = key
    · simp -implicitDefEqProofs [f438_K1_e0, h3, hlt, x0, he]
      exact dropQ_self (h at' true h1 h2)
    · simp -implicitDefEqProofs [f438_K1_e0, h3, hlt, x0, he]
      refine f486_c _ S ?_
      simp -implicitDefEqProofs
      exact dropQ_self (h at' false h1 h2)
  · have h3 : ¬ (at' : Int) < f.length := by omega
    simp -implicitDefEqProofs [f438_K1_e0, h3, hlt]
    exact dropQ_self (h at' false h1 h2)
end Go.Du
namespace Go.Du
open Go
attribute [local irreducible] ATriple W evP AI
def someC (key : Bs) (ov : Bs → Bool) : List Ver → List Ver → List Ver × Bool
  | acc, [] => (acc, false)
  | acc, v :: r => if ov v.key then (acc, true) else someC key ov (if bl v.key key then acc else acc ++ [v]) r
theorem someC_app (key : Bs) (ov : Bs → Bool) : ∀ (c d acc : List Ver), someC key ov acc (c ++ d) = if (someC key ov acc c).2 then someC key ov acc c else someC key ov (someC key ov acc c).1 d
  | [], d, acc => by simp [someC]
  | v :: c, d, acc => by
    simp only [List.cons_append, someC]
    split
    · rfl
    · exact someC_app key ov c d _
theorem someC_len (key : Bs) (ov : Bs → Bool) : ∀ (c acc : List Ver), (someC key ov acc c).1.length ≤ acc.length + c.length
  | [], acc => by simp [someC]
  | v :: c, acc => by
    simp only [someC]
    split
    · simp
    · have := someC_len key ov c (if bl v.key key then acc else acc ++ [v])
      simp only [List.length_cons]
      split at this <;> simp_all <;> omega
theorem fncs_sorted (l : List Ver) (hk : ∀ i j (hi : i < l.length) (hj : j < l.length), i ≤ j → bl (l[j]).key (l[i]).key = false) : ∀ i j (hi : i < (fncs l).length) (hj : j < (fncs l).length), i ≤ j → bl (fncs l)[j] (fncs l)[i] = false := by
  have key : ∀ (n : Nat) (m : List Ver), m.length ≤ n → (∀ i j (hi : i < m.length) (hj : j < m.length), i ≤ j → bl (m[j]).key (m[i]).key = false) → ∀ k (hk : k < (chunk8 m).length), ∃ p, ∃ hp : p < m.length, headKey (chunk8 m)[k] = (m[p]).key ∧ p = 8 * k := by
    intro n
    induction n using Nat.strongRecOn with
    | ind n ih =>
      intro m hm hs k hkc
      by_cases hne : m = []
      · subst hne; simp [chunk8_nil] at hkc
      · have hp : 0 < m.length := List.length_pos_iff.2 hne
        cases k with
        | zero =>
          refine ⟨0, hp, ?_, rfl⟩
          have e : (chunk8 m)[0]'hkc = m.take 8 := by simp [chunk8_cons m hne]
          rw [e, ← headKey_get _ (by simp; omega)]; simp
        | succ k =>
          have hlen : (chunk8 m).length = (chunk8 (m.drop 8)).length + 1 := by rw [chunk8_cons m hne]; simp
          have hk2 : k < (chunk8 (m.drop 8)).length := by omega
          obtain ⟨p, hp2, he, hpk⟩ := ih (m.drop 8).length (by simp; omega) (m.drop 8) (Nat.le_refl _) (fun i j hi hj hij => by
            simp only [List.length_drop] at hi hj
            simp only [List.getElem_drop]
            exact hs _ _ _ _ (by omega)) k hk2
          simp only [List.length_drop] at hp2
          refine ⟨8 + p, by omega, ?_, by omega⟩
          have e : (chunk8 m)[k + 1]'hkc = (chunk8 (m.drop 8))[k] := by simp [chunk8_cons m hne]
          rw [e, he]; simp
  intro i j hi hj hij
  simp only [fncs, List.length_map] at hi hj
  obtain ⟨p, hp, e1, ep⟩ := key l.length l (Nat.le_refl _) hk i hi
  obtain ⟨q, hq, e2, eq⟩ := key l.length l (Nat.le_refl _) hk j hj
  simp only [fncs, List.getElem_map, e1, e2]
  exact hk p q hp hq (by omega)
theorem f437_c (l : List Ver) (hl : chainOk l) (hB : l.length ≤ 100000) (hr : (blocksB (chunk8 l)).length ≤ 1099511627) (hk : ∀ i j (hi : i < l.length) (hj : j < l.length), i ≤ j → bl (l[j]).key (l[i]).key = false) (key : Bs) (t p : Nat) (I J : List (List Ver) → Store → Prop)
    (hI : ∀ pre S, I pre S → S p = some (runOb l))
    (at0 : Nat → List (List Ver)) (hat0 : ∀ k, at0 k = (chunk8 l).drop (k - 1))
    (hy : ∀ at' pre c S (K : AV → Store → Prop), (∃ r, pre ++ c :: r = at0 at') → I pre S → (∀ S', I (pre ++ [c]) S' → K (bv true) S') → (∀ S', J (pre ++ [c]) S' → K (bv false) S') → callW PR (.yield t) [vers c] S K)
    (S : Store) (h0 : I [] S) {Q : AV → Store → Prop}
    (h : ∀ at' : Nat, at' ≤ (chunk8 l).length → (∀ i (hi : i < (fncs l).length), i < at' → bl (fncs l)[i] key = true) → (∀ S', I (at0 at') S' → Q (.tuple []) S') ∧ (∀ pre S', (∃ r, pre ++ r = at0 at') → J pre S' → Q (.tuple []) S')) :
    ATriple PR 437 [.yield t, .fptr [.ptr p 0 0] 0, .fptr [sv key] 0] S Q := by
  refine f437_ok ?_
  have hcl : (chunk8 l).length ≤ l.length := chunkF_len _ _
  have e1 := ldv_at (o := 1) (hI _ _ h0)
  simp only [List.getElem?_cons_zero, List.getElem?_cons_succ] at e1
  simp -implicitDefEqProofs only [f437_s, ldv_fptr, ldc_false, List.getElem?_cons_zero, bQ_some, anil, padd_ptr, Nat.zero_add, e1]
  refine f438_c (fncs l) key (fncs_sorted l hk) (by simp only [fncs, List.length_map]; omega) S fun at' b h1 h2 => ?_
  simp only [fncs, List.length_map] at h1
  obtain ⟨hn, hj⟩ := h at' h1 h2
  have w1 : IntKind.i64.wrap ((at' : Int) - 1) = (at' : Int) - 1 := wrap_id (by omega) (by omega)
  have mx : amax (iv ((at' : Int) - 1)) (iv 0) = some (iv ((at' - 1 : Nat) : Int)) := by
    simp only [amax]
    split
    · have : ((at' - 1 : Nat) : Int) = 0 := by omega
      rw [this]
    · have : ((at' - 1 : Nat) : Int) = (at' : Int) - 1 := by omega
      rw [this]
  simp -implicitDefEqProofs only [aext_tuple, List.getElem?_cons_zero, List.getElem?_cons_succ, bQ_some, abi_sub, w1, mx]
  have loop : ∀ (n i : Nat) (pre : List (List Ver)) (S : Store), (chunk8 l).length - i ≤ n → I pre S → pre ++ (chunk8 l).drop i = at0 at' → f437_L1 (f437_K1 Q) (.yield t) (.fptr [.ptr p 0 0] 0) (iv i) S := by
    intro n
    induction n with
    | zero =>
      intro i pre S hi hIS hp
      refine f437_L1_pt ?_
      have c1 : ¬ (i : Int) < (chunk8 l).length := by omega
      have e0 := ldv_at (o := 0) (hI _ _ hIS)
      simp only [List.getElem?_cons_zero] at e0
      rw [List.drop_of_length_le (by omega), List.append_nil] at hp
      simp -implicitDefEqProofs only [f437_l1, ldv_fptr, ldc_false, List.getElem?_cons_zero, bQ_some, anil, padd_ptr, Nat.add_zero, e0, aln_svals, blks, List.length_map, abi_lss, c1, decide_false, condW_bv, Bool.false_eq_true, if_false]
      apply f437_K1_e0_pt
      subst hp
      exact dropQ_self (hn S hIS)
    | succ n ih =>
      intro i pre S hi hIS hp
      refine f437_L1_pt ?_
      have e0 := ldv_at (o := 0) (hI _ _ hIS)
      simp only [List.getElem?_cons_zero] at e0
      by_cases hlt : i < (chunk8 l).length
      · have c1 : (i : Int) < (chunk8 l).length := by omega
        have w2 : IntKind.i64.wrap ((i : Int) + 1) = ((i + 1 : Nat) : Int) := by rw [wrap_id (by omega) (by omega)]; omega
        have x0 : ∀ S, ixA 1 (.svals (bss ((chunk8 l).map blockB))) (iv i) S = some (.fptr [bytes (blockB (chunk8 l)[i])] 0) := fun S => by
          have := ixA_map (fun x => [bytes x]) ((chunk8 l).map blockB) i 1 S (by simpa using hlt) fun _ => rfl
          simpa using this
        have hmem := List.getElem_mem hlt
        have hch := chunkF_chain _ _ hl _ hmem
        obtain ⟨hc1, hc8⟩ := chunkF_mem _ _ _ hmem
        have hm := blocksB_mem hmem
        rw [List.drop_eq_getElem_cons hlt] at hp
        simp -implicitDefEqProofs only [f437_l1, ldv_fptr, ldc_false, List.getElem?_cons_zero, bQ_some, anil, padd_ptr, Nat.add_zero, e0, aln_svals, blks, List.length_map, abi_lss, c1, decide_true, condW_bv, if_true, x0]
        refine f185_c _ hc1 hc8 hch (by omega) S ?_
        simp -implicitDefEqProofs only [aext_tuple, List.getElem?_cons_zero, List.getElem?_cons_succ, bQ_some]
        refine hy at' pre _ S _ ⟨_, hp⟩ hIS (fun S' hI' => ?_) (fun S' hJ' => ?_)
        · simp -implicitDefEqProofs only [aun_not, bQ_some, Bool.not_true, condW_bv, Bool.false_eq_true, if_false, abi_add, w2]
          exact ih (i + 1) _ S' (by omega) hI' (by rw [← hp]; simp)
        · simp -implicitDefEqProofs only [aun_not, bQ_some, Bool.not_false, condW_bv, if_true]
          apply f437_K1_ret_pt
          exact dropQ_self (hj _ S' ⟨(chunk8 l).drop (i + 1), by rw [← hp]; simp⟩ hJ')
      · have c1 : ¬ (i : Int) < (chunk8 l).length := by omega
        rw [List.drop_of_length_le (by omega), List.append_nil] at hp
        simp -implicitDefEqProofs only [f437_l1, ldv_fptr, ldc_false, List.getElem?_cons_zero, bQ_some, anil, padd_ptr, Nat.add_zero, e0, aln_svals, blks, List.length_map, abi_lss, c1, decide_false, condW_bv, Bool.false_eq_true, if_false]
        apply f437_K1_e0_pt
        subst hp
        exact dropQ_self (hn S hIS)
  exact loop _ (at' - 1) [] S (Nat.le_refl _) h0 (by rw [hat0]; simp)
theorem f351_c (p : Nat) (key : Bs) (S : Store) {Q : AV → Store → Prop} (h : Q (.func (.func 437) [] [.fptr [.ptr p 0 0] 0, .fptr [sv key] 0]) S) : ATriple PR 351 [.ptr p 0 0, sv key] S Q := by
  refine f351_ok ?_
  simp -implicitDefEqProofs [f351_s]
  exact dropQ_self h
theorem hasBody437 : hasBody PR 437 = true := by kernel_rfl
end Go.Du
namespace Go.Du
open Go
attribute [local irreducible] ATriple W evP AI
set_option maxRecDepth 100000 in
theorem f208_loop (key : Bs) (ov : Bs → Bool) (fo fi : AV) (hov : ∀ k S (K : AV → Store → Prop), K (bv (ov k)) S → callW PR fo [sv k] S K) (his : ∀ (v : Ver) S (K : AV → Store → Prop), K (bv true) S → callW PR fi [v.av] S K)
    (l a b t : Nat) (hab : a ≠ b) (hta : t ≠ a) (htb : t ≠ b) (ob : AObj) (Sb : Store) (hb0 : Sb b = none) (c : List Ver) (hc : c.length ≤ 1000) (K : AK) (R : List Ver × Bool)
    (h1 : R.2 = false → ∀ v Sx S, Grow 112 8 Sx (R.1.map Ver.cs) v S → Sx a = some (.row 22 1 [[nilS]]) → Sx b = some (.row 22 1 [[v]]) → Sx t = some ob → Sub Sb Sx → K (.exit 2) (ofL [(8, .ptr a 0 0)]) S)
    (h2 : R.2 = true → ∀ v Sx S, Grow 112 8 Sx (R.1.map Ver.cs) v S → Sx a = some (.row 22 1 [[v]]) → Sx b = some (.row 22 1 [[v]]) → Sx t = some ob → Sub Sb Sx → K .ret (ofL [(8, .ptr a 0 0)]) S) (ha0 : Sb a = none) :
    ∀ (n i : Nat) (acc : List Ver) (v : AV) (Sx S : Store), n + i = c.length → acc.length ≤ 1048576 + i → someC key ov acc (c.drop i) = R → Grow 112 8 Sx (acc.map Ver.cs) v S → Sx a = some (.row 22 1 [[nilS]]) → Sx b = some (.row 22 1 [[v]]) → Sx t = some ob → Sub Sb Sx →
      f208_L2 l K (.fptr [sv key] 0) (.fptr [fo] 0) (.fptr [fi] 0) (.ptr a 0 0) (.ptr b 0 0) (vers c) (iv c.length) (iv i) S := by
  intro n
  induction n with
  | zero =>
    intro i acc v Sx S hi hacc hR hg ga gb gt gs
    refine f208_L2_pt ?_
    have : ¬ (i : Int) < c.length := by omega
    rw [List.drop_of_length_le (by omega)] at hR
    simp only [someC] at hR
    subst hR
    simp -implicitDefEqProofs [f208_l2, this]
    exact h1 rfl v Sx S hg ga gb gt gs
  | succ n ih =>
    intro i acc v Sx S hi hacc hR hg ga gb gt gs
    refine f208_L2_pt ?_
    have hlt : i < c.length := by omega
    have hlt' : (i : Int) < c.length := by omega
    have w1 : IntKind.i64.wrap ((i : Int) + 1) = ((i + 1 : Nat) : Int) := by rw [wrap_id (by omega) (by omega)]; omega
    have x0 := fun S => ixA_ver c i S hlt
    rw [List.drop_eq_getElem_cons hlt] at hR
    simp only [someC] at hR
    generalize c[i] = x at *
    simp -implicitDefEqProofs only [f208_l2, abi_lss, bQ_some, condW_bv, hlt', decide_true, if_true, x0, ldv_ver, newW_own]
    intro u hu
    rw [stv_ver, thenS_some]
    have hg1 := hg.under' hu (.row 112 8 [x.cs])
    have hux : Sx u = none := hg.sub.none hu
    have hua : u ≠ a := fun e => by subst e; rw [ga] at hux; cases hux
    have hub : u ≠ b := fun e => by subst e; rw [gb] at hux; cases hux
    have hut : u ≠ t := fun e => by subst e; rw [gt] at hux; cases hux
    have ga1 : (Sx.set u (.row 112 8 [x.cs])) a = some (.row 22 1 [[nilS]]) := by rw [Store.set_ne _ _ _ hua.symm]; exact ga
    have gb1 : (Sx.set u (.row 112 8 [x.cs])) b = some (.row 22 1 [[v]]) := by rw [Store.set_ne _ _ _ hub.symm]; exact gb
    have gt1 : (Sx.set u (.row 112 8 [x.cs])) t = some ob := by rw [Store.set_ne _ _ _ hut.symm]; exact gt
    have gs1 : Sub Sb (Sx.set u (.row 112 8 [x.cs])) := gs.set (gs.none hux)
    have gu1 : (S.set u (.row 112 8 [x.cs])) u = some (.row 112 8 [x.cs]) := Store.set_same _ _ _
    have k0 : ldv false 1 (.ptr u 0 0) (S.set u (.row 112 8 [x.cs])) = some (sv x.key) := ldv_at gu1
    have k8 := ldv_all_at gu1 (show _ = 8 from rfl)
    have kb := ldv_at (o := 0) (hg1.get gb1)
    simp only [List.getElem?_cons_zero] at kb
    simp -implicitDefEqProofs only [ldv_fptr, ldc_false, List.getElem?_cons_zero, bQ_some, padd_ptr, Nat.zero_add, k0]
    refine hov _ _ _ ?_
    cases ho : ov x.key with
    | true =>
      rw [ho, if_pos rfl] at hR
      simp -implicitDefEqProofs only [condW_bv, if_true, kb, bQ_some]
      rw [stv_at (hg1.get ga1) hg1.ok.1 hg1.ok.2 (by simp), thenS_some]
      simp only [List.set_cons_zero]
      have hg2 := hg1.upd ga1 (.row 22 1 [[v]])
      subst hR
      refine h2 rfl v _ _ hg2 (Store.set_same _ _ _) ?_ ?_ (gs1.set ha0)
      · rw [Store.set_ne _ _ _ hab.symm]; exact gb1
      · rw [Store.set_ne _ _ _ hta]; exact gt1
    | false =>
      rw [ho, if_neg (by decide)] at hR
      have nxt : ∀ acc' v' Sx' S', acc'.length ≤ acc.length + 1 → someC key ov acc' (c.drop (i + 1)) = R → Grow 112 8 Sx' (acc'.map Ver.cs) v' S' → Sx' a = some (.row 22 1 [[nilS]]) → Sx' b = some (.row 22 1 [[v']]) → Sx' t = some ob → Sub Sb Sx' → f208_L2 l K (.fptr [sv key] 0) (.fptr [fo] 0) (.fptr [fi] 0) (.ptr a 0 0) (.ptr b 0 0) (vers c) (iv c.length) (iv (i + 1 : Nat)) S' :=
        fun acc' v' Sx' S' hl' hR' q1 q2 q3 q4 q5 => ih (i + 1) acc' v' Sx' S' (by omega) (by omega) hR' q1 q2 q3 q4 q5
      cases hk : bl x.key key with
      | true =>
        rw [hk, if_pos rfl] at hR
        have hk' : Op.bytesLess x.key key = true := hk
        simp -implicitDefEqProofs only [condW_bv, Bool.false_eq_true, if_false, k0, bQ_some, abi_sgeq, hk', Bool.not_true, gdQ_bv, gdE_bv, gdQ_undef, apick_bv, abi_add, w1]
        exact nxt acc v _ _ (by omega) hR hg1 ga1 gb1 gt1 gs1
      | false =>
        rw [hk, if_neg (by decide)] at hR
        have hk' : Op.bytesLess x.key key = false := hk
        simp -implicitDefEqProofs only [condW_bv, Bool.false_eq_true, if_false, k0, bQ_some, abi_sgeq, hk', Bool.not_false, gdQ_bv, gdE_bv, if_true, k8]
        refine his x _ _ ?_
        have bs := bsl_ver x
        simp -implicitDefEqProofs only [apick_bv, if_true, bQ_some, condW_bv, kb, k8, bs]
        refine hg1.ver x (by omega) fun v' S' hg2 => ?_
        rw [stv_at (hg2.get gb1) hg2.ok.1 hg2.ok.2 (by simp), thenS_some]
        simp only [List.set_cons_zero]
        have hg3 := hg2.upd gb1 (.row 22 1 [[v']])
        rw [abi_add, bQ_some, w1]
        refine nxt (acc ++ [x]) v' _ _ (by simp) hR hg3 ?_ (Store.set_same _ _ _) ?_ (gs1.set hb0)
        · rw [Store.set_ne _ _ _ hab]; exact ga1
        · rw [Store.set_ne _ _ _ htb]; exact gt1
set_option maxRecDepth 100000 in
theorem f208_c (l : List Ver) (hl : chainOk l) (hB : l.length ≤ 100000) (hr : (blocksB (chunk8 l)).length ≤ 1099511627) (hk : ∀ i j (hi : i < l.length) (hj : j < l.length), i ≤ j → bl (l[j]).key (l[i]).key = false) (key : Bs) (ov : Bs → Bool) (go gi : FuncId) (co ci : List AV)
    (hov : ∀ k S (K : AV → Store → Prop), K (bv (ov k)) S → callW PR (.func (.func go) [] co) [sv k] S K) (his : ∀ (v : Ver) S (K : AV → Store → Prop), K (bv true) S → callW PR (.func (.func gi) [] ci) [v.av] S K)
    (p : Nat) (S : Store) (hp : S p = some (runOb l)) {Q : AV → Store → Prop}
    (h : ∀ at' : Nat, at' ≤ (chunk8 l).length → (∀ i (hi : i < (fncs l).length), i < at' → bl (fncs l)[i] key = true) → Q (vers (someC key ov [] ((chunk8 l).drop (at' - 1)).flatten).1) S) :
    ATriple PR 208 [.ptr p 0 0, sv key, .func (.func go) [] co, .func (.func gi) [] ci] S Q := by
  refine f208_ok ?_
  simp -implicitDefEqProofs only [f208_s, boxR_lit, boxR_func, mkNew_true, frzOf_frz, bQ_some, newW_own]
  intro a ha b hb
  have hab : a ≠ b := fun e => by subst e; simp at hb
  have hb0 : S b = none := by rwa [Store.set_ne _ _ _ hab.symm] at hb
  have hpa : p ≠ a := fun e => by subst e; rw [hp] at ha; cases ha
  have hpb : p ≠ b := fun e => by subst e; rw [hp] at hb0; cases hb0
  simp -implicitDefEqProofs only [ldv_fptr, ldc_false, List.getElem?_cons_zero, bQ_some]
  refine f351_c p key _ ?_
  refine f208_R1_pt rfl hasBody437 fun t fn D ht => ?_
  have htb : t ≠ b := fun e => by subst e; simp at ht
  have hta : t ≠ a := fun e => by subst e; rw [Store.set_ne _ _ _ htb] at ht; simp at ht
  have ht0 : S t = none := by rwa [Store.set_ne _ _ _ htb, Store.set_ne _ _ _ hta] at ht
  have hpt : p ≠ t := fun e => by subst e; rw [hp] at ht0; cases ht0
  obtain ⟨R, hR⟩ : ∃ R, R = f208_rec1 (.fptr [sv key] 0) (.fptr [.func (.func go) [] co] 0) (.fptr [.func (.func gi) [] ci] 0) (.ptr a 0 0) (.ptr b 0 0) (.func (.func 437) [] [.fptr [.ptr p 0 0] 0, .fptr [sv key] 0]) fn D := ⟨_, rfl⟩
  rw [← hR]
  let I : List (List Ver) → Store → Prop := fun pre S' => ∃ v S0, Grow 112 8 S0 ((someC key ov [] pre.flatten).1.map Ver.cs) v S' ∧ S0 a = some (.row 22 1 [[nilS]]) ∧ S0 b = some (.row 22 1 [[v]]) ∧ S0 t = some (R .ready none) ∧ Sub S S0 ∧ (someC key ov [] pre.flatten).2 = false
  let J : List (List Ver) → Store → Prop := fun pre S' => ∃ v S0, Grow 112 8 S0 ((someC key ov [] pre.flatten).1.map Ver.cs) v S' ∧ S0 a = some (.row 22 1 [[v]]) ∧ S0 b = some (.row 22 1 [[v]]) ∧ S0 t = some (R .done (some .ret)) ∧ Sub S S0 ∧ (someC key ov [] pre.flatten).2 = true
  have hflat : ∀ (k : Nat) (pre : List (List Ver)), (∃ r, pre ++ r = (chunk8 l).drop k) → pre.flatten.length ≤ l.length := by
    rintro k pre ⟨r, hr⟩
    have h1 : ((chunk8 l).drop k).flatten.length ≤ l.length := by
      have : ((chunk8 l).take k).flatten ++ ((chunk8 l).drop k).flatten = l := by rw [← List.flatten_append, List.take_append_drop, chunk8_flat]
      have := congrArg List.length this
      simp only [List.length_append] at this; omega
    rw [← hr, List.flatten_append, List.length_append] at h1; omega
  refine f437_c l hl hB hr hk key t p I J (fun pre S' ⟨v, S0, hg, _, _, _, gs, _⟩ => hg.get (gs p _ hp)) (fun k => (chunk8 l).drop (k - 1)) (fun k => rfl) ?_ _ ?_ ?_
  ·
    rintro at' pre c S' K ⟨r, hr⟩ ⟨v, S0, hg, ga, gb, gt, gs, hf⟩ hK1 hK2
    have hcm : c ∈ chunk8 l := List.mem_of_mem_drop (i := at' - 1) (by rw [← hr]; simp)
    obtain ⟨hc1, hc8⟩ := chunkF_mem _ _ _ hcm
    have hpl := hflat (at' - 1) pre ⟨c :: r, hr⟩
    have hsl := someC_len key ov pre.flatten []
    have happ : someC key ov [] (pre ++ [c]).flatten = someC key ov (someC key ov [] pre.flatten).1 c := by
      rw [List.flatten_append, someC_app, hf]; simp
    have hSt := hg.get gt
    have hSt' := hSt
    rw [hR] at hSt'
    refine f208_Y1_pt hSt' fun l' => ?_
    rw [← hR]
    apply f208_as1_pt
    refine ⟨rfl, hSt, ?_⟩
    apply f208_bo1_pt
    have hgb := hg.upd gt (R .busy none)
    simp -implicitDefEqProofs only [f208_bo1, aln_svals, List.length_map, bQ_some]
    have fin : ∀ (R2 : List Ver × Bool), R2 = someC key ov (someC key ov [] pre.flatten).1 c → f208_L2 l' (f208_K1 l' (roundK t R K)) (.fptr [sv key] 0) (.fptr [.func (.func go) [] co] 0) (.fptr [.func (.func gi) [] ci] 0) (.ptr a 0 0) (.ptr b 0 0) (vers c) (iv c.length) (iv (0 : Nat)) (S'.set t (R .busy none)) := by
      intro R2 hR2
      refine f208_loop key ov _ _ hov his l' a b t hab hta htb (R .busy none) S hb0 c (by omega) _ R2 ?_ ?_ ha c.length 0 (someC key ov [] pre.flatten).1 v _ _ rfl ?_ (by rw [hR2]; simp) hgb ?_ ?_ (Store.set_same _ _ _) (gs.set ht0)
      · intro hf2 v2 Sx S2 q1 q2 q3 q4 q5
        apply f208_K1_e2_pt
        refine ⟨q1.get q4, ?_⟩
        refine hK1 _ ⟨v2, _, by rw [happ, ← hR2]; exact q1.upd q4 (R .ready none), ?_, ?_, Store.set_same _ _ _, q5.set ht0, by rw [happ, ← hR2]; exact hf2⟩
        · rw [Store.set_ne _ _ _ hta.symm]; exact q2
        · rw [Store.set_ne _ _ _ htb.symm]; exact q3
      · intro hf2 v2 Sx S2 q1 q2 q3 q4 q5
        apply f208_K1_ret_pt
        refine ⟨q1.get q4, ?_⟩
        refine hK2 _ ⟨v2, _, by rw [happ, ← hR2]; exact q1.upd q4 (R .done (some .ret)), ?_, ?_, Store.set_same _ _ _, q5.set ht0, by rw [happ, ← hR2]; exact hf2⟩
        · rw [Store.set_ne _ _ _ hta.symm]; exact q2
        · rw [Store.set_ne _ _ _ htb.symm]; exact q3
      · simp only [List.length_nil, Nat.zero_add] at hsl; omega
      · rw [Store.set_ne _ _ _ hta.symm]; exact ga
      · rw [Store.set_ne _ _ _ htb.symm]; exact gb
    exact fin _ rfl
  · refine ⟨nilS, _, .nil, ?_, ?_, Store.set_same _ _ _, (((Sub.refl S).set ha).set hb0).set ht0, rfl⟩
    · rw [Store.set_ne _ _ _ hta.symm, Store.set_ne _ _ _ hab]; simp
    · rw [Store.set_ne _ _ _ htb.symm]; simp
  · intro at' h1 h2
    have hq := h at' h1 h2
    constructor
    · rintro S' ⟨v, S0, hg, ga, gb, gt, gs, hf⟩
      refine ⟨.ready, none, hg.get gt, by simp, ?_⟩
      show f208_K2 Q .normal (ofL [(8, .ptr a 0 0), (9, .ptr b 0 0)]) _
      apply f208_K2_normal_pt
      have hg2 := hg.erase gt
      have ga2 : (S0.erase t) a = some (.row 22 1 [[nilS]]) := by rw [Store.erase_ne _ _ hta.symm]; exact ga
      have gb2 : (S0.erase t) b = some (.row 22 1 [[v]]) := by rw [Store.erase_ne _ _ htb.symm]; exact gb
      have e1 := ldv_at (o := 0) (hg2.get gb2)
      simp only [List.getElem?_cons_zero] at e1
      simp -implicitDefEqProofs only [f208_K2_normal, e1, bQ_some]
      rw [stv_at (hg2.get ga2) hg2.ok.1 hg2.ok.2 (by simp), thenS_some]
      simp only [List.set_cons_zero]
      have hg3 := hg2.upd ga2 (.row 22 1 [[v]])
      have e2 := ldv_at (o := 0) (hg3.get (Store.set_same _ a (.row 22 1 [[v]])))
      simp only [List.getElem?_cons_zero] at e2
      rw [e2]
      simp only [resC_some, Option.map_some, retW_one]
      exact ⟨_, S, hg3.ent.trans (.drop ((gs.erase ht0).set ha)), hq⟩
    · rintro pre S' ⟨r, hr⟩ ⟨v, S0, hg, ga, gb, gt, gs, hf⟩
      refine ⟨.done, some .ret, hg.get gt, by simp, ?_⟩
      show f208_K2 Q .ret (ofL [(8, .ptr a 0 0), (9, .ptr b 0 0)]) _
      apply f208_K2_ret_pt
      have hg2 := hg.erase gt
      have ga2 : (S0.erase t) a = some (.row 22 1 [[v]]) := by rw [Store.erase_ne _ _ hta.symm]; exact ga
      have e1 := ldv_at (o := 0) (hg2.get ga2)
      simp only [List.getElem?_cons_zero] at e1
      simp -implicitDefEqProofs only [f208_K2_ret, e1, resC_some, Option.map_some, retW_one]
      have happ : someC key ov [] ((chunk8 l).drop (at' - 1)).flatten = someC key ov [] pre.flatten := by
        rw [← hr, List.flatten_append, someC_app, hf, if_pos rfl]
      rw [happ] at hq
      exact ⟨_, S, hg2.ent.trans (.drop (gs.erase ht0)), hq⟩
end Go.Du
namespace Go.Du
open Go
attribute [local irreducible] ATriple W evP AI
theorem less_key {a b : Ver} (h : a.less b = true) : bl b.key a.key = false := by
  unfold Ver.less at h
  split at h
  · exact bl_asymm h
  · rename_i e
    have : a.key = b.key := by simpa using e
    rw [this]; exact bl_irrefl _
theorem chain_keys (l : List Ver) (hl : chainOk l) : ∀ i j (hi : i < l.length) (hj : j < l.length), i ≤ j → bl (l[j]).key (l[i]).key = false := by
  have : ∀ (d i : Nat) (h : i + d < l.length), bl (l[i + d]).key (l[i]'(by omega)).key = false := by
    intro d
    induction d with
    | zero => intro i h; exact bl_irrefl _
    | succ d ih =>
      intro i h
      have h1 := ih i (by omega)
      have h2 := less_key ((hl (i + (d + 1)) h).2.2 (by omega))
      simp only [show i + (d + 1) - 1 = i + d by omega] at h2
      cases e : bl (l[i + (d + 1)]).key (l[i]'(by omega)).key with
      | false => rfl
      | true => rw [bl_trans_le e h1] at h2; cases h2
  intro i j hi hj hij
  have := this (j - i) i (by omega)
  simpa [show i + (j - i) = j by omega] using this
theorem someC_filter (key : Bs) (ov : Bs → Bool) (hov : ∀ a b, ov a = true → bl b a = false → ov b = true) : ∀ (L acc : List Ver), (∀ i j (hi : i < L.length) (hj : j < L.length), i ≤ j → bl (L[j]).key (L[i]).key = false) →
    (someC key ov acc L).1 = acc ++ L.filter fun v => !ov v.key && !bl v.key key := by
  intro L
  induction L with
  | nil => intro acc _; simp [someC]
  | cons v L ih =>
    intro acc hs
    simp only [someC]
    cases ho : ov v.key with
    | true =>
      simp only [if_true]
      have : (v :: L).filter (fun v => !ov v.key && !bl v.key key) = [] := by
        rw [List.filter_eq_nil_iff]
        intro x hx
        obtain ⟨j, hj, rfl⟩ := List.mem_iff_getElem.1 hx
        have := hov _ _ ho (hs 0 j (by simp) hj (by omega))
        simp [this]
      rw [this, List.append_nil]
    | false =>
      simp only [Bool.false_eq_true, if_false]
      have hs' : ∀ i j (hi : i < L.length) (hj : j < L.length), i ≤ j → bl (L[j]).key (L[i]).key = false := fun i j hi hj hij => by
        have := hs (i + 1) (j + 1) (by simpa using hi) (by simpa using hj) (by omega)
        simpa using this
      rw [ih _ hs', List.filter_cons, ho]
      cases hb : bl v.key key <;> simp
theorem chunk8_drop (m : Nat) : ∀ l : List Ver, ((chunk8 l).drop m).flatten = l.drop (8 * m) := by
  induction m with
  | zero => intro l; simp [chunk8_flat]
  | succ m ih =>
    intro l
    by_cases hne : l = []
    · subst hne; simp [chunk8_nil]
    · rw [chunk8_cons l hne, List.drop_succ_cons, ih, List.drop_drop]; congr 1; omega
theorem fnc_get (m : Nat) : ∀ (l : List Ver) (h : m < (chunk8 l).length), 8 * m < l.length ∧ ∀ h2 : 8 * m < l.length, headKey (chunk8 l)[m] = (l[8 * m]).key := by
  induction m with
  | zero =>
    intro l h
    have hne : l ≠ [] := fun e => by subst e; simp [chunk8_nil] at h
    have hp : 0 < l.length := List.length_pos_iff.2 hne
    refine ⟨by omega, fun h2 => ?_⟩
    have e : (chunk8 l)[0]'h = l.take 8 := by simp [chunk8_cons l hne]
    rw [e, ← headKey_get _ (by simp; omega)]; simp
  | succ m ih =>
    intro l h
    have hne : l ≠ [] := fun e => by subst e; simp [chunk8_nil] at h
    have hlen : (chunk8 l).length = (chunk8 (l.drop 8)).length + 1 := by rw [chunk8_cons l hne]; simp
    have h1 : m < (chunk8 (l.drop 8)).length := by omega
    obtain ⟨a, b⟩ := ih (l.drop 8) h1
    simp only [List.length_drop] at a
    refine ⟨by omega, fun h2 => ?_⟩
    have e : (chunk8 l)[m + 1]'h = (chunk8 (l.drop 8))[m] := by simp [chunk8_cons l hne]
    rw [e, b (by simp; omega)]
    have e8 : 8 + 8 * m = 8 * (m + 1) := by omega
    simp only [List.getElem_drop, e8]
set_option maxRecDepth 100000 in
theorem f208_f (l : List Ver) (hl : chainOk l) (hB : l.length ≤ 100000) (hr : (blocksB (chunk8 l)).length ≤ 1099511627) (key : Bs) (ov : Bs → Bool) (hm : ∀ a b, ov a = true → bl b a = false → ov b = true) (go gi : FuncId) (co ci : List AV)
    (hov : ∀ k S (K : AV → Store → Prop), K (bv (ov k)) S → callW PR (.func (.func go) [] co) [sv k] S K) (his : ∀ (v : Ver) S (K : AV → Store → Prop), K (bv true) S → callW PR (.func (.func gi) [] ci) [v.av] S K)
    (p : Nat) (S : Store) (hp : S p = some (runOb l)) {Q : AV → Store → Prop} (h : Q (vers (l.filter fun v => !ov v.key && !bl v.key key)) S) :
    ATriple PR 208 [.ptr p 0 0, sv key, .func (.func go) [] co, .func (.func gi) [] ci] S Q := by
  have hk := chain_keys l hl
  refine f208_c l hl hB hr hk key ov go gi co ci hov his p S hp fun at' h1 h2 => ?_
  have hd := chunk8_drop (at' - 1) l
  rw [hd, someC_filter key ov hm _ _ (fun i j hi hj hij => by
    simp only [List.length_drop] at hi hj
    simp only [List.getElem_drop]
    exact hk _ _ _ _ (by omega)), List.nil_append]
  have e : l.filter (fun v => !ov v.key && !bl v.key key) = (l.drop (8 * (at' - 1))).filter fun v => !ov v.key && !bl v.key key := by
    conv => lhs; rw [← List.take_append_drop (8 * (at' - 1)) l]
    rw [List.filter_append]
    have : (l.take (8 * (at' - 1))).filter (fun v => !ov v.key && !bl v.key key) = [] := by
      rw [List.filter_eq_nil_iff]
      intro x hx
      obtain ⟨i, hi, rfl⟩ := List.mem_iff_getElem.1 hx
      simp only [List.length_take] at hi
      have hm1 : at' - 1 < (chunk8 l).length := by omega
      obtain ⟨q1, q2⟩ := fnc_get (at' - 1) l hm1
      have q3 := h2 (at' - 1) (by simpa using hm1) (by omega)
      simp only [fncs, List.getElem_map] at q3
      rw [q2 q1] at q3
      have q4 := bl_le_trans (hk i (8 * (at' - 1)) (by omega) q1 (by omega)) q3
      simp only [List.getElem_take, q4]
      simp
    rw [this, List.nil_append]
  rw [← e]; exact h
theorem hb209 : hasBody PR 209 = true := by kernel_rfl
theorem hb210 : hasBody PR 210 = true := by kernel_rfl
theorem hb211 : hasBody PR 211 = true := by kernel_rfl
theorem hb212 : hasBody PR 212 = true := by kernel_rfl
theorem hb352 : hasBody PR 352 = true := by kernel_rfl
theorem hb353 : hasBody PR 353 = true := by kernel_rfl
set_option maxRecDepth 100000 in
theorem f214_c (l : List Ver) (hl : chainOk l) (hB : l.length ≤ 100000) (hr : (blocksB (chunk8 l)).length ≤ 1099511627) (p : Nat) (S : Store) (hp : S p = some (runOb l)) {Q : AV → Store → Prop} (h : Q (vers l) S) : ATriple PR 214 [.ptr p 0 0] S Q := by
  refine f214_ok ?_
  simp -implicitDefEqProofs only [f214_s]
  refine f208_f l hl hB hr [] (fun _ => false) (fun a b h => by cases h) 352 353 [] [] ?_ ?_ p S hp ?_
  · intro k S K hK
    simp only [callW, hb352]
    refine f352_ok ?_
    simp -implicitDefEqProofs [f352_s]
    exact dropQ_self hK
  · intro v S K hK
    simp only [callW, hb353]
    refine f353_ok ?_
    simp -implicitDefEqProofs [f353_s]
    exact dropQ_self hK
  · have : l.filter (fun v => !false && !bl v.key []) = l := by
      rw [List.filter_eq_self]
      intro v _
      have : bl v.key [] = false := by cases v.key <;> rfl
      simp [this]
    rw [this]
    exact dropQ_self h
set_option maxRecDepth 100000 in
theorem f81_c (l : List Ver) (hl : chainOk l) (hB : l.length ≤ 100000) (hr : (blocksB (chunk8 l)).length ≤ 1099511627) (key : Bs) (p : Nat) (S : Store) (hp : S p = some (runOb l)) {Q : AV → Store → Prop} (h : Q (vers (ofF l key)) S) : ATriple PR 81 [.ptr p 0 0, sv key] S Q := by
  refine f81_ok ?_
  simp -implicitDefEqProofs only [f81_s, boxR_lit, mkNew_true, frzOf_frz, bQ_some, ldv_fptr, ldc_false, List.getElem?_cons_zero]
  refine f208_f l hl hB hr key (fun k => !(bl k key || k == key)) ?_ 209 210 [.fptr [sv key] 0] [] ?_ ?_ p S hp ?_
  · intro a b ha hb
    simp only [Bool.not_eq_true', Bool.or_eq_false_iff, beq_eq_false_iff_ne, ne_eq] at ha ⊢
    have h1 := bl_tot _ _ ha.1 ha.2
    have h2 : bl key b = true := bl_trans_le h1 hb
    refine ⟨bl_asymm h2, fun e => ?_⟩
    rw [e, bl_irrefl] at h2; cases h2
  · intro k S K hK
    simp only [callW, hb209]
    refine f209_ok ?_
    simp -implicitDefEqProofs only [List.nil_append, List.cons_append, f209_s, ldv_fptr, ldc_false, List.getElem?_cons_zero, bQ_some, abi_sgtr]
    exact dropQ_self hK
  · intro v S K hK
    simp only [callW, hb210]
    refine f210_ok ?_
    simp -implicitDefEqProofs [f210_s]
    exact dropQ_self hK
  · have : l.filter (fun v => !(!(bl v.key key || v.key == key)) && !bl v.key key) = ofF l key := by
      unfold ofF
      congr 1
      funext v
      by_cases e : v.key = key
      · rw [e, bl_irrefl]; simp
      · have : (v.key == key) = false := by simpa using e
        rw [this]; cases bl v.key key <;> rfl
    rw [this]
    exact dropQ_self h
set_option maxRecDepth 100000 in
theorem f83_c (l : List Ver) (hl : chainOk l) (hB : l.length ≤ 100000) (hr : (blocksB (chunk8 l)).length ≤ 1099511627) (key key2 : Bs) (p : Nat) (S : Store) (hp : S p = some (runOb l)) {Q : AV → Store → Prop} (h : Q (vers (rangeF l key key2)) S) : ATriple PR 83 [.ptr p 0 0, sv key, sv key2] S Q := by
  refine f83_ok ?_
  simp -implicitDefEqProofs only [f83_s, boxR_lit, mkNew_true, frzOf_frz, bQ_some]
  refine f208_f l hl hB hr key (fun k => !bl k key2) ?_ 211 212 [.fptr [sv key2] 0] [] ?_ ?_ p S hp ?_
  · intro a b ha hb
    simp only [Bool.not_eq_true'] at ha ⊢
    cases e : bl b key2 with
    | false => rfl
    | true => rw [bl_le_trans hb e] at ha; cases ha
  · intro k S K hK
    simp only [callW, hb211]
    refine f211_ok ?_
    simp -implicitDefEqProofs only [List.nil_append, List.cons_append, f211_s, ldv_fptr, ldc_false, List.getElem?_cons_zero, bQ_some, abi_sgeq]
    exact dropQ_self hK
  · intro v S K hK
    simp only [callW, hb212]
    refine f212_ok ?_
    simp -implicitDefEqProofs [f212_s]
    exact dropQ_self hK
  · have : l.filter (fun v => !(!bl v.key key2) && !bl v.key key) = rangeF l key key2 := by
      unfold rangeF
      congr 1
      funext v
      show (!(!bl v.key key2) && !bl v.key key) = (!bl v.key key && bl v.key key2)
      cases bl v.key key2 <;> cases bl v.key key <;> rfl
    rw [this]
    exact dropQ_self h
end Go.Du
namespace Go.Du
open Go
def mthOk (P : Program) (ty : TypeId) (name : String) (g : FuncId) : Bool :=
  (match P.info? ty with
   | some i => (match i.methods.find? (·.name == name) with
     | some m => m.path.isEmpty && (match m.func with | some (f, pr) => f == g && pr | none => false)
     | none => false)
   | none => false) && (match P.underlying ty with | some (.pointer _) => true | _ => false)
theorem AInv_ptr {P : Program} (hP : NoNG P) {ty : TypeId} {v : AV} {name : String} {g : FuncId} (hb : hasBody P g = true) (hm : mthOk P ty name g = true) (hok : okC v = true) {args : List AV} {S : Store} {K : AV → Store → Prop} (h : ATriple P g (v :: args) S K) : AInv P (.iface ty v) name args S K := by
  refine AInv_found hP hb (fun v' w _ => ?_) hok h
  unfold mthOk at hm
  rw [Bool.and_eq_true] at hm
  obtain ⟨h1, h2⟩ := hm
  cases hi : P.info? ty with
  | none => simp [hi] at h1
  | some i =>
    simp only [hi] at h1
    cases hf : i.methods.find? (·.name == name) with
    | none => simp [hf] at h1
    | some m =>
      simp only [hf, Bool.and_eq_true] at h1
      obtain ⟨hp, hg⟩ := h1
      have hpath : m.path = #[] := by simpa [Array.isEmpty] using hp
      cases hmf : m.func with
      | none => simp [hmf] at hg
      | some fp =>
        obtain ⟨f, pr⟩ := fp
        simp only [hmf, Bool.and_eq_true, beq_iff_eq] at hg
        obtain ⟨rfl, rfl⟩ := hg
        cases hu : P.underlying ty with
        | none => simp [hu] at h2
        | some d =>
          cases d <;> simp [hu] at h2
          rename_i e
          have hd : P.types.size + Made.depth = (P.types.size + (Made.depth - 1)) + 1 := by simp [Made.depth]
          rw [hd]
          simp only [method, Sem.run_bind, typeInfo]
          simp [hi, hf, hpath, hmf, follow, receiverAt, run_underlying hu, Place.get, Result.andThen]
end Go.Du
namespace Go.Du
open Go
set_option maxRecDepth 1000000
section
open Go.Proofs
variable {S : Store} {Q : QT} {K : AK} {t0 t1 t2 t3 t4 t5 t7 t8 t9 t10 t12 t13 t14 : AV}
noncomputable def f484_a1 : Ann := .two (rg 1 0 0) (.two (rg 2 0 0) (.two (.one (.loop [0, 1, 2, 7])) (.two (rg 4 0 0) (.nil))))
noncomputable def f484_c1 : Code := (cl (cl (cl (cr (cr (bodyOf Tryz.f484))))))
noncomputable def f484_a2 : Ann := .one (.two (rg 4 0 0) (.two (.two (rg 7 0 0) (.two (.nil) (.nil))) (.two (rg 2 0 0) (.join [0, 1, 2, 7, 9] (.two (rg 3 0 0) (.two (rg 9 128 0) (.two (rg 2 0 0) (.nil)))) (.two (.two (rg 5 8 0) (.two (.nil) (.nil))) (.two (rg 4 8 0) (rg 2 0 0)))))))
noncomputable def f484_c2 : Code := (cr (cr (cr (cr (cl (cl (cl (cl (cr (cr (bodyOf Tryz.f484)))))))))))
noncomputable def f484_c3 : Code := (cr (cr (cr (bodyOf Tryz.f484))))
def f484_L1 (K : AK) (t0 t1 t2 t7 : AV) (S : Store) : Prop := AI PR none 48 [.code f484_c1, .inLoop f484_c1] K (ofL [(0, t0), (1, t1), (2, t2), (7, t7)]) S
def f484_J2 (K : AK) (t0 t1 t2 t7 t9 : AV) (S : Store) : Prop := AWp PR none 48 f484_c2 (AK.block 1 (AK.andThen (fun st S => AI PR none 48 [.code f484_c1, .inLoop f484_c1] K (mask [0, 1, 2, 7] st) S) (mskK [1, 7] K))) (ofL [(0, t0), (1, t1), (2, t2), (7, t7), (9, t9)]) S
def f484_j2 (K : AK) (t0 t1 t2 t7 t9 : AV) (S : Store) : Prop := AInv PR t0 "Less" [t9, t7] S fun t38 S_1 => bQ (aun .not t38) fun t39 => condW t39 (K (.exit 0) (ofL [(1, t1), (7, t7)]) S_1) (AInv PR t0 "Swap" [t7, t9] S_1 fun t43 S_2 => f484_L1 K t0 t1 t2 t9 S_2)
theorem f484_J2_pt : f484_j2 K t0 t1 t2 t7 t9 S → f484_J2 K t0 t1 t2 t7 t9 S := fun h => pJ ((ar (ar (ar (ar (al f484_a2)))))) h
def f484_l1 (K : AK) (t0 t1 t2 t7 : AV) (S : Store) : Prop := bQ (abi .mul (iv 2) t7) fun t13 => bQ (abi .add t13 (iv 1)) fun t14 => bQ (abi .geq t14 t2) fun t17 => gdQ t17 false (some t14) fun t19 => gdQ t17 false (abi .lss t19 (iv 0)) fun t20 => bQ (apick t17 (bv true) t20) fun t21 => condW t21 (K (.exit 0) (ofL [(1, t1), (7, t7)]) S) (bQ (abi .add t14 (iv 1)) fun t24 => bQ (abi .lss t24 t2) fun t27 => gdQ t27 true (some t0) fun t29 => gdQ t27 true (some t24) fun t30 => gdQ t27 true (some t14) fun t31 => gdE t27 true (fun K => AInv PR t29 "Less" [t30, t31] S K) S fun t32 S_1 => bQ (apick t27 t32 (bv false)) fun t33 => condW t33 (f484_J2 K t0 t1 t2 t7 t24 S_1) (f484_J2 K t0 t1 t2 t7 t14 S_1))
theorem f484_L1_pt : f484_l1 K t0 t1 t2 t7 S → f484_L1 K t0 t1 t2 t7 S := fun h => pL f484_a2 [0, 1, 2, 7] [1, 7] h
noncomputable def f484_K1 (Q : QT) : AK := (AK.block 0 (AK.andThen (fun st S => W PR none 48 f484_c3 ((ar (ar (ar f484_a1)))) (retK PR Tryz.f484 (dropQ Q)) st S) (retK PR Tryz.f484 (dropQ Q))))
def f484_K1_e0 (Q : QT) (t1 t7 : AV) (S : Store) : Prop := bQ (abi .gtr t7 t1) fun t47 => dropQ Q t47 S
theorem f484_K1_e0_pt : f484_K1_e0 Q t1 t7 S → f484_K1 Q (.exit 0) (ofL [(1, t1), (7, t7)]) S := castP (by kernel_rfl)
def f484_s (t0 t1 t2 : AV) (S : Store) (Q : QT) : Prop := f484_L1 (f484_K1 Q) t0 t1 t2 t1 S
theorem f484_ok : f484_s t0 t1 t2 S Q → ATriple PR 484 [t0, t1, t2] S Q := fun h => pF (fn := Tryz.f484) f484_a1 h
attribute [irreducible] f484_L1 f484_J2 f484_K1
noncomputable def f433_c1 : Code := (cl (cl (cr (cr (bodyOf Tryz.f433)))))
def f433_L1 (K : AK) (t0 t2 t3 : AV) (S : Store) : Prop := AI PR none 17 [.code f433_c1, .inLoop f433_c1] K (ofL [(0, t0), (2, t2), (3, t3)]) S
def f433_l1 (K : AK) (t0 t2 t3 : AV) (S : Store) : Prop := bQ (abi .geq t3 (iv 0)) fun t10 => condW t10 (ATriple PR 484 [t0, t3, t2] S fun t16 S_1 => bQ (abi .sub t3 (iv 1)) fun t12 => f433_L1 K t0 t2 t12 S_1) (K (.exit 0) (ofL []) S)
theorem f433_L1_pt : f433_l1 K t0 t2 t3 S → f433_L1 K t0 t2 t3 S := fun h => pL (.two (.two (rg 2 0 0) (.two (.nil) (.nil))) (.two (.one (rg 4 8 0)) (rg 3 0 0))) [0, 2, 3] [] h
noncomputable def f433_K1 (Q : QT) : AK := (AK.block 0 (retK PR Tryz.f433 (dropQ Q)))
def f433_K1_e0 (Q : QT) (S : Store) : Prop := dropQ Q (.tuple []) S
theorem f433_K1_e0_pt : f433_K1_e0 Q S → f433_K1 Q (.exit 0) (ofL []) S := castP (by kernel_rfl)
def f433_s (t0 : AV) (S : Store) (Q : QT) : Prop := AInv PR t0 "Len" [] S fun t5 S_1 => bQ (abi .quo t5 (iv 2)) fun t7 => bQ (abi .sub t7 (iv 1)) fun t8 => f433_L1 (f433_K1 Q) t0 t5 t8 S_1
theorem f433_ok : f433_s t0 S Q → ATriple PR 433 [t0] S Q := fun h => pF (fn := Tryz.f433) (.two (rg 3 2 0) (.two (rg 4 0 0) (.one (.loop [0, 2, 3])))) h
attribute [irreducible] f433_L1 f433_K1
def f434_s (t0 : AV) (S : Store) (Q : QT) : Prop := bQ (anil t0) fun t4 => bQ (padd t4 0) fun t5 => bQ (ldv false 1 t5 S) fun t6 => bQ (aln .slice t6 S) fun t7 => dropQ Q t7 S
theorem f434_ok : f434_s t0 S Q → ATriple PR 434 [t0] S Q := fun h => pF (fn := Tryz.f434) (.two (rg 1 0 0) (.two (rg 6 0 0) (.nil))) h
noncomputable def f485_c1 : Code := (cl (cl (bodyOf Tryz.f485)))
def f485_L1 (K : AK) (t0 t1 : AV) (S : Store) : Prop := AI PR none 23 [.code f485_c1, .inLoop f485_c1] K (ofL [(0, t0), (1, t1)]) S
def f485_l1 (K : AK) (t0 t1 : AV) (S : Store) : Prop := bQ (abi .sub t1 (iv 1)) fun t6 => bQ (abi .quo t6 (iv 2)) fun t7 => bQ (abi .eql t7 t1) fun t10 => gdQ t10 false (some t0) fun t12 => gdQ t10 false (some t1) fun t13 => gdQ t10 false (some t7) fun t14 => gdE t10 false (fun K => AInv PR t12 "Less" [t13, t14] S K) S fun t15 S_1 => gdQ t10 false (aun .not t15) fun t16 => bQ (apick t10 (bv true) t16) fun t17 => condW t17 (K (.exit 0) (ofL []) S_1) (AInv PR t0 "Swap" [t7, t1] S_1 fun t21 S_2 => f485_L1 K t0 t7 S_2)
theorem f485_L1_pt : f485_l1 K t0 t1 S → f485_L1 K t0 t1 S := fun h => pL (.one (.two (rg 4 0 0) (.two (.two (rg 10 128 0) (.two (.nil) (.nil))) (.two (rg 4 8 0) (rg 2 0 0))))) [0, 1] [] h
noncomputable def f485_K1 (Q : QT) : AK := (AK.block 0 (retK PR Tryz.f485 (dropQ Q)))
def f485_K1_e0 (Q : QT) (S : Store) : Prop := dropQ Q (.tuple []) S
theorem f485_K1_e0_pt : f485_K1_e0 Q S → f485_K1 Q (.exit 0) (ofL []) S := castP (by kernel_rfl)
def f485_s (t0 t1 : AV) (S : Store) (Q : QT) : Prop := f485_L1 (f485_K1 Q) t0 t1 S
theorem f485_ok : f485_s t0 t1 S Q → ATriple PR 485 [t0, t1] S Q := fun h => pF (fn := Tryz.f485) (.one (.loop [0, 1])) h
attribute [irreducible] f485_L1 f485_K1
def f435_s (t0 t1 : AV) (S : Store) (Q : QT) : Prop := AInv PR t0 "Len" [] S fun t7 S_1 => bQ (abi .sub t7 (iv 1)) fun t8 => bQ (abi .neq t8 t1) fun t11 => condW t11 (AInv PR t0 "Swap" [t1, t8] S_1 fun t15 S_2 => ATriple PR 484 [t0, t1, t8] S_2 fun t19 S_3 => bQ (aun .not t19) fun t20 => condW t20 (ATriple PR 485 [t0, t1] S_3 fun t23 S_4 => AInv PR t0 "Pop" [] S_4 fun t25 S_5 => dropQ Q t25 S_5) (AInv PR t0 "Pop" [] S_3 fun t25_1 S_6 => dropQ Q t25_1 S_6)) (AInv PR t0 "Pop" [] S_1 fun t25_2 S_7 => dropQ Q t25_2 S_7)
theorem f435_ok : f435_s t0 t1 S Q → ATriple PR 435 [t0, t1] S Q := fun h => pF (fn := Tryz.f435) (.two (rg 1 0 0) (.two (rg 4 2 0) (.two (.two (rg 3 0 0) (.two (.two (rg 4 8 0) (.two (rg 5 8 0) (.two (rg 3 4 0) (.nil)))) (.nil))) (.two (rg 3 2 0) (.nil))))) h
def f436_s (t0 t1 : AV) (S : Store) (Q : QT) : Prop := AInv PR t0 "Len" [] S fun t7 S_1 => ATriple PR 484 [t0, t1, t7] S_1 fun t8 S_2 => bQ (aun .not t8) fun t9 => condW t9 (ATriple PR 485 [t0, t1] S_2 fun t12 S_3 => dropQ Q (.tuple []) S_3) (dropQ Q (.tuple []) S_2)
theorem f436_ok : f436_s t0 t1 S Q → ATriple PR 436 [t0, t1] S Q := fun h => pF (fn := Tryz.f436) (.two (rg 6 24 0) (.two (rg 3 4 0) (.nil))) h
noncomputable def f553_a1 : Ann := .two (rg 1 0 0) (.join [0, 7, 8] (.reg [0, 1, 3, 7, 0, 31, 63, 0, 128, 384, 896, 0, 3968, 8064, 0, 0, 49279, 131071] (pq 0 14 <| (.fork (.e 14 [(3, false), (5, false), (6, false), (10, false), (12, false), (13, false)] <| .e 15 [(3, false), (5, false), (6, false), (10, false), (12, false), (13, false)] <| .e 16 [(10, false), (12, false), (13, false)] <| .e 17 [] <| .done) (.e 15 [(3, false), (5, false), (6, false), (10, false), (12, false), (13, false)] <| .e 14 [(3, false), (5, false), (6, false), (10, false), (12, false), (13, false)] <| .e 16 [(10, false), (12, false), (13, false)] <| .e 17 [] <| .done)))) (.two (.two (.reg [0, 1, 3, 7, 0, 16, 48, 112, 0, 256, 768, 1792, 4095, 8191] (pq 0 12 <| .e 12 [] <| .q 13 false <| .done)) (.two (rg 2 0 0) (.two (.two (rg 3 0 0) (.nil)) (.nil)))) (.two (rg 6 0 0) (.nil))))
noncomputable def f553_c1 : Code := (cr (cr (bodyOf Tryz.f553)))
def f553_J1 (Q : QT) (t0 t7 t8 : AV) (S : Store) : Prop := AWp PR none 46 f553_c1 (retK PR Tryz.f553 (dropQ Q)) (ofL [(0, t0), (7, t7), (8, t8)]) S
def f553_j1 (Q : QT) (t0 t7 t8 : AV) (S : Store) : Prop := bQ (anil t0) fun t25 => bQ (padd t25 1) fun t26 => bQ (ldv false 1 t26 S) fun t27 => bQ (padd t7 0) fun t28 => bQ (ldv false 1 t28 S) fun t29 => bQ (ixA 8 t29 (iv 0) S) fun t30 => bQ (ldv true 8 t30 S) fun t31 => bQ (padd t8 0) fun t32 => bQ (ldv false 1 t32 S) fun t33 => bQ (ixA 8 t33 (iv 0) S) fun t34 => bQ (ldv true 8 t34 S) fun t35 => callW PR t27 [t31, t35] S fun t36 S_1 => bQ (abi .neq t36 (iv 0)) fun t38 => condW t38 (bQ (abi .lss t36 (iv 0)) fun t40 => dropQ Q t40 S_1) (bQ (padd t7 1) fun t41 => bQ (ldv false 1 t41 S_1) fun t42 => bQ (padd t8 1) fun t43 => bQ (ldv false 1 t43 S_1) fun t44 => bQ (abi .lss t42 t44) fun t45 => dropQ Q t45 S_1)
theorem f553_J1_pt : f553_j1 Q t0 t7 t8 S → f553_J1 Q t0 t7 t8 S := fun h => pJ ((ar (ar f553_a1))) h
def f553_s (t0 t1 t2 : AV) (S : Store) (Q : QT) : Prop := bQ (anil t0) fun t11 => bQ (padd t11 0) fun t12 => bQ (ldv false 1 t12 S) fun t13 => bQ (ixA 2 t13 t1 S) fun t15 => bQ (ldv true 2 t15 S) fun t16 => bQ (anil t0) fun t18 => bQ (padd t18 0) fun t19 => bQ (ldv false 1 t19 S) fun t20 => bQ (ixA 2 t20 t2 S) fun t22 => bQ (ldv true 2 t22 S) fun t23 => (newW (some (.own (.row 456 2 [[nilS, iv 0]]) fun u => .ptr u 0 0)) S fun t7 S_1 => ((ldv false 1 t12 S_1 = some t13) ∧ (ixA 2 t13 t1 S_1 = some t15) ∧ (ldv true 2 t15 S_1 = some t16) ∧ (ldv false 1 t19 S_1 = some t20) ∧ (ixA 2 t20 t2 S_1 = some t22) ∧ (ldv true 2 t22 S_1 = some t23) ∧ True) ∧ newW (some (.own (.row 456 2 [[nilS, iv 0]]) fun u => .ptr u 0 0)) S_1 fun t8 S_2 => ((ldv false 1 t12 S_2 = some t13) ∧ (ixA 2 t13 t1 S_2 = some t15) ∧ (ldv true 2 t15 S_2 = some t16) ∧ (ldv false 1 t19 S_2 = some t20) ∧ (ixA 2 t20 t2 S_2 = some t22) ∧ (ldv true 2 t22 S_2 = some t23) ∧ True) ∧ thenS (stv 2 t7 t16 S_2) fun _ S_3 => ((ldv false 1 t19 S_3 = some t20) ∧ (ixA 2 t20 t2 S_3 = some t22) ∧ (ldv true 2 t22 S_3 = some t23) ∧ True) ∧ thenS (stv 2 t8 t23 S_3) fun _ S_4 => f553_J1 Q t0 t7 t8 S_4) ∧ (newW (some (.own (.row 456 2 [[nilS, iv 0]]) fun u => .ptr u 0 0)) S fun t8_1 S_5 => ((ldv false 1 t12 S_5 = some t13) ∧ (ixA 2 t13 t1 S_5 = some t15) ∧ (ldv true 2 t15 S_5 = some t16) ∧ (ldv false 1 t19 S_5 = some t20) ∧ (ixA 2 t20 t2 S_5 = some t22) ∧ (ldv true 2 t22 S_5 = some t23) ∧ True) ∧ newW (some (.own (.row 456 2 [[nilS, iv 0]]) fun u => .ptr u 0 0)) S_5 fun t7_1 S_6 => ((ldv false 1 t12 S_6 = some t13) ∧ (ixA 2 t13 t1 S_6 = some t15) ∧ (ldv true 2 t15 S_6 = some t16) ∧ (ldv false 1 t19 S_6 = some t20) ∧ (ixA 2 t20 t2 S_6 = some t22) ∧ (ldv true 2 t22 S_6 = some t23) ∧ True) ∧ thenS (stv 2 t7_1 t16 S_6) fun _ S_7 => ((ldv false 1 t19 S_7 = some t20) ∧ (ixA 2 t20 t2 S_7 = some t22) ∧ (ldv true 2 t22 S_7 = some t23) ∧ True) ∧ thenS (stv 2 t8_1 t23 S_7) fun _ S_8 => f553_J1 Q t0 t7_1 t8_1 S_8)
theorem f553_ok : f553_s t0 t1 t2 S Q → ATriple PR 553 [t0, t1, t2] S Q := fun h => pF (fn := Tryz.f553) f553_a1 h
attribute [irreducible] f553_J1
def f555_s (t0 t1 t2 : AV) (S : Store) (Q : QT) : Prop := bQ (anil t0) fun t7 => bQ (padd t7 0) fun t8 => bQ (ldv false 1 t8 S) fun t9 => bQ (anil t0) fun t12 => bQ (padd t12 0) fun t13 => bQ (ldv false 1 t13 S) fun t14 => bQ (anil t0) fun t17 => bQ (padd t17 0) fun t18 => bQ (ldv false 1 t18 S) fun t19 => bQ (ixA 2 t19 t2 S) fun t21 => bQ (ldv true 2 t21 S) fun t22 => bQ (anil t0) fun t24 => bQ (padd t24 0) fun t25 => bQ (ldv false 1 t25 S) fun t26 => bQ (ixA 2 t26 t1 S) fun t28 => bQ (ldv true 2 t28 S) fun t29 => bQ (ixA 2 t9 t1 S) fun t30 => thenS (stv 2 t30 t22 S) fun _ S_1 => bQ (ixA 2 t14 t2 S_1) fun t31 => thenS (stv 2 t31 t29 S_1) fun _ S_2 => dropQ Q (.tuple []) S_2
theorem f555_ok : f555_s t0 t1 t2 S Q → ATriple PR 555 [t0, t1, t2] S Q := fun h => pF (fn := Tryz.f555) (.reg [0, 1, 3, 7, 0, 0, 32, 96, 224, 0, 0, 1024, 3072, 7168, 0, 31744, 64512, 0, 131072, 393216, 917504, 0, 4063232, 8257536, 16776703, 33553919, 67108863, 134217727] (pq 0 25 <| .e 25 [] <| .q 26 false <| .e 27 [] <| .done)) h
def f554_s (t0 : AV) (S : Store) (Q : QT) : Prop := bQ (anil t0) fun t5 => bQ (padd t5 0) fun t6 => bQ (ldv false 1 t6 S) fun t7 => bQ (anil t0) fun t9 => bQ (padd t9 0) fun t10 => bQ (ldv false 1 t10 S) fun t11 => bQ (aln .slice t11 S) fun t12 => bQ (abi .sub t12 (iv 1)) fun t13 => bQ (ixA 2 t7 t13 S) fun t14 => bQ (ldv true 2 t14 S) fun t15 => newW (some (.own (.row 456 2 [[nilS, iv 0]]) fun u => .ptr u 0 0)) S fun t3 S_1 => ((ldv false 1 t6 S_1 = some t7) ∧ (ldv false 1 t10 S_1 = some t11) ∧ (ixA 2 t7 t13 S_1 = some t14) ∧ (ldv true 2 t14 S_1 = some t15) ∧ True) ∧ thenS (stv 2 t3 t15 S_1) fun _ S_2 => bQ (anil t0) fun t18 => bQ (padd t18 0) fun t19 => bQ (ldv false 1 t19 S_2) fun t20 => bQ (anil t0) fun t22 => bQ (padd t22 0) fun t23 => bQ (ldv false 1 t23 S_2) fun t24 => bQ (aln .slice t24 S_2) fun t25 => bQ (abi .sub t25 (iv 1)) fun t26 => bQ (sliceV 2 t20 none (some t26) none S_2) fun t27 => bQ (anil t0) fun t28 => bQ (padd t28 0) fun t29 => thenS (stv 1 t29 t27 S_2) fun _ S_3 => bQ (ldv true 2 t3 S_3) fun t30 => dropQ Q (.iface 456 t30) S_3
theorem f554_ok : f554_s t0 S Q → ATriple PR 554 [t0] S Q := fun h => pF (fn := Tryz.f554) (.two (rg 1 0 0) (.two (.reg [0, 1, 3, 7, 0, 16, 48, 112, 240, 496, 1023, 2047, 0, 8191] (pq 0 12 <| .e 12 [(3, false), (7, false), (10, false), (11, false)] <| .e 13 [] <| .done)) (.two (.reg [0, 0, 2, 6, 14, 0, 32, 96, 224, 480, 992, 2046, 4095, 8191, 16383] (pq 0 14 <| .e 14 [] <| .done)) (.two (rg 3 0 0) (.nil))))) h
noncomputable def f432_a1 : Ann := .two (rg 4 4 0) (.two (.two (rg 3 0 0) (.one (.loop [0, 4, 12, 13, 14]))) (.two (rg 3 4 0) (.one (.loop [0, 4]))))
noncomputable def f432_c1 : Code := (cl (cl (cr (cl (cr (bodyOf Tryz.f432))))))
noncomputable def f432_c2 : Code := (cr (cr (bodyOf Tryz.f432)))
noncomputable def f432_c3 : Code := (cl (cl (cr (cr (cr (bodyOf Tryz.f432))))))
noncomputable def f432_a4 : Ann := .two (.two (rg 3 2 0) (.two (.nil) (.nil))) (.one (.two (rg 6 0 0) (.two (rg 8 192 0) (.join [0, 4, 8] (.two (rg 9 256 0) (.two (rg 6 0 0) (.two (rg 3 4 0) (rg 3 4 0)))) (.two (rg 4 4 0) (.two (.nil) (.nil)))))))
noncomputable def f432_c4 : Code := (cr (cr (cr (cl (cr (cl (cl (cr (cr (cr (bodyOf Tryz.f432)))))))))))
def f432_L1 (K : AK) (t0 t4 t12 t13 t14 : AV) (S : Store) : Prop := AI PR none 76 [.code f432_c1, .inLoop f432_c1] K (ofL [(0, t0), (4, t4), (12, t12), (13, t13), (14, t14)]) S
def f432_l1 (K : AK) (t0 t4 t12 t13 t14 : AV) (S : Store) : Prop := bQ (abi .lss t14 t13) fun t15 => condW t15 (bQ (ixA 1 t12 t14 S) fun t17 => bQ (ldv false 1 t17 S) fun t18 => bQ (aln .slice t18 S) fun t20 => bQ (abi .gtr t20 (iv 0)) fun t21 => condW t21 (bQ (anil t4) fun t24 => bQ (padd t24 0) fun t25 => bQ (ldv false 1 t25 S) fun t26 => bQ (abld [nilS, iv 0] [(0, 1, t18), (1, 1, t14)]) fun t29 => bQ (frzOf (bslR true 2 456 2 1 1 [(0, t29)])) fun t30 => apW (some (456, 2, 32, .slice)) t26 t30 S fun t31 S_1 => bQ (anil t4) fun t32 => bQ (padd t32 0) fun t33 => thenS (stv 1 t33 t31 S_1) fun _ S_2 => bQ (abi .add t14 (iv 1)) fun t34 => f432_L1 K t0 t4 t12 t13 t34 S_2) (bQ (abi .add t14 (iv 1)) fun t34_1 => f432_L1 K t0 t4 t12 t13 t34_1 S)) (K (.exit 0) (ofL [(0, t0), (4, t4)]) S)
theorem f432_L1_pt : f432_l1 K t0 t4 t12 t13 t14 S → f432_L1 K t0 t4 t12 t13 t14 S := fun h => pL (.two (rg 1 0 0) (.two (.two (.nil) (.nil)) (.two (.one (.two (rg 5 0 0) (.two (rg 3 0 0) (.two (rg 13 4608 256) (.nil))))) (rg 2 0 0)))) [0, 4, 12, 13, 14] [0, 4] h
noncomputable def f432_K1 (Q : QT) : AK := (AK.block 0 (AK.andThen (fun st S => W PR none 76 f432_c2 ((ar (ar f432_a1))) (retK PR Tryz.f432 (dropQ Q)) st S) (retK PR Tryz.f432 (dropQ Q))))
def f432_L2 (K : AK) (t0 t4 : AV) (S : Store) : Prop := AI PR none 76 [.code f432_c3, .inLoop f432_c3] K (ofL [(0, t0), (4, t4)]) S
def f432_J3 (K : AK) (t0 t4 t8 : AV) (S : Store) : Prop := AWp PR none 76 f432_c4 (AK.block 3 (AK.andThen (fun st S => AI PR none 76 [.code f432_c3, .inLoop f432_c3] K (mask [0, 4] st) S) (mskK [] K))) (ofL [(0, t0), (4, t4), (8, t8)]) S
def f432_j3 (K : AK) (t0 t4 t8 : AV) (S : Store) : Prop := bQ (ldv true 8 t8 S) fun t73 => callW PR t0 [t73] S fun t74 S_1 => bQ (aun .not t74) fun t75 => condW t75 (K .ret (ofL []) S_1) (f432_L2 K t0 t4 S_1)
theorem f432_J3_pt : f432_j3 K t0 t4 t8 S → f432_J3 K t0 t4 t8 S := fun h => pJ ((ar (ar (ar (al (ar f432_a4)))))) h
def f432_l2 (K : AK) (t0 t4 : AV) (S : Store) : Prop := ATriple PR 434 [t4] S fun t39 S_1 => bQ (abi .gtr t39 (iv 0)) fun t40 => condW t40 (bQ (anil t4) fun t42 => bQ (padd t42 0) fun t43 => bQ (ldv false 1 t43 S_1) fun t44 => bQ (ixA 2 t44 (iv 0) S_1) fun t45 => bQ (anil t45) fun t47 => bQ (padd t47 0) fun t48 => bQ (ldv false 1 t48 S_1) fun t49 => bQ (ixA 8 t49 (iv 0) S_1) fun t50 => bQ (ldv true 8 t50 S_1) fun t51 => newW (some (.own (.row 112 8 [[.lit (.string ⟨#[]⟩), iv 0, iv 0, iv 0, iv 0, iv 0, .lit (.string ⟨#[]⟩), bv false]]) fun u => .ptr u 0 0)) S_1 fun t8 S_2 => thenS (stv 8 t8 t51 S_2) fun _ S_3 => bQ (anil t45) fun t54 => bQ (padd t54 0) fun t55 => bQ (ldv false 1 t55 S_3) fun t56 => bQ (sliceV 8 t56 (some (iv 1)) none none S_3) fun t57 => bQ (anil t45) fun t58 => bQ (padd t58 0) fun t59 => thenS (stv 1 t59 t57 S_3) fun _ S_4 => bQ (anil t45) fun t61 => bQ (padd t61 0) fun t62 => bQ (ldv false 1 t62 S_4) fun t63 => bQ (aln .slice t63 S_4) fun t64 => bQ (abi .eql t64 (iv 0)) fun t65 => condW t65 (ATriple PR 435 [.iface 451 t4, iv 0] S_4 fun t68 S_5 => f432_J3 K t0 t4 t8 S_5) (ATriple PR 436 [.iface 451 t4, iv 0] S_4 fun t71 S_6 => f432_J3 K t0 t4 t8 S_6)) (K (.exit 2) (ofL []) S_1)
theorem f432_L2_pt : f432_l2 K t0 t4 S → f432_L2 K t0 t4 S := fun h => pL f432_a4 [0, 4] [] h
noncomputable def f432_K2 (Q : QT) : AK := (AK.block 2 (retK PR Tryz.f432 (dropQ Q)))
def f432_K2_e2 (Q : QT) (S : Store) : Prop := dropQ Q (.tuple []) S
theorem f432_K2_e2_pt : f432_K2_e2 Q S → f432_K2 Q (.exit 2) (ofL []) S := castP (by kernel_rfl)
def f432_K1_e0 (Q : QT) (t0 t4 : AV) (S : Store) : Prop := ATriple PR 433 [.iface 451 t4] S fun t37 S_1 => f432_L2 (f432_K2 Q) t0 t4 S_1
theorem f432_K1_e0_pt : f432_K1_e0 Q t0 t4 S → f432_K1 Q (.exit 0) (ofL [(0, t0), (4, t4)]) S := castP (by kernel_rfl)
def f432_s (t0 t1 t2 : AV) (S : Store) (Q : QT) : Prop := bQ (ldv false 1 t1 S) fun t9 => bQ (abld [nilS, .lit (.nilFunc)] [(1, 1, t9)]) fun t10 => newW (boxR false 454 t10) S fun t11 S_1 => bQ (ldv false 1 t2 S_1) fun t12 => bQ (aln .slice t12 S_1) fun t13 => f432_L1 (f432_K1 Q) t0 t11 t12 t13 (iv 0) S_1
theorem f432_ok : f432_s t0 t1 t2 S Q → ATriple PR 432 [t0, t1, t2] S Q := fun h => pF (fn := Tryz.f432) f432_a1 h
attribute [irreducible] f432_L1 f432_K1 f432_L2 f432_J3 f432_K2
def f350_s (t0 t1 : AV) (S : Store) (Q : QT) : Prop := bQ (frzOf (boxR true 283 t0)) fun t2 => bQ (frzOf (boxR true 258 t1)) fun t3 => dropQ Q (.func (.func 432) [] [t2, t3]) S
theorem f350_ok : f350_s t0 t1 S Q → ATriple PR 350 [t0, t1] S Q := fun h => pF (fn := Tryz.f350) (.two (rg 3 0 3) (.two (rg 2 0 0) (.nil))) h
noncomputable def f207_a1 : Ann := .two (rg 1 0 0) (.two (rg 1 1 0) (.two (.two (rg 3 4 0) (.one (.loop [5, 9]))) (.two (rg 2 0 0) (.nil))))
noncomputable def f207_c1 : Code := (cl (cl (cr (cl (cr (cr (bodyOf Tryz.f207)))))))
noncomputable def f207_c2 : Code := (cr (cl (cr (cl (cr (cr (bodyOf Tryz.f207)))))))
noncomputable def f207_a2 : Ann := rg 2 3 0
noncomputable def f207_a3 : Ann := .one (rg 5 24 4)
noncomputable def f207_c3 : Code := (cr (cr (cr (bodyOf Tryz.f207))))
def f207_R1 (K : AK) (t5 t9 : AV) (S : Store) : Prop := AWp PR none 16 (.rangeFunc (.tmp 9) #[10] f207_c1 f207_c2) K (ofL [(5, t5), (9, t9)]) S
noncomputable def f207_rec1 (t5 t9 : AV) (fn : FuncId) (D : Nat) (s : LoopState) (q : Option Code) : AObj := .lrec s q (ofL [(5, t5), (9, t9)]) 16 fn #[10] f207_c1 f207_c2 D
theorem f207_R1_pt {K : AK} {t5 t9 : AV} {S : Store} {f : FuncId} {cap : List AV} (hg : t9 = .func (.func f) [] cap) (hb : hasBody PR f = true)
    (h : ∀ t fn D, S t = none → ATriple PR f (.yield t :: cap) (S.set t (f207_rec1 t5 t9 fn D .ready none)) fun _ S' => ∃ state pend, S' t = some (f207_rec1 t5 t9 fn D state pend) ∧ state ≠ .busy ∧ endK (mskK [5] K) pend (ofL [(5, t5), (9, t9)]) (S'.erase t)) : f207_R1 K t5 t9 S :=
  AI.mskK (AWp_range PR_nong rfl (by simpa [aev, ofL] using hg) hb h)
theorem f207_Y1_pt {t : Nat} {x : AV} {K : QT} {fn : FuncId} {D : Nat} {t5 t9 : AV} {S : Store} (hS : S t = some (f207_rec1 t5 t9 fn D .ready none)) (h : ∀ l, AWp PR (some l) 16 f207_c1 (asgK PR l 16 f207_c2 t (f207_rec1 t5 t9 fn D) K) (ofL ((10, x) :: [(5, t5), (9, t9)])) S) : callW PR (.yield t) [x] S K := yield_pt hS h
def f207_as1 (l : Nat) (K : AK) (t10 t5 t9 : AV) (S : Store) : Prop := newW (some (.own (.row 112 8 [[.lit (.string ⟨#[]⟩), iv 0, iv 0, iv 0, iv 0, iv 0, .lit (.string ⟨#[]⟩), bv false]]) fun u => .ptr u 0 0)) S fun t6 S_1 => thenS (stv 8 t6 t10 S_1) fun _ S_2 => K .normal (ofL [(5, t5), (6, t6)]) S_2
theorem f207_as1_pt {l : Nat} {K : AK} {t10 t5 t9 : AV} {S : Store} (h : f207_as1 l K t10 t5 t9 S) : AWp PR (some l) 16 f207_c1 K (ofL [(10, t10), (5, t5), (9, t9)]) S := by
  refine AI.mskK (ml := [5, 6]) (W_ok PR_nong PR_mixed f207_c1 f207_a2 _ _ _ (by kernel_rfl) ?_)
  rw [show f207_as1 l K t10 t5 t9 S = W PR (some l) 16 f207_c1 f207_a2 (mskK [5, 6] K) (ofL [(10, t10), (5, t5), (9, t9)]) S by kernel_rfl] at h
  assumption
def f207_bo1 (l : Nat) (K : AK) (t5 t6 : AV) (S : Store) : Prop := bQ (ldv false 1 t5 S) fun t11 => bQ (ldv true 8 t6 S) fun t12 => bQ (frzOf (bslR true 8 112 8 1 1 [(0, t12)])) fun t13 => apW (some (112, 8, 80, .slice)) t11 t13 S fun t14 S_1 => thenS (stv 1 t5 t14 S_1) fun _ S_2 => K .normal (ofL []) S_2
theorem f207_bo1_pt {l : Nat} {K : AK} {t5 t6 : AV} {S : Store} (h : f207_bo1 l K t5 t6 S) : AWp PR (some l) 16 f207_c2 K (ofL [(5, t5), (6, t6)]) S := by
  refine AI.mskK (ml := []) (W_ok PR_nong PR_mixed f207_c2 f207_a3 _ _ _ (by kernel_rfl) ?_)
  rw [show f207_bo1 l K t5 t6 S = W PR (some l) 16 f207_c2 f207_a3 (mskK [] K) (ofL [(5, t5), (6, t6)]) S by kernel_rfl] at h
  assumption
noncomputable def f207_K1 (Q : QT) : AK := (AK.block 0 (AK.andThen (fun st S => W PR none 16 f207_c3 ((ar (ar (ar f207_a1)))) (retK PR Tryz.f207 (dropQ Q)) st S) (retK PR Tryz.f207 (dropQ Q))))
def f207_K1_normal (Q : QT) (t5 : AV) (S : Store) : Prop := bQ (ldv false 1 t5 S) fun t15 => dropQ Q t15 S
theorem f207_K1_normal_pt : f207_K1_normal Q t5 S → f207_K1 Q .normal (ofL [(5, t5)]) S := castP (by kernel_rfl)
def f207_s (t0 t1 : AV) (S : Store) (Q : QT) : Prop := newW (some (.own (.row 22 1 [[nilS]]) fun u => .ptr u 0 0)) S fun t5 S_1 => ATriple PR 350 [t0, t1] S_1 fun t9 S_2 => f207_R1 (f207_K1 Q) t5 t9 S_2
theorem f207_ok : f207_s t0 t1 S Q → ATriple PR 207 [t0, t1] S Q := fun h => pF (fn := Tryz.f207) f207_a1 h
attribute [irreducible] f207_R1 f207_rec1 f207_K1
noncomputable def f205_a1 : Ann := .two (rg 1 0 0) (.two (rg 1 0 0) (.two (.two (rg 3 0 0) (.one (.loop [0, 1, 5, 8, 9, 10]))) (.two (rg 2 0 0) (.nil))))
noncomputable def f205_c1 : Code := (cl (cl (cr (cl (cr (cr (bodyOf Tryz.f205)))))))
noncomputable def f205_c2 : Code := (cr (cr (cr (bodyOf Tryz.f205))))
def f205_L1 (K : AK) (t0 t1 t5 t8 t9 t10 : AV) (S : Store) : Prop := AI PR none 40 [.code f205_c1, .inLoop f205_c1] K (ofL [(0, t0), (1, t1), (5, t5), (8, t8), (9, t9), (10, t10)]) S
def f205_l1 (K : AK) (t0 t1 t5 t8 t9 t10 : AV) (S : Store) : Prop := bQ (abi .lss t10 t9) fun t11 => condW t11 (bQ (ixA 8 t8 t10 S) fun t13 => bQ (ldv true 8 t13 S) fun t14 => newW (some (.own (.row 112 8 [[.lit (.string ⟨#[]⟩), iv 0, iv 0, iv 0, iv 0, iv 0, .lit (.string ⟨#[]⟩), bv false]]) fun u => .ptr u 0 0)) S fun t7 S_1 => thenS (stv 8 t7 t14 S_1) fun _ S_2 => bQ (abi .gtr t10 (iv 0)) fun t16 => gdQ t16 true (some t0) fun t18 => gdQ t16 true (some t1) fun t19 => gdQ t16 true (some t10) fun t20 => gdQ t16 true (abi .sub t20 (iv 1)) fun t21 => gdQ t16 true (ixA 8 t19 t21 S_2) fun t22 => gdQ t16 true (ldv true 8 t22 S_2) fun t23 => gdQ t16 true (ldv true 8 t7 S_2) fun t24 => gdE t16 true (fun K => callW PR t18 [t23, t24] S_2 K) S_2 fun t25 S_3 => gdQ t16 true (abi .eql t25 (iv 0)) fun t26 => bQ (apick t16 t26 (bv false)) fun t27 => condW t27 (bQ (aln .slice t5 S_3) fun t30 => bQ (abi .sub t30 (iv 1)) fun t31 => bQ (ldv true 8 t7 S_3) fun t32 => bQ (ixA 8 t5 t31 S_3) fun t33 => thenS (stv 8 t33 t32 S_3) fun _ S_4 => bQ (abi .add t10 (iv 1)) fun t38 => f205_L1 K t0 t1 t5 t8 t9 t38 S_4) (bQ (ldv true 8 t7 S_3) fun t35 => bQ (frzOf (bslR true 8 112 8 1 1 [(0, t35)])) fun t36 => apW (some (112, 8, 80, .slice)) t5 t36 S_3 fun t37 S_5 => bQ (abi .add t10 (iv 1)) fun t38_1 => f205_L1 K t0 t1 t37 t8 t9 t38_1 S_5)) (K (.exit 0) (ofL [(5, t5)]) S)
theorem f205_L1_pt : f205_l1 K t0 t1 t5 t8 t9 t10 S → f205_L1 K t0 t1 t5 t8 t9 t10 S := fun h => pL (.two (rg 1 0 0) (.two (.two (.nil) (.nil)) (.two (.one (.two (rg 6 40 0) (.two (.reg [0, 1, 3, 7, 7, 7, 39, 119, 247, 7, 1023, 2047, 4095] (pq 0 10 <| .e 10 [] <| pq 11 2 <| .done)) (.two (rg 7 64 0) (rg 5 8 4))))) (rg 2 0 0)))) [0, 1, 5, 8, 9, 10] [5] h
noncomputable def f205_K1 (Q : QT) : AK := (AK.block 0 (AK.andThen (fun st S => W PR none 40 f205_c2 ((ar (ar (ar f205_a1)))) (retK PR Tryz.f205 (dropQ Q)) st S) (retK PR Tryz.f205 (dropQ Q))))
def f205_K1_e0 (Q : QT) (t5 : AV) (S : Store) : Prop := dropQ Q t5 S
theorem f205_K1_e0_pt : f205_K1_e0 Q t5 S → f205_K1 Q (.exit 0) (ofL [(5, t5)]) S := castP (by kernel_rfl)
def f205_s (t0 t1 : AV) (S : Store) (Q : QT) : Prop := bQ (aln .slice t1 S) fun t9 => f205_L1 (f205_K1 Q) t0 t1 nilS t1 t9 (iv 0) S
theorem f205_ok : f205_s t0 t1 S Q → ATriple PR 205 [t0, t1] S Q := fun h => pF (fn := Tryz.f205) f205_a1 h
attribute [irreducible] f205_L1 f205_K1
end
end Go.Du
