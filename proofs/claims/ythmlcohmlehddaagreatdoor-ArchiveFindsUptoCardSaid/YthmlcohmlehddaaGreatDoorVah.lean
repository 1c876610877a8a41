/- What is proved: at every archive row that the statement's guards let in, the rows of a key, and of keys, are the document's, so that the spec answers true.
Conditions: the call's arguments together hold at most 1048576 values and letters (the card's own bound); no other. -/
import Derived.Test.YthmlcohmlehddaaGreatDoorVad
import Derived.Test.YthmlcohmlehddaaGreatDoorVae
import Derived.Test.YthmlcohmlehddaaGreatDoorVaf
import Derived.Test.YthmlcohmlehddaaGreatDoorVag
set_option linter.all false
namespace Go.Du
open Go
attribute [local irreducible] ATriple W evP AI
theorem mLen : mthOk PR 451 "Len" 434 = true := by kernel_rfl
theorem mLess : mthOk PR 451 "Less" 553 = true := by kernel_rfl
theorem mSwap : mthOk PR 451 "Swap" 555 = true := by kernel_rfl
theorem mPop : mthOk PR 451 "Pop" 554 = true := by kernel_rfl
theorem hb434 : hasBody PR 434 = true := by kernel_rfl
theorem hb553 : hasBody PR 553 = true := by kernel_rfl
theorem hb555 : hasBody PR 555 = true := by kernel_rfl
theorem hb554 : hasBody PR 554 = true := by kernel_rfl
theorem hb206 : hasBody PR 206 = true := by kernel_rfl
abbrev ordV : AV := .func (.func 206) [] []
abbrev Head := List Ver × Int
abbrev hc (x : Head) : List AV := [vers x.1, iv x.2]
abbrev hpO (th k : Nat) : AObj := .row 454 2 [[.sref th 0 k, ordV]]
abbrev hpR (l : List Head) : AObj := .row 456 2 (l.map hc)
structure HS (h th k : Nat) (l : List Head) (S : Store) : Prop where
  ob : S h = some (hpO th k)
  row : S th = some (hpR l)
  le : k ≤ l.length
  ne : h ≠ th
theorem f434_c {h th k : Nat} {l : List Head} {S : Store} (hh : HS h th k l S) {Q : AV → Store → Prop} (hq : Q (iv k) S) : ATriple PR 434 [.ptr h 0 0] S Q := by
  refine f434_ok ?_
  have e := ldv_at (o := 0) hh.ob
  simp only [List.getElem?_cons_zero] at e
  simp -implicitDefEqProofs only [f434_s, anil, padd_ptr, Nat.add_zero, bQ_some, e, aln_sref]
  exact dropQ_self hq
theorem HS.ix {h th k : Nat} {l : List Head} {S : Store} (hh : HS h th k l S) (i : Nat) (hi : i < k) : ixA 2 (.sref th 0 k) (iv i) S = some (.ptr th i 0) := by
  have : (i : Int) < k := by omega
  simp [ixA, litInt, aix, this, hh.row]
theorem HS.ld {h th k : Nat} {l : List Head} {S : Store} (hh : HS h th k l S) (i : Nat) (hi : i < l.length) : ldv true 2 (.ptr th i 0) S = some (.agg (hc l[i])) := by
  rw [ldv_ptr1 true 2 th i 0 S hh.row (cs := hc l[i]) (by simp [hi])]; rfl
theorem HS.st {h th k : Nat} {l : List Head} {S : Store} (hh : HS h th k l S) (i : Nat) (hi : i < l.length) (x : Head) : stv 2 (.ptr th i 0) (.agg (hc x)) S = some (S.set th (hpR (l.set i x))) := by
  rw [stv_ptr1 2 th i 0 _ S hh.row (cs := hc l[i]) (by simp [hi]) rfl rfl (by simp)]
  have : splice (hc l[i]) 0 (cellsOf (.agg (hc x))) = hc x := by simp [splice]
  rw [this, hpR, List.map_set]
theorem HS.setR {h th k : Nat} {l : List Head} {S : Store} (hh : HS h th k l S) (l' : List Head) (hl : l'.length = l.length) : HS h th k l' (S.set th (hpR l')) :=
  ⟨by rw [Store.set_ne _ _ _ hh.ne]; exact hh.ob, Store.set_same _ _ _, by rw [hl]; exact hh.le, hh.ne⟩
theorem f555_c {h th k : Nat} {l : List Head} {S : Store} (hh : HS h th k l S) (i j : Nat) (hi : i < k) (hj : j < k) {Q : AV → Store → Prop}
    (hq : Q (.tuple []) (S.set th (hpR ((l.set i (l[j]'(by have := hh.le; omega))).set j (l[i]'(by have := hh.le; omega)))))) : ATriple PR 555 [.ptr h 0 0, iv i, iv j] S Q := by
  refine f555_ok ?_
  have hle := hh.le
  have e := ldv_at (o := 0) hh.ob
  simp only [List.getElem?_cons_zero] at e
  have hh1 := hh.setR (l.set i (l[j]'(by omega))) (by simp)
  simp -implicitDefEqProofs only [f555_s, anil, padd_ptr, Nat.add_zero, bQ_some, e, hh.ix i hi, hh.ix j hj, hh.ld i (by omega), hh.ld j (by omega), hh.st i (by omega), thenS_some, hh1.ix j hj]
  rw [hh1.st j (by simp; omega), thenS_some, Store.set_set]
  exact dropQ_self hq
def hless (x y : Head) : Bool :=
  match x.1, y.1 with
  | a :: _, b :: _ => if a.cmp b ≠ 0 then decide (a.cmp b < 0) else decide (x.2 < y.2)
  | _, _ => false
abbrev hd0 : List AV := [.lit (.slice none 0 0), .lit (.int .i64 0)]
theorem f553_j (x y : Head) (hx : x.1 ≠ []) (hy : y.1 ≠ []) (h a b : Nat) (S : Store) (ord : ldv false 1 (.ptr h 0 1) S = some ordV) (ha : S a = some (.row 456 2 [hc x])) (hb : S b = some (.row 456 2 [hc y])) {Q : AV → Store → Prop} (S0 : Store) (hs : Sub S0 S) (hq : Q (bv (hless x y)) S0) :
    f553_J1 Q (.ptr h 0 0) (.ptr a 0 0) (.ptr b 0 0) S := by
  refine f553_J1_pt ?_
  obtain ⟨lx, ix⟩ := x
  obtain ⟨ly, iy⟩ := y
  cases lx with
  | nil => exact absurd rfl hx
  | cons p lx =>
    cases ly with
    | nil => exact absurd rfl hy
    | cons q ly =>
      have a0 := ldv_at (o := 0) ha
      have a1 := ldv_at (o := 1) ha
      have b0 := ldv_at (o := 0) hb
      have b1 := ldv_at (o := 1) hb
      simp only [List.getElem?_cons_zero, List.getElem?_cons_succ] at a0 a1 b0 b1
      have x0 := ixA_ver (p :: lx) 0 S (by simp)
      have y0 := ixA_ver (q :: ly) 0 S (by simp)
      simp only [Int.natCast_zero, List.getElem_cons_zero] at x0 y0
      simp -implicitDefEqProofs only [f553_j1, anil, padd_ptr, Nat.zero_add, Nat.add_zero, bQ_some, ord, a0, b0, x0, y0, ldv_ver]
      simp only [callW, hb206]
      refine f206_c p q S ?_
      have fin : ∀ v, v = hless (p :: lx, ix) (q :: ly, iy) → dropQ Q (bv v) S := fun v e => ⟨_, S0, .drop hs, by rw [e]; exact hq⟩
      by_cases hc : p.cmp q = 0
      · simp -implicitDefEqProofs [hc, a1, b1]
        exact fin _ (by simp [hless, hc])
      · simp -implicitDefEqProofs [hc]
        exact fin _ (by simp [hless, hc])
theorem stv_hd {S : Store} {t : Nat} (x : Head) : stv 2 (.ptr t 0 0) (.agg (hc x)) (S.set t (.row 456 2 [hd0])) = some (S.set t (.row 456 2 [hc x])) := stv_box rfl rfl rfl
set_option maxRecDepth 100000 in
theorem f553_c {h th k : Nat} {l : List Head} {S : Store} (hh : HS h th k l S) (i j : Nat) (hi : i < k) (hj : j < k) (hx : (l[i]'(by have := hh.le; omega)).1 ≠ []) (hy : (l[j]'(by have := hh.le; omega)).1 ≠ []) {Q : AV → Store → Prop}
    (hq : Q (bv (hless (l[i]'(by have := hh.le; omega)) (l[j]'(by have := hh.le; omega)))) S) : ATriple PR 553 [.ptr h 0 0, iv i, iv j] S Q := by
  refine f553_ok ?_
  have hle := hh.le
  have f0 : ∀ S', Sub S S' → ldv false 1 (.ptr h 0 0) S' = some (.sref th 0 k) := fun S' hs => ldv_at (hs _ _ hh.ob)
  have f1 : ∀ S', Sub S S' → ldv false 1 (.ptr h 0 1) S' = some ordV := fun S' hs => ldv_at (hs _ _ hh.ob)
  have fh : ∀ S', Sub S S' → HS h th k l S' := fun S' hs => ⟨hs _ _ hh.ob, hs _ _ hh.row, hh.le, hh.ne⟩
  have r := Sub.refl S
  simp -implicitDefEqProofs only [f553_s, anil, padd_ptr, Nat.add_zero, bQ_some, f0 S r, hh.ix i hi, hh.ix j hj, hh.ld i (by omega), hh.ld j (by omega), newW_own]
  constructor
  · intro a ha
    have hs1 : Sub S (S.set a (.row 456 2 [hd0])) := r.set ha
    have k1 := fh _ hs1
    refine ⟨⟨f0 _ hs1, k1.ix i hi, k1.ld i (by omega), f0 _ hs1, k1.ix j hj, k1.ld j (by omega), trivial⟩, fun b hb => ?_⟩
    have hab : a ≠ b := fun e => by subst e; simp at hb
    have hb0 : S b = none := hs1.none hb
    have hs2 : Sub S ((S.set a (.row 456 2 [hd0])).set b (.row 456 2 [hd0])) := hs1.set hb0
    have k2 := fh _ hs2
    refine ⟨⟨f0 _ hs2, k2.ix i hi, k2.ld i (by omega), f0 _ hs2, k2.ix j hj, k2.ld j (by omega), trivial⟩, ?_⟩
    rw [Store.set_comm _ hab, stv_hd, thenS_some]
    have hs3 : Sub S ((S.set b (.row 456 2 [hd0])).set a (.row 456 2 [hc (l[i]'(by omega))])) := (r.set hb0).set ha
    have k3 := fh _ hs3
    refine ⟨⟨f0 _ hs3, k3.ix j hj, k3.ld j (by omega), trivial⟩, ?_⟩
    rw [Store.set_comm _ hab.symm, stv_hd, thenS_some]
    have hs4 : Sub S ((S.set a (.row 456 2 [hc (l[i]'(by omega))])).set b (.row 456 2 [hc (l[j]'(by omega))])) := (r.set ha).set hb0
    exact f553_j _ _ hx hy h a b _ (f1 _ hs4) (by rw [Store.set_ne _ _ _ hab]; simp) (Store.set_same _ _ _) S hs4 hq
  · intro b hb
    have hs1 : Sub S (S.set b (.row 456 2 [hd0])) := r.set hb
    have k1 := fh _ hs1
    refine ⟨⟨f0 _ hs1, k1.ix i hi, k1.ld i (by omega), f0 _ hs1, k1.ix j hj, k1.ld j (by omega), trivial⟩, fun a ha => ?_⟩
    have hab : a ≠ b := fun e => by subst e; simp at ha
    have ha0 : S a = none := hs1.none ha
    have hs2 : Sub S ((S.set b (.row 456 2 [hd0])).set a (.row 456 2 [hd0])) := hs1.set ha0
    have k2 := fh _ hs2
    refine ⟨⟨f0 _ hs2, k2.ix i hi, k2.ld i (by omega), f0 _ hs2, k2.ix j hj, k2.ld j (by omega), trivial⟩, ?_⟩
    rw [stv_hd, thenS_some]
    have hs3 : Sub S ((S.set b (.row 456 2 [hd0])).set a (.row 456 2 [hc (l[i]'(by omega))])) := (r.set hb).set ha0
    have k3 := fh _ hs3
    refine ⟨⟨f0 _ hs3, k3.ix j hj, k3.ld j (by omega), trivial⟩, ?_⟩
    rw [Store.set_comm _ hab.symm, stv_hd, thenS_some]
    have hs4 : Sub S ((S.set a (.row 456 2 [hc (l[i]'(by omega))])).set b (.row 456 2 [hc (l[j]'(by omega))])) := (r.set ha0).set hb
    exact f553_j _ _ hx hy h a b _ (f1 _ hs4) (by rw [Store.set_ne _ _ _ hab]; simp) (Store.set_same _ _ _) S hs4 hq
end Go.Du
namespace Go.Du
open Go
attribute [local irreducible] ATriple W evP AI
set_option maxRecDepth 100000 in
theorem f554_c {h th k : Nat} {l : List Head} {S : Store} (hh : HS h th k l S) (hk : 1 ≤ k) (hk2 : k ≤ 1000) {Q : AV → Store → Prop} (hq : ∀ x, Q x (S.set h (hpO th (k - 1)))) : ATriple PR 554 [.ptr h 0 0] S Q := by
  refine f554_ok ?_
  have hle := hh.le
  have f0 : ∀ S', Sub S S' → ldv false 1 (.ptr h 0 0) S' = some (.sref th 0 k) := fun S' hs => ldv_at (hs _ _ hh.ob)
  have fh : ∀ S', Sub S S' → HS h th k l S' := fun S' hs => ⟨hs _ _ hh.ob, hs _ _ hh.row, hh.le, hh.ne⟩
  have r := Sub.refl S
  have w1 : IntKind.i64.wrap ((k : Int) - 1) = ((k - 1 : Nat) : Int) := by rw [wrap_id (by omega) (by omega)]; omega
  have x0 := fun S' (hs : Sub S S') => (fh S' hs).ix (k - 1) (by omega)
  have l0 := fun S' (hs : Sub S S') => (fh S' hs).ld (k - 1) (by omega)
  simp -implicitDefEqProofs only [f554_s, anil, padd_ptr, Nat.add_zero, bQ_some, f0 S r, aln_sref, abi_sub, w1, x0 S r, l0 S r, newW_own]
  intro a ha
  have hs1 : Sub S (S.set a (.row 456 2 [hd0])) := r.set ha
  refine ⟨⟨f0 _ hs1, f0 _ hs1, x0 _ hs1, l0 _ hs1, trivial⟩, ?_⟩
  rw [stv_hd, thenS_some]
  have hs2 : Sub S (S.set a (.row 456 2 [hc (l[k - 1]'(by omega))])) := r.set ha
  have hha : h ≠ a := fun e => by subst e; rw [hh.ob] at ha; cases ha
  have k2 := fh _ hs2
  have sl : sliceV 2 (.sref th 0 k) none (some (iv (k - 1 : Nat))) none (S.set a (.row 456 2 [hc (l[k - 1]'(by omega))])) = some (.sref th 0 (k - 1)) := by
    simp only [sliceV, k2.row, if_true, asl, bnds_hi (show k - 1 ≤ k by omega), Option.map_some]
  simp -implicitDefEqProofs only [f0 _ hs2, bQ_some, aln_sref, abi_sub, w1, sl]
  rw [stv_at k2.ob rfl rfl (by simp), thenS_some]
  simp only [List.set_cons_zero]
  have e1 := ldv_all_at (S := (S.set a (.row 456 2 [hc (l[k - 1]'(by omega))])).set h (hpO th (k - 1))) (b := a) (sz := 2) (by rw [Store.set_ne _ _ _ hha.symm]; exact Store.set_same _ _ _) rfl
  rw [e1, bQ_some]
  refine ⟨_, S.set h (hpO th (k - 1)), .drop ?_, hq _⟩
  rw [Store.set_comm _ hha.symm]
  exact (Sub.refl _).set (by rw [Store.set_ne _ _ _ hha.symm]; exact ha)
theorem f484_1 {h th k : Nat} {l : List Head} {S : Store} (hh : HS h th k l S) (n : Nat) (hn : n ≤ 1) {Q : AV → Store → Prop} (hq : Q (bv false) S) : ATriple PR 484 [.iface 451 (.ptr h 0 0), iv 0, iv n] S Q := by
  refine f484_ok ?_
  simp -implicitDefEqProofs only [f484_s]
  refine f484_L1_pt ?_
  have m1 : abi .mul (iv 2) (iv 0) = some (iv 0) := rfl
  have a1 : abi .add (iv 0) (iv 1) = some (iv 1) := rfl
  have c1 : (n : Int) ≤ 1 := by omega
  simp -implicitDefEqProofs [f484_l1, m1, a1, c1, hn]
  apply f484_K1_e0_pt
  simp -implicitDefEqProofs [f484_K1_e0]
  exact dropQ_self hq
theorem f484_2 {h th k : Nat} {x y : Head} {S : Store} (hh : HS h th k [x, y] S) (hk : k = 2) (hx : x.1 ≠ []) (hy : y.1 ≠ []) {Q : AV → Store → Prop}
    (h1 : hless y x = true → Q (bv true) (S.set th (hpR [y, x]))) (h2 : hless y x = false → Q (bv false) S) : ATriple PR 484 [.iface 451 (.ptr h 0 0), iv 0, iv 2] S Q := by
  refine f484_ok ?_
  simp -implicitDefEqProofs only [f484_s]
  refine f484_L1_pt ?_
  have m1 : abi .mul (iv 2) (iv 0) = some (iv 0) := rfl
  have a1 : abi .add (iv 0) (iv 1) = some (iv 1) := rfl
  have a2 : abi .add (iv 1) (iv 1) = some (iv 2) := rfl
  simp -implicitDefEqProofs [f484_l1, m1, a1, a2]
  refine f484_J2_pt ?_
  simp -implicitDefEqProofs only [f484_j2]
  refine AInv_ptr PR_nong hb553 mLess rfl ?_
  refine f553_c hh 1 0 (by omega) (by omega) hy hx ?_
  cases hl : hless y x with
  | true =>
    have e : hless [x, y][1] [x, y][0] = true := hl
    rw [e]
    simp -implicitDefEqProofs
    refine AInv_ptr PR_nong hb555 mSwap rfl ?_
    refine f555_c hh 0 1 (by omega) (by omega) ?_
    simp only [List.set_cons_zero, List.set_cons_succ, List.getElem_cons_zero, List.getElem_cons_succ]
    refine f484_L1_pt ?_
    have m2 : abi .mul (iv 2) (iv 1) = some (iv 2) := rfl
    have a3 : abi .add (iv 2) (iv 1) = some (iv 3) := rfl
    simp -implicitDefEqProofs [f484_l1, m2, a3]
    apply f484_K1_e0_pt
    simp -implicitDefEqProofs [f484_K1_e0]
    exact dropQ_self (h1 hl)
  | false =>
    have e : hless [x, y][1] [x, y][0] = false := hl
    rw [e]
    simp -implicitDefEqProofs
    apply f484_K1_e0_pt
    simp -implicitDefEqProofs [f484_K1_e0]
    exact dropQ_self (h2 hl)
theorem f485_c (h : Nat) (S : Store) {Q : AV → Store → Prop} (hq : Q (.tuple []) S) : ATriple PR 485 [.iface 451 (.ptr h 0 0), iv 0] S Q := by
  refine f485_ok ?_
  simp -implicitDefEqProofs only [f485_s]
  refine f485_L1_pt ?_
  have a1 : abi .sub (iv 0) (iv 1) = some (iv (-1)) := rfl
  have a2 : abi .quo (iv (-1)) (iv 2) = some (iv 0) := rfl
  simp -implicitDefEqProofs [f485_l1, a1, a2]
  apply f485_K1_e0_pt
  exact dropQ_self hq
theorem len_c {h th k : Nat} {l : List Head} {S : Store} (hh : HS h th k l S) {K : AV → Store → Prop} (hq : K (iv k) S) : AInv PR (.iface 451 (.ptr h 0 0)) "Len" [] S K :=
  AInv_ptr PR_nong hb434 mLen rfl (f434_c hh hq)
theorem pop_c {h th k : Nat} {l : List Head} {S : Store} (hh : HS h th k l S) (hk : 1 ≤ k) (hk2 : k ≤ 1000) {K : AV → Store → Prop} (hq : ∀ x, K x (S.set h (hpO th (k - 1)))) : AInv PR (.iface 451 (.ptr h 0 0)) "Pop" [] S K :=
  AInv_ptr PR_nong hb554 mPop rfl (f554_c hh hk hk2 hq)
theorem f436_1 {h th : Nat} {l : List Head} {S : Store} (hh : HS h th 1 l S) {Q : AV → Store → Prop} (hq : Q (.tuple []) S) : ATriple PR 436 [.iface 451 (.ptr h 0 0), iv 0] S Q := by
  refine f436_ok ?_
  simp -implicitDefEqProofs only [f436_s]
  refine len_c hh ?_
  refine f484_1 hh 1 (by omega) ?_
  simp -implicitDefEqProofs
  refine f485_c h S ?_
  exact dropQ_self hq
theorem f436_2 {h th : Nat} {x y : Head} {S : Store} (hh : HS h th 2 [x, y] S) (hx : x.1 ≠ []) (hy : y.1 ≠ []) {Q : AV → Store → Prop}
    (h1 : hless y x = true → Q (.tuple []) (S.set th (hpR [y, x]))) (h2 : hless y x = false → Q (.tuple []) S) : ATriple PR 436 [.iface 451 (.ptr h 0 0), iv 0] S Q := by
  refine f436_ok ?_
  simp -implicitDefEqProofs only [f436_s]
  refine len_c hh ?_
  refine f484_2 hh rfl hx hy (fun hl => ?_) (fun hl => ?_)
  · simp -implicitDefEqProofs
    exact dropQ_self (h1 hl)
  · simp -implicitDefEqProofs
    refine f485_c h S ?_
    exact dropQ_self (h2 hl)
theorem f433_1 {h th k : Nat} {l : List Head} {S : Store} (hh : HS h th k l S) (hk : k ≤ 1) {Q : AV → Store → Prop} (hq : Q (.tuple []) S) : ATriple PR 433 [.iface 451 (.ptr h 0 0)] S Q := by
  refine f433_ok ?_
  simp -implicitDefEqProofs only [f433_s]
  refine len_c hh ?_
  have a1 : abi .quo (iv k) (iv 2) = some (iv 0) := by
    have : k = 0 ∨ k = 1 := by omega
    rcases this with rfl | rfl <;> rfl
  have a2 : abi .sub (iv 0) (iv 1) = some (iv (-1)) := rfl
  simp -implicitDefEqProofs [a1, a2]
  refine f433_L1_pt ?_
  simp -implicitDefEqProofs [f433_l1]
  apply f433_K1_e0_pt
  exact dropQ_self hq
theorem f433_2 {h th : Nat} {x y : Head} {S : Store} (hh : HS h th 2 [x, y] S) (hx : x.1 ≠ []) (hy : y.1 ≠ []) {Q : AV → Store → Prop}
    (h1 : hless y x = true → Q (.tuple []) (S.set th (hpR [y, x]))) (h2 : hless y x = false → Q (.tuple []) S) : ATriple PR 433 [.iface 451 (.ptr h 0 0)] S Q := by
  refine f433_ok ?_
  simp -implicitDefEqProofs only [f433_s]
  refine len_c hh ?_
  have a1 : abi .quo (iv (2 : Nat)) (iv 2) = some (iv 1) := rfl
  have a2 : abi .sub (iv 1) (iv 1) = some (iv 0) := rfl
  have a3 : abi .sub (iv 0) (iv 1) = some (iv (-1)) := rfl
  simp -implicitDefEqProofs only [a1, a2, bQ_some]
  refine f433_L1_pt ?_
  simp -implicitDefEqProofs only [f433_l1, abi_geq, bQ_some, ge_iff_le, Int.le_refl, decide_true, condW_bv, if_true]
  have fin : ∀ S, Q (.tuple []) S → bQ (abi .sub (iv 0) (iv 1)) fun t12 => f433_L1 (f433_K1 Q) (.iface 451 (.ptr h 0 0)) (iv (2 : Nat)) t12 S := by
    intro S hQ
    rw [a3, bQ_some]
    refine f433_L1_pt ?_
    simp -implicitDefEqProofs [f433_l1]
    apply f433_K1_e0_pt
    exact dropQ_self hQ
  exact f484_2 hh rfl hx hy (fun hl => fin _ (h1 hl)) (fun hl => fin _ (h2 hl))
theorem f435_1 {h th : Nat} {l : List Head} {S : Store} (hh : HS h th 1 l S) {Q : AV → Store → Prop} (hq : ∀ x, Q x (S.set h (hpO th 0))) : ATriple PR 435 [.iface 451 (.ptr h 0 0), iv 0] S Q := by
  refine f435_ok ?_
  simp -implicitDefEqProofs only [f435_s]
  refine len_c hh ?_
  have a1 : abi .sub (iv (1 : Nat)) (iv 1) = some (iv 0) := rfl
  simp -implicitDefEqProofs only [a1, bQ_some, abi_neq, bne_self_eq_false, condW_bv, Bool.false_eq_true, if_false]
  exact pop_c hh (by omega) (by omega) fun x => dropQ_self (hq x)
theorem f435_2 {h th : Nat} {x y : Head} {S : Store} (hh : HS h th 2 [x, y] S) {Q : AV → Store → Prop} (hq : ∀ v, Q v ((S.set th (hpR [y, x])).set h (hpO th 1))) : ATriple PR 435 [.iface 451 (.ptr h 0 0), iv 0] S Q := by
  refine f435_ok ?_
  simp -implicitDefEqProofs only [f435_s]
  refine len_c hh ?_
  have a1 : abi .sub (iv (2 : Nat)) (iv 1) = some (iv 1) := rfl
  have a2 : abi .neq (iv 1) (iv 0) = some (bv true) := rfl
  simp -implicitDefEqProofs only [a1, a2, bQ_some, condW_bv, if_true]
  refine AInv_ptr PR_nong hb555 mSwap rfl ?_
  refine f555_c hh 0 1 (by omega) (by omega) ?_
  simp only [List.set_cons_zero, List.set_cons_succ, List.getElem_cons_zero, List.getElem_cons_succ]
  have hh2 := hh.setR [y, x] rfl
  refine f484_1 hh2 1 (by omega) ?_
  simp -implicitDefEqProofs
  refine f485_c h _ ?_
  exact pop_c hh2 (by omega) (by omega) fun v => dropQ_self (hq v)
end Go.Du
namespace Go.Du
open Go
attribute [local irreducible] ATriple W evP AI
def fixH (r : List Ver) (i : Int) (t : List Head) : List Head :=
  match r, t with
  | [], t => t
  | r, [] => [(r, i)]
  | r, y :: _ => if hless y (r, i) then [y, (r, i)] else [(r, i), y]
def mergeF : Nat → List Head → List Ver
  | n + 1, (v :: r, i) :: t => v :: mergeF n (fixH r i t)
  | _, _ => []
noncomputable abbrev mrec (a _h : Nat) (lv : AV) (fn D : Nat) (s : LoopState) (q : Option Code) : AObj := f207_rec1 (.ptr a 0 0) (.func (.func 432) [] [.fptr [ordV] 0, .fptr [lv] 0]) fn D s q
structure MS (Sb : Store) (a t h th : Nat) (R : LoopState → Option Code → AObj) (pre : List Ver) (k : Nat) (l : List Head) (S : Store) : Prop where
  ex : ∃ v S0, Grow 112 8 S0 (pre.map Ver.cs) v S ∧ S0 a = some (.row 22 1 [[v]]) ∧ S0 t = some (R .ready none) ∧ S0 h = some (hpO th k) ∧ S0 th = some (hpR l) ∧ Sub Sb S0
  le : k ≤ l.length
  d : h ≠ th ∧ a ≠ t ∧ a ≠ h ∧ a ≠ th ∧ t ≠ h ∧ t ≠ th ∧ Sb a = none ∧ Sb t = none ∧ Sb h = none ∧ Sb th = none
section
variable {Sb S : Store} {a t h th k : Nat} {R : LoopState → Option Code → AObj} {pre : List Ver} {l : List Head}
theorem MS.hs (m : MS Sb a t h th R pre k l S) : HS h th k l S := by
  obtain ⟨⟨v, S0, hg, ga, gt, gh, gr, gs⟩, hl, hd⟩ := m
  exact ⟨hg.get gh, hg.get gr, hl, hd.1⟩
theorem MS.setR (m : MS Sb a t h th R pre k l S) (l' : List Head) (hl' : k ≤ l'.length) : MS Sb a t h th R pre k l' (S.set th (hpR l')) := by
  obtain ⟨⟨v, S0, hg, ga, gt, gh, gr, gs⟩, hl, hd⟩ := m
  obtain ⟨d1, d2, d3, d4, d5, d6, d7, d8, d9, d10⟩ := hd
  refine ⟨⟨v, _, hg.upd gr (hpR l'), ?_, ?_, ?_, Store.set_same _ _ _, gs.set d10⟩, hl', d1, d2, d3, d4, d5, d6, d7, d8, d9, d10⟩
  · rw [Store.set_ne _ _ _ d4]; exact ga
  · rw [Store.set_ne _ _ _ d6]; exact gt
  · rw [Store.set_ne _ _ _ d1]; exact gh
theorem MS.setH (m : MS Sb a t h th R pre k l S) (k' : Nat) (hl' : k' ≤ l.length) : MS Sb a t h th R pre k' l (S.set h (hpO th k')) := by
  obtain ⟨⟨v, S0, hg, ga, gt, gh, gr, gs⟩, hl, hd⟩ := m
  obtain ⟨d1, d2, d3, d4, d5, d6, d7, d8, d9, d10⟩ := hd
  refine ⟨⟨v, _, hg.upd gh (hpO th k'), ?_, ?_, Store.set_same _ _ _, ?_, gs.set d9⟩, hl', d1, d2, d3, d4, d5, d6, d7, d8, d9, d10⟩
  · rw [Store.set_ne _ _ _ d3]; exact ga
  · rw [Store.set_ne _ _ _ d5]; exact gt
  · rw [Store.set_ne _ _ _ d1.symm]; exact gr
theorem MS.new (m : MS Sb a t h th R pre k l S) {u : Nat} (hu : S u = none) (o : AObj) : MS Sb a t h th R pre k l (S.set u o) := by
  obtain ⟨⟨v, S0, hg, ga, gt, gh, gr, gs⟩, hl, hd⟩ := m
  have hu0 := hg.sub.none hu
  have ne : ∀ {x : Nat} {ob : AObj}, S0 x = some ob → x ≠ u := fun hx e => by subst e; rw [hu0] at hx; cases hx
  refine ⟨⟨v, _, hg.under' hu o, ?_, ?_, ?_, ?_, gs.set (gs.none hu0)⟩, hl, hd⟩
  · rw [Store.set_ne _ _ _ (ne ga)]; exact ga
  · rw [Store.set_ne _ _ _ (ne gt)]; exact gt
  · rw [Store.set_ne _ _ _ (ne gh)]; exact gh
  · rw [Store.set_ne _ _ _ (ne gr)]; exact gr
set_option maxRecDepth 100000 in
theorem MS.yield {lv : AV} {fn D : Nat} (m : MS Sb a t h th (mrec a h lv fn D) pre k l S) (x : Ver) (hpre : pre.length ≤ 1048576) {K : AV → Store → Prop} (hK : ∀ S', MS Sb a t h th (mrec a h lv fn D) (pre ++ [x]) k l S' → K (bv true) S') :
    callW PR (.yield t) [x.av] S K := by
  obtain ⟨⟨v, S0, hg, ga, gt, gh, gr, gs⟩, hl, hd⟩ := m
  obtain ⟨d1, d2, d3, d4, d5, d6, d7, d8, d9, d10⟩ := hd
  have hSt := hg.get gt
  refine f207_Y1_pt hSt fun l' => ?_
  apply f207_as1_pt
  simp -implicitDefEqProofs only [f207_as1, newW_own]
  intro u hu
  rw [stv_ver, thenS_some]
  have hu0 := hg.sub.none hu
  have ne : ∀ {x : Nat} {ob : AObj}, S0 x = some ob → x ≠ u := fun hx e => by subst e; rw [hu0] at hx; cases hx
  have hg1 := hg.under' hu (.row 112 8 [x.cs])
  have gt1 : (S0.set u (.row 112 8 [x.cs])) t = some (mrec a h lv fn D .ready none) := by rw [Store.set_ne _ _ _ (ne gt)]; exact gt
  refine ⟨rfl, hg1.get gt1, ?_⟩
  apply f207_bo1_pt
  have hg2 := hg1.upd gt1 (mrec a h lv fn D .busy none)
  have ga2 : ((S0.set u (.row 112 8 [x.cs])).set t (mrec a h lv fn D .busy none)) a = some (.row 22 1 [[v]]) := by
    rw [Store.set_ne _ _ _ d2, Store.set_ne _ _ _ (ne ga)]; exact ga
  have gu2 : ((S0.set u (.row 112 8 [x.cs])).set t (mrec a h lv fn D .busy none)) u = some (.row 112 8 [x.cs]) := by
    rw [Store.set_ne _ _ _ (ne gt).symm]; exact Store.set_same _ _ _
  have e1 := ldv_at (o := 0) (hg2.get ga2)
  have e2 := ldv_all_at (hg2.get gu2) (show _ = 8 from rfl)
  have bs := bsl_ver x
  simp only [List.getElem?_cons_zero] at e1
  simp -implicitDefEqProofs only [f207_bo1, e1, e2, bQ_some, bs]
  refine hg2.ver x (by omega) fun v2 S2 hg3 => ?_
  rw [stv_at (hg3.get ga2) hg3.ok.1 hg3.ok.2 (by simp), thenS_some]
  simp only [List.set_cons_zero]
  have hg4 := hg3.upd ga2 (.row 22 1 [[v2]])
  have gt4 := (Store.set_ne ((S0.set u (.row 112 8 [x.cs])).set t (mrec a h lv fn D .busy none)) a (.row 22 1 [[v2]]) d2.symm).trans (Store.set_same _ t _)
  refine ⟨hg4.get gt4, ?_⟩
  have hg5 := hg4.upd gt4 (mrec a h lv fn D .ready none)
  refine hK _ ⟨⟨v2, _, hg5, ?_, Store.set_same _ _ _, ?_, ?_, ?_⟩, hl, d1, d2, d3, d4, d5, d6, d7, d8, d9, d10⟩
  · rw [Store.set_ne _ _ _ d2]; exact Store.set_same _ _ _
  · rw [Store.set_ne _ _ _ d5.symm, Store.set_ne _ _ _ d3.symm, Store.set_ne _ _ _ d5.symm, Store.set_ne _ _ _ (ne gh)]; exact gh
  · rw [Store.set_ne _ _ _ d6.symm, Store.set_ne _ _ _ d4.symm, Store.set_ne _ _ _ d6.symm, Store.set_ne _ _ _ (ne gr)]; exact gr
  · exact (((gs.set (gs.none hu0)).set d8).set d7).set d8
end
end Go.Du
namespace Go.Du
open Go
attribute [local irreducible] ATriple W evP AI
def total (hs : List Head) : Nat := (hs.map fun x => x.1.length).sum
section
variable {Sb : Store} {a t h th : Nat} {lv : AV} {fn D : Nat}
theorem f432_j3_pt {pre : List Ver} {k : Nat} {l : List Head} {S : Store} (m : MS Sb a t h th (mrec a h lv fn D) pre k l S) (x : Ver) (u : Nat) (hu : S u = some (.row 112 8 [x.cs])) (hpre : pre.length ≤ 1048576) (K : AK)
    (hK : ∀ S', MS Sb a t h th (mrec a h lv fn D) (pre ++ [x]) k l S' → f432_L2 K (.yield t) (.ptr h 0 0) S') : f432_J3 K (.yield t) (.ptr h 0 0) (.ptr u 0 0) S := by
  refine f432_J3_pt ?_
  have e := ldv_all_at hu (show _ = 8 from rfl)
  simp -implicitDefEqProofs only [f432_j3, e, bQ_some]
  refine m.yield x hpre fun S' m' => ?_
  simp -implicitDefEqProofs only [aun_not, bQ_some, condW_bv, Bool.not_true, Bool.false_eq_true, if_false]
  exact hK S' m'
set_option maxRecDepth 100000 in
theorem f432_loop2 (K : AK) : ∀ (n : Nat) (k : Nat) (l : List Head) (pre : List Ver) (S : Store), MS Sb a t h th (mrec a h lv fn D) pre k l S → l.length ≤ 2 → (∀ x ∈ l.take k, x.1 ≠ []) → total (l.take k) ≤ n → pre.length + total (l.take k) ≤ 1048576 →
    (∀ S' l', MS Sb a t h th (mrec a h lv fn D) (pre ++ mergeF n (l.take k)) 0 l' S' → K (.exit 2) (ofL []) S') → f432_L2 K (.yield t) (.ptr h 0 0) S := by
  intro n
  induction n with
  | zero =>
    intro k l pre S m hl hne htot hlen hE
    have hk0 : k = 0 := by
      have hle := m.le
      match k, l, hle with
      | 0, _, _ => rfl
      | k + 1, x :: l, _ =>
        have := hne x (by simp)
        have hp : 0 < x.1.length := List.length_pos_iff.2 this
        have e : total ((x :: l).take (k + 1)) = x.1.length + total (l.take k) := by simp [total]
        rw [e] at htot
        omega
    subst hk0
    refine f432_L2_pt ?_
    simp -implicitDefEqProofs only [f432_l2]
    refine f434_c m.hs ?_
    simp -implicitDefEqProofs
    exact hE S l (by simpa [mergeF] using m)
  | succ n ih =>
    intro k l pre S m hl hne htot hlen hE
    refine f432_L2_pt ?_
    simp -implicitDefEqProofs only [f432_l2]
    refine f434_c m.hs ?_
    by_cases hk0 : k = 0
    · subst hk0
      simp -implicitDefEqProofs
      exact hE S l (by simpa [mergeF] using m)
    · have hkp : (0 : Int) < k := by omega
      have hkp' : 0 < k := by omega
      have hle := m.le
      match l, hl, hle, m, hne, htot, hlen, hE with
      | [], _, hle, _, _, _, _, _ => simp at hle; omega
      | (lx, i) :: l', hl, hle, m, hne, htot, hlen, hE =>
        have htk : ((lx, i) :: l').take k = (lx, i) :: l'.take (k - 1) := by
          cases k with
          | zero => omega
          | succ k => simp
        rw [htk] at hne htot hlen hE
        have hxn := hne (lx, i) (by simp)
        cases lx with
        | nil => exact absurd rfl hxn
        | cons v r =>
          have hh := m.hs
          have e0 := ldv_at (o := 0) hh.ob
          simp only [List.getElem?_cons_zero] at e0
          have x0 := hh.ix 0 hkp'
          simp only [Int.natCast_zero] at x0
          have l0 : ∀ S : Store, S th = some (hpR ((v :: r, i) :: l')) → ldv false 1 (.ptr th 0 0) S = some (vers (v :: r)) := fun S hS => by
            rw [ldv_ptr1 false 1 th 0 0 S hS (cs := hc (v :: r, i)) (by simp)]; rfl
          have x1 := ixA_ver (v :: r) 0 S (by simp)
          simp only [Int.natCast_zero, List.getElem_cons_zero] at x1
          simp -implicitDefEqProofs only [abi_gtr, gt_iff_lt, hkp, decide_true, bQ_some, condW_bv, if_true, anil, padd_ptr, Nat.add_zero, e0, x0, l0 S hh.row, x1, ldv_ver, newW_own]
          intro u hu
          rw [stv_ver, thenS_some]
          have m1 := m.new hu (.row 112 8 [v.cs])
          have hh1 := m1.hs
          have hur : u ≠ th := fun e => by subst e; rw [hh.row] at hu; cases hu
          have huh : u ≠ h := fun e => by subst e; rw [hh.ob] at hu; cases hu
          have sl : sliceV 8 (vers (v :: r)) (some (iv 1)) none none (S.set u (.row 112 8 [v.cs])) = some (vers r) := by
            have := sliceV_lo Ver.cs (v :: r) 1 8 (S.set u (.row 112 8 [v.cs])) (by simp) Ver.cs_length
            simp only [List.drop_succ_cons, List.drop_zero, Int.natCast_one] at this
            exact this
          have st : stv 1 (.ptr th 0 0) (vers r) (S.set u (.row 112 8 [v.cs])) = some ((S.set u (.row 112 8 [v.cs])).set th (hpR ((r, i) :: l'))) := by
            rw [stv_ptr1 1 th 0 0 (vers r) _ hh1.row (cs := hc (v :: r, i)) (by simp) rfl rfl (by simp)]
            rfl
          have m2 := m1.setR ((r, i) :: l') (by simpa using hle)
          have l1 : ldv false 1 (.ptr th 0 0) ((S.set u (.row 112 8 [v.cs])).set th (hpR ((r, i) :: l'))) = some (vers r) := by
            rw [ldv_ptr1 false 1 th 0 0 _ (Store.set_same _ _ _) (cs := hc (r, i)) (by simp)]; rfl
          simp -implicitDefEqProofs only [l0 _ hh1.row, bQ_some, sl, st, thenS_some, l1, aln_svals, List.length_map]
          have hu2 : ((S.set u (.row 112 8 [v.cs])).set th (hpR ((r, i) :: l'))) u = some (.row 112 8 [v.cs]) := by rw [Store.set_ne _ _ _ hur]; exact Store.set_same _ _ _
          have htot2 : total ((v :: r, i) :: l'.take (k - 1)) = r.length + 1 + total (l'.take (k - 1)) := by simp [total];
          rw [htot2] at htot hlen
          have nxt : ∀ k2 l2 S2, MS Sb a t h th (mrec a h lv fn D) pre k2 l2 S2 → S2 u = some (.row 112 8 [v.cs]) → l2.length ≤ 2 → (∀ x ∈ l2.take k2, x.1 ≠ []) → total (l2.take k2) = r.length + total (l'.take (k - 1)) → l2.take k2 = fixH r i (l'.take (k - 1)) → f432_J3 K (.yield t) (.ptr h 0 0) (.ptr u 0 0) S2 := by
            intro k2 l2 S2 q1 q2 q3 q4 q5 q6
            refine f432_j3_pt q1 v u q2 (by omega) K fun S' m' => ?_
            refine ih k2 l2 (pre ++ [v]) S' m' q3 q4 (by omega) (by simp; omega) fun S3 l3 m3 => hE S3 l3 ?_
            have : mergeF (n + 1) ((v :: r, i) :: l'.take (k - 1)) = v :: mergeF n (l2.take k2) := by rw [q6]; rfl
            rw [this]; simpa using m3
          cases hr : r with
          | nil =>
            subst hr
            simp -implicitDefEqProofs
            by_cases hk1 : k = 1
            · subst hk1
              have hh2 := m2.hs
              refine f435_1 hh2 fun x => ?_
              refine nxt 0 (([], i) :: l') _ (m2.setH 0 (Nat.zero_le _)) ?_ (by simpa using hl) (by simp) (by simp [total]) (by simp [fixH])
              rw [Store.set_ne _ _ _ huh]; exact hu2
            · have hl1 : l'.length = 1 := by simp at hl hle; omega
              have hk2 : k = 2 := by simp at hle; omega
              subst hk2
              obtain ⟨y, rfl⟩ : ∃ y, l' = [y] := by
                match l', hl1 with
                | [y], _ => exact ⟨y, rfl⟩
              refine f435_2 m2.hs fun x => ?_
              have m3 := (m2.setR [y, ([], i)] (by simp)).setH 1 (by simp)
              rw [Store.set_set] at m3 ⊢
              refine nxt 1 [y, ([], i)] _ m3 ?_ (by simp) (fun z hz => hne z (by simp at hz ⊢; exact .inr hz)) (by simp) (by simp [fixH])
              rw [Store.set_ne _ _ _ huh, Store.set_ne _ _ _ hur]; exact Store.set_same _ _ _
          | cons r0 r1 =>
            have hrne : r ≠ [] := by rw [hr]; simp
            rw [← hr]
            have hrl : ¬ (r.length : Int) = 0 := by rw [hr]; simp; omega
            have hrl2 : ¬ r.length = 0 := by rw [hr]; simp
            simp -implicitDefEqProofs [hrl, hrl2, hrne]
            by_cases hk1 : k = 1
            · subst hk1
              refine f436_1 m2.hs ?_
              refine nxt 1 ((r, i) :: l') _ m2 hu2 (by simpa using hl) (by simp [hrne]) (by simp [total]) ?_
              rw [hr]; simp [fixH]
            · have hl1 : l'.length = 1 := by simp at hl hle; omega
              have hk2 : k = 2 := by simp at hle; omega
              subst hk2
              obtain ⟨y, rfl⟩ : ∃ y, l' = [y] := by
                match l', hl1 with
                | [y], _ => exact ⟨y, rfl⟩
              have hy : y.1 ≠ [] := hne y (by simp)
              refine f436_2 m2.hs hrne hy (fun hl => ?_) (fun hl => ?_)
              · have m3 := m2.setR [y, (r, i)] (by simp)
                refine nxt 2 [y, (r, i)] _ m3 ?_ (by simp) (by simp [hrne, hy]) (by simp [total]; omega) ?_
                · rw [Store.set_ne _ _ _ hur]; exact hu2
                · rw [hr] at hl ⊢; simp [fixH, hl]
              · refine nxt 2 [(r, i), y] _ m2 hu2 (by simp) (by simp [hrne, hy]) (by simp [total]) ?_
                rw [hr] at hl ⊢; simp [fixH, hl]
end
end Go.Du
namespace Go.Du
open Go
attribute [local irreducible] ATriple W evP AI
def headsOf : Nat → List (List Ver) → List Head
  | _, [] => []
  | i, a :: r => if a = [] then headsOf (i + 1) r else (a, (i : Int)) :: headsOf (i + 1) r
def initH (hs : List Head) : List Head :=
  match hs with
  | [x, y] => if hless y x then [y, x] else [x, y]
  | hs => hs
def mergeAll (ls : List (List Ver)) : List Ver := mergeF (total (headsOf 0 ls)) (initH (headsOf 0 ls))
theorem headsOf_ne : ∀ (ls : List (List Ver)) (i : Nat), ∀ x ∈ headsOf i ls, x.1 ≠ []
  | [], _, x, hx => by simp [headsOf] at hx
  | a :: r, i, x, hx => by
    simp only [headsOf] at hx
    split at hx
    · exact headsOf_ne r _ x hx
    · rename_i hne
      simp only [List.mem_cons] at hx
      rcases hx with rfl | hx
      · exact hne
      · exact headsOf_ne r _ x hx
theorem headsOf_len : ∀ (ls : List (List Ver)) (i : Nat), (headsOf i ls).length ≤ ls.length
  | [], _ => by simp [headsOf]
  | a :: r, i => by
    simp only [headsOf]
    split
    · have := headsOf_len r (i + 1); simp; omega
    · have := headsOf_len r (i + 1); simp; omega
theorem headsOf_total : ∀ (ls : List (List Ver)) (i : Nat), total (headsOf i ls) = (ls.map List.length).sum
  | [], _ => by simp [headsOf, total]
  | a :: r, i => by
    simp only [headsOf]
    split
    · rename_i h; subst h; rw [headsOf_total r]; simp
    · have := headsOf_total r (i + 1)
      simp only [total, List.map_cons, List.sum_cons] at this ⊢; omega
theorem headsOf_app : ∀ (a b : List (List Ver)) (i : Nat), headsOf i (a ++ b) = headsOf i a ++ headsOf (i + a.length) b
  | [], b, i => by simp [headsOf]
  | x :: a, b, i => by
    simp only [List.cons_append, headsOf, List.length_cons]
    rw [headsOf_app a b (i + 1), show i + 1 + a.length = i + (a.length + 1) by omega]
    split <;> simp
theorem Grow.two {e sz : Nat} {S0 S : Store} {es : List (List AV)} {v : AV} (h : Grow e sz S0 es v S) : (v = nilS ∧ es = [] ∧ S = S0) ∨ ∃ t, S0 t = none ∧ v = .sref t 0 es.length ∧ S = S0.set t (.row e sz es) := by
  cases h with
  | nil => exact .inl ⟨rfl, rfl, rfl⟩
  | own ht => exact .inr ⟨_, ht, rfl, rfl⟩
set_option maxRecDepth 100000 in
theorem f432_loop1 (ls : List (List Ver)) (hB : ls.length ≤ 1000) (t0 : AV) (h : Nat) (Sb : Store) (hb : Sb h = none) (K : AK)
    (h0 : ∀ v S0 S, Grow 456 2 S0 ((headsOf 0 ls).map hc) v S → S0 h = some (.row 454 2 [[v, ordV]]) → Sub Sb S0 → K (.exit 0) (ofL [(0, t0), (4, .ptr h 0 0)]) S) :
    ∀ (n i : Nat) (v : AV) (S0 S : Store), n + i = ls.length → Grow 456 2 S0 ((headsOf 0 (ls.take i)).map hc) v S → S0 h = some (.row 454 2 [[v, ordV]]) → Sub Sb S0 → f432_L1 K t0 (.ptr h 0 0) (.svals (cks ls)) (iv ls.length) (iv i) S := by
  intro n
  induction n with
  | zero =>
    intro i v S0 S hi hg hh hs
    refine f432_L1_pt ?_
    have : ¬ (i : Int) < ls.length := by omega
    rw [List.take_of_length_le (by omega)] at hg
    simp -implicitDefEqProofs [f432_l1, this]
    exact h0 _ _ _ hg hh hs
  | succ n ih =>
    intro i v S0 S hi hg hh hs
    refine f432_L1_pt ?_
    have hlt : i < ls.length := by omega
    have hlt' : (i : Int) < ls.length := by omega
    have w1 : IntKind.i64.wrap ((i : Int) + 1) = ((i + 1 : Nat) : Int) := by rw [wrap_id (by omega) (by omega)]; omega
    have x0 : ∀ S, ixA 1 (.svals (cks ls)) (iv i) S = some (.fptr [vers ls[i]] 0) := fun S => ixA_map _ ls i 1 S hlt fun _ => rfl
    have htk : ls.take (i + 1) = ls.take i ++ [ls[i]] := List.take_succ_eq_append_getElem hlt
    have hap : headsOf 0 (ls.take (i + 1)) = headsOf 0 (ls.take i) ++ headsOf i [ls[i]] := by
      rw [htk, headsOf_app]; simp [Nat.min_eq_left (show i ≤ ls.length by omega)]
    have hhl := headsOf_len (ls.take i) 0
    simp only [List.length_take] at hhl
    generalize ls[i] = x at *
    simp -implicitDefEqProofs only [f432_l1, abi_lss, bQ_some, condW_bv, hlt', decide_true, if_true, x0, ldv_fptr, ldc_false, List.getElem?_cons_zero, aln_svals, List.length_map, abi_gtr, gt_iff_lt]
    by_cases hx : x = []
    · subst hx
      have hap2 : headsOf 0 (ls.take (i + 1)) = headsOf 0 (ls.take i) := by rw [hap]; simp [headsOf]
      simp -implicitDefEqProofs [w1]
      exact ih (i + 1) v S0 S (by omega) (by rw [hap2]; exact hg) hh hs
    · have hp : 0 < x.length := List.length_pos_iff.2 hx
      have hp' : (0 : Int) < x.length := by omega
      have e0 := ldv_at (o := 0) (hg.get hh)
      simp only [List.getElem?_cons_zero] at e0
      have e1 : abld [.lit (.slice none 0 0), .lit (.int .i64 0)] [(0, 1, vers x), (1, 1, iv i)] = some (.agg (hc (x, (i : Int)))) := by simp [abld, afill, splice]
      have e2 : frzOf (bslR true 2 456 2 1 1 [(0, .agg (hc (x, (i : Int))))]) = some (.svals [hc (x, (i : Int))]) := bsl_one 456 2 _ 2 ⟨rfl, by decide, by decide, rfl, rfl⟩
      simp -implicitDefEqProofs only [hp', decide_true, if_true, anil, padd_ptr, Nat.add_zero, bQ_some, e0, e1, e2]
      refine hg.app (k := .slice) (bytes := 32) (x := .svals [hc (x, (i : Int))]) (l := [hc (x, (i : Int))]) rfl (by simp) (by simp; omega) (by simp; omega) fun v2 S2 hg2 => ?_
      rw [stv_at (hg2.get hh) hg2.ok.1 hg2.ok.2 (by simp), thenS_some]
      simp only [List.set_cons_zero]
      have hg3 := hg2.upd hh (.row 454 2 [[v2, ordV]])
      rw [abi_add, bQ_some, w1]
      refine ih (i + 1) v2 _ _ (by omega) ?_ (Store.set_same _ _ _) (hs.set hb)
      have : (headsOf 0 (ls.take (i + 1))).map hc = (headsOf 0 (ls.take i)).map hc ++ [hc (x, (i : Int))] := by rw [hap]; simp [headsOf, hx]
      rw [this]; exact hg3
def FS (Sb : Store) (a t : Nat) (R : LoopState → Option Code → AObj) (pre : List Ver) (S : Store) : Prop :=
  ∃ v S0, Grow 112 8 S0 (pre.map Ver.cs) v S ∧ S0 a = some (.row 22 1 [[v]]) ∧ S0 t = some (R .ready none) ∧ Sub Sb S0
theorem f434_nil {h : Nat} {S : Store} (hh : S h = some (.row 454 2 [[nilS, ordV]])) {Q : AV → Store → Prop} (hq : Q (iv 0) S) : ATriple PR 434 [.ptr h 0 0] S Q := by
  refine f434_ok ?_
  have e := ldv_at (o := 0) hh
  simp only [List.getElem?_cons_zero] at e
  simp -implicitDefEqProofs only [f434_s, anil, padd_ptr, Nat.add_zero, bQ_some, e, aln_nil]
  exact dropQ_self hq
theorem f433_nil {h : Nat} {S : Store} (hh : S h = some (.row 454 2 [[nilS, ordV]])) {Q : AV → Store → Prop} (hq : Q (.tuple []) S) : ATriple PR 433 [.iface 451 (.ptr h 0 0)] S Q := by
  refine f433_ok ?_
  simp -implicitDefEqProofs only [f433_s]
  refine AInv_ptr PR_nong hb434 mLen rfl (f434_nil hh ?_)
  have a1 : abi .quo (iv 0) (iv 2) = some (iv 0) := rfl
  have a2 : abi .sub (iv 0) (iv 1) = some (iv (-1)) := rfl
  simp -implicitDefEqProofs [a1, a2]
  refine f433_L1_pt ?_
  simp -implicitDefEqProofs [f433_l1]
  apply f433_K1_e0_pt
  exact dropQ_self hq
set_option maxRecDepth 100000 in
theorem f432_c (ls : List (List Ver)) (hB : ls.length ≤ 2) (hT : (ls.map List.length).sum ≤ 1048576) (a t fn D : Nat) (Sb : Store) (ha0 : Sb a = none) (ht0 : Sb t = none) (S : Store) (hs : Sub Sb S) (hat : a ≠ t)
    (ha : S a = some (.row 22 1 [[nilS]])) (ht : S t = some (f207_rec1 (.ptr a 0 0) (.func (.func 432) [] [.fptr [ordV] 0, .fptr [.svals (cks ls)] 0]) fn D .ready none)) {Q : AV → Store → Prop}
    (hq : ∀ S', FS Sb a t (f207_rec1 (.ptr a 0 0) (.func (.func 432) [] [.fptr [ordV] 0, .fptr [.svals (cks ls)] 0]) fn D) (mergeAll ls) S' → Q (.tuple []) S') :
    ATriple PR 432 [.yield t, .fptr [ordV] 0, .fptr [.svals (cks ls)] 0] S Q := by
  refine f432_ok ?_
  have e1 : abld [.lit (.slice none 0 0), .lit (.nilFunc)] [(1, 1, ordV)] = some (.agg [nilS, ordV]) := by simp [abld, afill, splice, okC, AV.one, cellsOf]
  simp -implicitDefEqProofs only [f432_s, ldv_fptr, ldc_false, List.getElem?_cons_zero, bQ_some, e1, boxR_agg, mkNew_false, newW_own, aln_svals, List.length_map]
  intro h hh
  have hah : a ≠ h := fun e => by subst e; rw [ha] at hh; cases hh
  have hth : t ≠ h := fun e => by subst e; rw [ht] at hh; cases hh
  have hSh : Sb h = none := hs.none hh
  have hs1 : Sub Sb (S.set h (.row 454 2 [[nilS, ordV]])) := hs.set hSh
  refine f432_loop1 ls (by omega) _ h S hh _ ?_ ls.length 0 nilS _ _ rfl .nil (Store.set_same _ _ _) ((Sub.refl S).set hh)
  intro v S0 S1 hg gh gs
  apply f432_K1_e0_pt
  simp -implicitDefEqProofs only [f432_K1_e0]
  have hla := headsOf_len ls 0
  have hne := headsOf_ne ls 0
  have htt := headsOf_total ls 0
  generalize hhs : headsOf 0 ls = hs' at hg hla hne htt
  have gS : Sub S S1 := gs.trans hg.sub
  rcases hg.two with ⟨rfl, he, rfl⟩ | ⟨th, hth0, rfl, rfl⟩
  · have hemp : hs' = [] := by simpa using he
    subst hemp
    refine f433_nil gh ?_
    refine f432_L2_pt ?_
    simp -implicitDefEqProofs only [f432_l2]
    refine f434_nil gh ?_
    simp -implicitDefEqProofs
    apply f432_K2_e2_pt
    refine dropQ_self (hq _ ⟨nilS, _, ?_, gS a _ ha, gS t _ ht, hs.trans gS⟩)
    have : mergeAll ls = [] := by unfold mergeAll; rw [hhs]; rfl
    rw [this]; exact .nil
  · have ath : a ≠ th := fun e => by subst e; rw [gs a _ ha] at hth0; cases hth0
    have tth : t ≠ th := fun e => by subst e; rw [gs t _ ht] at hth0; cases hth0
    have hhth : h ≠ th := fun e => by subst e; rw [gh] at hth0; cases hth0
    have hSth : Sb th = none := (hs.trans gs).none hth0
    simp only [List.length_map] at gh ⊢
    have m : MS Sb a t h th (mrec a h (.svals (cks ls)) fn D) [] hs'.length hs' (S0.set th (hpR hs')) := by
      refine ⟨⟨nilS, _, .nil, ?_, ?_, ?_, Store.set_same _ _ _, (hs.trans gs).set hSth⟩, Nat.le_refl _, hhth, hat, hah, ath, hth, tth, ha0, ht0, hSh, hSth⟩
      · rw [Store.set_ne _ _ _ ath]; exact gs a _ ha
      · rw [Store.set_ne _ _ _ tth]; exact gs t _ ht
      · rw [Store.set_ne _ _ _ hhth]; exact gh
    have go : ∀ (l : List Head) S2, l.length = hs'.length → (∀ x ∈ l, x.1 ≠ []) → total l = total hs' → l = initH hs' → MS Sb a t h th (mrec a h (.svals (cks ls)) fn D) [] hs'.length l S2 → f432_L2 (f432_K2 Q) (.yield t) (.ptr h 0 0) S2 := by
      intro l S2 q1 q2 q3 q4 q5
      have htk : l.take hs'.length = l := List.take_of_length_le (by omega)
      refine f432_loop2 _ (total hs') hs'.length l [] S2 q5 (by omega) (by rw [htk]; exact q2) (by rw [htk]; omega) (by rw [htk, q3, htt]; simpa using hT) fun S' l' m' => ?_
      apply f432_K2_e2_pt
      obtain ⟨⟨v, S3, r1, r2, r3, _, _, r6⟩, _, _⟩ := m'
      refine dropQ_self (hq _ ⟨v, S3, ?_, r2, r3, r6⟩)
      have : mergeAll ls = [] ++ mergeF (total hs') (l.take hs'.length) := by unfold mergeAll; rw [hhs, htk, q4]; rfl
      rw [this]; exact r1
    match hs', hla, hne, htt, m, go with
    | [], _, _, _, m, go => exact f433_1 m.hs (by simp) (go [] _ rfl (by simp) rfl rfl m)
    | [x], _, hne, _, m, go => exact f433_1 m.hs (by simp) (go [x] _ rfl hne rfl rfl m)
    | [x, y], _, hne, _, m, go =>
      refine f433_2 m.hs (hne x (by simp)) (hne y (by simp)) (fun hl => ?_) (fun hl => ?_)
      · refine go [y, x] _ rfl (fun z hz => hne z (by simp at hz ⊢; rcases hz with h | h <;> simp [h])) (by simp [total]; omega) (by simp [initH, hl]) (m.setR [y, x] (by simp))
      · exact go [x, y] _ rfl hne rfl (by simp [initH, hl]) m
    | x :: y :: z :: r, hla, _, _, _, _ => simp at hla; omega
theorem hb432 : hasBody PR 432 = true := by kernel_rfl
theorem f350_c (lv : List (List AV)) (S : Store) {Q : AV → Store → Prop} (h : Q (.func (.func 432) [] [.fptr [ordV] 0, .fptr [.svals lv] 0]) S) : ATriple PR 350 [ordV, .svals lv] S Q := by
  refine f350_ok ?_
  simp -implicitDefEqProofs [f350_s]
  exact dropQ_self h
theorem f207_c (ls : List (List Ver)) (hB : ls.length ≤ 2) (hT : (ls.map List.length).sum ≤ 1048576) (S : Store) {Q : AV → Store → Prop} (h : Q (vers (mergeAll ls)) S) : ATriple PR 207 [ordV, .svals (cks ls)] S Q := by
  refine f207_ok ?_
  simp -implicitDefEqProofs only [f207_s, newW_own]
  intro a ha
  refine f350_c _ _ ?_
  refine f207_R1_pt rfl hb432 fun t fn D ht => ?_
  have hta : t ≠ a := fun e => by subst e; simp at ht
  have ht0 : S t = none := by rwa [Store.set_ne _ _ _ hta] at ht
  refine f432_c ls hB hT a t fn D S ha ht0 _ (((Sub.refl S).set ha).set ht0) hta.symm (by rw [Store.set_ne _ _ _ hta.symm]; exact Store.set_same _ _ _) (Store.set_same _ _ _) ?_
  rintro S' ⟨v, S0, hg, ga, gt, gs⟩
  refine ⟨.ready, none, hg.get gt, by simp, ?_⟩
  show f207_K1 Q .normal (ofL [(5, .ptr a 0 0)]) _
  apply f207_K1_normal_pt
  have hg2 := hg.erase gt
  have ga2 : (S0.erase t) a = some (.row 22 1 [[v]]) := by rw [Store.erase_ne _ _ hta.symm]; exact ga
  have e1 := ldv_at (o := 0) (hg2.get ga2)
  simp only [List.getElem?_cons_zero] at e1
  simp -implicitDefEqProofs only [f207_K1_normal, e1, bQ_some]
  exact ⟨_, S, hg2.ent.trans (.drop (gs.erase ht0)), h⟩
end Go.Du
namespace Go.Du
open Go
attribute [local irreducible] ATriple W evP AI
theorem Grow.setAt {e sz : Nat} {S0 S : Store} {es : List (List AV)} {v x : AV} (h : Grow e sz S0 es v S) {k : Nat} (hk : k < es.length) (hes : es[k].length = sz) (hx : okC x = true) (hc : (cellsOf x).length = sz) :
    ∃ p S', ixA sz v (iv k) S = some p ∧ stv sz p x S = some S' ∧ Grow e sz S0 (es.set k (cellsOf x)) v S' := by
  cases h with
  | nil => simp at hk
  | own ht =>
    rename_i t
    refine ⟨.ptr t k 0, _, ?_, stv_ptr1 sz t k 0 x _ (Store.set_same _ _ _) (cs := es[k]) (by simp [hk]) hx hc (by omega), ?_⟩
    · simp [ixA, litInt, aix, hk]
    · rw [Store.set_set]
      have : splice es[k] 0 (cellsOf x) = cellsOf x := by simp [splice]; omega
      rw [this]
      have := Grow.own (e := e) (sz := sz) (es := es.set k (cellsOf x)) ht
      rwa [List.length_set] at this
def onceF : List Ver → Option Ver → List Ver → List Ver
  | acc, _, [] => acc
  | acc, none, x :: r => onceF (acc ++ [x]) (some x) r
  | acc, some p, x :: r => if p.cmp x = 0 then onceF (acc.set (acc.length - 1) x) (some x) r else onceF (acc ++ [x]) (some x) r
set_option maxRecDepth 100000 in
theorem f205_loop (l : List Ver) (hB : l.length ≤ 1048576) (S0 : Store) (K : AK) (r : List Ver) (h0 : ∀ v S Sx, Sub S0 Sx → Grow 112 8 Sx (r.map Ver.cs) v S → K (.exit 0) (ofL [(5, v)]) S) :
    ∀ (n i : Nat) (acc : List Ver) (v : AV) (Sx S : Store), n + i = l.length → acc.length ≤ i → (0 < i → 0 < acc.length) → Sub S0 Sx → Grow 112 8 Sx (acc.map Ver.cs) v S → r = onceF acc (if i = 0 then none else l[i - 1]?) (l.drop i) →
      f205_L1 K ordV (vers l) v (vers l) (iv l.length) (iv i) S := by
  intro n
  induction n with
  | zero =>
    intro i acc v Sx S hi ha hp hs hg hr
    refine f205_L1_pt ?_
    have : ¬ (i : Int) < l.length := by omega
    rw [List.drop_of_length_le (by omega)] at hr
    have hr' : r = acc := by rw [hr]; cases (if i = 0 then none else l[i - 1]?) <;> rfl
    subst hr'
    simp -implicitDefEqProofs [f205_l1, this]
    exact h0 _ _ _ hs hg
  | succ n ih =>
    intro i acc v Sx S hi ha hp hs hg hr
    refine f205_L1_pt ?_
    have hlt : i < l.length := by omega
    have hlt' : (i : Int) < l.length := by omega
    have w1 : IntKind.i64.wrap ((i : Int) + 1) = ((i + 1 : Nat) : Int) := by rw [wrap_id (by omega) (by omega)]; omega
    have x0 := fun S => ixA_ver l i S hlt
    rw [List.drop_eq_getElem_cons hlt] at hr
    have hprev : (if i + 1 = 0 then none else l[i + 1 - 1]?) = some l[i] := by simp [hlt]
    generalize hx : l[i] = x at *
    simp -implicitDefEqProofs only [f205_l1, abi_lss, bQ_some, condW_bv, hlt', decide_true, if_true, x0, ldv_ver, newW_own]
    intro u hu
    rw [stv_ver, thenS_some]
    have hux : Sx u = none := hg.sub.none hu
    have hg1 := hg.under' hu (.row 112 8 [x.cs])
    have gs1 : Sub S0 (Sx.set u (.row 112 8 [x.cs])) := hs.set (hs.none hux)
    have gu : (Sx.set u (.row 112 8 [x.cs])) u = some (.row 112 8 [x.cs]) := Store.set_same _ _ _
    have k8 : ∀ S', Grow 112 8 (Sx.set u (.row 112 8 [x.cs])) (acc.map Ver.cs) v S' → ldv true 8 (.ptr u 0 0) S' = some x.av := fun S' h => ldv_all_at (h.get gu) rfl
    have add : r = onceF (acc ++ [x]) (some x) (l.drop (i + 1)) → bQ (ldv true 8 (.ptr u 0 0) (S.set u (.row 112 8 [x.cs]))) fun t35 => bQ (frzOf (bslR true 8 112 8 1 1 [(0, t35)])) fun t36 => apW (some (112, 8, 80, .slice)) v t36 (S.set u (.row 112 8 [x.cs])) fun t37 S_5 => bQ (abi .add (iv i) (iv 1)) fun t38 => f205_L1 K ordV (vers l) t37 (vers l) (iv l.length) t38 S_5 := by
      intro hr2
      have bs := bsl_ver x
      rw [k8 _ hg1, bQ_some, bs, bQ_some]
      refine hg1.ver x (by omega) fun v' S' hg2 => ?_
      rw [abi_add, bQ_some, w1]
      exact ih (i + 1) (acc ++ [x]) v' _ S' (by omega) (by simp; omega) (by simp) gs1 hg2 (by rw [hprev]; exact hr2)
    by_cases hz : i = 0
    · subst hz
      simp only [if_true] at hr
      have hr2 : r = onceF (acc ++ [x]) (some x) (l.drop 1) := by rw [hr]; rfl
      have c0 : abi .gtr (iv ((0 : Nat) : Int)) (iv 0) = some (bv false) := rfl
      simp -implicitDefEqProofs only [c0, bQ_some, gdQ_bv, gdQ_undef, gdE_bv, gdE_undef, apick_bv, condW_bv, Bool.false_eq_true, if_false]
      exact add hr2
    · have hz' : (0 : Int) < i := by omega
      have hzp : 0 < i := by omega
      have w2 : IntKind.i64.wrap ((i : Int) - 1) = ((i - 1 : Nat) : Int) := by rw [wrap_id (by omega) (by omega)]; omega
      have x1 := fun S => ixA_ver l (i - 1) S (by omega)
      have hpr : (if i = 0 then none else l[i - 1]?) = some (l[i - 1]'(by omega)) := by rw [if_neg hz]; simp [show i - 1 < l.length by omega]
      rw [hpr] at hr
      generalize l[i - 1]'(by omega) = p at *
      simp only [onceF] at hr
      simp -implicitDefEqProofs only [abi_gtr, gt_iff_lt, hz', decide_true, bQ_some, gdQ_bv, gdE_bv, if_true, abi_sub, w2, x1, ldv_ver, k8 _ hg1]
      simp only [callW, hb206]
      refine f206_c p x _ ?_
      by_cases hc : p.cmp x = 0
      · rw [if_pos hc] at hr
        have hpos := hp hzp
        have hlen := hg1.len
        simp only [List.length_map] at hlen
        have w3 : IntKind.i64.wrap ((acc.length : Int) - 1) = ((acc.length - 1 : Nat) : Int) := by rw [wrap_id (by omega) (by omega)]; omega
        obtain ⟨q, S', q1, q2, q3⟩ := hg1.setAt (k := acc.length - 1) (x := x.av) (by simp; omega) (by simp) rfl rfl
        have hce : abi .eql (iv (p.cmp x)) (iv 0) = some (bv true) := by rw [hc]; rfl
        simp -implicitDefEqProofs only [hce, gdQ_bv, if_true, bQ_some, apick_bv, condW_bv, hlen, abi_sub, w3, k8 _ hg1, q1, q2, thenS_some, abi_add, w1]
        refine ih (i + 1) (acc.set (acc.length - 1) x) v _ S' (by omega) (by simp; omega) (by simp; omega) gs1 ?_ (by rw [hprev]; exact hr)
        rw [List.map_set]; exact q3
      · rw [if_neg hc] at hr
        have hce : abi .eql (iv (p.cmp x)) (iv 0) = some (bv false) := by simp [hc]
        simp -implicitDefEqProofs only [hce, gdQ_bv, if_true, bQ_some, apick_bv, condW_bv, Bool.false_eq_true, if_false]
        exact add hr
theorem f205_c (l : List Ver) (hB : l.length ≤ 1048576) (S : Store) {Q : AV → Store → Prop} (h : Q (vers (onceF [] none l)) S) : ATriple PR 205 [ordV, vers l] S Q := by
  refine f205_ok ?_
  simp -implicitDefEqProofs only [f205_s, aln_svals, List.length_map, bQ_some]
  refine f205_loop l hB S _ (onceF [] none l) ?_ l.length 0 [] nilS S S rfl (by simp) (by omega) (.refl S) .nil (by simp)
  intro v S' Sx hs hg
  apply f205_K1_e0_pt
  exact ⟨_, S, hg.ent.trans (.drop hs), h⟩
end Go.Du
namespace Go.Du
open Go
attribute [local irreducible] ATriple W evP AI
def fb : Bs → AV
  | [] => .lit (.slice none 0 0)
  | b :: l => bytes (b :: l)
structure Fl where
  name : Bs
  b : Bs
  safe : Nat
  deriving DecidableEq
def Fl.en (f : Fl) : Value × AV := (.string (sb f.name), .agg [fb f.b, iv f.safe])
abbrev dEs (fs : List Fl) : List (Value × AV) := fs.map Fl.en
structure DiskAt (S : Store) (d mt : Nat) (q : Int) (fs : List Fl) : Prop where
  dk : S d = some (.row 253 4 [[.mref mt, iv q, iv (-1), bv false]])
  mp : S mt = some (.map (dEs fs))
theorem DiskAt.ne {S : Store} {d mt : Nat} {q : Int} {fs : List Fl} (h : DiskAt S d mt q fs) : d ≠ mt := fun e => by
  have := h.dk; rw [e, h.mp] at this; cases this
theorem DiskAt.put {S : Store} {d mt : Nat} {q : Int} {fs : List Fl} (h : DiskAt S d mt q fs) (fs' : List Fl) : DiskAt (S.set mt (.map (dEs fs'))) d mt q fs' :=
  ⟨by rw [Store.set_ne _ _ _ h.ne]; exact h.dk, Store.set_same _ _ _⟩
theorem DiskAt.sub {S S' : Store} {d mt : Nat} {q : Int} {fs : List Fl} (h : DiskAt S d mt q fs) (hs : Sub S S') : DiskAt S' d mt q fs := ⟨hs _ _ h.dk, hs _ _ h.mp⟩
theorem aln_fb (l : Bs) (S : Store) : aln .slice (fb l) S = some (iv l.length) := by cases l <;> simp [fb, aln]
theorem rd_fb (l : Bs) (S : Store) : rdS (fb l) S = some (byt l) := by cases l <;> rfl
theorem okC_fb (l : Bs) : okC (fb l) = true := by cases l <;> rfl
theorem cells_fb (l : Bs) : cellsOf (fb l) = [fb l] := by cases l <;> rfl
theorem map_eraseIdx' {α β : Type} (f : α → β) : ∀ (l : List α) (i : Nat), (l.map f).eraseIdx i = (l.eraseIdx i).map f
  | [], _ => rfl
  | _ :: _, 0 => rfl
  | x :: l, i + 1 => by simp [map_eraseIdx' f l i]
def fIdx (n : Bs) : List Fl → Option Nat
  | [] => none
  | f :: fs => if n = f.name then some 0 else (fIdx n fs).map (· + 1)
theorem sb_beq (a b : Bs) : (sb a == sb b) = decide (a = b) := by
  by_cases h : a = b
  · subst h; simp [beqBA.2 rfl]
  · have : (sb a == sb b) = false := by
      cases e : (sb a == sb b) with
      | false => rfl
      | true =>
        have := beqBA.1 e
        have := congrArg ByteArray.toList this
        simp at this
        exact absurd this h
    simp [this, h]
theorem mIdx_dEs (n : Bs) : ∀ fs : List Fl, mIdx (sb n) (dEs fs) = some (fIdx n fs)
  | [] => rfl
  | f :: fs => by
    have := mIdx_dEs n fs
    simp only [dEs, List.map_cons, Fl.en, mIdx, fIdx, sb_beq] at this ⊢
    by_cases h : n = f.name
    · simp [h]
    · simp [h, this]
def fGet (n : Bs) (fs : List Fl) : Option Fl := (fIdx n fs).bind (fs[·]?)
def fPut (f : Fl) (fs : List Fl) : List Fl :=
  match fIdx f.name fs with
  | some i => fs.set i f
  | none => fs ++ [f]
def fDel (n : Bs) (fs : List Fl) : List Fl :=
  match fIdx n fs with
  | some i => fs.eraseIdx i
  | none => fs
theorem fIdx_lt {n : Bs} : ∀ {fs : List Fl} {i : Nat}, fIdx n fs = some i → ∃ h : i < fs.length, fs[i].name = n
  | [], i, h => by simp [fIdx] at h
  | f :: fs, i, h => by
    simp only [fIdx] at h
    split at h
    · rename_i e
      simp only [Option.some.injEq] at h; subst h
      exact ⟨by simp, e.symm⟩
    · obtain ⟨j, hj, rfl⟩ := Option.map_eq_some_iff.1 h
      obtain ⟨h1, h2⟩ := fIdx_lt hj
      exact ⟨by simp; omega, by simpa using h2⟩
theorem fGet_isSome {n : Bs} {fs : List Fl} : (fGet n fs).isSome = (fIdx n fs).isSome := by
  unfold fGet
  cases h : fIdx n fs with
  | none => rfl
  | some i => obtain ⟨h1, _⟩ := fIdx_lt h; simp [h1]
section
variable {S : Store} {mt : Nat} {fs : List Fl}
theorem alook_file (h : S mt = some (.map (dEs fs))) (n : Bs) (ok : Bool) (z : AV) :
    alook z ok (.mref mt) (sv n) S = some (match fGet n fs with
      | some f => if ok then .tuple [f.en.2, bv true] else f.en.2
      | none => if ok then .tuple [z, bv false] else z) := by
  simp only [alook, h, mIdx_dEs, fGet]
  cases hi : fIdx n fs with
  | none => rfl
  | some i =>
    obtain ⟨h1, h2⟩ := fIdx_lt hi
    simp [h1]
theorem amput_file (h : S mt = some (.map (dEs fs))) (f : Fl) {v : AV} (hv : v = f.en.2) : amput (.mref mt) (sv f.name) v S = some (S.set mt (.map (dEs (fPut f fs)))) := by
  subst hv
  simp only [amput, h, mIdx_dEs, fPut]
  cases hi : fIdx f.name fs with
  | none => simp [dEs, Fl.en]
  | some i => simp [dEs, Fl.en, List.map_set]
theorem amdel_file (h : S mt = some (.map (dEs fs))) (n : Bs) : amdel (.mref mt) (sv n) S = some (S.set mt (.map (dEs (fDel n fs)))) := by
  simp only [amdel, h, mIdx_dEs, fDel]
  cases hi : fIdx n fs with
  | none =>
    simp only
    congr 1
    funext x
    by_cases e : x = mt
    · subst e; rw [Store.set_same]; exact h
    · rw [Store.set_ne _ _ _ e]
  | some i => simp only [dEs, map_eraseIdx']
end
def ixByte (s : Bs) (c : UInt8) : Int := match (List.range s.length).find? fun i => s.getD i 0 == c with | some i => (i : Int) | none => -1
def hasNoBody (P : Program) (g : Nat) (n : String) : Bool := match P.funcs[g]? with
  | some fn => fn.body.isNone && fn.name == n
  | none => false
theorem nobody483 : hasNoBody PR 483 "internal/bytealg.IndexByteString" = true := by kernel_rfl
theorem find?_congr' {α : Type} {p q : α → Bool} : ∀ (l : List α), (∀ x ∈ l, p x = q x) → l.find? p = l.find? q
  | [], _ => rfl
  | x :: l, h => by
    rw [List.find?_cons, List.find?_cons, h x (by simp), find?_congr' l (fun y hy => h y (by simp [hy]))]
theorem ext483a : (PR.funcs[483]?.map fun fn => (Extern.findNext fn).isNone) = some true := by kernel_rfl
theorem ext483b : (PR.funcs[483]?.map fun fn => Extern.find fn) = some (some Extern.BytealgIndexByte.indexByte) := by kernel_rfl
theorem indexByte_run (s : Bs) (c : UInt8) (w : World) : (Extern.BytealgIndexByte.indexByte #[.string (sb s), .int .u8 c.toNat]).run PR w = .ok (.int .i64 (ixByte s c)) w := by
  have e : Extern.BytealgIndexByte.indexByte #[.string (sb s), .int .u8 c.toNat] = (match (List.range (sb s).size).find? fun i => (sb s)[i]! == (c.toNat : Int).toNat.toUInt8 with
    | some i => pure (goInt i)
    | none => pure (goInt (-1))) := rfl
  have hc : (c.toNat : Int).toNat.toUInt8 = c := by simp
  have hf : (List.range (sb s).size).find? (fun i => (sb s)[i]! == (c.toNat : Int).toNat.toUInt8) = (List.range s.length).find? fun i => s.getD i 0 == c := by
    rw [hc, sb_size]
    refine find?_congr' _ fun i hi => ?_
    have hi' : i < s.length := by simpa using hi
    have : (sb s)[i]! = s.getD i 0 := by
      rw [getElem!_pos (sb s) i (by simpa using hi')]
      show s.toArray[i] = _
      simp [List.getD, hi']
    rw [this]
  rw [e, hf]
  unfold ixByte
  split <;> rfl
set_option maxRecDepth 100000 in
theorem f483_x (s : Bs) (c : UInt8) (S : Store) {Q : AV → Store → Prop} (h : Q (iv (ixByte s c)) S) : AExt PR 483 [sv s, uv c.toNat] S Q := by
  intro m w args' hr ha
  have nb := nobody483
  unfold hasNoBody at nb
  split at nb
  · rename_i fn hfn
    simp only [Bool.and_eq_true, beq_iff_eq] at nb
    obtain ⟨n1, n2⟩ := nb
    have a0 := ha.2 0 (by simp)
    have a1 := ha.2 1 (by simp)
    simp only [List.getElem_cons_zero] at a0
    simp only [List.getElem_cons_succ, List.getElem_cons_zero] at a1
    have hs : args'.size = 2 := by have := ha.1; simpa using this.symm
    have e0 : args' = #[.string (sb s), .int .u8 c.toNat] := by
      apply Array.ext
      · simpa using hs
      · intro i hi hi2
        match i, hi2 with
        | 0, _ => have := a0.lit_inv; simpa [Array.getD, hs] using this
        | 1, _ => have := a1.lit_inv; simpa [Array.getD, hs] using this
    subst e0
    have hn : fn.name ≠ "runtime.NumGoroutine" := by rw [n2]; decide
    have g1 : Extern.findNext fn = none := by
      have := ext483a
      rw [hfn] at this
      simpa using this
    have g2 : Extern.find fn = some Extern.BytealgIndexByte.indexByte := by
      have := ext483b
      rw [hfn] at this
      simpa using this
    have hrun : (callFunc 483 #[.string (sb s), .int .u8 c.toNat]).run PR w = .ok (.value (.int .i64 (ixByte s c))) w := by
      simp -implicitDefEqProofs only [callFunc, Sem.run_bind, run_program, Result.andThen_ok, hfn, beq_iff_eq, hn, if_false, n1, if_true, run_mark, g1, g2, indexByte_run, Sem.run_pure]
    rw [hrun]
    exact ⟨_, _, m, h, .refl m, rfl, hr, .lit _ rfl⟩
  · cases nb
end Go.Du
namespace Go.Du
open Go
set_option maxRecDepth 1000000
section
open Go.Proofs
variable {S : Store} {Q : QT} {K : AK} {t0 t1 t2 t3 t4 t5 t6 t7 t8 t9 t10 t22 t23 t24 : AV}
def f58_s (t0 : AV) (S : Store) (Q : QT) : Prop := bQ (abi .lss t0 (iv 0)) fun t4 => gdQ t4 false (some t0) fun t6 => gdQ t4 false (abi .gtr t6 (iv 16777216)) fun t7 => bQ (apick t4 (bv true) t7) fun t8 => condW t8 (dropQ Q (.lit (.pointer none)) S) (newW (some (.own (.map []) .mref)) S fun t9 S_1 => bQ (abld [.lit (.map none), iv 0, iv 0, bv false] [(0, 1, t9), (1, 1, t0), (2, 1, iv (-1))]) fun t11 => newW (boxR false 253 t11) S_1 fun t12 S_2 => dropQ Q t12 S_2)
theorem f58_ok : f58_s t0 S Q → ATriple PR 58 [t0] S Q := fun h => pF (fn := Tryz.f58) (.two (rg 1 0 0) (.two (.two (rg 6 0 0) (.two (.two (rg 1 0 0) (.nil)) (.nil))) (.two (rg 5 9 0) (.nil)))) h
def f169_s (t0 : AV) (S : Store) (Q : QT) : Prop := bQ (anil t0) fun t4 => bQ (padd t4 3) fun t5 => bQ (ldv false 1 t5 S) fun t6 => bQ (aun .not t6) fun t7 => dropQ Q t7 S
theorem f169_ok : f169_s t0 S Q → ATriple PR 169 [t0] S Q := fun h => pF (fn := Tryz.f169) (.two (rg 1 0 0) (.two (rg 6 0 0) (.nil))) h
def f308_s (t0 : AV) (S : Store) (Q : QT) : Prop := bQ (anil t0) fun t4 => bQ (padd t4 0) fun t5 => bQ (ldv false 1 t5 S) fun t6 => ATriple PR 416 [t6] S fun t7 S_1 => ATriple PR 164 [t7] S_1 fun t8 S_2 => dropQ Q t8 S_2
theorem f308_ok : f308_s t0 S Q → ATriple PR 308 [t0] S Q := fun h => pF (fn := Tryz.f308) (.two (rg 1 0 0) (.two (rg 7 48 0) (.nil))) h
noncomputable def f170_c1 : Code := (cl (cl (cr (cr (cr (cr (cr (bodyOf Tryz.f170))))))))
def f170_L1 (K : AK) (t0 t1 t4 t22 t23 t24 : AV) (S : Store) : Prop := AI PR none 79 [.code f170_c1, .inLoop f170_c1] K (ofL [(0, t0), (1, t1), (4, t4), (22, t22), (23, t23), (24, t24)]) S
noncomputable def f170_K1 (Q : QT) : AK := (AK.block 0 (retK PR Tryz.f170 (dropQ Q)))
def f170_s (t0 t1 : AV) (S : Store) (Q : QT) : Prop := bQ (anil t0) fun t11 => bQ (padd t11 2) fun t12 => thenS (stv 1 t12 (iv (-1)) S) fun _ S_1 => bQ (anil t0) fun t14 => bQ (padd t14 3) fun t15 => bQ (ldv false 1 t15 S_1) fun t16 => bQ (aun .not t16) fun t17 => condW t17 (dropQ Q (.tuple []) S_1) (bQ (anil t0) fun t19 => bQ (padd t19 3) fun t20 => thenS (stv 1 t20 (bv false) S_1) fun _ S_2 => ATriple PR 308 [t0] S_2 fun t22 S_3 => bQ (aln .slice t22 S_3) fun t23 => f170_L1 (f170_K1 Q) t0 t1 (iv 0) t22 t23 (iv 0) S_3)
theorem f170_ok : f170_s t0 t1 S Q → ATriple PR 170 [t0, t1] S Q := fun h => pF (fn := Tryz.f170) (.two (rg 4 8 0) (.two (.two (rg 5 0 0) (.two (.nil) (.nil))) (.two (rg 4 8 0) (.two (rg 1 0 0) (.two (rg 4 2 0) (.one (.loop [0, 1, 4, 22, 23, 24]))))))) h
attribute [irreducible] f170_L1 f170_K1
def f329_s (t0 t1 : AV) (S : Store) (Q : QT) : Prop := bQ (anil t0) fun t9 => bQ (padd t9 0) fun t10 => bQ (ldv false 1 t10 S) fun t11 => bQ (alook (AV.ofValue (.agg #[.slice none 0 0, .int .i64 0])) true t11 t1 S) fun t13 => bQ (aext t13 0) fun t14 => bQ (aext t13 1) fun t15 => newW (some (.own (.row 358 2 [[nilS, iv 0]]) fun u => .ptr u 0 0)) S fun t5 S_1 => thenS (stv 2 t5 t14 S_1) fun _ S_2 => bQ (aun .not t15) fun t17 => condW t17 (dropQ Q (iv 8) S_2) (dropQ Q (iv 0) S_2)
theorem f329_ok : f329_s t0 t1 S Q → ATriple PR 329 [t0, t1] S Q := fun h => pF (fn := Tryz.f329) (.two (rg 1 0 0) (.two (.two (rg 12 1536 0) (.two (rg 2 0 0) (.two (.two (rg 1 0 0) (.nil)) (.nil)))) (.two (rg 1 0 0) (.nil)))) h
def f216_s (t0 t1 t2 t3 : AV) (S : Store) (Q : QT) : Prop := ATriple PR 329 [t0, t1] S fun t14 S_1 => bQ (anil t0) fun t17 => bQ (padd t17 3) fun t18 => bQ (ldv false 1 t18 S_1) fun t19 => condW t19 (dropQ Q (.tuple [nilS, iv 7]) S_1) (bQ (abi .neq t14 (iv 0)) fun t22 => condW t22 (dropQ Q (.tuple [nilS, t14]) S_1) (bQ (abi .lss t2 (iv 0)) fun t26 => gdQ t26 false (some t3) fun t28 => gdQ t26 false (abi .lss t28 (iv 0)) fun t29 => bQ (apick t26 (bv true) t29) fun t30 => condW t30 (dropQ Q (.tuple [nilS, iv 1]) S_1) (bQ (anil t0) fun t32 => bQ (padd t32 0) fun t33 => bQ (ldv false 1 t33 S_1) fun t34 => bQ (alook (AV.ofValue (.agg #[.slice none 0 0, .int .i64 0])) false t34 t1 S_1) fun t36 => bQ (afl false 1 0 t36) fun t37 => bQ (aln .slice t37 S_1) fun t40 => bQ (amin t2 t40) fun t41 => bQ (aln .slice t37 S_1) fun t47 => bQ (abi .sub t47 t41) fun t49 => bQ (amin t3 t49) fun t50 => bQ (abi .add t41 t50) fun t51 => bQ (sliceV 1 t37 (some t41) (some t51) none S_1) fun t52 => ATriple PR 311 [t52] S_1 fun t53 S_2 => dropQ Q (.tuple [t53, iv 0]) S_2)))
theorem f216_ok : f216_s t0 t1 t2 t3 S Q → ATriple PR 216 [t0, t1, t2, t3] S Q := fun h => pF (fn := Tryz.f216) (.two (rg 2 0 0) (.two (rg 4 4 0) (.two (.one (.two (rg 5 0 0) (.two (.two (rg 2 0 0) (.nil)) (.two (rg 3 0 0) (.two (.two (rg 3 0 0) (.nil)) (.two (rg 7 0 0) (.two (.two (rg 2 0 0) (.nil)) (.nil)))))))) (.two (rg 8 0 0) (.two (rg 5 0 0) (.two (rg 14 2048 0) (.nil))))))) h
def f345_s (t0 t1 : AV) (S : Store) (Q : QT) : Prop := bQ (ldv false 1 t0 S) fun t2 => bQ (anil t2) fun t3 => bQ (padd t3 0) fun t4 => bQ (ldv false 1 t4 S) fun t5 => bQ (ldv false 1 t1 S) fun t6 => thenS (amdel t5 t6 S) fun _ S_1 => dropQ Q (.tuple []) S_1
theorem f345_ok : f345_s t0 t1 S Q → ATriple PR 345 [t0, t1] S Q := fun h => pF (fn := Tryz.f345) (.reg [0, 1, 3, 7, 0, 31] (pq 0 5 <| .e 5 [] <| .done)) h
def f330_s (t0 t1 t2 t3 : AV) (S : Store) (Q : QT) : Prop := bQ (anil t0) fun t11 => bQ (padd t11 3) fun t12 => bQ (ldv false 1 t12 S) fun t13 => condW t13 (dropQ Q (iv 7) S) (bQ (abi .neq t1 (iv 0)) fun t16 => condW t16 (dropQ Q t1 S) (bQ (anil t0) fun t20 => bQ (padd t20 2) fun t21 => bQ (ldv false 1 t21 S) fun t22 => bQ (abi .eql t22 (iv 0)) fun t23 => condW t23 (bQ (anil t0) fun t26 => bQ (padd t26 3) fun t27 => thenS (stv 1 t27 (bv true) S) fun _ S_1 => bQ (anil t0) fun t28 => bQ (padd t28 2) fun t29 => thenS (stv 1 t29 (iv (-1)) S_1) fun _ S_2 => callW PR t3 [] S_2 fun t31 S_3 => dropQ Q (iv 7) S_3) (bQ (anil t0) fun t33 => bQ (padd t33 2) fun t34 => bQ (ldv false 1 t34 S) fun t35 => bQ (abi .gtr t35 (iv 0)) fun t36 => condW t36 (bQ (anil t0) fun t38 => bQ (padd t38 2) fun t39 => bQ (ldv false 1 t39 S) fun t40 => bQ (abi .sub t40 (iv 1)) fun t41 => bQ (anil t0) fun t42 => bQ (padd t42 2) fun t43 => thenS (stv 1 t43 t41 S) fun _ S_4 => callW PR t2 [] S_4 fun t45 S_5 => dropQ Q (iv 0) S_5) (callW PR t2 [] S fun t45_1 S_6 => dropQ Q (iv 0) S_6))))
theorem f330_ok : f330_s t0 t1 t2 t3 S Q → ATriple PR 330 [t0, t1, t2, t3] S Q := fun h => pF (fn := Tryz.f330) (.two (rg 1 0 0) (.two (.one (.two (rg 5 0 0) (.two (.two (rg 1 0 0) (.nil)) (.two (rg 3 0 0) (.two (.two (rg 2 0 0) (.nil)) (.two (rg 6 0 0) (.two (.two (rg 8 144 0) (.two (rg 2 2 0) (.two (rg 1 0 0) (.nil)))) (.nil)))))))) (.two (.two (rg 5 0 0) (.two (rg 8 128 0) (.nil))) (.two (rg 2 2 0) (.two (rg 1 0 0) (.nil)))))) h
def f203_s (t0 t1 : AV) (S : Store) (Q : QT) : Prop := bQ (frzOf (boxR true 34 t0)) fun t2 => bQ (frzOf (boxR true 9 t1)) fun t3 => bQ (ldv false 1 t2 S) fun t5 => bQ (ldv false 1 t2 S) fun t6 => bQ (ldv false 1 t3 S) fun t7 => ATriple PR 329 [t6, t7] S fun t8 S_1 => ((ldv false 1 t2 S_1 = some t5) ∧ True) ∧ ATriple PR 330 [t5, t8, .func (.func 345) [] [t2, t3], .func (.func 332) [] []] S_1 fun t10 S_2 => dropQ Q t10 S_2
theorem f203_ok : f203_s t0 t1 S Q → ATriple PR 203 [t0, t1] S Q := fun h => pF (fn := Tryz.f203) (.two (rg 3 0 3) (.two (.reg [0, 0, 0, 6, 0, 31, 63] (pq 0 3 <| .q 4 false <| .e 3 [(0, false)] <| .e 5 [] <| .q 6 false <| .done)) (.nil))) h
noncomputable def f328_a1 : Ann := .two (rg 1 0 0) (.two (.two (rg 3 0 0) (.one (.loop [0, 5, 6]))) (.two (rg 8 0 0) (.nil)))
noncomputable def f328_c1 : Code := (cl (cl (cr (cl (cr (bodyOf Tryz.f328))))))
noncomputable def f328_c2 : Code := (cr (cr (bodyOf Tryz.f328)))
def f328_L1 (K : AK) (t0 t5 t6 : AV) (S : Store) : Prop := AI PR none 22 [.code f328_c1, .inLoop f328_c1] K (ofL [(0, t0), (5, t5), (6, t6)]) S
def f328_l1 (K : AK) (t0 t5 t6 : AV) (S : Store) : Prop := bQ (abi .lss t6 t5) fun t7 => condW t7 (bQ (aixS t0 t6) fun t11 => ATriple PR 323 [.lit (.string ⟨#[46, 45, 48, 49, 50, 51, 52, 53, 54, 55, 56, 57, 97, 98, 99, 100, 101, 102, 103, 104, 105, 106, 107, 108, 109, 110, 111, 112, 113, 114, 115, 116, 117, 118, 119, 120, 121, 122]⟩), t11] S fun t12 S_1 => bQ (abi .lss t12 (iv 0)) fun t13 => condW t13 (K .ret (ofL [(0, t0), (2, bv false)]) S_1) (bQ (abi .add t6 (iv 1)) fun t14 => f328_L1 K t0 t5 t14 S_1)) (K (.exit 0) (ofL [(0, t0), (2, .poison)]) S)
theorem f328_L1_pt : f328_l1 K t0 t5 t6 S → f328_L1 K t0 t5 t6 S := fun h => pL (.two (rg 1 0 0) (.two (.two (.nil) (.nil)) (.two (.one (.two (rg 2 0 0) (.two (rg 5 8 0) (.two (.two (rg 1 0 0) (.nil)) (.nil))))) (rg 2 0 0)))) [0, 5, 6] [0, 2] h
noncomputable def f328_K1 (Q : QT) : AK := (AK.block 0 (AK.andThen (fun st S => W PR none 22 f328_c2 ((ar (ar f328_a1))) (retK PR Tryz.f328 (dropQ Q)) st S) (retK PR Tryz.f328 (dropQ Q))))
def f328_K1_e0 (Q : QT) (t0 t2 : AV) (S : Store) : Prop := bQ (abi .neq t0 (.lit (.string ⟨#[]⟩))) fun t16 => gdQ t16 true (some t0) fun t18 => gdQ t16 true (aln .str t18 S) fun t19 => gdQ t16 true (abi .leq t19 (iv 20)) fun t20 => bQ (apick t16 t20 (bv false)) fun t21 => dropQ Q t21 S
theorem f328_K1_e0_pt : f328_K1_e0 Q t0 t2 S → f328_K1 Q (.exit 0) (ofL [(0, t0), (2, t2)]) S := castP (by kernel_rfl)
def f328_s (t0 : AV) (S : Store) (Q : QT) : Prop := bQ (aln .str t0 S) fun t5 => f328_L1 (f328_K1 Q) t0 t5 (iv 0) S
theorem f328_ok : f328_s t0 S Q → ATriple PR 328 [t0] S Q := fun h => pF (fn := Tryz.f328) f328_a1 h
attribute [irreducible] f328_L1 f328_K1
def f331_s (t0 t1 : AV) (S : Store) (Q : QT) : Prop := bQ (ldv false 1 t0 S) fun t2 => bQ (anil t2) fun t3 => bQ (padd t3 0) fun t4 => bQ (ldv false 1 t4 S) fun t5 => bQ (ldv false 1 t1 S) fun t6 => bQ (abld [nilS, iv 0] []) fun t7 => thenS (amput t5 t6 t7 S) fun _ S_1 => dropQ Q (.tuple []) S_1
theorem f331_ok : f331_s t0 t1 S Q → ATriple PR 331 [t0, t1] S Q := fun h => pF (fn := Tryz.f331) (.reg [0, 1, 3, 7, 0, 0, 63] (pq 0 6 <| .e 6 [] <| .done)) h
noncomputable def f194_a1 : Ann := .two (rg 3 0 3) (.two (rg 1 0 0) (.join [2, 3, 5] (.one (.two (rg 4 2 0) (.two (rg 1 0 0) (.two (rg 5 4 0) (.two (rg 1 0 0) (.two (rg 7 0 0) (.two (rg 1 0 0) (.nil)))))))) (.two (rg 5 8 0) (.nil))))
noncomputable def f194_c1 : Code := (cr (cr (cr (bodyOf Tryz.f194))))
def f194_J1 (Q : QT) (t2 t3 t5 : AV) (S : Store) : Prop := AWp PR none 26 f194_c1 (retK PR Tryz.f194 (dropQ Q)) (ofL [(2, t2), (3, t3), (5, t5)]) S
def f194_j1 (Q : QT) (t2 t3 t5 : AV) (S : Store) : Prop := bQ (ldv false 1 t2 S) fun t22 => ATriple PR 330 [t22, t5, .func (.func 331) [] [t2, t3], .func (.func 332) [] []] S fun t25 S_1 => dropQ Q t25 S_1
theorem f194_J1_pt : f194_j1 Q t2 t3 t5 S → f194_J1 Q t2 t3 t5 S := fun h => pJ ((ar (ar (ar f194_a1)))) h
def f194_s (t0 t1 : AV) (S : Store) (Q : QT) : Prop := bQ (frzOf (boxR true 34 t0)) fun t2 => bQ (frzOf (boxR true 9 t1)) fun t3 => bQ (ldv false 1 t3 S) fun t7 => ATriple PR 328 [t7] S fun t8 S_1 => bQ (aun .not t8) fun t9 => condW t9 (f194_J1 Q t2 t3 (iv 1) S_1) (bQ (ldv false 1 t2 S_1) fun t11 => bQ (ldv false 1 t3 S_1) fun t12 => ATriple PR 329 [t11, t12] S_1 fun t13 S_2 => bQ (abi .eql t13 (iv 0)) fun t14 => condW t14 (f194_J1 Q t2 t3 (iv 9) S_2) (bQ (ldv false 1 t2 S_2) fun t16 => bQ (anil t16) fun t17 => bQ (padd t17 0) fun t18 => bQ (ldv false 1 t18 S_2) fun t19 => bQ (aln .map t19 S_2) fun t20 => bQ (abi .geq t20 (iv 400)) fun t21 => condW t21 (f194_J1 Q t2 t3 (iv 6) S_2) (f194_J1 Q t2 t3 (iv 0) S_2)))
theorem f194_ok : f194_s t0 t1 S Q → ATriple PR 194 [t0, t1] S Q := fun h => pF (fn := Tryz.f194) f194_a1 h
attribute [irreducible] f194_J1
noncomputable def f333_a1 : Ann := .two (rg 1 0 0) (.two (rg 1 0 0) (.two (.two (rg 5 16 0) (.one (.loop [3, 10]))) (.two (rg 2 0 0) (.nil))))
noncomputable def f333_c1 : Code := (cl (cl (cr (cl (cr (cr (bodyOf Tryz.f333)))))))
noncomputable def f333_c2 : Code := (cr (cr (cr (bodyOf Tryz.f333))))
def f333_L1 (K : AK) (t3 t10 : AV) (S : Store) : Prop := AI PR none 21 [.code f333_c1, .inLoop f333_c1] K (ofL [(3, t3), (10, t10)]) S
def f333_l1 (K : AK) (t3 t10 : AV) (S : Store) : Prop := nextW t10 S fun t11 S_1 => bQ (aext t11 0) fun t12 => condW t12 (entryW t10 S_1 fun t13 S_2 => bQ (aext t13 1) fun t14 => newW (some (.own (.row 358 2 [[nilS, iv 0]]) fun u => .ptr u 0 0)) S_2 fun t5 S_3 => thenS (stv 2 t5 t14 S_3) fun _ S_4 => bQ (padd t5 0) fun t16 => bQ (ldv false 1 t16 S_4) fun t17 => bQ (aln .slice t17 S_4) fun t18 => bQ (abi .add t3 t18) fun t19 => f333_L1 K t19 t10 S_4) (K (.exit 0) (ofL [(3, t3)]) S_1)
theorem f333_L1_pt : f333_l1 K t3 t10 S → f333_L1 K t3 t10 S := fun h => pL (.two (rg 2 1 0) (.two (.two (.nil) (.nil)) (.one (.two (rg 4 13 0) (rg 6 0 0))))) [3, 10] [3] h
noncomputable def f333_K1 (Q : QT) : AK := (AK.block 0 (AK.andThen (fun st S => W PR none 21 f333_c2 ((ar (ar (ar f333_a1)))) (retK PR Tryz.f333 (dropQ Q)) st S) (retK PR Tryz.f333 (dropQ Q))))
def f333_K1_e0 (Q : QT) (t3 : AV) (S : Store) : Prop := dropQ Q t3 S
theorem f333_K1_e0_pt : f333_K1_e0 Q t3 S → f333_K1 Q (.exit 0) (ofL [(3, t3)]) S := castP (by kernel_rfl)
def f333_s (t0 : AV) (S : Store) (Q : QT) : Prop := bQ (anil t0) fun t7 => bQ (padd t7 0) fun t8 => bQ (ldv false 1 t8 S) fun t9 => rangeW t9 S fun t10 S_1 => f333_L1 (f333_K1 Q) (iv 0) t10 S_1
theorem f333_ok : f333_s t0 S Q → ATriple PR 333 [t0] S Q := fun h => pF (fn := Tryz.f333) f333_a1 h
attribute [irreducible] f333_L1 f333_K1
def f334_s (t0 t1 t2 : AV) (S : Store) (Q : QT) : Prop := bQ (ldv false 1 t0 S) fun t3 => bQ (anil t3) fun t4 => bQ (padd t4 0) fun t5 => bQ (ldv false 1 t5 S) fun t6 => bQ (ldv false 1 t1 S) fun t7 => bQ (ldv false 1 t0 S) fun t8 => bQ (anil t8) fun t9 => bQ (padd t9 0) fun t10 => bQ (ldv false 1 t10 S) fun t11 => bQ (ldv false 1 t1 S) fun t12 => bQ (alook (AV.ofValue (.agg #[.slice none 0 0, .int .i64 0])) false t11 t12 S) fun t13 => bQ (afl false 1 0 t13) fun t14 => bQ (ldv false 1 t2 S) fun t15 => bQ (frzOf (bslR true 1 129 1 2 2 [(0, t14), (1, t15)])) fun t16 => bQ (ldv false 1 t0 S) fun t18 => bQ (anil t18) fun t19 => bQ (padd t19 0) fun t20 => bQ (ldv false 1 t20 S) fun t21 => bQ (ldv false 1 t1 S) fun t22 => bQ (alook (AV.ofValue (.agg #[.slice none 0 0, .int .i64 0])) false t21 t22 S) fun t23 => bQ (afl false 1 1 t23) fun t24 => ATriple PR 335 [t16] S fun t17 S_1 => ((ldv false 1 t0 S_1 = some t3) ∧ (ldv false 1 t5 S_1 = some t6) ∧ (ldv false 1 t1 S_1 = some t7) ∧ (ldv false 1 t0 S_1 = some t18) ∧ (ldv false 1 t20 S_1 = some t21) ∧ (ldv false 1 t1 S_1 = some t22) ∧ (alook (AV.ofValue (.agg #[.slice none 0 0, .int .i64 0])) false t21 t22 S_1 = some t23) ∧ True) ∧ bQ (abld [nilS, iv 0] [(0, 1, t17), (1, 1, t24)]) fun t25 => thenS (amput t6 t7 t25 S_1) fun _ S_2 => dropQ Q (.tuple []) S_2
theorem f334_ok : f334_s t0 t1 t2 S Q → ATriple PR 334 [t0, t1, t2] S Q := fun h => pF (fn := Tryz.f334) (.reg [0, 1, 3, 7, 0, 0, 32, 96, 224, 0, 992, 2016, 0, 8160, 16352, 0, 32768, 98304, 229376, 0, 1015808, 2064384, 4194272, 8388607] (pq 0 13 <| .q 13 true <| pq 15 7 <| .e 14 [(0, false), (3, false), (4, false), (15, false), (18, false), (19, false), (20, false)] <| .q 22 false <| .e 23 [] <| .done)) h
noncomputable def f196_a1 : Ann := .two (rg 4 0 7) (.two (rg 4 4 0) (.join [3, 4, 5, 7] (.two (.reg [0, 1, 3, 7, 15, 7, 39, 103, 231, 7, 519, 2023, 4095, 8191] (pq 0 10 <| .e 10 [(3, false), (5, false), (8, false)] <| pq 11 3 <| .done)) (.two (rg 1 0 0) (.nil))) (.two (rg 2 0 0) (.two (rg 6 16 0) (.nil)))))
noncomputable def f196_c1 : Code := (cr (cr (cr (bodyOf Tryz.f196))))
def f196_J1 (Q : QT) (t3 t4 t5 t7 : AV) (S : Store) : Prop := AWp PR none 32 f196_c1 (retK PR Tryz.f196 (dropQ Q)) (ofL [(3, t3), (4, t4), (5, t5), (7, t7)]) S
def f196_j1 (Q : QT) (t3 t4 t5 t7 : AV) (S : Store) : Prop := bQ (ldv false 1 t3 S) fun t27 => ATriple PR 330 [t27, t7, .func (.func 334) [] [t3, t4, t5], .func (.func 334) [] [t3, t4, t5]] S fun t31 S_1 => dropQ Q t31 S_1
theorem f196_J1_pt : f196_j1 Q t3 t4 t5 t7 S → f196_J1 Q t3 t4 t5 t7 S := fun h => pJ ((ar (ar (ar f196_a1)))) h
def f196_s (t0 t1 t2 : AV) (S : Store) (Q : QT) : Prop := bQ (frzOf (boxR true 34 t0)) fun t3 => bQ (frzOf (boxR true 9 t1)) fun t4 => bQ (frzOf (boxR true 129 t2)) fun t5 => bQ (ldv false 1 t3 S) fun t9 => bQ (ldv false 1 t4 S) fun t10 => ATriple PR 329 [t9, t10] S fun t11 S_1 => bQ (abi .eql t11 (iv 0)) fun t13 => gdQ t13 true (ldv false 1 t5 S_1) fun t15 => gdQ t13 true (aln .slice t15 S_1) fun t16 => gdQ t13 true (ldv false 1 t3 S_1) fun t17 => gdQ t13 true (anil t17) fun t18 => gdQ t13 true (padd t18 1) fun t19 => gdQ t13 true (ldv false 1 t19 S_1) fun t20 => gdQ t13 true (ldv false 1 t3 S_1) fun t21 => gdE t13 true (fun K => ATriple PR 333 [t21] S_1 K) S_1 fun t22 S_2 => ((gdW t13 true (ldv false 1 t5 S_2 = some t15) (t15 = undefA)) ∧ (gdW t13 true (ldv false 1 t3 S_2 = some t17) (t17 = undefA)) ∧ (gdW t13 true (ldv false 1 t19 S_2 = some t20) (t20 = undefA)) ∧ True) ∧ gdQ t13 true (abi .sub t20 t22) fun t23 => gdQ t13 true (abi .gtr t16 t23) fun t24 => bQ (apick t13 t24 (bv false)) fun t25 => condW t25 (f196_J1 Q t3 t4 t5 (iv 6) S_2) (f196_J1 Q t3 t4 t5 t11 S_2)
theorem f196_ok : f196_s t0 t1 t2 S Q → ATriple PR 196 [t0, t1, t2] S Q := fun h => pF (fn := Tryz.f196) f196_a1 h
attribute [irreducible] f196_J1
def f336_s (t0 t1 : AV) (S : Store) (Q : QT) : Prop := bQ (ldv false 1 t0 S) fun t2 => bQ (anil t2) fun t3 => bQ (padd t3 0) fun t4 => bQ (ldv false 1 t4 S) fun t5 => bQ (ldv false 1 t1 S) fun t6 => bQ (ldv false 1 t0 S) fun t7 => bQ (anil t7) fun t8 => bQ (padd t8 0) fun t9 => bQ (ldv false 1 t9 S) fun t10 => bQ (ldv false 1 t1 S) fun t11 => bQ (alook (AV.ofValue (.agg #[.slice none 0 0, .int .i64 0])) false t10 t11 S) fun t12 => bQ (afl false 1 0 t12) fun t13 => bQ (ldv false 1 t0 S) fun t14 => bQ (anil t14) fun t15 => bQ (padd t15 0) fun t16 => bQ (ldv false 1 t16 S) fun t17 => bQ (ldv false 1 t1 S) fun t18 => bQ (alook (AV.ofValue (.agg #[.slice none 0 0, .int .i64 0])) false t17 t18 S) fun t19 => bQ (afl false 1 0 t19) fun t20 => bQ (aln .slice t20 S) fun t21 => bQ (abld [nilS, iv 0] [(0, 1, t13), (1, 1, t21)]) fun t22 => thenS (amput t5 t6 t22 S) fun _ S_1 => dropQ Q (.tuple []) S_1
theorem f336_ok : f336_s t0 t1 S Q → ATriple PR 336 [t0, t1] S Q := fun h => pF (fn := Tryz.f336) (.reg [0, 1, 3, 7, 0, 0, 32, 96, 224, 0, 992, 2016, 0, 4096, 12288, 28672, 0, 126976, 258048, 520192, 1048544, 2097151] (pq 0 21 <| .e 21 [] <| .done)) h
def f198_s (t0 t1 : AV) (S : Store) (Q : QT) : Prop := bQ (frzOf (boxR true 34 t0)) fun t2 => bQ (frzOf (boxR true 9 t1)) fun t3 => bQ (ldv false 1 t2 S) fun t5 => bQ (ldv false 1 t2 S) fun t6 => bQ (ldv false 1 t3 S) fun t7 => ATriple PR 329 [t6, t7] S fun t8 S_1 => ((ldv false 1 t2 S_1 = some t5) ∧ True) ∧ ATriple PR 330 [t5, t8, .func (.func 336) [] [t2, t3], .func (.func 332) [] []] S_1 fun t10 S_2 => dropQ Q t10 S_2
theorem f198_ok : f198_s t0 t1 S Q → ATriple PR 198 [t0, t1] S Q := fun h => pF (fn := Tryz.f198) (.two (rg 3 0 3) (.two (.reg [0, 0, 0, 6, 0, 31, 63] (pq 0 3 <| .q 4 false <| .e 3 [(0, false)] <| .e 5 [] <| .q 6 false <| .done)) (.nil))) h
def f430_s (t0 t1 t2 : AV) (S : Store) (Q : QT) : Prop := bQ (ldv false 1 t0 S) fun t4 => bQ (anil t4) fun t5 => bQ (padd t5 0) fun t6 => bQ (ldv false 1 t6 S) fun t7 => bQ (ldv false 1 t1 S) fun t8 => bQ (alook (AV.ofValue (.agg #[.slice none 0 0, .int .i64 0])) false t7 t8 S) fun t9 => newW (some (.own (.row 358 2 [[nilS, iv 0]]) fun u => .ptr u 0 0)) S fun t3 S_1 => ((ldv false 1 t0 S_1 = some t4) ∧ (ldv false 1 t6 S_1 = some t7) ∧ (ldv false 1 t1 S_1 = some t8) ∧ (alook (AV.ofValue (.agg #[.slice none 0 0, .int .i64 0])) false t7 t8 S_1 = some t9) ∧ True) ∧ thenS (stv 2 t3 t9 S_1) fun _ S_2 => bQ (ldv false 1 t0 S_2) fun t10 => bQ (anil t10) fun t11 => bQ (padd t11 0) fun t12 => bQ (ldv false 1 t12 S_2) fun t13 => bQ (ldv false 1 t1 S_2) fun t14 => thenS (amdel t13 t14 S_2) fun _ S_3 => bQ (ldv false 1 t0 S_3) fun t15 => bQ (anil t15) fun t16 => bQ (padd t16 0) fun t17 => bQ (ldv false 1 t17 S_3) fun t18 => bQ (ldv false 1 t2 S_3) fun t19 => bQ (ldv true 2 t3 S_3) fun t20 => thenS (amput t18 t19 t20 S_3) fun _ S_4 => dropQ Q (.tuple []) S_4
theorem f430_ok : f430_s t0 t1 t2 S Q → ATriple PR 430 [t0, t1, t2] S Q := fun h => pF (fn := Tryz.f430) (.two (.reg [0, 1, 3, 7, 0, 31, 0, 127] (pq 0 6 <| .e 6 [(0, false), (3, false), (4, false), (5, false)] <| .e 7 [] <| .done)) (.two (.reg [0, 1, 3, 7, 0, 31] (pq 0 5 <| .e 5 [] <| .done)) (.reg [0, 1, 3, 7, 0, 0, 63] (pq 0 6 <| .e 6 [] <| .done)))) h
noncomputable def f342_a1 : Ann := .two (rg 4 0 7) (.two (rg 4 4 0) (.join [3, 4, 5, 7] (.two (rg 7 16 0) (.two (rg 1 0 0) (.nil))) (.two (rg 5 8 0) (.nil))))
noncomputable def f342_c1 : Code := (cr (cr (cr (bodyOf Tryz.f342))))
def f342_J1 (Q : QT) (t3 t4 t5 t7 : AV) (S : Store) : Prop := AWp PR none 22 f342_c1 (retK PR Tryz.f342 (dropQ Q)) (ofL [(3, t3), (4, t4), (5, t5), (7, t7)]) S
def f342_j1 (Q : QT) (t3 t4 t5 t7 : AV) (S : Store) : Prop := bQ (ldv false 1 t3 S) fun t18 => ATriple PR 330 [t18, t7, .func (.func 430) [] [t3, t4, t5], .func (.func 332) [] []] S fun t21 S_1 => dropQ Q t21 S_1
theorem f342_J1_pt : f342_j1 Q t3 t4 t5 t7 S → f342_J1 Q t3 t4 t5 t7 S := fun h => pJ ((ar (ar (ar f342_a1)))) h
def f342_s (t0 t1 t2 : AV) (S : Store) (Q : QT) : Prop := bQ (frzOf (boxR true 34 t0)) fun t3 => bQ (frzOf (boxR true 9 t1)) fun t4 => bQ (frzOf (boxR true 9 t2)) fun t5 => bQ (ldv false 1 t3 S) fun t8 => bQ (ldv false 1 t4 S) fun t9 => ATriple PR 329 [t8, t9] S fun t10 S_1 => bQ (abi .eql t10 (iv 0)) fun t12 => gdQ t12 true (ldv false 1 t5 S_1) fun t14 => gdE t12 true (fun K => ATriple PR 328 [t14] S_1 K) S_1 fun t15 S_2 => gdQ t12 true (aun .not t15) fun t16 => bQ (apick t12 t16 (bv false)) fun t17 => condW t17 (f342_J1 Q t3 t4 t5 (iv 1) S_2) (f342_J1 Q t3 t4 t5 t10 S_2)
theorem f342_ok : f342_s t0 t1 t2 S Q → ATriple PR 342 [t0, t1, t2] S Q := fun h => pF (fn := Tryz.f342) f342_a1 h
attribute [irreducible] f342_J1
def f201_s (t0 : AV) (S : Store) (Q : QT) : Prop := bQ (anil t0) fun t4 => bQ (padd t4 3) fun t5 => bQ (ldv false 1 t5 S) fun t6 => condW t6 (dropQ Q nilS S) (ATriple PR 308 [t0] S fun t8 S_1 => dropQ Q t8 S_1)
theorem f201_ok : f201_s t0 S Q → ATriple PR 201 [t0] S Q := fun h => pF (fn := Tryz.f201) (.two (rg 1 0 0) (.two (.two (rg 4 0 0) (.two (.two (rg 1 0 0) (.nil)) (.nil))) (.two (rg 3 2 0) (.nil)))) h
def f427_s (t0 t1 : AV) (S : Store) (Q : QT) : Prop := callW PR (.func (.func 483) [] []) [t0, t1] S fun t7 S_1 => dropQ Q t7 S_1
theorem f427_ok : f427_s t0 t1 S Q → ATriple PR 427 [t0, t1] S Q := fun h => pF (fn := Tryz.f427) (.two (rg 1 0 0) (.two (rg 4 4 0) (.nil))) h
def f323_s (t0 t1 : AV) (S : Store) (Q : QT) : Prop := ATriple PR 427 [t0, t1] S fun t7 S_1 => dropQ Q t7 S_1
theorem f323_ok : f323_s t0 t1 S Q → ATriple PR 323 [t0, t1] S Q := fun h => pF (fn := Tryz.f323) (.two (rg 1 0 0) (.two (rg 4 4 0) (.nil))) h
end
end Go.Du
namespace Go.Du
open Go
attribute [local irreducible] ATriple W evP AI AExt
theorem nob483 : hasBody PR 483 = false := by kernel_rfl
theorem f427_c (s : Bs) (c : UInt8) (S : Store) {Q : AV → Store → Prop} (h : Q (iv (ixByte s c)) S) : ATriple PR 427 [sv s, uv c.toNat] S Q := by
  refine f427_ok ?_
  simp -implicitDefEqProofs only [f427_s, callW, nob483, List.nil_append, List.append_nil]
  refine f483_x s c S ?_
  exact dropQ_self h
set_option maxRecDepth 100000 in
theorem f323_c (s : Bs) (c : UInt8) (S : Store) {Q : AV → Store → Prop} (h : Q (iv (ixByte s c)) S) : ATriple PR 323 [sv s, uv c.toNat] S Q := by
  refine f323_ok ?_
  simp -implicitDefEqProofs only [f323_s]
  refine f427_c s c S ?_
  exact dropQ_self h
abbrev signs : Bs := [46, 45, 48, 49, 50, 51, 52, 53, 54, 55, 56, 57, 97, 98, 99, 100, 101, 102, 103, 104, 105, 106, 107, 108, 109, 110, 111, 112, 113, 114, 115, 116, 117, 118, 119, 120, 121, 122]
def namedF (s : Bs) : Bool := s.all (fun c => decide (0 ≤ ixByte signs c)) && !s.isEmpty && decide (s.length ≤ 20)
set_option maxRecDepth 100000 in
theorem f328_loop (s : Bs) (hs : ∀ c ∈ s, 0 ≤ ixByte signs c) (hl : s.length ≤ 20) (K : AK) (S : Store) (h : K (.exit 0) (ofL [(0, sv s), (2, .poison)]) S) :
    ∀ n i, n + i = s.length → f328_L1 K (sv s) (iv s.length) (iv i) S := by
  intro n
  induction n with
  | zero =>
    intro i hi
    refine f328_L1_pt ?_
    have : ¬ (i : Int) < s.length := by omega
    simp -implicitDefEqProofs [f328_l1, this]
    exact h
  | succ n ih =>
    intro i hi
    refine f328_L1_pt ?_
    have hlt : i < s.length := by omega
    have hlt' : (i : Int) < s.length := by omega
    have w1 : IntKind.i64.wrap ((i : Int) + 1) = ((i + 1 : Nat) : Int) := by rw [wrap_id (by omega) (by omega)]; omega
    simp -implicitDefEqProofs only [f328_l1, abi_lss, bQ_some, condW_bv, hlt', decide_true, if_true, aixS_sv s i hlt]
    refine f323_c signs s[i] S ?_
    have := hs s[i] (List.getElem_mem hlt)
    have hn : ¬ ixByte signs s[i] < 0 := by omega
    simp -implicitDefEqProofs only [abi_lss, bQ_some, condW_bv, hn, decide_false, Bool.false_eq_true, if_false, abi_add, w1]
    exact ih (i + 1) (by omega)
set_option maxRecDepth 100000 in
theorem f328_c (s : Bs) (hs : namedF s = true) (S : Store) {Q : AV → Store → Prop} (h : Q (bv true) S) : ATriple PR 328 [sv s] S Q := by
  refine f328_ok ?_
  simp only [namedF, Bool.and_eq_true, List.all_eq_true, decide_eq_true_eq] at hs
  obtain ⟨⟨h1, h2⟩, h3⟩ := hs
  simp -implicitDefEqProofs [f328_s]
  refine f328_loop s h1 h3 _ S ?_ s.length 0 rfl
  refine f328_K1_e0_pt ?_
  have hne : (s == []) = false := by cases s <;> simp_all
  have hle : (s.length : Int) ≤ 20 := by omega
  have e0 : abi .neq (sv s) (.lit (.string ⟨#[]⟩)) = some (bv true) := by rw [show (AV.lit (.string ⟨#[]⟩)) = sv [] from rfl, abi_sneq, hne]; rfl
  simp -implicitDefEqProofs [f328_K1_e0, e0, aln, hle]
  exact dropQ_self h
section
variable {S : Store} {d mt : Nat} {q : Int} {fs : List Fl}
theorem dk_mp (h : DiskAt S d mt q fs) : ldv false 1 (.ptr d 0 0) S = some (.mref mt) := by rw [ldv_ptr1 false 1 d 0 0 S h.dk (cs := [.mref mt, iv q, iv (-1), bv false]) rfl]; rfl
theorem dk_q (h : DiskAt S d mt q fs) : ldv false 1 (.ptr d 0 1) S = some (iv q) := by rw [ldv_ptr1 false 1 d 0 1 S h.dk (cs := [.mref mt, iv q, iv (-1), bv false]) rfl]; rfl
theorem dk_left (h : DiskAt S d mt q fs) : ldv false 1 (.ptr d 0 2) S = some (iv (-1)) := by rw [ldv_ptr1 false 1 d 0 2 S h.dk (cs := [.mref mt, iv q, iv (-1), bv false]) rfl]; rfl
theorem dk_down (h : DiskAt S d mt q fs) : ldv false 1 (.ptr d 0 3) S = some (bv false) := by rw [ldv_ptr1 false 1 d 0 3 S h.dk (cs := [.mref mt, iv q, iv (-1), bv false]) rfl]; rfl
@[simp] theorem anil_ptr (a b c : Nat) : anil (.ptr a b c) = some (.ptr a b c) := rfl
theorem f169_c (h : DiskAt S d mt q fs) {Q : AV → Store → Prop} (hQ : Q (bv true) S) : ATriple PR 169 [.ptr d 0 0] S Q := by
  refine f169_ok ?_
  simp -implicitDefEqProofs [f169_s, dk_down h]
  exact dropQ_self hQ
theorem f329_c (h : DiskAt S d mt q fs) (n : Bs) {Q : AV → Store → Prop} (hQ : Q (iv (if (fGet n fs).isSome then 0 else 8)) S) : ATriple PR 329 [.ptr d 0 0, sv n] S Q := by
  refine f329_ok ?_
  simp -implicitDefEqProofs only [f329_s, anil_ptr, padd_ptr, Nat.zero_add, dk_mp h, bQ_some, alook_file h.mp n, newW_own]
  cases hg : fGet n fs with
  | none =>
    rw [hg] at hQ
    simp -implicitDefEqProofs only [if_true, aext_tuple]
    simp -implicitDefEqProofs only [List.getElem?_cons_zero, List.getElem?_cons_succ, bQ_some]
    intro u hu
    rw [stv_ptr1 2 u 0 0 _ _ (Store.set_same _ _ _) (cs := [.lit (.slice none 0 0), .lit (.int .i64 0)]) rfl rfl rfl (by simp)]
    simp -implicitDefEqProofs only [thenS_some, aun_not, bQ_some, condW_bv, Bool.not_false, if_true]
    refine ⟨_, S, Ent.drop ?_, by simpa using hQ⟩
    rw [Store.set_set]
    exact (Sub.refl S).set hu
  | some f =>
    rw [hg] at hQ
    simp -implicitDefEqProofs only [if_true, aext_tuple]
    simp -implicitDefEqProofs only [List.getElem?_cons_zero, List.getElem?_cons_succ, bQ_some]
    intro u hu
    rw [stv_ptr1 2 u 0 0 _ _ (Store.set_same _ _ _) (cs := [.lit (.slice none 0 0), .lit (.int .i64 0)]) rfl rfl rfl (by simp)]
    simp -implicitDefEqProofs only [thenS_some, aun_not, bQ_some, condW_bv, Bool.not_true, Bool.false_eq_true, if_false]
    refine ⟨_, S, Ent.drop ?_, by simpa using hQ⟩
    rw [Store.set_set]
    exact (Sub.refl S).set hu
theorem f330_c (h : DiskAt S d mt q fs) {g : Nat} {cap : List AV} (hb : hasBody PR g = true) (t3 : AV) {Q : AV → Store → Prop} (hQ : ATriple PR g cap S fun _ S' => Q (iv 0) S') : ATriple PR 330 [.ptr d 0 0, iv 0, .func (.func g) [] cap, t3] S Q := by
  refine f330_ok ?_
  simp -implicitDefEqProofs [f330_s, dk_down h, dk_left h, callW, hb]
  exact hQ.mono fun _ _ h => dropQ_self h
theorem f330_e (h : DiskAt S d mt q fs) (e : Int) (he : e ≠ 0) (t2 t3 : AV) {Q : AV → Store → Prop} (hQ : Q (iv e) S) : ATriple PR 330 [.ptr d 0 0, iv e, t2, t3] S Q := by
  refine f330_ok ?_
  simp -implicitDefEqProofs [f330_s, dk_down h, he]
  exact dropQ_self hQ
end
end Go.Du
namespace Go.Du
open Go
attribute [local irreducible] ATriple W evP AI AExt
section
variable {S : Store} {d mt : Nat} {q : Int} {fs : List Fl}
theorem boxR_d (d : Nat) : frzOf (boxR true 34 (.ptr d 0 0)) = some (.fptr [.ptr d 0 0] 0) := rfl
theorem boxR_s (n : Bs) : frzOf (boxR true 9 (sv n)) = some (.fptr [sv n] 0) := rfl
theorem ldv_fp (x : AV) (S : Store) : ldv false 1 (.fptr [x] 0) S = some x := rfl
theorem hb345 : hasBody PR 345 = true := by kernel_rfl
theorem hb331 : hasBody PR 331 = true := by kernel_rfl
theorem hb336 : hasBody PR 336 = true := by kernel_rfl
theorem hb430 : hasBody PR 430 = true := by kernel_rfl
theorem hb334 : hasBody PR 334 = true := by kernel_rfl
theorem f345_c (h : DiskAt S d mt q fs) (n : Bs) {Q : AV → Store → Prop} (hQ : Q (.tuple []) (S.set mt (.map (dEs (fDel n fs))))) : ATriple PR 345 [.fptr [.ptr d 0 0] 0, .fptr [sv n] 0] S Q := by
  refine f345_ok ?_
  simp -implicitDefEqProofs only [f345_s, ldv_fp, bQ_some, anil_ptr, padd_ptr, Nat.zero_add, dk_mp h, amdel_file h.mp, thenS_some]
  exact dropQ_self hQ
theorem fDel_none {n : Bs} (hg : fGet n fs = none) : fDel n fs = fs := by
  have : (fIdx n fs).isSome = false := by rw [← fGet_isSome, hg]; rfl
  unfold fDel
  split
  · rename_i hi; rw [hi] at this; cases this
  · rfl
theorem f203_c (h : DiskAt S d mt q fs) (n : Bs) {Q : AV → Store → Prop} (hQ : Q (iv (if (fGet n fs).isSome then 0 else 8)) (S.set mt (.map (dEs (fDel n fs))))) : ATriple PR 203 [.ptr d 0 0, sv n] S Q := by
  refine f203_ok ?_
  simp -implicitDefEqProofs only [f203_s, boxR_d, boxR_s, ldv_fp, bQ_some]
  refine f329_c h n ?_
  refine ⟨⟨trivial, trivial⟩, ?_⟩
  cases hg : fGet n fs with
  | some f =>
    rw [hg] at hQ
    simp -implicitDefEqProofs only [Option.isSome_some, if_true] at hQ ⊢
    refine f330_c h hb345 _ ?_
    refine f345_c h n ?_
    exact dropQ_self hQ
  | none =>
    rw [hg] at hQ
    simp -implicitDefEqProofs only [Option.isSome_none, Bool.false_eq_true, if_false] at hQ ⊢
    refine f330_e h 8 (by decide) _ _ ?_
    rw [fDel_none hg] at hQ
    have : S.set mt (.map (dEs fs)) = S := by
      funext x
      by_cases e : x = mt
      · subst e; rw [Store.set_same]; exact h.mp.symm
      · rw [Store.set_ne _ _ _ e]
    rw [this] at hQ
    exact dropQ_self hQ
theorem f331_c (h : DiskAt S d mt q fs) (n : Bs) {Q : AV → Store → Prop} (hQ : Q (.tuple []) (S.set mt (.map (dEs (fPut ⟨n, [], 0⟩ fs))))) : ATriple PR 331 [.fptr [.ptr d 0 0] 0, .fptr [sv n] 0] S Q := by
  refine f331_ok ?_
  have e0 : abld [.lit (.slice none 0 0), .lit (.int .i64 0)] [] = some (.agg [fb [], iv 0]) := rfl
  have e1 := amput_file h.mp ⟨n, [], 0⟩ (v := .agg [fb [], iv 0]) rfl
  simp -implicitDefEqProofs only [f331_s, ldv_fp, bQ_some, anil_ptr, padd_ptr, Nat.zero_add, dk_mp h, e0]
  rw [e1, thenS_some]
  exact dropQ_self hQ
theorem aln_map {n : Nat} (h : S mt = some (.map (dEs fs))) (hn : n = fs.length) : aln .map (.mref mt) S = some (iv n) := by subst hn; simp [aln, h]
theorem f194_c (h : DiskAt S d mt q fs) (n : Bs) (hn : namedF n = true) (hg : fGet n fs = none) (hl : fs.length < 400) {Q : AV → Store → Prop} (hQ : Q (iv 0) (S.set mt (.map (dEs (fPut ⟨n, [], 0⟩ fs))))) : ATriple PR 194 [.ptr d 0 0, sv n] S Q := by
  refine f194_ok ?_
  simp -implicitDefEqProofs only [f194_s, boxR_d, boxR_s, ldv_fp, bQ_some]
  refine f328_c n hn S ?_
  simp -implicitDefEqProofs only [aun_not, bQ_some, condW_bv, Bool.not_true, Bool.false_eq_true, if_false]
  refine f329_c h n ?_
  have hl' : ¬ ((fs.length : Int) ≥ 400) := by omega
  rw [hg]
  simp -implicitDefEqProofs only [Option.isSome_none, Bool.false_eq_true, if_false, abi_eql, bQ_some, condW_bv, show ((8 : Int) == 0) = false from rfl, anil_ptr, padd_ptr, Nat.zero_add, dk_mp h, aln_map h.mp rfl, abi_geq, hl', decide_false]
  refine f194_J1_pt ?_
  simp -implicitDefEqProofs only [f194_j1, ldv_fp, bQ_some]
  refine f330_c h hb331 _ ?_
  refine f331_c h n ?_
  exact dropQ_self hQ
theorem afl_file (f : Fl) : afl false 1 0 f.en.2 = some (fb f.b) := rfl
theorem afl_safe (f : Fl) : afl false 1 1 f.en.2 = some (iv f.safe) := rfl
theorem abld_file (b : Bs) (s : Int) : abld [.lit (.slice none 0 0), .lit (.int .i64 0)] [(0, 1, fb b), (1, 1, iv s)] = some (.agg [fb b, iv s]) := by
  cases b <;> rfl
theorem fIdx_name {n : Bs} {fs : List Fl} {f : Fl} (h : fGet n fs = some f) : f.name = n := by
  unfold fGet at h
  cases hi : fIdx n fs with
  | none => rw [hi] at h; cases h
  | some i =>
    obtain ⟨h1, h2⟩ := fIdx_lt hi
    rw [hi] at h
    simp [h1] at h
    rw [← h]; exact h2
theorem f336_c (h : DiskAt S d mt q fs) (n : Bs) {f : Fl} (hg : fGet n fs = some f) {Q : AV → Store → Prop} (hQ : Q (.tuple []) (S.set mt (.map (dEs (fPut ⟨n, f.b, f.b.length⟩ fs))))) : ATriple PR 336 [.fptr [.ptr d 0 0] 0, .fptr [sv n] 0] S Q := by
  refine f336_ok ?_
  have e1 := amput_file h.mp ⟨n, f.b, f.b.length⟩ (v := .agg [fb f.b, iv f.b.length]) rfl
  have e2 : ∀ z, alook z false (.mref mt) (sv n) S = some f.en.2 := fun z => by rw [alook_file h.mp, hg]; rfl
  simp -implicitDefEqProofs only [f336_s, ldv_fp, bQ_some, anil_ptr, padd_ptr, Nat.zero_add, dk_mp h, e2, afl_file, aln_fb, abld_file]
  rw [e1, thenS_some]
  exact dropQ_self hQ
theorem f198_c (h : DiskAt S d mt q fs) (n : Bs) {f : Fl} (hg : fGet n fs = some f) {Q : AV → Store → Prop} (hQ : Q (iv 0) (S.set mt (.map (dEs (fPut ⟨n, f.b, f.b.length⟩ fs))))) : ATriple PR 198 [.ptr d 0 0, sv n] S Q := by
  refine f198_ok ?_
  simp -implicitDefEqProofs only [f198_s, boxR_d, boxR_s, ldv_fp, bQ_some]
  refine f329_c h n ?_
  refine ⟨⟨trivial, trivial⟩, ?_⟩
  rw [hg]
  simp -implicitDefEqProofs only [Option.isSome_some, if_true]
  refine f330_c h hb336 _ ?_
  refine f336_c h n hg ?_
  exact dropQ_self hQ
theorem f430_c (h : DiskAt S d mt q fs) (a b : Bs) {f : Fl} (hg : fGet a fs = some f) {Q : AV → Store → Prop} (hQ : Q (.tuple []) (S.set mt (.map (dEs (fPut ⟨b, f.b, f.safe⟩ (fDel a fs)))))) : ATriple PR 430 [.fptr [.ptr d 0 0] 0, .fptr [sv a] 0, .fptr [sv b] 0] S Q := by
  refine f430_ok ?_
  have e2 : ∀ z S', S' mt = S mt → alook z false (.mref mt) (sv a) S' = some f.en.2 := fun z S' e => by rw [alook_file (by rw [e]; exact h.mp), hg]; rfl
  simp -implicitDefEqProofs only [f430_s, ldv_fp, bQ_some, anil_ptr, padd_ptr, Nat.zero_add, dk_mp h, e2 _ S rfl, newW_own]
  intro u hu
  have um : u ≠ mt := fun e => by subst e; rw [h.mp] at hu; cases hu
  have ud : u ≠ d := fun e => by subst e; rw [h.dk] at hu; cases hu
  have hs : Sub S (S.set u (.row 358 2 [[.lit (.slice none 0 0), .lit (.int .i64 0)]])) := (Sub.refl S).set hu
  have h1 := h.sub hs
  refine ⟨⟨trivial, dk_mp h1, trivial, e2 _ _ (Store.set_ne _ _ _ um.symm), trivial⟩, ?_⟩
  rw [stv_ptr1 2 u 0 0 _ _ (Store.set_same _ _ _) (cs := [.lit (.slice none 0 0), .lit (.int .i64 0)]) rfl rfl rfl (by simp), Store.set_set]
  have e3 : List.set [[(.lit (.slice none 0 0) : AV), .lit (.int .i64 0)]] 0 (splice [.lit (.slice none 0 0), .lit (.int .i64 0)] 0 (cellsOf f.en.2)) = [[fb f.b, iv f.safe]] := rfl
  rw [e3]
  have hs2 : Sub S (S.set u (.row 358 2 [[fb f.b, iv f.safe]])) := (Sub.refl S).set hu
  have h2 := h.sub hs2
  simp -implicitDefEqProofs only [thenS_some, ldv_fp, bQ_some, anil_ptr, padd_ptr, Nat.zero_add, dk_mp h2, amdel_file h2.mp, dk_mp (h2.put (fDel a fs))]
  have e4 : ldv true 2 (.ptr u 0 0) ((S.set u (.row 358 2 [[fb f.b, iv f.safe]])).set mt (.map (dEs (fDel a fs)))) = some (.agg [fb f.b, iv f.safe]) := by
    rw [ldv_ptr1 true 2 u 0 0 _ (by rw [Store.set_ne _ _ _ um]; exact Store.set_same _ _ _) (cs := [fb f.b, iv f.safe]) rfl]; rfl
  have e5 := amput_file (h2.put (fDel a fs)).mp ⟨b, f.b, f.safe⟩ (v := .agg [fb f.b, iv f.safe]) rfl
  rw [e4, bQ_some, e5, thenS_some, Store.set_set]
  refine ⟨_, _, Ent.drop ?_, hQ⟩
  rw [Store.set_comm _ um]
  exact (Sub.refl _).set (by rw [Store.set_ne _ _ _ um]; exact hu)
theorem f342_c (h : DiskAt S d mt q fs) (a b : Bs) (hb : namedF b = true) {f : Fl} (hg : fGet a fs = some f) {Q : AV → Store → Prop} (hQ : Q (iv 0) (S.set mt (.map (dEs (fPut ⟨b, f.b, f.safe⟩ (fDel a fs)))))) : ATriple PR 342 [.ptr d 0 0, sv a, sv b] S Q := by
  refine f342_ok ?_
  simp -implicitDefEqProofs only [f342_s, boxR_d, boxR_s, ldv_fp, bQ_some]
  refine f329_c h a ?_
  rw [hg]
  simp -implicitDefEqProofs only [Option.isSome_some, if_true, abi_eql, bQ_some, show ((0 : Int) == 0) = true from rfl, gdQ_bv, gdE_bv, ldv_fp]
  refine f328_c b hb S ?_
  simp -implicitDefEqProofs only [aun_not, bQ_some, Bool.not_true, apick_bv, if_true, condW_bv, Bool.false_eq_true, if_false]
  refine f342_J1_pt ?_
  simp -implicitDefEqProofs only [f342_j1, ldv_fp, bQ_some]
  refine f330_c h hb430 _ ?_
  refine f430_c h a b hg ?_
  exact dropQ_self hQ
end
end Go.Du
namespace Go.Du
open Go
attribute [local irreducible] ATriple W evP AI AExt
theorem nodup_inj {l : List Nat} (hn : l.Nodup) {i j : Nat} (hi : i < l.length) (hj : j < l.length) (h : l[i] = l[j]) : i = j := by
  have := List.pairwise_iff_getElem.1 hn
  rcases Nat.lt_trichotomy i j with g | g | g
  · exact absurd h (this i j hi hj g)
  · exact g
  · exact absurd h.symm (this j i hj hi g)
theorem Rel.unB {m : Mu} {w : World} {S : Store} {mt : Nat} {es : List (Value × AV)} {births : List Nat} {clock : Nat} (hS : S mt = some (.mapB es births clock)) (h : Rel m S w) : Rel m (S.set mt (.map es)) w := by
  have hd : ∀ t, (S.set mt (.map es)) t ≠ none → S t ≠ none := fun t ht => by
    by_cases e : t = mt
    · subst e; rw [hS]; simp
    · rwa [Store.set_ne _ _ _ e] at ht
  refine ⟨h.z, h.h, fun t o L ht hL => ?_, fun t t' L L' h1 h2 => h.inj t t' L L' (hd t h1) (hd t' h2), h.bound, h.os, h.out, h.tape, h.fin.imp fun N hN t ht => ⟨(hN t ht).1, ?_⟩⟩
  · by_cases e : t = mt
    · subst e
      rw [Store.set_same, Option.some.injEq] at ht
      subst ht
      obtain ⟨g1, g2, ob, hb, ho⟩ := h.owned t _ L hS hL
      refine ⟨g1, g2, ob, hb, ?_⟩
      cases ho with
      | mapB hl hbn hc hn hk =>
        rename_i es'
        have get : ∀ (i : Nat) (e : MapEntry), es'[i]? = some e → ∃ hi : i < births.length, births[i] = e.born := fun i e he => by
          obtain ⟨hi, rfl⟩ := Array.getElem?_eq_some_iff.1 he
          subst hbn
          exact ⟨by simpa using hi, by simp⟩
        refine .map hl (fun i e he => ?_) (fun i j e e' h1 h2 h3 => ?_) hk
        · obtain ⟨hi, hbi⟩ := get i e he
          exact hc _ (hbi ▸ List.getElem_mem hi)
        · obtain ⟨hi, hbi⟩ := get i e h1
          obtain ⟨hj, hbj⟩ := get j e' h2
          exact nodup_inj hn hi hj (by rw [hbi, hbj, h3])
    · rw [Store.set_ne _ _ _ e] at ht
      exact h.owned t o L ht hL
  · cases e : (S.set mt (.map es)) t with
    | none => rfl
    | some o => exact absurd (hN t ht).2 (hd t (by rw [e]; simp))
theorem Ent.unB {x : AV} {S : Store} {mt : Nat} {es : List (Value × AV)} {births : List Nat} {clock : Nat} (hS : S mt = some (.mapB es births clock)) : Ent x S x (S.set mt (.map es)) :=
  fun m _ _ hr hv => ⟨m, .refl m, rfl, hr.unB hS, hv⟩
def remS (l : List (Nat × Nat)) (seen : List Nat) : Nat := ((l.filter fun p => decide (p.1 ∉ seen)).map (·.2)).sum
theorem remS_zero {l : List (Nat × Nat)} {seen : List Nat} (h : ∀ p ∈ l, p.1 ∈ seen) : remS l seen = 0 := by
  unfold remS
  rw [List.filter_eq_nil_iff.2 (fun p hp => by simp [h p hp])]
  rfl
theorem remS_out {b : Nat} {seen : List Nat} : ∀ {l : List (Nat × Nat)}, b ∉ l.map (·.1) → remS l (seen ++ [b]) = remS l seen
  | [], _ => rfl
  | p :: l, h => by
    simp only [List.map_cons, List.mem_cons, not_or] at h
    have ih := remS_out (seen := seen) h.2
    unfold remS at ih ⊢
    have hp : (p.1 ∉ seen ++ [b]) ↔ p.1 ∉ seen := by
      simp only [List.mem_append, List.mem_singleton, not_or]
      exact ⟨fun q => q.1, fun q => ⟨q, fun e => h.1 e.symm⟩⟩
    by_cases hq : p.1 ∈ seen
    · rw [List.filter_cons_of_neg (by simp [hq]), List.filter_cons_of_neg (by simp [hq])]; exact ih
    · rw [List.filter_cons_of_pos (by simp only [decide_eq_true_eq]; exact hp.2 hq), List.filter_cons_of_pos (by simp [hq])]
      simp only [List.map_cons, List.sum_cons, ih]
theorem remS_step {seen : List Nat} : ∀ {l : List (Nat × Nat)} {i b n : Nat}, (l.map (·.1)).Nodup → l[i]? = some (b, n) → b ∉ seen → remS l seen = n + remS l (seen ++ [b])
  | [], i, _, _, _, h, _ => by simp at h
  | p :: l, 0, b, n, hn, h, hb => by
    simp only [List.getElem?_cons_zero, Option.some.injEq] at h
    subst h
    have hn' := List.nodup_cons.1 hn
    have := remS_out (seen := seen) hn'.1
    unfold remS at this ⊢
    rw [List.filter_cons_of_pos (by simp [hb]), List.filter_cons_of_neg (by simp)]
    simp only [List.map_cons, List.sum_cons, this]
  | p :: l, i + 1, b, n, hn, h, hb => by
    have hn' := List.nodup_cons.1 hn
    have hi : l[i]? = some (b, n) := by simpa using h
    have ih := remS_step (seen := seen) hn'.2 hi hb
    have hne : p.1 ≠ b := fun e => hn'.1 (List.mem_map.2 ⟨(b, n), List.mem_of_getElem? hi, e.symm⟩)
    unfold remS at ih ⊢
    by_cases hq : p.1 ∈ seen
    · rw [List.filter_cons_of_neg (by simp [hq]), List.filter_cons_of_neg (by simp [hq])]; exact ih
    · rw [List.filter_cons_of_pos (by simp [hq]), List.filter_cons_of_pos (by simp [hq, hne])]
      simp only [List.map_cons, List.sum_cons, ih]; omega
def usedF (fs : List Fl) : Nat := (fs.map (·.b.length)).sum
theorem Sub.get {S S' : Store} (h : Sub S S') {t : Nat} {o : AObj} (ht : S t = some o) : S' t = some o := h _ _ ht
section
variable {S : Store} {d mt : Nat} {q : Int} {fs : List Fl}
set_option maxRecDepth 100000 in
theorem f333_loop (h : S mt = some (.map (dEs fs))) (hB : usedF fs ≤ 1099511627776) (births : List Nat) (clock it : Nat) (hl : births.length = fs.length) (hn : births.Nodup)
    (hit : (S.set mt (.mapB (dEs fs) births clock)) it = none) (K : AK)
    (hK : ∀ Sx, Sub (S.set mt (.mapB (dEs fs) births clock)) Sx → K (.exit 0) (ofL [(3, iv (usedF fs))]) Sx) :
    ∀ (k : Nat) (seen : List Nat) (Sx : Store), (births.filter fun b => decide (b ∉ seen)).length = k → Sub (S.set mt (.mapB (dEs fs) births clock)) Sx → Sx it = some (.iter mt seen clock) →
      f333_L1 K (iv ((usedF fs - remS (births.zip (fs.map (·.b.length))) seen : Nat) : Int)) (.itr it) Sx := by
  have hz1 : (births.zip (fs.map (·.b.length))).map (·.1) = births := by rw [List.map_fst_zip]; simp [hl]
  have hz2 : (births.zip (fs.map (·.b.length))).map (·.2) = fs.map (·.b.length) := by rw [List.map_snd_zip]; simp [hl]
  have hle : ∀ seen, remS (births.zip (fs.map (·.b.length))) seen ≤ usedF fs := by
    intro seen
    have : ∀ l : List (Nat × Nat), ((l.filter fun p => decide (p.1 ∉ seen)).map (·.2)).sum ≤ (l.map (·.2)).sum := by
      intro l
      induction l with
      | nil => simp
      | cons p l ih =>
        by_cases hq : p.1 ∈ seen
        · rw [List.filter_cons_of_neg (by simp [hq])]; simp only [List.map_cons, List.sum_cons]; omega
        · rw [List.filter_cons_of_pos (by simp [hq])]; simp only [List.map_cons, List.sum_cons]; omega
    have := this (births.zip (fs.map (·.b.length)))
    rw [hz2] at this
    exact this
  intro k
  induction k using Nat.strongRecOn with
  | ind k ih =>
  intro seen Sx hk hs hi
  refine f333_L1_pt ?_
  have hm : Sx mt = some (.mapB (dEs fs) births clock) := hs _ _ (Store.set_same _ _ _)
  have hne : it ≠ mt := fun e => by subst e; rw [Store.set_same] at hit; cases hit
  simp -implicitDefEqProofs only [f333_l1, nextW, hi, hm]
  refine ⟨trivial, hne, fun hall => ?_, fun i b e hb he hns => ?_⟩
  · simp -implicitDefEqProofs only [aext_tuple, List.getElem?_cons_zero, bQ_some, condW_bv, Bool.false_eq_true, if_false]
    rw [remS_zero (fun p hp => hall _ (by rw [← hz1]; exact List.mem_map.2 ⟨p, hp, rfl⟩))]
    exact hK _ hs
  · have hif : i < fs.length := by
      obtain ⟨hh, _⟩ := List.getElem?_eq_some_iff.1 hb
      omega
    have hee : e = fs[i].en := by
      simp only [dEs, List.getElem?_map] at he
      rw [List.getElem?_eq_getElem hif] at he
      simpa using he.symm
    subst hee
    refine ⟨rfl, ?_⟩
    have hzi : (births.zip (fs.map (·.b.length)))[i]? = some (b, fs[i].b.length) := by
      rw [List.getElem?_zip_eq_some]
      exact ⟨hb, by simp [hif]⟩
    have hstep := remS_step (seen := seen) (by rw [hz1]; exact hn) hzi hns
    have hle' := hle seen
    simp -implicitDefEqProofs only [aext_tuple, List.getElem?_cons_zero, List.getElem?_cons_succ, bQ_some, condW_bv, if_true, entryW, Store.set_same, Store.set_ne _ _ _ hne.symm, hm]
    refine ⟨trivial, i, b, fs[i].en, seen, rfl, hb, by simp [dEs, hif], rfl, ?_⟩
    simp -implicitDefEqProofs only [aext_tuple, List.getElem?_cons_zero, List.getElem?_cons_succ, bQ_some, newW_own]
    intro u hu
    rw [stv_box (sz := 2) rfl rfl rfl]
    have e0 : ldv false 1 (.ptr u 0 0) ((Sx.set it (.iter mt (seen ++ [b]) clock)).set u (.row 358 2 [cellsOf fs[i].en.2])) = some (fb fs[i].b) := ldv_cell
    have w1 : IntKind.i64.wrap (((usedF fs - remS (births.zip (fs.map (·.b.length))) seen : Nat) : Int) + (fs[i].b.length : Nat)) = ((usedF fs - remS (births.zip (fs.map (·.b.length))) (seen ++ [b]) : Nat) : Int) := by
      rw [wrap_id (by omega) (by omega)]; omega
    simp -implicitDefEqProofs only [thenS_some, padd_ptr, Nat.zero_add, bQ_some, e0, aln_fb, abi_add, w1]
    have hui : u ≠ it := fun e => by subst e; rw [Store.set_same] at hu; cases hu
    rw [Store.set_ne _ _ _ hui] at hu
    refine ih _ ?_ (seen ++ [b]) _ rfl ?_ (by rw [Store.set_ne _ _ _ hui.symm]; exact Store.set_same _ _ _)
    · rw [← hk]
      have hbm : b ∈ births := List.mem_of_getElem? hb
      have : (births.filter fun x => decide (x ∉ seen ++ [b])) = (births.filter fun x => decide (x ∉ seen)).filter fun x => decide (x ≠ b) := by
        rw [List.filter_filter]
        apply List.filter_congr
        intro x _
        simp only [List.mem_append, List.mem_singleton, not_or, Bool.decide_and, ne_eq]
        exact Bool.and_comm _ _
      rw [this]
      refine List.length_filter_lt_length_iff_exists.2 ⟨b, List.mem_filter.2 ⟨hbm, by simp [hns]⟩, by simp⟩
    · intro t o ht
      have t1 : t ≠ it := fun e => by subst e; rw [hit] at ht; cases ht
      have t2 : t ≠ u := fun e => by subst e; rw [hs _ _ ht] at hu; cases hu
      rw [Store.set_ne _ _ _ t2, Store.set_ne _ _ _ t1]
      exact hs _ _ ht
theorem f333_c (h : DiskAt S d mt q fs) (hB : usedF fs ≤ 1099511627776) {Q : AV → Store → Prop} (hQ : Q (iv (usedF fs)) S) : ATriple PR 333 [.ptr d 0 0] S Q := by
  refine f333_ok ?_
  simp -implicitDefEqProofs only [f333_s, anil_ptr, padd_ptr, Nat.zero_add, bQ_some, dk_mp h, rangeW, h.mp]
  intro births clock it hl hn hlt hit
  have hl' : births.length = fs.length := by simpa [dEs] using hl
  have := f333_loop h.mp hB births clock it hl' hn hit (f333_K1 Q) (fun Sx hs => ?_) _ [] ((S.set mt (.mapB (dEs fs) births clock)).set it (.iter mt [] clock)) rfl ((Sub.refl _).set hit) (Store.set_same _ _ _)
  · have e0 : usedF fs - remS (births.zip (fs.map (·.b.length))) [] = 0 := by
      unfold remS usedF
      have hz2 : (births.zip (fs.map (·.b.length))).map (·.2) = fs.map (·.b.length) := by rw [List.map_snd_zip]; simp [hl']
      rw [List.filter_eq_self.2 (by simp), hz2]; omega
    rw [e0] at this
    exact this
  · refine f333_K1_e0_pt ?_
    refine ⟨_, S, (Ent.drop hs).trans ?_, hQ⟩
    have := Ent.unB (x := iv (usedF fs)) (S := S.set mt (.mapB (dEs fs) births clock)) (mt := mt) (Store.set_same _ _ _)
    rw [Store.set_set] at this
    have e : S.set mt (.map (dEs fs)) = S := by
      funext x
      by_cases e : x = mt
      · subst e; rw [Store.set_same]; exact h.mp.symm
      · rw [Store.set_ne _ _ _ e]
    rw [e] at this
    exact this
end
end Go.Du
namespace Go.Du
open Go
attribute [local irreducible] ATriple W evP AI AExt
structure IsB (x : AV) (l : Bs) : Prop where
  len : ∀ S, aln .slice x S = some (iv l.length)
  rd : ∀ S, rdS x S = some (byt l)
  ok : okC x = true ∧ cellsOf x = [x]
theorem IsB.fb (l : Bs) : IsB (fb l) l := ⟨aln_fb l, rd_fb l, okC_fb l, cells_fb l⟩
theorem IsB.bytes (l : Bs) : IsB (bytes l) l := ⟨fun _ => by simp [aln], fun _ => rfl, rfl, rfl⟩
theorem IsB.nil : IsB (.lit (.slice none 0 0)) [] := ⟨fun _ => rfl, fun _ => rfl, rfl, rfl⟩
abbrev zc : List AV := [.lit (.int .u8 0)]
set_option maxRecDepth 100000 in
theorem f429_c (n : Nat) (hn : n ≤ 140737488355328) (S : Store) {Q : AV → Store → Prop} (h0 : n = 0 → Q (.lit (.slice none 0 0)) S) (h1 : 0 < n → ∀ t, S t = none → Q (.sref t 0 0) (S.set t (.row 5 1 (List.replicate n zc)))) : ATriple PR 429 [.lit (.slice none 0 0), iv n] S Q := by
  refine f429_ok ?_
  have e1 : ¬ ((n : Int) < 0) := by omega
  simp -implicitDefEqProofs only [f429_s, abi_lss, bQ_some, condW_bv, e1, decide_false, Bool.false_eq_true, if_false]
  refine f429_J1_pt ?_
  have w0 : IntKind.i64.wrap ((0 : Int) - 0) = 0 := by decide
  have w1 : IntKind.i64.wrap ((n : Int) - 0) = n := by rw [wrap_id (by omega) (by omega)]; omega
  have e2 : aln .slice (.lit (.slice none 0 0)) S = some (iv 0) := rfl
  unfold f429_j1
  refine Or.inl ?_
  simp -implicitDefEqProofs only [capW, e2, abi_sub, w0, w1, bQ_some, abi_gtr, condW_bv]
  by_cases hz : n = 0
  · subst hz
    simp -implicitDefEqProofs
    exact dropQ_self (h0 rfl)
  · have hp : ((n : Int) > 0) := by omega
    have e3 : sliceV 1 (.lit (.slice none 0 0)) none (some (.lit (.int .i64 0))) none S = some (.lit (.slice none 0 0)) := rfl
    simp -implicitDefEqProofs only [hp, decide_true, if_true]
    refine Or.inl ?_
    simp -implicitDefEqProofs only [capW, e3, bQ_some, apZ]
    refine ⟨by omega, by omega, by omega, fun t ht => ?_⟩
    have e4 : aln .slice (.lit (.slice none 0 0)) (S.set t (.row 5 1 (List.replicate (n : Int).toNat [.lit (.int .u8 0)]))) = some (iv 0) := rfl
    have e5 : sliceV 1 (.sref t 0 (n : Int).toNat) none (some (iv 0)) none (S.set t (.row 5 1 (List.replicate (n : Int).toNat [.lit (.int .u8 0)]))) = some (.sref t 0 0) := by
      simp [sliceV, asl, bnds, bnd]
    rw [e4, bQ_some, e5, bQ_some]
    refine dropQ_self ?_
    have := h1 (by omega) t ht
    simpa using this
theorem room_app {S0 : Store} {t z : Nat} {done l : Bs} {x : AV} {K : AV → Store → Prop} (ht : S0 t = none) (hx : IsB x l) (hl : l.length ≤ z) (hB : done.length + z ≤ 140737488355328)
    (hk : ∀ t', S0 t' = none → K (.sref t' 0 (done ++ l).length) (S0.set t' (.row 5 1 (byt (done ++ l) ++ List.replicate (z - l.length) zc)))) :
    apW (some (5, 1, 1, .slice)) (.sref t 0 done.length) x (S0.set t (.row 5 1 (byt done ++ List.replicate z zc))) K := by
  simp only [apW, apSrc, hx.rd, apK, Store.set_same, true_and, Nat.zero_add]
  refine ⟨fun c hc => by obtain ⟨b, _, rfl⟩ := List.mem_map.1 hc; rfl, ?_⟩
  simp only [List.length_append, List.length_map, List.length_replicate]
  by_cases hz : z = 0
  · subst hz
    have hl0 : l = [] := List.eq_nil_of_length_eq_zero (by omega)
    subst hl0
    simp only [List.append_nil, List.length_nil, Nat.add_zero, Nat.mul_one, List.map_nil, List.replicate_zero, Nat.sub_self, if_true] at hk ⊢
    refine ⟨by omega, by omega, fun t' ht' => ?_⟩
    rw [Store.erase_set _ _ _ ht] at ht' ⊢
    exact hk t' ht'
  · rw [if_neg (by omega)]
    refine ⟨by omega, ?_⟩
    have := hk t ht
    rw [List.length_append] at this
    have e : List.take done.length (byt done ++ List.replicate z zc) ++ byt l ++ List.drop (done.length + l.length) (byt done ++ List.replicate z zc) = byt (done ++ l) ++ List.replicate (z - l.length) zc := by
      rw [List.take_left' (by simp), ← List.drop_drop, List.drop_left' (by simp), List.drop_replicate]
      simp only [byt, List.map_append]
    rw [Store.set_set, e]
    exact this
set_option maxRecDepth 100000 in
theorem f335_c {x y : AV} {a b : Bs} (hx : IsB x a) (hy : IsB y b) (hB : a.length + b.length ≤ 140737488355328) (S : Store) {Q : AV → Store → Prop} (hQ : Q (fb (a ++ b)) S) : ATriple PR 335 [.svals [[x], [y]]] S Q := by
  refine f335_ok ?_
  have l2 : ∀ S, aln .slice (.svals [[x], [y]]) S = some (iv 2) := fun _ => rfl
  have i0 : ∀ S, ixA 1 (.svals [[x], [y]]) (iv 0) S = some (.fptr [x] 0) := fun _ => rfl
  have i1 : ∀ S, ixA 1 (.svals [[x], [y]]) (iv 1) S = some (.fptr [y] 0) := fun _ => rfl
  have ld : ∀ (u : AV) S, okC u = true ∧ cellsOf u = [u] → ldv false 1 (.fptr [u] 0) S = some u := fun u S h => by simp [ldc]
  have w0 : IntKind.i64.wrap ((0 : Int) + (a.length : Nat)) = (a.length : Nat) := by rw [wrap_id (by omega) (by omega)]; omega
  have w1 : IntKind.i64.wrap ((a.length : Nat) + (b.length : Nat) : Int) = ((a.length + b.length : Nat) : Int) := by rw [wrap_id (by omega) (by omega)]; omega
  have w2 : IntKind.i64.wrap ((0 : Int) + 1) = 1 := by decide
  have w3 : IntKind.i64.wrap ((1 : Int) + 1) = 2 := by decide
  have n0 : ¬ ((a.length : Int) < 0) := by omega
  have n1 : ¬ (((a.length + b.length : Nat) : Int) < 0) := by omega
  simp -implicitDefEqProofs only [f335_s, l2, bQ_some]
  refine f335_L1_pt ?_
  simp -implicitDefEqProofs only [f335_l1, abi_lss, bQ_some, condW_bv, show decide ((0 : Int) < 2) = true from rfl, if_true, i0, ld x _ hx.ok, hx.len, abi_add, w0, n0, decide_false, Bool.false_eq_true, if_false, w2]
  refine f335_L1_pt ?_
  simp -implicitDefEqProofs only [f335_l1, abi_lss, bQ_some, condW_bv, show decide ((1 : Int) < 2) = true from rfl, if_true, i1, ld y _ hy.ok, hy.len, abi_add, w1, n1, decide_false, Bool.false_eq_true, if_false, w3]
  refine f335_L1_pt ?_
  simp -implicitDefEqProofs only [f335_l1, abi_lss, bQ_some, condW_bv, show decide ((2 : Int) < 2) = false from rfl, Bool.false_eq_true, if_false]
  refine f335_K1_e0_pt ?_
  simp -implicitDefEqProofs only [f335_K1_e0]
  refine f429_c _ (by omega) S (fun hz => ?_) (fun hp t ht => ?_)
  · have ha : a = [] := List.eq_nil_of_length_eq_zero (by omega)
    have hb : b = [] := List.eq_nil_of_length_eq_zero (by omega)
    subst ha hb
    have ap : ∀ (u : AV) K, IsB u [] → K (.lit (.slice none 0 0)) S → apW (some (5, 1, 1, .slice)) (.lit (.slice none 0 0)) u S K := fun u K hu h => by
      simp only [apW, apSrc, hu.rd, apK]
      exact ⟨by simp, by simp, by simp, fun _ => h, fun h => absurd rfl h⟩
    simp -implicitDefEqProofs only [l2, bQ_some]
    refine f335_L2_pt ?_
    simp -implicitDefEqProofs only [f335_l2, abi_lss, bQ_some, condW_bv, show decide ((0 : Int) < 2) = true from rfl, if_true, i0, ld x _ hx.ok]
    refine ap x _ hx ?_
    simp -implicitDefEqProofs only [abi_add, w2, bQ_some]
    refine f335_L2_pt ?_
    simp -implicitDefEqProofs only [f335_l2, abi_lss, bQ_some, condW_bv, show decide ((1 : Int) < 2) = true from rfl, if_true, i1, ld y _ hy.ok]
    refine ap y _ hy ?_
    simp -implicitDefEqProofs only [abi_add, w3, bQ_some]
    refine f335_L2_pt ?_
    simp -implicitDefEqProofs only [f335_l2, abi_lss, bQ_some, condW_bv, show decide ((2 : Int) < 2) = false from rfl, Bool.false_eq_true, if_false]
    refine f335_K2_e2_pt ?_
    exact dropQ_self hQ
  · simp -implicitDefEqProofs only [l2, bQ_some]
    refine f335_L2_pt ?_
    simp -implicitDefEqProofs only [f335_l2, abi_lss, bQ_some, condW_bv, show decide ((0 : Int) < 2) = true from rfl, if_true, i0, ld x _ hx.ok]
    refine room_app (done := []) (z := a.length + b.length) ht hx (by omega) (by simp; omega) fun t1 h1 => ?_
    simp -implicitDefEqProofs only [abi_add, w2, bQ_some, List.nil_append]
    refine f335_L2_pt ?_
    simp -implicitDefEqProofs only [f335_l2, abi_lss, bQ_some, condW_bv, show decide ((1 : Int) < 2) = true from rfl, if_true, i1, ld y _ hy.ok]
    refine room_app (done := a) (z := a.length + b.length - a.length) h1 hy (by omega) (by omega) fun t2 h2 => ?_
    simp -implicitDefEqProofs only [abi_add, w3, bQ_some]
    refine f335_L2_pt ?_
    simp -implicitDefEqProofs only [f335_l2, abi_lss, bQ_some, condW_bv, show decide ((2 : Int) < 2) = false from rfl, Bool.false_eq_true, if_false]
    refine f335_K2_e2_pt ?_
    have e : byt (a ++ b) ++ List.replicate (a.length + b.length - a.length - b.length) zc = byt (a ++ b) := by
      rw [show a.length + b.length - a.length - b.length = 0 by omega]; simp
    have e2 : fb (a ++ b) = bytes (a ++ b) := by
      cases hc : a ++ b with
      | nil =>
        have := congrArg List.length hc
        rw [List.length_append, List.length_nil] at this; omega
      | cons _ _ => rfl
    rw [e2] at hQ
    rw [e]
    exact ⟨_, S, Ent.list h2 (by simp), hQ⟩
end Go.Du
namespace Go.Du
open Go
attribute [local irreducible] ATriple W evP AI AExt
theorem bsl_two {x y : AV} (hx : okC x = true ∧ cellsOf x = [x]) (hy : okC y = true ∧ cellsOf y = [y]) : frzOf (bslR true 1 129 1 2 2 [(0, x), (1, y)]) = some (.svals [[x], [y]]) := by
  simp [bslR, partsOk, hx.1, hx.2, hy.1, hy.2, mkRow]
theorem boxR_b {y : AV} (hy : okC y = true ∧ cellsOf y = [y]) : frzOf (boxR true 129 y) = some (.fptr [y] 0) := by
  simp [boxR, hy.1, hy.2, mkNew]
theorem le_sum_mem {x : Nat} : ∀ {l : List Nat}, x ∈ l → x ≤ l.sum
  | y :: l, h => by
    rw [List.sum_cons]
    rcases List.mem_cons.1 h with rfl | h
    · omega
    · have := le_sum_mem h; omega
section
variable {S : Store} {d mt : Nat} {q : Int} {fs : List Fl}
theorem f334_c (h : DiskAt S d mt q fs) (n : Bs) {f : Fl} (hg : fGet n fs = some f) {y : AV} {b : Bs} (hy : IsB y b) (hB : f.b.length + b.length ≤ 140737488355328) {Q : AV → Store → Prop} (hQ : Q (.tuple []) (S.set mt (.map (dEs (fPut ⟨n, f.b ++ b, f.safe⟩ fs))))) :
    ATriple PR 334 [.fptr [.ptr d 0 0] 0, .fptr [sv n] 0, .fptr [y] 0] S Q := by
  refine f334_ok ?_
  have e1 := amput_file h.mp ⟨n, f.b ++ b, f.safe⟩ (v := .agg [fb (f.b ++ b), iv f.safe]) rfl
  have e2 : ∀ z, alook z false (.mref mt) (sv n) S = some f.en.2 := fun z => by rw [alook_file h.mp, hg]; rfl
  simp -implicitDefEqProofs only [f334_s, ldv_fp, bQ_some, anil_ptr, padd_ptr, Nat.zero_add, dk_mp h, e2, afl_file, afl_safe, bsl_two ⟨okC_fb f.b, cells_fb f.b⟩ hy.ok]
  refine f335_c (IsB.fb f.b) hy hB S ?_
  refine ⟨⟨trivial, dk_mp h, trivial, trivial, dk_mp h, trivial, e2 _, trivial⟩, ?_⟩
  simp -implicitDefEqProofs only [abld_file, bQ_some]
  rw [e1, thenS_some]
  exact dropQ_self hQ
theorem f196_c (h : DiskAt S d mt q fs) (n : Bs) {f : Fl} (hg : fGet n fs = some f) {y : AV} {b : Bs} (hy : IsB y b) (hB : (usedF fs : Int) + b.length ≤ q) (hq : q ≤ 1099511627776) {Q : AV → Store → Prop} (hQ : Q (iv 0) (S.set mt (.map (dEs (fPut ⟨n, f.b ++ b, f.safe⟩ fs))))) :
    ATriple PR 196 [.ptr d 0 0, sv n, y] S Q := by
  refine f196_ok ?_
  have hu : f.b.length ≤ usedF fs := by
    have : f ∈ fs := by
      unfold fGet at hg
      cases hi : fIdx n fs with
      | none => rw [hi] at hg; cases hg
      | some i => rw [hi] at hg; exact List.mem_of_getElem? (by simpa using hg)
    unfold usedF
    exact le_sum_mem (List.mem_map.2 ⟨f, this, rfl⟩)
  simp -implicitDefEqProofs only [f196_s, boxR_d, boxR_s, boxR_b hy.ok, ldv_fp, bQ_some]
  refine f329_c h n ?_
  rw [hg]
  simp -implicitDefEqProofs only [Option.isSome_some, if_true, abi_eql, bQ_some, show ((0 : Int) == 0) = true from rfl, gdQ_bv, gdE_bv, gdW_bv, ldv_fp, hy.len, anil_ptr, padd_ptr, Nat.zero_add, dk_q h]
  refine f333_c h (by omega) ?_
  have w0 : IntKind.i64.wrap (q - (usedF fs : Nat)) = q - usedF fs := by rw [wrap_id (by omega) (by omega)]
  have c0 : ¬ ((b.length : Int) > q - usedF fs) := by omega
  refine ⟨⟨trivial, trivial, dk_q h, trivial⟩, ?_⟩
  simp -implicitDefEqProofs only [abi_sub, w0, bQ_some, abi_gtr, c0, decide_false, apick_bv, if_true, condW_bv, Bool.false_eq_true, if_false]
  refine f196_J1_pt ?_
  simp -implicitDefEqProofs only [f196_j1, ldv_fp, bQ_some]
  refine f330_c h hb334 _ ?_
  refine f334_c h n hg hy (by omega) ?_
  exact dropQ_self hQ
theorem f216_none (h : DiskAt S d mt q fs) (n : Bs) (hg : fGet n fs = none) (a z : AV) {Q : AV → Store → Prop} (hQ : Q (.tuple [.lit (.slice none 0 0), iv 8]) S) : ATriple PR 216 [.ptr d 0 0, sv n, a, z] S Q := by
  refine f216_ok ?_
  simp -implicitDefEqProofs only [f216_s]
  refine f329_c h n ?_
  rw [hg]
  simp -implicitDefEqProofs only [Option.isSome_none, Bool.false_eq_true, if_false, anil_ptr, padd_ptr, Nat.zero_add, dk_down h, bQ_some, condW_bv, abi_neq, show ((8 : Int) != 0) = true from rfl, if_true]
  exact dropQ_self hQ
theorem f216_nil (h : DiskAt S d mt q fs) (n : Bs) {f : Fl} (hg : fGet n fs = some f) (hf : f.b = []) (k : Nat) (hk : (k : Int) < 9223372036854775807) {Q : AV → Store → Prop} (hQ : Q (.tuple [bytes [], iv 0]) S) : ATriple PR 216 [.ptr d 0 0, sv n, iv 0, iv k] S Q := by
  refine f216_ok ?_
  have e2 : ∀ z, alook z false (.mref mt) (sv n) S = some f.en.2 := fun z => by rw [alook_file h.mp, hg]; rfl
  have e3 : afl false 1 0 f.en.2 = some (.lit (.slice none 0 0)) := by rw [afl_file, hf]; rfl
  simp -implicitDefEqProofs only [f216_s]
  refine f329_c h n ?_
  rw [hg]
  have k0 : ¬ ((k : Int) < 0) := by omega
  simp -implicitDefEqProofs only [Option.isSome_some, if_true, anil_ptr, padd_ptr, Nat.zero_add, dk_down h, dk_mp h, bQ_some, condW_bv, Bool.false_eq_true, if_false, abi_neq, show ((0 : Int) != 0) = false from rfl, abi_lss, show decide ((0 : Int) < 0) = false from rfl, gdQ_bv, k0, decide_false, apick_bv, e2, e3]
  have x1 : aln .slice (.lit (.slice none 0 0)) S = some (iv 0) := rfl
  have x2 : amin (iv 0) (iv 0) = some (iv 0) := rfl
  have x3 : amin (iv k) (iv 0) = some (iv 0) := by simp [amin]
  have x4 : sliceV 1 (.lit (.slice none 0 0)) (some (iv 0)) (some (iv 0)) none S = some (.lit (.slice none 0 0)) := rfl
  simp -implicitDefEqProofs only [x1, x2, x3, x4, bQ_some, abi_sub, abi_add, show IntKind.i64.wrap ((0 : Int) - 0) = 0 from by decide, show IntKind.i64.wrap ((0 : Int) + 0) = 0 from by decide]
  refine f311_c _ [] S true (SlIn.nil S) (by simp) fun v S' hg => ?_
  exact ⟨_, S, hg.entC (fun v => .tuple [v, iv 0]) (fun _ _ _ _ hv => (FrzL.cons hv (.refl _ _ _)).tuple), hQ⟩
end
theorem f58_c (q : Int) (h0 : 0 ≤ q) (h1 : q ≤ 16777216) (S : Store) {Q : AV → Store → Prop} (hQ : ∀ d mt S', Sub S S' → S d = none → S mt = none → (∀ t, t ≠ d → t ≠ mt → S' t = S t) → DiskAt S' d mt q [] → Q (.ptr d 0 0) S') : ATriple PR 58 [iv q] S Q := by
  refine f58_ok ?_
  have c0 : ¬ (q < 0) := by omega
  have c1 : ¬ (q > 16777216) := by omega
  simp -implicitDefEqProofs only [f58_s, abi_lss, abi_gtr, bQ_some, c0, c1, decide_false, gdQ_bv, if_true, apick_bv, condW_bv, Bool.false_eq_true, if_false, newW_own]
  intro mt hmt
  have e1 : abld [.lit (.map none), .lit (.int .i64 0), .lit (.int .i64 0), .lit (.bool false)] [(0, 1, .mref mt), (1, 1, iv q), (2, 1, .lit (.int .i64 (-1)))] = some (.agg [.mref mt, iv q, iv (-1), bv false]) := rfl
  rw [e1, bQ_some]
  show ∀ d, _ → _
  intro d hd
  have hne : d ≠ mt := fun e => by subst e; rw [Store.set_same] at hd; cases hd
  have hd' : S d = none := by rwa [Store.set_ne _ _ _ hne] at hd
  refine dropQ_self (hQ d mt _ ?_ hd' hmt (fun t h1 h2 => by rw [Store.set_ne _ _ _ h1, Store.set_ne _ _ _ h2]) ⟨Store.set_same _ _ _, by rw [Store.set_ne _ _ _ hne.symm]; exact Store.set_same _ _ _⟩)
  exact ((Sub.refl S).set hmt).set hd'
end Go.Du
namespace Go.Du
open Go
attribute [local irreducible] ATriple W evP AI AExt
def remL (l : List (Nat × Bs)) (seen : List Nat) : List Bs := (l.filter fun p => decide (p.1 ∉ seen)).map (·.2)
theorem remL_nil {l : List (Nat × Bs)} {seen : List Nat} (h : ∀ p ∈ l, p.1 ∈ seen) : remL l seen = [] := by
  unfold remL
  rw [List.filter_eq_nil_iff.2 (fun p hp => by simp [h p hp])]
  rfl
theorem remL_out {b : Nat} {seen : List Nat} : ∀ {l : List (Nat × Bs)}, b ∉ l.map (·.1) → remL l (seen ++ [b]) = remL l seen
  | [], _ => rfl
  | p :: l, h => by
    simp only [List.map_cons, List.mem_cons, not_or] at h
    have ih := remL_out (seen := seen) h.2
    unfold remL at ih ⊢
    have hp : (p.1 ∉ seen ++ [b]) ↔ p.1 ∉ seen := by
      simp only [List.mem_append, List.mem_singleton, not_or]
      exact ⟨fun q => q.1, fun q => ⟨q, fun e => h.1 e.symm⟩⟩
    by_cases hq : p.1 ∈ seen
    · rw [List.filter_cons_of_neg (by simp [hq]), List.filter_cons_of_neg (by simp [hq])]; exact ih
    · rw [List.filter_cons_of_pos (by simp only [decide_eq_true_eq]; exact hp.2 hq), List.filter_cons_of_pos (by simp [hq])]
      simp only [List.map_cons, ih]
theorem remL_step {seen : List Nat} : ∀ {l : List (Nat × Bs)} {i b : Nat} {n : Bs}, (l.map (·.1)).Nodup → l[i]? = some (b, n) → b ∉ seen → (remL l seen).Perm (n :: remL l (seen ++ [b]))
  | [], i, _, _, _, h, _ => by simp at h
  | p :: l, 0, b, n, hn, h, hb => by
    simp only [List.getElem?_cons_zero, Option.some.injEq] at h
    subst h
    have hn' := List.nodup_cons.1 hn
    have := remL_out (seen := seen) hn'.1
    unfold remL at this ⊢
    rw [List.filter_cons_of_pos (by simp [hb]), List.filter_cons_of_neg (by simp)]
    simp only [List.map_cons, this]
    exact .refl _
  | p :: l, i + 1, b, n, hn, h, hb => by
    have hn' := List.nodup_cons.1 hn
    have hi : l[i]? = some (b, n) := by simpa using h
    have ih := remL_step (seen := seen) hn'.2 hi hb
    have hne : p.1 ≠ b := fun e => hn'.1 (List.mem_map.2 ⟨(b, n), List.mem_of_getElem? hi, e.symm⟩)
    unfold remL at ih ⊢
    by_cases hq : p.1 ∈ seen
    · rw [List.filter_cons_of_neg (by simp [hq]), List.filter_cons_of_neg (by simp [hq])]; exact ih
    · rw [List.filter_cons_of_pos (by simp [hq]), List.filter_cons_of_pos (by simp [hq, hne])]
      simp only [List.map_cons]
      exact (ih.cons _).trans (.swap _ _ _)
abbrev nms (l : List Bs) : List (List AV) := l.map fun s => [sv s]
theorem hasBody476 : hasBody PR 476 = true := by kernel_rfl
theorem bsl_s (s : Bs) : frzOf (bslR true 1 9 1 1 1 [(0, sv s)]) = some (.svals [[sv s]]) := bsl_str s
section
variable {S : Store} {d mt : Nat} {q : Int} {fs : List Fl}
structure KySt (S : Store) (fs : List Fl) (mt a t it : Nat) (births : List Nat) (clock : Nat) (R : LoopState → Option Code → AObj) (seen : List Nat) (pre : List Bs) (Sx : Store) : Prop where
  ex : ∃ v S0, Grow 9 1 S0 (nms pre) v Sx ∧ S0 a = some (.row 29 1 [[v]]) ∧ S0 t = some (R .ready none) ∧ S0 it = some (.iter mt seen clock) ∧ Sub (S.set mt (.mapB (dEs fs) births clock)) S0
  perm : (pre ++ remL (births.zip (fs.map (·.name))) seen).Perm (fs.map (·.name))
set_option maxRecDepth 100000 in
theorem f476_loop (hfl : fs.length ≤ 1048576) (births : List Nat) (clock a t it : Nat) (hl : births.length = fs.length) (hn : births.Nodup) (ha : (S.set mt (.mapB (dEs fs) births clock)) a = none) (ht : (S.set mt (.mapB (dEs fs) births clock)) t = none) (hit : (S.set mt (.mapB (dEs fs) births clock)) it = none)
    (hat : a ≠ t) (hai : a ≠ it) (hti : t ≠ it) (fn : FuncId) (D : Nat) (R : LoopState → Option Code → AObj) (hR : R = f373_rec1 (.ptr a 0 0) (.func (.func 476) [] [.fptr [.mref mt] 0]) fn D) (K : AK)
    (hK : ∀ pre seen Sx, (∀ b ∈ births, b ∈ seen) → KySt S fs mt a t it births clock R seen pre Sx → K (.exit 0) (ofL []) Sx) :
    ∀ (k : Nat) (seen : List Nat) (pre : List Bs) (Sx : Store), (births.filter fun b => decide (b ∉ seen)).length = k → KySt S fs mt a t it births clock R seen pre Sx → f476_L1 K (.yield t) (.itr it) Sx := by
  have hz1 : (births.zip (fs.map (·.name))).map (·.1) = births := by rw [List.map_fst_zip]; simp [hl]
  have hne : it ≠ mt := fun e => by subst e; rw [Store.set_same] at hit; cases hit
  have htm : t ≠ mt := fun e => by subst e; rw [Store.set_same] at ht; cases ht
  have ham : a ≠ mt := fun e => by subst e; rw [Store.set_same] at ha; cases ha
  intro k
  induction k using Nat.strongRecOn with
  | ind k ih =>
  intro seen pre Sx hk hst
  have hst0 := hst
  obtain ⟨⟨v, S0, hg, ga, gt, gi, gs⟩, hp⟩ := hst
  refine f476_L1_pt ?_
  have hm : Sx mt = some (.mapB (dEs fs) births clock) := hg.get (gs _ _ (Store.set_same _ _ _))
  simp -implicitDefEqProofs only [f476_l1, nextW, hg.get gi, hm]
  refine ⟨trivial, hne, fun hall => ?_, fun i b e hb he hns => ?_⟩
  · simp -implicitDefEqProofs only [aext_tuple, List.getElem?_cons_zero, bQ_some, condW_bv, Bool.false_eq_true, if_false]
    exact hK pre seen Sx hall hst0
  · have hif : i < fs.length := by
      obtain ⟨hh, _⟩ := List.getElem?_eq_some_iff.1 hb
      omega
    have hee : e = fs[i].en := by
      simp only [dEs, List.getElem?_map] at he
      rw [List.getElem?_eq_getElem hif] at he
      simpa using he.symm
    subst hee
    refine ⟨rfl, ?_⟩
    have hzi : (births.zip (fs.map (·.name)))[i]? = some (b, fs[i].name) := by
      rw [List.getElem?_zip_eq_some]
      exact ⟨hb, by simp [hif]⟩
    have hstep := remL_step (seen := seen) (by rw [hz1]; exact hn) hzi hns
    simp -implicitDefEqProofs only [aext_tuple, List.getElem?_cons_zero, List.getElem?_cons_succ, bQ_some, condW_bv, if_true, entryW, Store.set_same, Store.set_ne _ _ _ hne.symm, hm]
    refine ⟨trivial, i, b, fs[i].en, seen, rfl, hb, by simp [dEs, hif], rfl, ?_⟩
    have e1 : AV.ofValue fs[i].en.1 = sv fs[i].name := rfl
    simp -implicitDefEqProofs only [aext_tuple, List.getElem?_cons_zero, bQ_some, e1]
    have hg1 := hg.upd gi (.iter mt (seen ++ [b]) clock)
    have gt1 : (S0.set it (.iter mt (seen ++ [b]) clock)) t = some (R .ready none) := by rw [Store.set_ne _ _ _ hti]; exact gt
    have ga1 : (S0.set it (.iter mt (seen ++ [b]) clock)) a = some (.row 29 1 [[v]]) := by rw [Store.set_ne _ _ _ hai]; exact ga
    have gs1 : Sub (S.set mt (.mapB (dEs fs) births clock)) (S0.set it (.iter mt (seen ++ [b]) clock)) := fun x o hx => by
      have : x ≠ it := fun e => by subst e; rw [hit] at hx; cases hx
      rw [Store.set_ne _ _ _ this]; exact gs x o hx
    have hSt := hg1.get gt1
    have hSt' := hSt
    rw [hR] at hSt'
    refine f373_Y1_pt hSt' fun l' => ?_
    rw [← hR]
    apply f373_as1_pt
    refine ⟨rfl, hSt, ?_⟩
    apply f373_bo1_pt
    have hgb := hg1.upd gt1 (R .busy none)
    have ga2 : ((S0.set it (.iter mt (seen ++ [b]) clock)).set t (R .busy none)) a = some (.row 29 1 [[v]]) := by rw [Store.set_ne _ _ _ hat]; exact ga1
    have el := ldv_at (o := 0) (hgb.get ga2)
    simp only [List.getElem?_cons_zero] at el
    have hpl : pre.length + 1 ≤ 1048576 := by
      have h1 := hp.length_eq
      have h2 := hstep.length_eq
      simp only [List.length_append, List.length_map, List.length_cons] at h1 h2; omega
    simp -implicitDefEqProofs only [f373_bo1, el, bQ_some, bsl_s]
    refine hgb.app (l := [[sv fs[i].name]]) rfl (by simp) (by simp; omega) (by simp; omega) fun v' S' hg' => ?_
    rw [stv_at (hg'.get ga2) hg'.ok.1 hg'.ok.2 (by simp), thenS_some]
    simp only [List.set_cons_zero]
    have hg3 := hg'.upd ga2 (.row 29 1 [[v']])
    have gt3 := (Store.set_ne ((S0.set it (.iter mt (seen ++ [b]) clock)).set t (R .busy none)) a (.row 29 1 [[v']]) hat.symm).trans (Store.set_same (S0.set it (.iter mt (seen ++ [b]) clock)) t (R .busy none))
    refine ⟨hg3.get gt3, ?_⟩
    have hg4 := hg3.upd gt3 (R .ready none)
    simp -implicitDefEqProofs only [aun_not, bQ_some, condW_bv, Bool.not_true, Bool.false_eq_true, if_false]
    refine ih _ ?_ (seen ++ [b]) (pre ++ [fs[i].name]) _ rfl ⟨⟨v', _, by simpa using hg4, ?_, Store.set_same _ _ _, ?_, ?_⟩, ?_⟩
    · rw [← hk]
      have hbm : b ∈ births := List.mem_of_getElem? hb
      have : (births.filter fun x => decide (x ∉ seen ++ [b])) = (births.filter fun x => decide (x ∉ seen)).filter fun x => decide (x ≠ b) := by
        rw [List.filter_filter]
        apply List.filter_congr
        intro x _
        simp only [List.mem_append, List.mem_singleton, not_or, Bool.decide_and, ne_eq]
        exact Bool.and_comm _ _
      rw [this]
      refine List.length_filter_lt_length_iff_exists.2 ⟨b, List.mem_filter.2 ⟨hbm, by simp [hns]⟩, by simp⟩
    · rw [Store.set_ne _ _ _ hat]; exact Store.set_same _ _ _
    · rw [Store.set_ne _ _ _ hti.symm, Store.set_ne _ _ _ hai.symm, Store.set_ne _ _ _ hti.symm]; exact Store.set_same _ _ _
    · exact ((gs1.set ht).set ha).set ht
    · refine List.Perm.trans ?_ hp
      rw [List.append_assoc]
      exact (List.Perm.append_left pre hstep).symm
theorem f373_c (h : S mt = some (.map (dEs fs))) (hfl : fs.length ≤ 1048576) {Q : AV → Store → Prop} (hQ : ∀ pre v S', pre.Perm (fs.map (·.name)) → Grow 9 1 S (nms pre) v S' → Q v S') : ATriple PR 373 [.lit (.slice none 0 0), .func (.func 476) [] [.fptr [.mref mt] 0]] S Q := by
  refine f373_ok ?_
  have e0 : boxR false 29 (.lit (.slice none 0 0)) = some (.own (.row 29 1 [[.lit (.slice none 0 0)]]) fun u => .ptr u 0 0) := rfl
  simp -implicitDefEqProofs only [f373_s, e0, newW_own]
  intro a ha
  refine f373_R1_pt rfl hasBody476 fun t fn D ht => ?_
  have hta : t ≠ a := fun e => by subst e; simp at ht
  have ht0 : S t = none := by rwa [Store.set_ne _ _ _ hta] at ht
  have htm : t ≠ mt := fun e => by subst e; rw [h] at ht0; cases ht0
  have ham : a ≠ mt := fun e => by subst e; rw [h] at ha; cases ha
  obtain ⟨R, hR⟩ : ∃ R, R = f373_rec1 (.ptr a 0 0) (.func (.func 476) [] [.fptr [.mref mt] 0]) fn D := ⟨_, rfl⟩
  rw [← hR]
  obtain ⟨S1, hS1⟩ : ∃ S1, S1 = (S.set a (.row 29 1 [[.lit (.slice none 0 0)]])).set t (R .ready none) := ⟨_, rfl⟩
  rw [← hS1]
  have m1 : S1 mt = some (.map (dEs fs)) := by rw [hS1, Store.set_ne _ _ _ htm.symm, Store.set_ne _ _ _ ham.symm]; exact h
  refine f476_ok ?_
  have el : ldv false 1 (.fptr [.mref mt] 0) S1 = some (.mref mt) := rfl
  simp -implicitDefEqProofs only [f476_s, el, bQ_some, rangeW, m1]
  intro births clock it hl hn hlt hit
  have hl' : births.length = fs.length := by simpa [dEs] using hl
  have hia : it ≠ a := fun e => by
    subst e
    rw [hS1, Store.set_ne _ _ _ ham, Store.set_ne _ _ _ hta.symm, Store.set_same] at hit; cases hit
  have hi_t : it ≠ t := fun e => by
    subst e
    rw [hS1, Store.set_ne _ _ _ htm, Store.set_same] at hit; cases hit
  have him : it ≠ mt := fun e => by subst e; rw [Store.set_same] at hit; cases hit
  have hit0 : S it = none := by rwa [hS1, Store.set_ne _ _ _ him, Store.set_ne _ _ _ hi_t, Store.set_ne _ _ _ hia] at hit
  have b1 : (S.set mt (.mapB (dEs fs) births clock)) a = none := by rw [Store.set_ne _ _ _ ham]; exact ha
  have b2 : (S.set mt (.mapB (dEs fs) births clock)) t = none := by rw [Store.set_ne _ _ _ htm]; exact ht0
  have b3 : (S.set mt (.mapB (dEs fs) births clock)) it = none := by rw [Store.set_ne _ _ _ him]; exact hit0
  refine f476_loop (S := S) (fs := fs) (mt := mt) hfl births clock a t it hl' hn b1 b2 b3 hta.symm hia.symm hi_t.symm fn D R hR _ (fun pre seen Sx hall hst => ?_) _ [] [] _ rfl ⟨⟨_, _, .nil, ?_, ?_, Store.set_same _ _ _, ?_⟩, ?_⟩
  · obtain ⟨⟨v, S0, hg, ga, gt, gi, gs⟩, hp⟩ := hst
    refine f476_K1_e0_pt ?_
    refine dropQ_self ⟨.ready, none, hg.get gt, by simp, ?_⟩
    show f373_K1 Q .normal (ofL [(2, .ptr a 0 0)]) _
    apply f373_K1_normal_pt
    have hg2 := hg.erase gt
    have ga2 : (S0.erase t) a = some (.row 29 1 [[v]]) := by rw [Store.erase_ne _ _ hta.symm]; exact ga
    have e1 := ldv_at (o := 0) (hg2.get ga2)
    simp only [List.getElem?_cons_zero] at e1
    simp -implicitDefEqProofs only [f373_K1_normal, e1, bQ_some]
    rw [remL_nil (fun p hp' => hall _ (List.of_mem_zip hp').1), List.append_nil] at hp
    have gs2 : Sub (S.set mt (.mapB (dEs fs) births clock)) (S0.erase t) := gs.erase b2
    obtain ⟨S2, q1, q2⟩ := hg2.drop gs2
    have gm : (S.set mt (.mapB (dEs fs) births clock)) mt = some (.mapB (dEs fs) births clock) := Store.set_same _ _ _
    have q3 := q2.upd gm (.map (dEs fs))
    have e : (S.set mt (.mapB (dEs fs) births clock)).set mt (.map (dEs fs)) = S := by
      rw [Store.set_set]
      funext x
      by_cases e : x = mt
      · subst e; rw [Store.set_same]; exact h.symm
      · rw [Store.set_ne _ _ _ e]
    rw [e] at q3
    exact ⟨_, _, (Ent.drop q1).trans (Ent.unB (q2.get gm)), hQ pre _ _ hp q3⟩
  · rw [Store.set_ne _ _ _ hia.symm, Store.set_ne _ _ _ ham, hS1, Store.set_ne _ _ _ hta.symm]; exact Store.set_same _ _ _
  · rw [Store.set_ne _ _ _ hi_t.symm, Store.set_ne _ _ _ htm, hS1]; exact Store.set_same _ _ _
  · intro x o hx
    have x1 : x ≠ it := fun e => by subst e; rw [b3] at hx; cases hx
    rw [Store.set_ne _ _ _ x1]
    by_cases e : x = mt
    · subst e; rw [Store.set_same] at hx ⊢; exact hx
    · rw [Store.set_ne _ _ _ e] at hx ⊢
      have x2 : x ≠ t := fun e => by subst e; rw [ht0] at hx; cases hx
      have x3 : x ≠ a := fun e => by subst e; rw [ha] at hx; cases hx
      rw [hS1, Store.set_ne _ _ _ x2, Store.set_ne _ _ _ x3]; exact hx
  · have hz2 : (births.zip (fs.map (·.name))).map (·.2) = fs.map (·.name) := by rw [List.map_snd_zip]; simp [hl']
    unfold remL
    rw [List.filter_eq_self.2 (by simp), hz2, List.nil_append]
end
end Go.Du
namespace Go.Du
open Go
attribute [local irreducible] ATriple W evP AI AExt
section
variable {S : Store} {d mt : Nat} {q : Int} {fs : List Fl}
abbrev ROWN (l : List Bs) : AObj := .row 9 1 (nms l)
theorem ixA_nm {S : Store} {t : Nat} {l : List Bs} (h : S t = some (ROWN l)) (i : Nat) (hi : i < l.length) : ixA 1 (.sref t 0 l.length) (iv i) S = some (.ptr t i 0) := by
  simp [ixA, litInt, aix, hi, h]
theorem ldv_nm {S : Store} {t : Nat} {l : List Bs} (h : S t = some (ROWN l)) (i : Nat) (hi : i < l.length) : ldv false 1 (.ptr t i 0) S = some (sv l[i]) := by
  rw [ldv_ptr1 false 1 t i 0 S h (cs := [sv l[i]]) (by simp [hi])]; rfl
theorem stv_nm {S : Store} {t : Nat} {l : List Bs} (h : S t = some (ROWN l)) (i : Nat) (hi : i < l.length) (s : Bs) : stv 1 (.ptr t i 0) (sv s) S = some (S.set t (ROWN (l.set i s))) := by
  rw [stv_ptr1 1 t i 0 (sv s) S h (cs := [sv l[i]]) (by simp [hi]) rfl rfl (by simp)]
  simp [splice, ROWN, nms, List.map_set]
set_option maxRecDepth 100000 in
theorem f465_L2_c (t : Nat) (n : Nat) (hn : n ≤ 12) (S0 : Store) (l0 : List Bs) (a b i : AV) (K : AK)
    (hK : ∀ l S', l.Perm l0 → S' = S0.set t (ROWN l) → K (.exit 2) (ofL [(0, .sref t 0 n), (1, iv 0), (2, b), (6, i)]) S') :
    ∀ (j : Nat) (l : List Bs) (S : Store), j < n → l.length = n → l.Perm l0 → S = S0.set t (ROWN l) → f465_L2 K (.sref t 0 n) (iv 0) b i (iv j) S := by
  intro j
  induction j with
  | zero =>
    intro l S hj hl hp hS
    refine f465_L2_pt ?_
    simp -implicitDefEqProofs only [f465_l2, abi_gtr, bQ_some, Int.natCast_zero, show decide ((0 : Int) > 0) = false from rfl, gdQ_bv, gdE_bv, Bool.false_eq_true, if_false, apick_bv, condW_bv]
    exact hK l S hp hS
  | succ j ih =>
    intro l S hj hl hp hS
    have hSt : S t = some (ROWN l) := by rw [hS]; exact Store.set_same _ _ _
    refine f465_L2_pt ?_
    have h1 : ((j + 1 : Nat) : Int) > 0 := by omega
    have w1 : IntKind.i64.wrap (((j + 1 : Nat) : Int) - 1) = (j : Nat) := by rw [wrap_id (by omega) (by omega)]; omega
    subst hl
    simp -implicitDefEqProofs only [f465_l2, abi_gtr, bQ_some, h1, decide_true, gdQ_bv, gdE_bv, if_true, ixA_nm hSt (j + 1) hj, ldv_nm hSt (j + 1) hj, abi_sub, w1, ixA_nm hSt j (by omega), ldv_nm hSt j (by omega)]
    refine f471_c _ _ S ?_
    simp -implicitDefEqProofs only [apick_bv, if_true, bQ_some, condW_bv]
    split
    · simp -implicitDefEqProofs only [ixA_nm hSt (j + 1) hj, ldv_nm hSt (j + 1) hj, ixA_nm hSt j (by omega), ldv_nm hSt j (by omega), bQ_some]
      rw [stv_nm hSt (j + 1) hj, thenS_some]
      have e1 : ixA 1 (.sref t 0 l.length) (iv j) (S.set t (ROWN (l.set (j + 1) l[j]))) = some (.ptr t j 0) := by
        have := ixA_nm (S := S.set t (ROWN (l.set (j + 1) l[j]))) (t := t) (l := l.set (j + 1) l[j]) (Store.set_same _ _ _) j (by simp; omega)
        simpa using this
      rw [e1, bQ_some, stv_nm (l := l.set (j + 1) l[j]) (Store.set_same _ _ _) j (by simp; omega), thenS_some]
      have hp2 : ((l.set (j + 1) l[j]).set j l[j + 1]).Perm l := List.set_set_perm (by omega) (by omega)
      exact ih ((l.set (j + 1) l[j]).set j l[j + 1]) _ (by omega) (by simp) (hp2.trans hp) (by rw [hS, Store.set_set, Store.set_set])
    · exact hK l S hp hS
set_option maxRecDepth 100000 in
theorem f465_c (t n : Nat) (hn : n ≤ 12) (l0 : List Bs) (hl0 : l0.length = n) (S : Store) (hS : S t = some (ROWN l0)) {Q : AV → Store → Prop} (hQ : ∀ l, l.Perm l0 → Q (.tuple []) (S.set t (ROWN l))) : ATriple PR 465 [.sref t 0 n, iv 0, iv n] S Q := by
  refine f465_ok ?_
  simp -implicitDefEqProofs only [f465_s, abi_add, bQ_some, show IntKind.i64.wrap ((0 : Int) + 1) = ((1 : Nat) : Int) from by decide]
  have loop : ∀ (k i : Nat) (l : List Bs) (Sx : Store), n - i = k → l.Perm l0 → Sx = S.set t (ROWN l) → f465_L1 (f465_K2 Q) (.sref t 0 n) (iv 0) (iv n) (iv i) Sx := by
    intro k
    induction k with
    | zero =>
      intro i l Sx hk hp hx
      refine f465_L1_pt ?_
      have : ¬ (i : Int) < n := by omega
      simp -implicitDefEqProofs only [f465_l1, abi_lss, bQ_some, this, decide_false, condW_bv, Bool.false_eq_true, if_false]
      refine f465_K2_e0_pt ?_
      subst hx
      exact dropQ_self (hQ l hp)
    | succ k ih =>
      intro i l Sx hk hp hx
      refine f465_L1_pt ?_
      have : (i : Int) < n := by omega
      simp -implicitDefEqProofs only [f465_l1, abi_lss, bQ_some, this, decide_true, condW_bv, if_true]
      refine f465_L2_c t n hn S l0 (iv 0) (iv n) (iv i) _ (fun l' S' hp' hS' => ?_) i l Sx (by omega) (by rw [hp.length_eq, hl0]) hp hx
      refine f465_K1_e2_pt ?_
      have w1 : IntKind.i64.wrap ((i : Int) + 1) = ((i + 1 : Nat) : Int) := by rw [wrap_id (by omega) (by omega)]; omega
      simp -implicitDefEqProofs only [f465_K1_e2, abi_add, w1, bQ_some]
      exact ih (i + 1) l' S' (by omega) hp' hS'
  refine loop _ 1 l0 S rfl (.refl _) ?_
  funext x
  by_cases e : x = t
  · subst e; rw [Store.set_same]; exact hS
  · rw [Store.set_ne _ _ _ e]
theorem aixS_lt (b : ByteArray) (n : Nat) (h : n < b.size) : ∃ c : Nat, aixS (.lit (.string b)) (uv n) = some (uv c) := by
  obtain ⟨l, rfl⟩ : ∃ l : Bs, b = sb l := ⟨b.data.toList, by simp [sb]⟩
  have h' : n < l.length := by simpa using h
  refine ⟨l[n].toNat, ?_⟩
  simp [aixS, h', List.getD]
set_option maxRecDepth 100000 in
theorem f475_c (n : Nat) (hn : n ≤ 12) (S : Store) {Q : AV → Store → Prop} (hQ : ∀ k, Q (iv k) S) : ATriple PR 475 [.lit (.int .u64 n)] S Q := by
  refine f475_ok ?_
  have c1 : abi .geq (.lit (.int .u64 n)) (.lit (.int .u64 4294967296)) = some (bv (decide ((n : Int) ≥ 4294967296))) := rfl
  have c2 : abi .geq (.lit (.int .u64 n)) (.lit (.int .u64 65536)) = some (bv (decide ((n : Int) ≥ 65536))) := rfl
  have c3 : abi .geq (.lit (.int .u64 n)) (.lit (.int .u64 256)) = some (bv (decide ((n : Int) ≥ 256))) := rfl
  have n1 : ¬ ((n : Int) ≥ 4294967296) := by omega
  have n2 : ¬ ((n : Int) ≥ 65536) := by omega
  have n3 : ¬ ((n : Int) ≥ 256) := by omega
  simp -implicitDefEqProofs only [f475_s, c1, n1, decide_false, bQ_some, condW_bv, Bool.false_eq_true, if_false]
  refine f475_J1_pt ?_
  simp -implicitDefEqProofs only [f475_j1, c2, n2, decide_false, bQ_some, condW_bv, Bool.false_eq_true, if_false]
  refine f475_J2_pt ?_
  simp -implicitDefEqProofs only [f475_j2, c3, n3, decide_false, bQ_some, condW_bv, Bool.false_eq_true, if_false]
  refine f475_J3_pt ?_
  have d1 : acv (.int .u8) (.lit (.int .u64 n)) S = some (uv n) := by
    have : IntKind.u8.wrap (n : Int) = n := by simp [IntKind.wrap, IntKind.bits, IntKind.signed]; omega
    simp [acv, acvI, this]
  unfold f475_j3
  rw [d1, bQ_some]
  have fin : ∀ k : Nat, bQ (acv (.int .i64) (uv k) S) (fun t23 => bQ (abi .add (.lit (.int .i64 0)) t23) fun t24 => dropQ Q t24 S) := by
    intro k
    simp [acv, acvI]
    exact dropQ_self (hQ _)
  have hx : ∀ b : ByteArray, n < b.size → bQ (aixS (.lit (.string b)) (uv n)) (fun t22 => bQ (acv (.int .i64) t22 S) (fun t23 => bQ (abi .add (.lit (.int .i64 0)) t23) fun t24 => dropQ Q t24 S)) := by
    intro b hb
    obtain ⟨c, hc⟩ := aixS_lt b n hb
    rw [hc, bQ_some]
    exact fin c
  refine hx _ ?_
  exact Nat.lt_of_lt_of_le (show n < 13 by omega) (Nat.le_of_ble_eq_true (by kernel_rfl))
theorem f412_c (n : Nat) (hn : n ≤ 12) (S : Store) {Q : AV → Store → Prop} (hQ : ∀ k, Q (iv k) S) : ATriple PR 412 [.lit (.int .u64 n)] S Q := by
  refine f412_ok ?_
  simp -implicitDefEqProofs only [f412_s, condW_bv, Bool.false_eq_true, if_false]
  exact f475_c n hn S fun k => dropQ_self (hQ k)
theorem f411_c (t n : Nat) (hn : n ≤ 12) (l0 : List Bs) (hl0 : l0.length = n) (S : Store) (hS : S t = some (ROWN l0)) (k : AV) {Q : AV → Store → Prop} (hQ : ∀ l, l.Perm l0 → Q (.tuple []) (S.set t (ROWN l))) : ATriple PR 411 [.sref t 0 n, iv 0, iv n, k] S Q := by
  refine f411_ok ?_
  simp -implicitDefEqProofs only [f411_s]
  refine f411_L1_pt ?_
  have w1 : IntKind.i64.wrap ((n : Int) - 0) = n := by rw [wrap_id (by omega) (by omega)]; omega
  have h1 : (n : Int) ≤ 12 := by omega
  simp -implicitDefEqProofs only [f411_l1, abi_sub, w1, abi_leq, bQ_some, h1, decide_true, condW_bv, if_true]
  refine f465_c t n hn l0 hl0 S hS fun l hp => ?_
  refine f411_K1_ret_pt ?_
  exact dropQ_self (hQ l hp)
theorem f303_c (t n : Nat) (hn : n ≤ 12) (l0 : List Bs) (hl0 : l0.length = n) (S : Store) (hS : S t = some (ROWN l0)) {Q : AV → Store → Prop} (hQ : ∀ l, l.Perm l0 → Q (.tuple []) (S.set t (ROWN l))) : ATriple PR 303 [.sref t 0 n] S Q := by
  refine f303_ok ?_
  have e0 : aln .slice (.sref t 0 n) S = some (iv n) := rfl
  have e1 : acv (.int .u64) (iv n) S = some (.lit (.int .u64 n)) := by
    have : IntKind.u64.wrap (n : Int) = n := by simp [IntKind.wrap, IntKind.bits, IntKind.signed]; omega
    simp [acv, acvI, this]
  simp -implicitDefEqProofs only [f303_s, e0, e1, bQ_some]
  refine f412_c n hn S fun k => ?_
  refine f411_c t n hn l0 hl0 S hS _ fun l hp => ?_
  exact dropQ_self (hQ l hp)
theorem f308_c (h : DiskAt S d mt q fs) (h1 : fs ≠ []) (hn : fs.length ≤ 12) {Q : AV → Store → Prop} (hQ : ∀ l, l.Perm (fs.map (·.name)) → Q (.svals (nms l)) S) : ATriple PR 308 [.ptr d 0 0] S Q := by
  refine f308_ok ?_
  simp -implicitDefEqProofs only [f308_s, anil_ptr, padd_ptr, Nat.zero_add, dk_mp h, bQ_some]
  have k0 : ∀ {Q : AV → Store → Prop}, Q (.func (.func 476) [] [.fptr [.mref mt] 0]) S → ATriple PR 416 [.mref mt] S Q := fun {Q} hq => by
    refine f416_ok ?_
    have e : frzOf (boxR true 251 (.mref mt)) = some (.fptr [.mref mt] 0) := rfl
    simp -implicitDefEqProofs only [f416_s, e, bQ_some]
    exact dropQ_self hq
  refine k0 ?_
  refine f164_ok ?_
  simp -implicitDefEqProofs only [f164_s]
  refine f240_ok ?_
  simp -implicitDefEqProofs only [f240_s]
  refine f373_c h.mp (by omega) fun pre v S' hp hg => ?_
  refine dropQ_self ?_
  have hpl := hp.length_eq
  simp only [List.length_map] at hpl
  have hne : nms pre ≠ [] := by
    intro e
    have := congrArg List.length e
    simp at this
    subst this
    simp at hpl
    exact h1 (List.eq_nil_of_length_eq_zero hpl.symm)
  have hlen : (nms pre).length = pre.length := by simp
  generalize hes : nms pre = es at hg hne hlen
  cases hg with
  | nil => exact absurd rfl hne
  | own ht =>
    rename_i t
    subst hes
    rw [hlen]
    refine f303_c t pre.length (by omega) pre rfl _ (Store.set_same _ _ _) fun l hl => ?_
    refine dropQ_self ?_
    rw [Store.set_set]
    have : ATriple PR 0 [] S Q → True := fun _ => trivial
    exact ⟨_, S, Ent.list ht (by simp [hl.length_eq]), hQ l (hl.trans hp)⟩
theorem f201_c (h : DiskAt S d mt q fs) (h1 : fs ≠ []) (hn : fs.length ≤ 12) {Q : AV → Store → Prop} (hQ : ∀ l, l.Perm (fs.map (·.name)) → Q (.svals (nms l)) S) : ATriple PR 201 [.ptr d 0 0] S Q := by
  refine f201_ok ?_
  simp -implicitDefEqProofs only [f201_s, anil_ptr, padd_ptr, Nat.zero_add, dk_down h, bQ_some, condW_bv, Bool.false_eq_true, if_false]
  exact f308_c h h1 hn fun l hp => dropQ_self (hQ l hp)
end
end Go.Du
