/- What is proved: at every archive row that the statement's guards let in, the rows of a key, and of keys, are the document's, so that the spec answers true.
Conditions: the call's arguments together hold at most 1048576 values and letters (the card's own bound); no other. -/
import Derived.Test.YthmlcohmlehddaaGreatDoorVad
import Derived.Test.YthmlcohmlehddaaGreatDoorVae
set_option linter.all false
namespace Go.Du
open Go
attribute [local irreducible] ATriple W evP AI
theorem f177_g (b : AV) (bs : Bs) (l : List Nat) (S0 S : Store) (hg : Grow 5 1 S0 (byt bs) b S) (hl : ∀ n ∈ l, n < 9223372036854775808) (hlen : l.length ≤ 1099511627776) (hr : (bs ++ l.flatMap putN).length ≤ 1099511627776) {Q : AV → Store → Prop} (h : ∀ v S', Grow 5 1 S0 (byt (bs ++ l.flatMap putN)) v S' → Q v S') : ATriple PR 177 [b, nats l] S Q := by
  obtain ⟨z, hz⟩ := hg.slIn
  refine ATriple.drop (f177_c b bs l S z hz hl hlen hr fun v S' hg' => ?_)
  obtain ⟨S2, h2, hg2⟩ := hg'.drop hg.sub
  exact ⟨v, S2, .drop h2, h _ _ hg2⟩
def textS (s : Bs) : Bs := putN s.length ++ s
theorem Grow.str {Sa S : Store} {acc l : Bs} {v : AV} {K : AV → Store → Prop} (h : Grow 5 1 Sa (byt acc) v S) (hb : acc.length + l.length ≤ 1099511627776) (hk : ∀ v' S', Grow 5 1 Sa (byt (acc ++ l)) v' S' → K v' S') : apW (some (5, 1, 1, .str)) v (sv l) S K := by
  refine h.app (l := byt l) (by simp [apSrc, bytesAV_sb]) (by simp [byt]) (by simp; omega) (by simp; omega) fun v' S' hg => hk v' S' ?_
  simpa [byt] using hg
theorem bsl_nat (n : Nat) : frzOf (bslR true 1 3 1 1 1 [(0, iv n)]) = some (nats [n]) := bsl_one 3 1 _ 1 ⟨rfl, by decide, by decide, rfl, rfl⟩
theorem f180_loop (l : List Bs) (S0 : Store) (hlen : l.length ≤ 1099511627776) (K : AK) (r : Bs) (hr : r.length ≤ 1099511627776) (h0 : ∀ v S, Grow 5 1 S0 (byt r) v S → K (.exit 0) (ofL [(0, v)]) S) :
    ∀ (j i : Nat) (acc : Bs) (v : AV) (S : Store), j + i = l.length → r = acc ++ (l.drop i).flatMap textS → Grow 5 1 S0 (byt acc) v S → f180_L1 K v (.svals (strs l)) (iv l.length) (iv i) S := by
  intro j
  induction j with
  | zero =>
    intro i acc v S hi hacc hg
    refine f180_L1_pt ?_
    have : ¬ (i : Int) < l.length := by omega
    rw [List.drop_of_length_le (by omega)] at hacc
    simp at hacc
    subst hacc
    simp -implicitDefEqProofs [f180_l1, this]
    exact h0 _ _ hg
  | succ j ih =>
    intro i acc v S hi hacc hg
    refine f180_L1_pt ?_
    have h2 : i < l.length := by omega
    have h1 : (i : Int) < l.length := by omega
    have w1 : IntKind.i64.wrap ((i : Int) + 1) = i + 1 := wrap_id (by omega) (by omega)
    have x0 : ∀ S, ixA 1 (.svals (strs l)) (iv i) S = some (.fptr [sv l[i]] 0) := fun S => ixA_map _ l i 1 S h2 fun _ => rfl
    rw [List.drop_eq_getElem_cons h2] at hacc
    simp only [List.flatMap_cons, textS] at hacc
    have hlr : r.length = acc.length + ((putN l[i].length).length + l[i].length + ((l.drop (i + 1)).flatMap textS).length) := by rw [hacc]; simp; omega
    simp -implicitDefEqProofs [f180_l1, h1, x0, bsl_nat]
    refine f177_g v acc [l[i].length] S0 S hg (by simp; omega) (by simp) (by simp; omega) fun v' S' hg' => ?_
    simp only [List.flatMap_cons, List.flatMap_nil, List.append_nil] at hg'
    refine hg'.str (by simp; omega) fun v2 S2 hg2 => ?_
    rw [w1]
    refine ih (i + 1) _ v2 S2 (by omega) ?_ hg2
    rw [hacc]; simp
theorem f180_c (b : AV) (bs : Bs) (l : List Bs) (S : Store) (z : Bool) (hb : SlIn b S (byt bs) z) (hlen : l.length ≤ 1099511627776) (hr : (bs ++ l.flatMap textS).length ≤ 1099511627776) {Q : AV → Store → Prop} (h : ∀ v S', Grow 5 1 S (byt (bs ++ l.flatMap textS)) v S' → Q v S') : ATriple PR 180 [b, .svals (strs l)] S Q := by
  refine f180_ok ?_
  simp -implicitDefEqProofs only [f180_s]
  refine f311_c b bs S z hb (by simp at hr; omega) fun v S' hg => ?_
  simp only [aln_svals, List.length_map, bQ_some]
  refine f180_loop l S hlen _ _ hr ?_ l.length 0 bs v S' rfl rfl hg
  intro v S hg
  apply f180_K1_e0_pt
  exact dropQ_self (h _ _ hg)
theorem f180_g (b : AV) (bs : Bs) (l : List Bs) (S0 S : Store) (hg : Grow 5 1 S0 (byt bs) b S) (hlen : l.length ≤ 1099511627776) (hr : (bs ++ l.flatMap textS).length ≤ 1099511627776) {Q : AV → Store → Prop} (h : ∀ v S', Grow 5 1 S0 (byt (bs ++ l.flatMap textS)) v S' → Q v S') : ATriple PR 180 [b, .svals (strs l)] S Q := by
  obtain ⟨z, hz⟩ := hg.slIn
  refine ATriple.drop (f180_c b bs l S z hz hlen hr fun v S' hg' => ?_)
  obtain ⟨S2, h2, hg2⟩ := hg'.drop hg.sub
  exact ⟨v, S2, .drop h2, h _ _ hg2⟩
end Go.Du
namespace Go.Du
open Go
attribute [local irreducible] ATriple W evP AI
def encT (s : Bs) : Bs := s.flatMap fun b => if b = 0 then [0, 255] else [b]
def numB (n : Nat) : Bs := [128, 0, 0, 0, 0, 0, 0, UInt8.ofNat n]
def keyOf (n : Nat) (s : Bs) : Bs := 1 :: numB n ++ 2 :: (encT s ++ [0, 1])
theorem bytes_get (l : Bs) (i : Nat) (b : UInt8) (h : l[i]? = some b) (S : Store) : ixA 1 (bytes l) (iv i) S = some (.fptr [uv b.toNat] 0) := by
  obtain ⟨h1, rfl⟩ := List.getElem?_eq_some_iff.1 h
  exact ixA_bytes l i S h1
theorem bytes_drop (l : Bs) (a : Nat) (h : a ≤ l.length) (S : Store) : sliceV 1 (bytes l) (some (iv a)) none none S = some (bytes (l.drop a)) := sliceV_lo _ l a 1 S h fun _ => rfl
theorem bytes_take (l : Bs) (a : Nat) (h : a ≤ l.length) (S : Store) : sliceV 1 (bytes l) none (some (iv a)) none S = some (bytes (l.take a)) := sliceV_hi _ l a 1 S h fun _ => rfl
theorem bytes_cut (l : Bs) (a b : Nat) (h1 : a ≤ b) (h : b ≤ l.length) (S : Store) : sliceV 1 (bytes l) (some (iv a)) (some (iv b)) none S = some (bytes ((l.drop a).take (b - a))) := sliceV_map _ l a b 1 S h1 h fun _ => rfl
theorem f452_c (n : Nat) (hn : n ≤ 3) (rest : Bs) (S : Store) {Q : AV → Store → Prop} (h : Q (.tuple [.agg (Prt.num n).cs, bytes rest, iv 0]) S) : ATriple PR 452 [bytes (numB n ++ rest)] S Q := by
  refine f452_ok ?_
  have hlen : ¬ ((numB n ++ rest).length : Int) < 8 := by simp [numB]; omega
  have e1 := fun S => bytes_take (numB n ++ rest) 8 (by simp [numB]) S
  have e2 := fun S => bytes_drop (numB n ++ rest) 8 (by simp [numB]) S
  have e3 : (numB n ++ rest).take 8 = numB n := by simp [numB]
  have e4 : (numB n ++ rest).drop 8 = rest := by simp [numB]
  rw [e3] at e1; rw [e4] at e2
  generalize hb : numB n ++ rest = b at *
  simp -implicitDefEqProofs [f452_s]
  intro t ht
  simp only [Int.cast_ofNat_Int] at e1 e2
  have hlen' : ¬ b.length < 8 := by omega
  simp -implicitDefEqProofs [e1, hlen, hlen']
  have x0 : ∀ S, ixA 1 (bytes (numB n)) (iv 0) S = some (.fptr [uv 128] 0) := fun S => by
    have := bytes_get (numB n) 0 128 rfl S
    simpa using this
  have s0 : abi .shl (u64v 0) (u64v 8) = some (u64v 0) := rfl
  have c0 : ∀ S, acv (.int .u64) (uv 128) S = some (u64v 128) := fun S => rfl
  have o0 : abi .or (u64v 0) (u64v 128) = some (u64v 128) := rfl
  have x1 : ∀ S, ixA 1 (bytes (numB n)) (iv 1) S = some (.fptr [uv 0] 0) := fun S => by
    have := bytes_get (numB n) 1 0 rfl S
    simpa using this
  have s1 : abi .shl (u64v 128) (u64v 8) = some (u64v 32768) := rfl
  have c1 : ∀ S, acv (.int .u64) (uv 0) S = some (u64v 0) := fun S => rfl
  have o1 : abi .or (u64v 32768) (u64v 0) = some (u64v 32768) := rfl
  have x2 : ∀ S, ixA 1 (bytes (numB n)) (iv 2) S = some (.fptr [uv 0] 0) := fun S => by
    have := bytes_get (numB n) 2 0 rfl S
    simpa using this
  have s2 : abi .shl (u64v 32768) (u64v 8) = some (u64v 8388608) := rfl
  have c2 : ∀ S, acv (.int .u64) (uv 0) S = some (u64v 0) := fun S => rfl
  have o2 : abi .or (u64v 8388608) (u64v 0) = some (u64v 8388608) := rfl
  have x3 : ∀ S, ixA 1 (bytes (numB n)) (iv 3) S = some (.fptr [uv 0] 0) := fun S => by
    have := bytes_get (numB n) 3 0 rfl S
    simpa using this
  have s3 : abi .shl (u64v 8388608) (u64v 8) = some (u64v 2147483648) := rfl
  have c3 : ∀ S, acv (.int .u64) (uv 0) S = some (u64v 0) := fun S => rfl
  have o3 : abi .or (u64v 2147483648) (u64v 0) = some (u64v 2147483648) := rfl
  have x4 : ∀ S, ixA 1 (bytes (numB n)) (iv 4) S = some (.fptr [uv 0] 0) := fun S => by
    have := bytes_get (numB n) 4 0 rfl S
    simpa using this
  have s4 : abi .shl (u64v 2147483648) (u64v 8) = some (u64v 549755813888) := rfl
  have c4 : ∀ S, acv (.int .u64) (uv 0) S = some (u64v 0) := fun S => rfl
  have o4 : abi .or (u64v 549755813888) (u64v 0) = some (u64v 549755813888) := rfl
  have x5 : ∀ S, ixA 1 (bytes (numB n)) (iv 5) S = some (.fptr [uv 0] 0) := fun S => by
    have := bytes_get (numB n) 5 0 rfl S
    simpa using this
  have s5 : abi .shl (u64v 549755813888) (u64v 8) = some (u64v 140737488355328) := rfl
  have c5 : ∀ S, acv (.int .u64) (uv 0) S = some (u64v 0) := fun S => rfl
  have o5 : abi .or (u64v 140737488355328) (u64v 0) = some (u64v 140737488355328) := rfl
  have x6 : ∀ S, ixA 1 (bytes (numB n)) (iv 6) S = some (.fptr [uv 0] 0) := fun S => by
    have := bytes_get (numB n) 6 0 rfl S
    simpa using this
  have s6 : abi .shl (u64v 140737488355328) (u64v 8) = some (u64v 36028797018963968) := rfl
  have c6 : ∀ S, acv (.int .u64) (uv 0) S = some (u64v 0) := fun S => rfl
  have o6 : abi .or (u64v 36028797018963968) (u64v 0) = some (u64v 36028797018963968) := rfl
  have x7 : ∀ S, ixA 1 (bytes (numB n)) (iv 7) S = some (.fptr [uv n] 0) := fun S => by
    have := bytes_get (numB n) 7 (UInt8.ofNat n) rfl S
    simpa [show n % 256 = n by omega] using this
  have s7 : abi .shl (u64v 36028797018963968) (u64v 8) = some (u64v 9223372036854775808) := rfl
  have c7 : ∀ S, acv (.int .u64) (uv n) S = some (u64v n) := fun S => by
    have : acv (.int .u64) (uv n) S = some (u64v (IntKind.u64.wrap n)) := rfl
    rw [this, IntWalk.u64_in _ (by omega)]
  have o7 : abi .or (u64v 9223372036854775808) (u64v n) = some (u64v (9223372036854775808 + n)) := by
    have : n = 0 ∨ n = 1 ∨ n = 2 ∨ n = 3 := by omega
    rcases this with rfl | rfl | rfl | rfl <;> rfl
  have xr : abi .xor (u64v (9223372036854775808 + n)) (u64v 9223372036854775808) = some (u64v n) := by
    have : n = 0 ∨ n = 1 ∨ n = 2 ∨ n = 3 := by omega
    rcases this with rfl | rfl | rfl | rfl <;> rfl
  have ci : ∀ S, acv (.int .i64) (u64v n) S = some (iv n) := fun S => by
    have : acv (.int .i64) (u64v n) S = some (iv (IntKind.i64.wrap n)) := rfl
    rw [this, wrap_id (by omega) (by omega)]
  have hl8 : (numB n).length = 8 := rfl
  have w1 : IntKind.i64.wrap 1 = 1 := rfl
  have w2 : IntKind.i64.wrap 2 = 2 := rfl
  have w3 : IntKind.i64.wrap 3 = 3 := rfl
  have w4 : IntKind.i64.wrap 4 = 4 := rfl
  have w5 : IntKind.i64.wrap 5 = 5 := rfl
  have w6 : IntKind.i64.wrap 6 = 6 := rfl
  have w7 : IntKind.i64.wrap 7 = 7 := rfl
  have w8 : IntKind.i64.wrap 8 = 8 := rfl
  refine f452_L1_pt ?_
  simp -implicitDefEqProofs [f452_l1, hl8, x0, s0, c0, o0, w1]
  refine f452_L1_pt ?_
  simp -implicitDefEqProofs [f452_l1, hl8, x1, s1, c1, o1, w2]
  refine f452_L1_pt ?_
  simp -implicitDefEqProofs [f452_l1, hl8, x2, s2, c2, o2, w3]
  refine f452_L1_pt ?_
  simp -implicitDefEqProofs [f452_l1, hl8, x3, s3, c3, o3, w4]
  refine f452_L1_pt ?_
  simp -implicitDefEqProofs [f452_l1, hl8, x4, s4, c4, o4, w5]
  refine f452_L1_pt ?_
  simp -implicitDefEqProofs [f452_l1, hl8, x5, s5, c5, o5, w6]
  refine f452_L1_pt ?_
  simp -implicitDefEqProofs [f452_l1, hl8, x6, s6, c6, o6, w7]
  refine f452_L1_pt ?_
  simp -implicitDefEqProofs [f452_l1, hl8, x7, s7, c7, o7, w8]
  refine f452_L1_pt ?_
  simp -implicitDefEqProofs [f452_l1, hl8]
  apply f452_K1_e0_pt
  have hbd : ∀ x, abld [.lit (.bool false), .lit (.int .i64 0), .lit (.string ⟨#[]⟩)] [(1, 1, iv x)] = some (.agg (Prt.num x).cs) := fun x => by simp [abld, afill, splice, Prt.cs]
  simp -implicitDefEqProofs [f452_K1_e0, xr, ci, e2, hbd]
  have b1 := stv_box (S := S) (t := t) (ty := 296) (z := 3) (cs := [.lit (.bool false), .lit (.int .i64 0), .lit (.string ⟨#[]⟩)]) (x := .agg (Prt.num n).cs) (sz := 3) rfl rfl rfl
  have b2 := ldv_box (S := S) (t := t) (ty := 296) (z := 3) (cs := (Prt.num n).cs) (sz := 3) rfl
  rw [b1, thenS_some]
  simp only [cellsOf_agg, b2, resC_some, Option.map_some, retW_two]
  exact ⟨_, S, .drop ((Sub.refl S).set ht), h⟩
end Go.Du
namespace Go.Du
open Go
attribute [local irreducible] ATriple W evP AI
abbrev prt0 : List AV := [.lit (.bool false), .lit (.int .i64 0), .lit (.string ⟨#[]⟩)]
theorem uv_ne {b : UInt8} (h : b ≠ 0) : ¬ (b.toNat : Int) = 0 ∧ ¬ b.toNat = 0 := by
  have h1 : ¬ (b.toNat : Int) = 0 := fun e => h ((u8_zero b).1 e)
  exact ⟨h1, fun e => h1 (by omega)⟩
set_option maxRecDepth 100000 in
theorem f453_loop (b : Bs) (hB : b.length ≤ 1099511627776) (t : Nat) (S0 : Store) (rest : Bs) (K : AK) : ∀ (s pre out : Bs) (v : AV) (S : Store), b = pre ++ encT s ++ [0, 1] ++ rest → out.length ≤ pre.length → Grow 5 1 (S0.set t (.row 296 3 [prt0])) (byt out) v S →
    (∀ S', S' t = some (.row 296 3 [(Prt.txt (out ++ s)).cs]) → Sub S0 S' → K .ret (ofL [(2, .ptr t 0 0), (3, bytes rest), (4, iv 0)]) S') → S0 t = none →
    f453_g1_0 K (bytes b) (.ptr t 0 0) v (iv pre.length) S := by
  intro s
  induction s with
  | nil =>
    intro pre out v S hb ho hg hK ht
    have hlen : b.length = pre.length + 2 + rest.length := by rw [hb]; simp [encT]; omega
    have w1 : IntKind.i64.wrap ((pre.length : Int) + 1) = pre.length + 1 := wrap_id (by omega) (by omega)
    have w2 : IntKind.i64.wrap ((pre.length : Int) + 2) = pre.length + 2 := wrap_id (by omega) (by omega)
    have n1 : ¬ (pre.length : Int) = b.length := by omega
    have n2 : ¬ (pre.length : Int) + 1 = b.length := by omega
    have n3 : ¬ pre.length = b.length := by omega
    have n4 : ¬ pre.length + 1 = b.length := by omega
    have x0 := bytes_get b pre.length 0 (by rw [hb]; simp [encT]) S
    have x1 := bytes_get b (pre.length + 1) 1 (by rw [hb]; simp [encT]) S
    have sl : ∀ S, sliceV 1 (bytes b) (some (iv ((pre.length : Int) + 2))) none none S = some (bytes rest) := fun S => by
      have := bytes_drop b (pre.length + 2) (by omega) S
      have e : b.drop (pre.length + 2) = rest := by rw [hb]; simp [encT, List.drop_append]
      rw [e] at this; push_cast at this; exact this
    push_cast at x1
    have hbd : abld [.lit (.bool false), .lit (.int .i64 0), .lit (.string ⟨#[]⟩)] [(0, 1, .lit (.bool true)), (2, 1, sv out)] = some (.agg (Prt.txt out).cs) := by simp [abld, afill, splice, Prt.cs]
    simp -implicitDefEqProofs [f453_g1_0, n1, n2, n3, n4, x0, x1, w1, w2, sl, acv_byt hg.rd, hbd]
    obtain ⟨hx, hset⟩ := hg.box
    rw [stv_ptr1 3 t 0 0 (.agg (Prt.txt out).cs) S hx rfl rfl rfl (by simp)]
    have e5 : splice prt0 0 (cellsOf (.agg (Prt.txt out).cs)) = (Prt.txt out).cs := by simp [splice, Prt.cs]
    rw [e5, thenS_some]
    have hg' := hset (.row 296 3 [(Prt.txt out).cs])
    refine hK _ ?_ ?_
    · rw [List.append_nil]; exact hg'.box.1
    · exact ((Sub.refl S0).set ht).trans hg'.sub
  | cons c s ih =>
    intro pre out v S hb ho hg hK ht
    by_cases hc : c = 0
    · subst hc
      have he : encT (0 :: s) = 0 :: 255 :: encT s := rfl
      rw [he] at hb
      have hlen : b.length = pre.length + 2 + ((encT s).length + 2 + rest.length) := by rw [hb]; simp; omega
      have w1 : IntKind.i64.wrap ((pre.length : Int) + 1) = pre.length + 1 := wrap_id (by omega) (by omega)
      have w2 : IntKind.i64.wrap ((pre.length : Int) + 2) = pre.length + 2 := wrap_id (by omega) (by omega)
      have n1 : ¬ (pre.length : Int) = b.length := by omega
      have n2 : ¬ (pre.length : Int) + 1 = b.length := by omega
      have n3 : ¬ pre.length = b.length := by omega
      have n4 : ¬ pre.length + 1 = b.length := by omega
      have x0 := bytes_get b pre.length 0 (by rw [hb]; simp) S
      have x1 := bytes_get b (pre.length + 1) 255 (by rw [hb]; simp [List.getElem?_append]) S
      push_cast at x1
      have bb := bsl_byte 0 S
      simp -implicitDefEqProofs [f453_g1_0, n1, n2, n3, n4, x0, x1, w1, w2, bb]
      refine hg.byte 0 (by omega) fun v' S' hg' => ?_
      refine f453_G1_0_pt ?_
      have := ih (pre ++ [0, 255]) (out ++ [0]) v' S' (by rw [hb]; simp) (by simp; omega) hg' (by simpa using hK) ht
      simpa using this
    · have he : encT (c :: s) = c :: encT s := by simp [encT, hc]
      rw [he] at hb
      have hlen : b.length = pre.length + 1 + ((encT s).length + 2 + rest.length) := by rw [hb]; simp; omega
      have w1 : IntKind.i64.wrap ((pre.length : Int) + 1) = pre.length + 1 := wrap_id (by omega) (by omega)
      have n1 : ¬ (pre.length : Int) = b.length := by omega
      have n3 : ¬ pre.length = b.length := by omega
      have x0 := bytes_get b pre.length c (by rw [hb]; simp) S
      have bb := bsl_byte c.toNat S
      have hz := uv_ne hc
      simp -implicitDefEqProofs [f453_g1_0, n1, n3, x0, w1, hz.1, hz.2, bb]
      refine hg.byte c (by omega) fun v' S' hg' => ?_
      refine f453_G1_0_pt ?_
      have := ih (pre ++ [c]) (out ++ [c]) v' S' (by rw [hb]; simp) (by simp; omega) hg' (by simpa using hK) ht
      simpa using this
theorem f453_c (s rest : Bs) (hB : (encT s ++ [0, 1] ++ rest).length ≤ 1099511627776) (S : Store) {Q : AV → Store → Prop} (h : Q (.tuple [.agg (Prt.txt s).cs, bytes rest, iv 0]) S) : ATriple PR 453 [bytes (encT s ++ [0, 1] ++ rest)] S Q := by
  refine f453_ok ?_
  simp -implicitDefEqProofs only [f453_s, newW_own]
  intro t ht
  refine f453_L1_pt ?_
  simp -implicitDefEqProofs only [f453_l1]
  refine f453_loop (encT s ++ [0, 1] ++ rest) hB t S rest (f453_K1 Q) s [] [] nilS (S.set t (.row 296 3 [prt0])) (by simp) (by simp) .nil ?_ ht
  intro S' hS' hs
  apply f453_K1_ret_pt
  simp -implicitDefEqProofs only [f453_K1_ret, ldv_all_at hS' (show _ = 3 from rfl), resC_some, Option.map_some, retW_two]
  exact ⟨_, S, .drop hs, h⟩
end Go.Du
namespace Go.Du
open Go
attribute [local irreducible] ATriple W evP AI
theorem encT_len (s : Bs) : (encT s).length ≤ 2 * s.length := by
  induction s with
  | nil => simp [encT]
  | cons c s ih =>
    have : encT (c :: s) = (if c = 0 then [0, 255] else [c]) ++ encT s := rfl
    rw [this]; split <;> simp <;> omega
theorem bsl_prt (p : Prt) : frzOf (bslR true 3 296 3 1 1 [(0, .agg p.cs)]) = some (.svals [p.cs]) := bsl_one 296 3 _ 3 ⟨rfl, by decide, by decide, rfl, p.cs_length⟩
set_option maxRecDepth 100000 in
theorem f381_c (n : Nat) (hn : n ≤ 3) (s : Bs) (hs : s.length ≤ 1000) (S : Store) {Q : AV → Store → Prop} (h : Q (.tuple [.svals (prts [.num n, .txt s]), iv 0]) S) : ATriple PR 381 [bytes (keyOf n s)] S Q := by
  refine f381_ok ?_
  simp -implicitDefEqProofs only [f381_s]
  have hE := encT_len s
  have h0 : abld prt0 [] = some (.agg prt0) := rfl
  refine f381_L1_pt ?_
  have d1 : ∀ S, sliceV 1 (bytes (keyOf n s)) (some (iv 1)) none none S = some (bytes (numB n ++ 2 :: (encT s ++ [0, 1]))) := fun S => bytes_drop (keyOf n s) 1 (by simp [keyOf]) S
  have x1 : ∀ S, ixA 1 (bytes (keyOf n s)) (iv 0) S = some (.fptr [uv 1] 0) := fun S => bytes_get (keyOf n s) 0 1 rfl S
  have l1 : (0 : Int) < (keyOf n s).length := by simp [keyOf]; omega
  have l1' : 0 < (keyOf n s).length := by omega
  generalize keyOf n s = b at d1 x1 l1 l1'
  simp -implicitDefEqProofs [f381_l1, l1, l1', d1, h0]
  intro t ht
  have b1 := fun (S : Store) (cs x : List AV) (hl : cs.length = 3) (hx : x.length = 3) => stv_box (S := S) (t := t) (ty := 296) (z := 3) (cs := cs) (x := .agg x) (sz := 3) hl rfl hx
  have b2 := fun (S : Store) (cs : List AV) (hl : cs.length = 3) => ldv_box (S := S) (t := t) (ty := 296) (z := 3) (cs := cs) (sz := 3) hl
  have r0 := b1 S prt0 prt0 rfl rfl
  simp only [cellsOf_agg] at r0
  simp -implicitDefEqProofs [r0, x1]
  refine f452_c n hn _ _ ?_
  have r1 := b1 S prt0 (Prt.num n).cs rfl rfl
  simp only [cellsOf_agg] at r1
  simp -implicitDefEqProofs [r1]
  refine f381_J2_pt ?_
  have r2 := b2 S (Prt.num n).cs rfl
  simp -implicitDefEqProofs [f381_j2, r2, bsl_prt]
  refine (Grow.nil (e := 296) (sz := 3) (S0 := S.set t (.row 296 3 [(Prt.num n).cs]))).prt (acc := []) (.num n) (by simp) fun v1 S1 hg1 => ?_
  refine f381_L1_pt ?_
  have d2 : ∀ S, sliceV 1 (bytes (2 :: (encT s ++ [0, 1]))) (some (iv 1)) none none S = some (bytes (encT s ++ [0, 1])) := fun S => bytes_drop (2 :: (encT s ++ [0, 1])) 1 (by simp) S
  have x2 : ∀ S, ixA 1 (bytes (2 :: (encT s ++ [0, 1]))) (iv 0) S = some (.fptr [uv 2] 0) := fun S => bytes_get (2 :: (encT s ++ [0, 1])) 0 2 rfl S
  have l2 : (0 : Int) < (2 :: (encT s ++ [0, 1])).length := by simp; omega
  have l2' : 0 < (2 :: (encT s ++ [0, 1])).length := by omega
  generalize hb2 : 2 :: (encT s ++ [0, 1]) = b2' at d2 x2 l2 l2'
  simp -implicitDefEqProofs [f381_l1, l2, l2', d2, h0]
  intro t2 ht2
  have b3 := fun (S : Store) (cs x : List AV) (hl : cs.length = 3) (hx : x.length = 3) => stv_box (S := S) (t := t2) (ty := 296) (z := 3) (cs := cs) (x := .agg x) (sz := 3) hl rfl hx
  have b4 := fun (S : Store) (cs : List AV) (hl : cs.length = 3) => ldv_box (S := S) (t := t2) (ty := 296) (z := 3) (cs := cs) (sz := 3) hl
  have r3 := b3 S1 prt0 prt0 rfl rfl
  simp only [cellsOf_agg] at r3
  simp -implicitDefEqProofs [r3, x2]
  have hw := f453_c s [] (by simp; omega) (S1.set t2 (.row 296 3 [prt0])) (Q := fun x S_5 => bQ (aext x 0) fun t30 => bQ (aext x 1) fun t31 => bQ (aext x 2) fun t32 => thenS (stv 3 (.ptr t2 0 0) t30 S_5) fun _ S_6 => f381_J2 (f381_K1 Q) v1 (.ptr t2 0 0) t31 t32 S_6) ?_
  · rw [List.append_nil] at hw; exact hw
  have r4 := b3 S1 prt0 (Prt.txt s).cs rfl rfl
  simp only [cellsOf_agg] at r4
  simp -implicitDefEqProofs [r4]
  refine f381_J2_pt ?_
  have r5 := b4 S1 (Prt.txt s).cs rfl
  simp -implicitDefEqProofs [f381_j2, r5, bsl_prt]
  obtain ⟨S0', hs0, hg2⟩ := hg1.under ht2 (.row 296 3 [(Prt.txt s).cs])
  refine hg2.prt (.txt s) (by simp) fun v3 S3 hg3 => ?_
  refine f381_L1_pt ?_
  simp -implicitDefEqProofs [f381_l1]
  apply f381_K1_e0_pt
  refine ⟨_, S, (hg3.entC (fun a => .tuple [a, iv 0]) fun t el a c hac => (FrzL.cons hac (.cons (.refl _) .nil)).tuple).trans (Ent.drop (((Sub.refl S).set ht).trans hs0)), h⟩
end Go.Du
namespace Go.Du
open Go
attribute [local irreducible] ATriple W evP AI
set_option maxRecDepth 100000 in
theorem f413_loop2 (s : Bs) (hs : s.length ≤ 1000) (t : Nat) (t9 t10 t11 : AV) (K : AK) (S0 : Store) (acc0 : Bs) (ha0 : acc0.length ≤ 1000)
    (h0 : ∀ v S, Grow 5 1 (S0.set t (.row 296 3 [(Prt.txt s).cs])) (byt (acc0 ++ encT s)) v S → K (.exit 2) (ofL [(3, v), (9, t9), (10, t10), (11, t11)]) S) :
    ∀ (j i : Nat) (acc : Bs) (v : AV) (S : Store), j + i = s.length → acc.length ≤ 1000 + 2 * i → acc0 ++ encT s = acc ++ encT (s.drop i) → Grow 5 1 (S0.set t (.row 296 3 [(Prt.txt s).cs])) (byt acc) v S → f413_L2 K v (.ptr t 0 0) t9 t10 t11 (iv s.length) (iv i) S := by
  intro j
  induction j with
  | zero =>
    intro i acc v S hi ha hacc hg
    refine f413_L2_pt ?_
    have : ¬ (i : Int) < s.length := by omega
    rw [List.drop_of_length_le (by omega)] at hacc
    simp -implicitDefEqProofs [f413_l2, this]
    have e : acc = acc0 ++ encT s := by rw [hacc]; simp [encT]
    subst e
    exact h0 _ _ hg
  | succ j ih =>
    intro i acc v S hi ha hacc hg
    refine f413_L2_pt ?_
    have h2 : i < s.length := by omega
    have h1 : (i : Int) < s.length := by omega
    have w1 : IntKind.i64.wrap ((i : Int) + 1) = i + 1 := wrap_id (by omega) (by omega)
    have x0 := aixS_sv s i h2
    have hb := hg.box.1
    have e1 : ldv false 1 (.ptr t 0 2) S = some (sv s) := by rw [ldv_at hb]; rfl
    have e2 := fun S => bsl_byte s[i].toNat S
    rw [List.drop_eq_getElem_cons h2] at hacc
    simp -implicitDefEqProofs [f413_l2, h1, e1, x0, e2 S]
    refine hg.byte s[i] (by omega) fun v1 S1 hg1 => ?_
    have hb1 := hg1.box.1
    have e3 : ldv false 1 (.ptr t 0 2) S1 = some (sv s) := by rw [ldv_at hb1]; rfl
    by_cases hc : s[i] = 0
    · have hc' : (s[i].toNat : Int) = 0 := (u8_zero _).2 hc
      have bb := bsl_byte 255 S1
      simp -implicitDefEqProofs [e3, x0, hc', bb]
      refine hg1.byte 255 (by simp; omega) fun v2 S2 hg2 => ?_
      rw [w1]
      refine ih (i + 1) _ v2 S2 (by omega) (by simp; omega) ?_ hg2
      have e9 : encT (s[i] :: s.drop (i + 1)) = 0 :: 255 :: encT (s.drop (i + 1)) := by simp only [encT, List.flatMap_cons, if_pos hc]; rfl
      rw [hacc, e9, hc]; simp only [List.append_assoc, List.cons_append, List.nil_append]
    · have hz := uv_ne hc
      simp -implicitDefEqProofs [e3, x0, hz.1, hz.2]
      rw [w1]
      refine ih (i + 1) _ v1 S1 (by omega) (by simp; omega) ?_ hg1
      have e9 : encT (s[i] :: s.drop (i + 1)) = s[i] :: encT (s.drop (i + 1)) := by simp only [encT, List.flatMap_cons, if_neg hc]; rfl
      rw [hacc, e9]; simp only [List.append_assoc, List.cons_append, List.nil_append]
theorem f413_step3 (n : Nat) (x : Int) (b : UInt8) (i : Nat) (hi : i < 8) (hsh : abi .shr (u64v x) (iv (8 * i : Nat)) = some (u64v n)) (hn : ∀ S, acv (.int .u8) (u64v n) S = some (uv b.toNat)) (acc : Bs) (ha : acc.length ≤ 1000) (v : AV) (S S0 : Store) (hg : Grow 5 1 S0 (byt acc) v S) (t9 t10 t11 : AV) (K : AK)
    (h : ∀ v' S', Grow 5 1 S0 (byt (acc ++ [b])) v' S' → f413_L3 K v' (u64v x) (iv ((i : Int) - 1)) t9 t10 t11 S') : f413_L3 K v (u64v x) (iv i) t9 t10 t11 S := by
  refine f413_L3_pt ?_
  have w1 : IntKind.i64.wrap ((i : Int) - 1) = (i : Int) - 1 := wrap_id (by omega) (by omega)
  have w8 : IntKind.i64.wrap (8 * (i : Int)) = ((8 * i : Nat) : Int) := by rw [wrap_id (by omega) (by omega)]; omega
  have bb := bsl_byte b.toNat S
  simp -implicitDefEqProofs only [f413_l3, abi_geq, bQ_some, condW_bv, ge_iff_le, show (0 : Int) ≤ i by omega, decide_true, if_true, abi_mul, w8, hsh, hn, bb]
  refine hg.byte b (by omega) fun v' S' hg' => ?_
  rw [abi_sub, bQ_some, w1]
  exact h v' S' hg'
theorem f413_num (n : Nat) (hn : n ≤ 3) (acc : Bs) (ha : acc.length ≤ 100) (v : AV) (S S0 : Store) (hg : Grow 5 1 S0 (byt acc) v S) (t9 t10 t11 : AV) (K : AK)
    (h : ∀ v' S', Grow 5 1 S0 (byt (acc ++ numB n)) v' S' → K (.exit 4) (ofL [(3, v'), (9, t9), (10, t10), (11, t11)]) S') : f413_L3 K v (u64v (9223372036854775808 + n)) (iv 7) t9 t10 t11 S := by
  refine f413_step3 128 _ 128 7 (by omega) ?_ ?_ acc (by omega) _ _ S0 hg _ _ _ _ fun v7 S7 hg7 => ?_
  · have : n = 0 ∨ n = 1 ∨ n = 2 ∨ n = 3 := by omega
    rcases this with rfl | rfl | rfl | rfl <;> rfl
  · exact fun _ => rfl
  refine f413_step3 32768 _ 0 6 (by omega) ?_ ?_ (acc ++ [128]) (by simp; omega) _ _ S0 hg7 _ _ _ _ fun v6 S6 hg6 => ?_
  · have : n = 0 ∨ n = 1 ∨ n = 2 ∨ n = 3 := by omega
    rcases this with rfl | rfl | rfl | rfl <;> rfl
  · exact fun _ => rfl
  refine f413_step3 8388608 _ 0 5 (by omega) ?_ ?_ (acc ++ [128] ++ [0]) (by simp; omega) _ _ S0 hg6 _ _ _ _ fun v5 S5 hg5 => ?_
  · have : n = 0 ∨ n = 1 ∨ n = 2 ∨ n = 3 := by omega
    rcases this with rfl | rfl | rfl | rfl <;> rfl
  · exact fun _ => rfl
  refine f413_step3 2147483648 _ 0 4 (by omega) ?_ ?_ (acc ++ [128] ++ [0] ++ [0]) (by simp; omega) _ _ S0 hg5 _ _ _ _ fun v4 S4 hg4 => ?_
  · have : n = 0 ∨ n = 1 ∨ n = 2 ∨ n = 3 := by omega
    rcases this with rfl | rfl | rfl | rfl <;> rfl
  · exact fun _ => rfl
  refine f413_step3 549755813888 _ 0 3 (by omega) ?_ ?_ (acc ++ [128] ++ [0] ++ [0] ++ [0]) (by simp; omega) _ _ S0 hg4 _ _ _ _ fun v3 S3 hg3 => ?_
  · have : n = 0 ∨ n = 1 ∨ n = 2 ∨ n = 3 := by omega
    rcases this with rfl | rfl | rfl | rfl <;> rfl
  · exact fun _ => rfl
  refine f413_step3 140737488355328 _ 0 2 (by omega) ?_ ?_ (acc ++ [128] ++ [0] ++ [0] ++ [0] ++ [0]) (by simp; omega) _ _ S0 hg3 _ _ _ _ fun v2 S2 hg2 => ?_
  · have : n = 0 ∨ n = 1 ∨ n = 2 ∨ n = 3 := by omega
    rcases this with rfl | rfl | rfl | rfl <;> rfl
  · exact fun _ => rfl
  refine f413_step3 36028797018963968 _ 0 1 (by omega) ?_ ?_ (acc ++ [128] ++ [0] ++ [0] ++ [0] ++ [0] ++ [0]) (by simp; omega) _ _ S0 hg2 _ _ _ _ fun v1 S1 hg1 => ?_
  · have : n = 0 ∨ n = 1 ∨ n = 2 ∨ n = 3 := by omega
    rcases this with rfl | rfl | rfl | rfl <;> rfl
  · exact fun _ => rfl
  refine f413_step3 (9223372036854775808 + n) _ (UInt8.ofNat n) 0 (by omega) ?_ ?_ (acc ++ [128] ++ [0] ++ [0] ++ [0] ++ [0] ++ [0] ++ [0]) (by simp; omega) _ _ S0 hg1 _ _ _ _ fun v0 S0 hg0 => ?_
  · have : n = 0 ∨ n = 1 ∨ n = 2 ∨ n = 3 := by omega
    rcases this with rfl | rfl | rfl | rfl <;> rfl
  · have : n = 0 ∨ n = 1 ∨ n = 2 ∨ n = 3 := by omega
    rcases this with rfl | rfl | rfl | rfl <;> exact fun _ => rfl
  refine f413_L3_pt ?_
  simp -implicitDefEqProofs [f413_l3]
  refine h _ _ ?_
  have e : acc ++ numB n = acc ++ [128] ++ [0] ++ [0] ++ [0] ++ [0] ++ [0] ++ [0] ++ [UInt8.ofNat n] := by simp [numB]
  rw [e]; exact hg0
theorem Grow.under' {e sz : Nat} {S0 S : Store} {es : List (List AV)} {v : AV} (h : Grow e sz S0 es v S) {t : Nat} (ht : S t = none) (o : AObj) : Grow e sz (S0.set t o) es v (S.set t o) := by
  cases h with
  | nil => exact .nil
  | own hu =>
    rename_i u
    have hne : t ≠ u := fun e => by subst e; simp at ht
    have ht' : S0 t = none := by rwa [Store.set_ne _ _ _ hne] at ht
    rw [Store.set_comm _ hne.symm]
    exact .own (by rw [Store.set_ne _ _ _ hne.symm]; exact hu)
set_option maxRecDepth 100000 in
theorem f413_c (n : Nat) (hn : n ≤ 3) (s : Bs) (hs : s.length ≤ 1000) (S : Store) {Q : AV → Store → Prop} (h : Q (bytes (keyOf n s)) S) : ATriple PR 413 [.svals (prts [.num n, .txt s])] S Q := by
  refine f413_ok ?_
  simp -implicitDefEqProofs only [f413_s]
  have x0 := fun S => ixA_map Prt.cs [.num n, .txt s] 0 3 S (by simp) Prt.cs_length
  have x1 := fun S => ixA_map Prt.cs [.num n, .txt s] 1 3 S (by simp) Prt.cs_length
  simp only [Int.natCast_zero, Int.cast_ofNat_Int, Int.natCast_one, List.getElem_cons_zero, List.getElem_cons_succ, List.map_cons, List.map_nil] at x0 x1
  have hE := encT_len s
  have a0 : ∀ S, ldv true 3 (.fptr (Prt.num n).cs 0) S = some (.agg (Prt.num n).cs) := fun S => ldv_all S rfl
  have a1 : ∀ S, ldv true 3 (.fptr (Prt.txt s).cs 0) S = some (.agg (Prt.txt s).cs) := fun S => ldv_all S rfl
  simp only [prts, List.map_cons, List.map_nil, aln_svals, bQ_some, List.length_cons, List.length_nil, Nat.zero_add, Nat.reduceAdd, Int.cast_ofNat_Int]
  generalize hc0 : (Prt.num n).cs = c0 at *
  generalize hc1 : (Prt.txt s).cs = c1 at *
  have hl0 : c0.length = 3 := by rw [← hc0]; rfl
  have hl1 : c1.length = 3 := by rw [← hc1]; rfl
  refine f413_L1_pt ?_
  simp -implicitDefEqProofs only [f413_l1, abi_lss, bQ_some, condW_bv, x0, a0, newW_own]
  rw [if_pos (by decide)]
  intro t ht
  have b1 := stv_box (S := S) (t := t) (ty := 296) (z := 3) (cs := prt0) (x := .agg c0) (sz := 3) rfl rfl hl0
  have b2 := fun o => ldv_cell (S := S) (t := t) (ty := 296) (z := 3) (cs := c0) (o := o)
  have c00 : c0[0]? = some (bv false) := by rw [← hc0]; rfl
  have c01 : c0[1]? = some (iv n) := by rw [← hc0]; rfl
  simp only [cellsOf_agg] at b1
  have bb1 := bsl_byte 1 S
  simp -implicitDefEqProofs [b1, b2, c00, bb1]
  refine (Grow.nil (e := 5) (sz := 1) (S0 := S.set t (.row 296 3 [c0]))).byte (acc := []) 1 (by simp) fun v1 S1 hg1 => ?_
  have hx1 := hg1.box.1
  have cu : ∀ S, acv (.int .u64) (iv n) S = some (u64v n) := fun S => by
    have : acv (.int .u64) (iv n) S = some (u64v (IntKind.u64.wrap n)) := rfl
    rw [this, IntWalk.u64_in _ (by omega)]
  have xr : abi .xor (u64v n) (u64v 9223372036854775808) = some (u64v (9223372036854775808 + n)) := by
    have : n = 0 ∨ n = 1 ∨ n = 2 ∨ n = 3 := by omega
    rcases this with rfl | rfl | rfl | rfl <;> rfl
  have l1 : ldv false 1 (.ptr t 0 1) S1 = some (iv n) := by rw [ldv_at hx1, c01]
  simp -implicitDefEqProofs [l1, cu, xr]
  refine f413_num n hn _ (by simp) v1 S1 _ hg1 _ _ _ _ fun v2 S2 hg2 => ?_
  apply f413_K2_e4_pt
  have w1 : IntKind.i64.wrap (0 + 1) = 1 := rfl
  have w2 : IntKind.i64.wrap 2 = 2 := rfl
  simp -implicitDefEqProofs only [f413_K2_e4, abi_add, bQ_some, w1]
  refine f413_L1_pt ?_
  simp -implicitDefEqProofs only [f413_l1, abi_lss, bQ_some, condW_bv, x1, a1, newW_own]
  rw [if_pos (by decide)]
  intro t2 ht2
  have b3 := stv_box (S := S2) (t := t2) (ty := 296) (z := 3) (cs := prt0) (x := .agg c1) (sz := 3) rfl rfl hl1
  have b4 := fun o => ldv_cell (S := S2) (t := t2) (ty := 296) (z := 3) (cs := c1) (o := o)
  have c10 : c1[0]? = some (bv true) := by rw [← hc1]; rfl
  have c12 : c1[2]? = some (sv s) := by rw [← hc1]; rfl
  simp only [cellsOf_agg] at b3
  have bb2 := bsl_byte 2 S
  simp -implicitDefEqProofs [b3, b4, c10, bb2]
  have hg3 := hg2.under' ht2 (.row 296 3 [c1])
  refine hg3.byte 2 (by simp [numB]) fun v4 S4 hg4 => ?_
  have hx4 := hg4.box.1
  have l2 : ldv false 1 (.ptr t2 0 2) S4 = some (sv s) := by rw [ldv_at hx4, c12]
  simp -implicitDefEqProofs [l2]
  rw [← hc1] at hg4
  have hq : ([1] : Bs) ++ numB n ++ [2] ++ encT s ++ [0, 1] = keyOf n s := by simp [keyOf]
  have hlen1 : (([1] : Bs) ++ numB n ++ [2]).length = 10 := by simp [numB]
  refine f413_loop2 s hs t2 _ _ _ _ _ (([1] : Bs) ++ numB n ++ [2]) (by omega) ?_ s.length 0 _ v4 S4 (by omega) (by simp [numB]) (by simp) hg4
  intro v5 S5 hg5
  apply f413_K1_e2_pt
  have e2 : frzOf (bslR true 1 5 1 2 2 [(0, uv 0), (1, uv 1)]) = some (bytes [0, 1]) := rfl
  simp -implicitDefEqProofs only [f413_K1_e2, e2, bQ_some]
  refine hg5.bytes (l := [0, 1]) rfl (by simp [numB]; omega) fun v6 S6 hg6 => ?_
  have w3 : IntKind.i64.wrap (1 + 1) = 2 := rfl
  rw [abi_add, bQ_some, w3]
  refine f413_L1_pt ?_
  simp -implicitDefEqProofs [f413_l1]
  apply f413_K3_e0_pt
  rw [hq] at hg6
  have hs2 : Sub S (((S.set t (.row 296 3 [c0])).set t2 (.row 296 3 [(Prt.txt s).cs]))) := by
    refine ((Sub.refl S).set ht).set ?_
    cases e : S t2 with
    | none => rfl
    | some o =>
      have := (((Sub.refl S).set ht).trans hg2.sub) t2 o e
      rw [ht2] at this; cases this
  exact ⟨_, S, hg6.ent.trans (Ent.drop hs2), h⟩
theorem f305_c (n : Nat) (hn : n ≤ 3) (s : Bs) (hs : s.length ≤ 40) (S : Store) {Q : AV → Store → Prop} (h : Q (.tuple [sv (keyOf n s), iv 0]) S) : ATriple PR 305 [iv n, sv s] S Q := by
  refine f305_ok ?_
  have h1 : ¬ (n : Int) < 0 := by omega
  have h2 : ¬ (4 : Int) ≤ n := by omega
  have h3 : ¬ (40 : Int) < s.length := by omega
  have h4 : ¬ 4 ≤ n := by omega
  have h5 : ¬ 40 < s.length := by omega
  have b1 : abld [.lit (.bool false), .lit (.int .i64 0), .lit (.string ⟨#[]⟩)] [(1, 1, iv n)] = some (.agg (Prt.num n).cs) := by simp [abld, afill, splice, Prt.cs]
  have b2 : abld [.lit (.bool false), .lit (.int .i64 0), .lit (.string ⟨#[]⟩)] [(0, 1, .lit (.bool true)), (2, 1, sv s)] = some (.agg (Prt.txt s).cs) := by simp [abld, afill, splice, Prt.cs]
  have b3 : frzOf (bslR true 3 296 3 2 2 [(0, .agg (Prt.num n).cs), (1, .agg (Prt.txt s).cs)]) = some (.svals (prts [.num n, .txt s])) := rfl
  simp -implicitDefEqProofs [f305_s, h1, h2, h3, h4, h5, b1, b2, b3]
  refine f413_c n hn s (by omega) S ?_
  rw [acv_byt (l := keyOf n s) rfl, bQ_some]
  exact dropQ_self h
set_option maxRecDepth 100000 in
theorem f256_c (n : Nat) (hn : n ≤ 3) (s : Bs) (hs : s.length ≤ 40) (S : Store) {Q : AV → Store → Prop} (h : Q (.tuple [iv n, sv s, iv 0]) S) : ATriple PR 256 [sv (keyOf n s)] S Q := by
  refine f256_ok ?_
  simp -implicitDefEqProofs only [f256_s, strR_sv, frzOf_frz, bQ_some]
  refine f381_c n hn s (by omega) S ?_
  have x0 := ixA_map Prt.cs [.num n, .txt s] 0 3 S (by simp) Prt.cs_length
  have x1 := ixA_map Prt.cs [.num n, .txt s] 1 3 S (by simp) Prt.cs_length
  simp only [Int.natCast_zero, Int.cast_ofNat_Int, Int.natCast_one, List.getElem_cons_zero, List.getElem_cons_succ, List.map_cons, List.map_nil, Prt.cs] at x0 x1
  simp -implicitDefEqProofs [x0, x1, Prt.cs]
  refine f305_c n hn s hs S ?_
  simp -implicitDefEqProofs [x0, x1]
  exact dropQ_self h
end Go.Du
namespace Go.Du
open Go
set_option maxRecDepth 1000000
section
open Go.Proofs
variable {S : Store} {Q : QT} {K : AK} {t0 t1 t2 t3 t5 t6 t7 t8 t9 t10 t11 t12 : AV}
noncomputable def f476_c1 : Code := (cl (cl (cr (bodyOf Tryz.f476))))
def f476_L1 (K : AK) (t0 t5 : AV) (S : Store) : Prop := AI PR none 14 [.code f476_c1, .inLoop f476_c1] K (ofL [(0, t0), (5, t5)]) S
def f476_l1 (K : AK) (t0 t5 : AV) (S : Store) : Prop := nextW t5 S fun t6 S_1 => bQ (aext t6 0) fun t7 => condW t7 (entryW t5 S_1 fun t8 S_2 => bQ (aext t8 0) fun t9 => callW PR t0 [t9] S_2 fun t12 S_3 => bQ (aun .not t12) fun t13 => condW t13 (K .ret (ofL []) S_3) (f476_L1 K t0 t5 S_3)) (K (.exit 0) (ofL []) S_1)
theorem f476_L1_pt : f476_l1 K t0 t5 S → f476_L1 K t0 t5 S := fun h => pL (.two (rg 2 1 0) (.two (.two (.nil) (.nil)) (.one (.two (rg 3 1 0) (.two (rg 4 4 0) (.two (.nil) (.nil))))))) [0, 5] [] h
noncomputable def f476_K1 (Q : QT) : AK := (AK.block 0 (retK PR Tryz.f476 (dropQ Q)))
def f476_K1_e0 (Q : QT) (S : Store) : Prop := dropQ Q (.tuple []) S
theorem f476_K1_e0_pt : f476_K1_e0 Q S → f476_K1 Q (.exit 0) (ofL []) S := castP (by kernel_rfl)
def f476_s (t0 t1 : AV) (S : Store) (Q : QT) : Prop := bQ (ldv false 1 t1 S) fun t4 => rangeW t4 S fun t5 S_1 => f476_L1 (f476_K1 Q) t0 t5 S_1
theorem f476_ok : f476_s t0 t1 S Q → ATriple PR 476 [t0, t1] S Q := fun h => pF (fn := Tryz.f476) (.two (rg 2 2 0) (.one (.loop [0, 5]))) h
attribute [irreducible] f476_L1 f476_K1
def f416_s (t0 : AV) (S : Store) (Q : QT) : Prop := bQ (frzOf (boxR true 251 t0)) fun t1 => dropQ Q (.func (.func 476) [] [t1]) S
theorem f416_ok : f416_s t0 S Q → ATriple PR 416 [t0] S Q := fun h => pF (fn := Tryz.f416) (.two (rg 2 0 1) (.two (rg 2 0 0) (.nil))) h
noncomputable def f373_a1 : Ann := .two (rg 2 1 0) (.two (.two (rg 1 0 0) (.one (.loop [2, 6]))) (.two (rg 2 0 0) (.nil)))
noncomputable def f373_c1 : Code := (cl (cl (cr (cl (cr (bodyOf Tryz.f373))))))
noncomputable def f373_c2 : Code := (cr (cl (cr (cl (cr (bodyOf Tryz.f373))))))
noncomputable def f373_a2 : Ann := rg 1 0 0
noncomputable def f373_a3 : Ann := .one (rg 5 24 4)
noncomputable def f373_c3 : Code := (cr (cr (bodyOf Tryz.f373)))
def f373_R1 (K : AK) (t2 t6 : AV) (S : Store) : Prop := AWp PR none 13 (.rangeFunc (.tmp 6) #[7] f373_c1 f373_c2) K (ofL [(2, t2), (6, t6)]) S
noncomputable def f373_rec1 (t2 t6 : AV) (fn : FuncId) (D : Nat) (s : LoopState) (q : Option Code) : AObj := .lrec s q (ofL [(2, t2), (6, t6)]) 13 fn #[7] f373_c1 f373_c2 D
theorem f373_R1_pt {K : AK} {t2 t6 : AV} {S : Store} {f : FuncId} {cap : List AV} (hg : t6 = .func (.func f) [] cap) (hb : hasBody PR f = true)
    (h : ∀ t fn D, S t = none → ATriple PR f (.yield t :: cap) (S.set t (f373_rec1 t2 t6 fn D .ready none)) fun _ S' => ∃ state pend, S' t = some (f373_rec1 t2 t6 fn D state pend) ∧ state ≠ .busy ∧ endK (mskK [2] K) pend (ofL [(2, t2), (6, t6)]) (S'.erase t)) : f373_R1 K t2 t6 S :=
  AI.mskK (AWp_range PR_nong rfl (by simpa [aev, ofL] using hg) hb h)
theorem f373_Y1_pt {t : Nat} {x : AV} {K : QT} {fn : FuncId} {D : Nat} {t2 t6 : AV} {S : Store} (hS : S t = some (f373_rec1 t2 t6 fn D .ready none)) (h : ∀ l, AWp PR (some l) 13 f373_c1 (asgK PR l 13 f373_c2 t (f373_rec1 t2 t6 fn D) K) (ofL ((7, x) :: [(2, t2), (6, t6)])) S) : callW PR (.yield t) [x] S K := yield_pt hS h
def f373_as1 (l : Nat) (K : AK) (t7 t2 t6 : AV) (S : Store) : Prop := K .normal (ofL [(2, t2), (5, t7)]) S
theorem f373_as1_pt {l : Nat} {K : AK} {t7 t2 t6 : AV} {S : Store} (h : f373_as1 l K t7 t2 t6 S) : AWp PR (some l) 13 f373_c1 K (ofL [(7, t7), (2, t2), (6, t6)]) S := by
  refine AI.mskK (ml := [2, 5]) (W_ok PR_nong PR_mixed f373_c1 f373_a2 _ _ _ (by kernel_rfl) ?_)
  rw [show f373_as1 l K t7 t2 t6 S = W PR (some l) 13 f373_c1 f373_a2 (mskK [2, 5] K) (ofL [(7, t7), (2, t2), (6, t6)]) S by kernel_rfl] at h
  assumption
def f373_bo1 (l : Nat) (K : AK) (t2 t5 : AV) (S : Store) : Prop := bQ (ldv false 1 t2 S) fun t8 => bQ (frzOf (bslR true 1 9 1 1 1 [(0, t5)])) fun t10 => apW (some (9, 1, 16, .slice)) t8 t10 S fun t11 S_1 => thenS (stv 1 t2 t11 S_1) fun _ S_2 => K .normal (ofL []) S_2
theorem f373_bo1_pt {l : Nat} {K : AK} {t2 t5 : AV} {S : Store} (h : f373_bo1 l K t2 t5 S) : AWp PR (some l) 13 f373_c2 K (ofL [(2, t2), (5, t5)]) S := by
  refine AI.mskK (ml := []) (W_ok PR_nong PR_mixed f373_c2 f373_a3 _ _ _ (by kernel_rfl) ?_)
  rw [show f373_bo1 l K t2 t5 S = W PR (some l) 13 f373_c2 f373_a3 (mskK [] K) (ofL [(2, t2), (5, t5)]) S by kernel_rfl] at h
  assumption
noncomputable def f373_K1 (Q : QT) : AK := (AK.block 0 (AK.andThen (fun st S => W PR none 13 f373_c3 ((ar (ar f373_a1))) (retK PR Tryz.f373 (dropQ Q)) st S) (retK PR Tryz.f373 (dropQ Q))))
def f373_K1_normal (Q : QT) (t2 : AV) (S : Store) : Prop := bQ (ldv false 1 t2 S) fun t12 => dropQ Q t12 S
theorem f373_K1_normal_pt : f373_K1_normal Q t2 S → f373_K1 Q .normal (ofL [(2, t2)]) S := castP (by kernel_rfl)
def f373_s (t0 t1 : AV) (S : Store) (Q : QT) : Prop := newW (boxR false 29 t0) S fun t2 S_1 => f373_R1 (f373_K1 Q) t2 t1 S_1
theorem f373_ok : f373_s t0 t1 S Q → ATriple PR 373 [t0, t1] S Q := fun h => pF (fn := Tryz.f373) f373_a1 h
attribute [irreducible] f373_R1 f373_rec1 f373_K1
def f240_s (t0 : AV) (S : Store) (Q : QT) : Prop := ATriple PR 373 [nilS, t0] S fun t4 S_1 => dropQ Q t4 S_1
theorem f240_ok : f240_s t0 S Q → ATriple PR 240 [t0] S Q := fun h => pF (fn := Tryz.f240) (.two (rg 1 0 0) (.two (rg 3 2 0) (.nil))) h
noncomputable def f475_a1 : Ann := .two (rg 1 0 0) (.join [0, 2] (.two (rg 2 0 0) (.two (.two (rg 3 0 0) (rg 1 0 0)) (.nil))) (.join [0, 2] (.two (rg 2 0 0) (.two (.two (rg 3 0 0) (rg 3 0 0)) (.nil))) (.join [0, 2] (.two (rg 2 0 0) (.two (.two (rg 3 0 0) (rg 3 0 0)) (.nil))) (.two (rg 7 0 0) (.nil)))))
noncomputable def f475_c1 : Code := (cr (cr (bodyOf Tryz.f475)))
noncomputable def f475_c2 : Code := (cr (cr (cr (bodyOf Tryz.f475))))
noncomputable def f475_c3 : Code := (cr (cr (cr (cr (bodyOf Tryz.f475)))))
def f475_J1 (Q : QT) (t0 t2 : AV) (S : Store) : Prop := AWp PR none 25 f475_c1 (retK PR Tryz.f475 (dropQ Q)) (ofL [(0, t0), (2, t2)]) S
def f475_J2 (Q : QT) (t0 t2 : AV) (S : Store) : Prop := AWp PR none 25 f475_c2 (retK PR Tryz.f475 (dropQ Q)) (ofL [(0, t0), (2, t2)]) S
def f475_J3 (Q : QT) (t0 t2 : AV) (S : Store) : Prop := AWp PR none 25 f475_c3 (retK PR Tryz.f475 (dropQ Q)) (ofL [(0, t0), (2, t2)]) S
def f475_j3 (Q : QT) (t0 t2 : AV) (S : Store) : Prop := bQ (acv (.int .u8) t0 S) fun t21 => bQ (aixS (.lit (.string ⟨#[0, 1, 2, 2, 3, 3, 3, 3, 4, 4, 4, 4, 4, 4, 4, 4, 5, 5, 5, 5, 5, 5, 5, 5, 5, 5, 5, 5, 5, 5, 5, 5, 6, 6, 6, 6, 6, 6, 6, 6, 6, 6, 6, 6, 6, 6, 6, 6, 6, 6, 6, 6, 6, 6, 6, 6, 6, 6, 6, 6, 6, 6, 6, 6, 7, 7, 7, 7, 7, 7, 7, 7, 7, 7, 7, 7, 7, 7, 7, 7, 7, 7, 7, 7, 7, 7, 7, 7, 7, 7, 7, 7, 7, 7, 7, 7, 7, 7, 7, 7, 7, 7, 7, 7, 7, 7, 7, 7, 7, 7, 7, 7, 7, 7, 7, 7, 7, 7, 7, 7, 7, 7, 7, 7, 7, 7, 7, 7, 8, 8, 8, 8, 8, 8, 8, 8, 8, 8, 8, 8, 8, 8, 8, 8, 8, 8, 8, 8, 8, 8, 8, 8, 8, 8, 8, 8, 8, 8, 8, 8, 8, 8, 8, 8, 8, 8, 8, 8, 8, 8, 8, 8, 8, 8, 8, 8, 8, 8, 8, 8, 8, 8, 8, 8, 8, 8, 8, 8, 8, 8, 8, 8, 8, 8, 8, 8, 8, 8, 8, 8, 8, 8, 8, 8, 8, 8, 8, 8, 8, 8, 8, 8, 8, 8, 8, 8, 8, 8, 8, 8, 8, 8, 8, 8, 8, 8, 8, 8, 8, 8, 8, 8, 8, 8, 8, 8, 8, 8, 8, 8, 8, 8, 8, 8, 8, 8, 8, 8, 8, 8, 8, 8, 8, 8, 8, 8]⟩)) t21) fun t22 => bQ (acv (.int .i64) t22 S) fun t23 => bQ (abi .add t2 t23) fun t24 => dropQ Q t24 S
theorem f475_J3_pt : f475_j3 Q t0 t2 S → f475_J3 Q t0 t2 S := fun h => pJ ((ar (ar (ar (ar f475_a1))))) h
def f475_j2 (Q : QT) (t0 t2 : AV) (S : Store) : Prop := bQ (abi .geq t0 (.lit (.int .u64 256))) fun t14 => condW t14 (bQ (abi .shr t0 (.lit (.int .u64 8))) fun t16 => bQ (abi .add t2 (iv 8)) fun t18 => f475_J3 Q t16 t18 S) (f475_J3 Q t0 t2 S)
theorem f475_J2_pt : f475_j2 Q t0 t2 S → f475_J2 Q t0 t2 S := fun h => pJ ((ar (ar (ar f475_a1)))) h
def f475_j1 (Q : QT) (t0 t2 : AV) (S : Store) : Prop := bQ (abi .geq t0 (.lit (.int .u64 65536))) fun t8 => condW t8 (bQ (abi .shr t0 (.lit (.int .u64 16))) fun t10 => bQ (abi .add t2 (iv 16)) fun t12 => f475_J2 Q t10 t12 S) (f475_J2 Q t0 t2 S)
theorem f475_J1_pt : f475_j1 Q t0 t2 S → f475_J1 Q t0 t2 S := fun h => pJ ((ar (ar f475_a1))) h
def f475_s (t0 : AV) (S : Store) (Q : QT) : Prop := bQ (abi .geq t0 (.lit (.int .u64 4294967296))) fun t4 => condW t4 (bQ (abi .shr t0 (.lit (.int .u64 32))) fun t6 => f475_J1 Q t6 (iv 32) S) (f475_J1 Q t0 (iv 0) S)
theorem f475_ok : f475_s t0 S Q → ATriple PR 475 [t0] S Q := fun h => pF (fn := Tryz.f475) f475_a1 h
attribute [irreducible] f475_J1 f475_J2 f475_J3
def f412_s (t0 : AV) (S : Store) (Q : QT) : Prop := condW (bv false) (bQ (acv (.int .u32) t0 S) fun t4 => ATriple PR 474 [t4] S fun t5 S_1 => dropQ Q t5 S_1) (ATriple PR 475 [t0] S fun t7 S_2 => dropQ Q t7 S_2)
theorem f412_ok : f412_s t0 S Q → ATriple PR 412 [t0] S Q := fun h => pF (fn := Tryz.f412) (.two (rg 1 0 0) (.two (.two (.two (rg 4 4 0) (.nil)) (.nil)) (.two (rg 3 2 0) (.nil)))) h
def f431_s (t0 : AV) (S : Store) (Q : QT) : Prop := bQ (abi .neq t0 t0) fun t5 => dropQ Q t5 S
theorem f431_ok : f431_s t0 S Q → ATriple PR 431 [t0] S Q := fun h => pF (fn := Tryz.f431) (.two (rg 1 0 0) (.two (rg 4 0 0) (.nil))) h
def f471_s (t0 t1 : AV) (S : Store) (Q : QT) : Prop := ATriple PR 431 [t0] S fun t6 S_1 => gdQ t6 true (some t1) fun t8 => gdE t6 true (fun K => ATriple PR 431 [t8] S_1 K) S_1 fun t9 S_2 => gdQ t6 true (aun .not t9) fun t10 => bQ (apick t6 t10 (bv false)) fun t11 => gdQ t11 false (some t0) fun t13 => gdQ t11 false (some t1) fun t14 => gdQ t11 false (abi .lss t13 t14) fun t15 => bQ (apick t11 (bv true) t15) fun t16 => dropQ Q t16 S_2
theorem f471_ok : f471_s t0 t1 S Q → ATriple PR 471 [t0, t1] S Q := fun h => pF (fn := Tryz.f471) (.two (rg 1 0 0) (.two (rg 13 18 0) (.nil))) h
noncomputable def f465_c1 : Code := (cl (cl (cr (bodyOf Tryz.f465))))
noncomputable def f465_a2 : Ann := .two (.two (rg 3 0 0) (.two (.nil) (.nil))) (.two (.one (.two (rg 2 0 0) (.one (.loop [0, 1, 2, 6, 7])))) (rg 3 0 0))
noncomputable def f465_c2 : Code := (cl (cl (cr (cl (cl (cr (cl (cl (cr (bodyOf Tryz.f465))))))))))
noncomputable def f465_c3 : Code := (cr (cr (cl (cl (cr (bodyOf Tryz.f465))))))
def f465_L1 (K : AK) (t0 t1 t2 t6 : AV) (S : Store) : Prop := AI PR none 49 [.code f465_c1, .inLoop f465_c1] K (ofL [(0, t0), (1, t1), (2, t2), (6, t6)]) S
def f465_L2 (K : AK) (t0 t1 t2 t6 t7 : AV) (S : Store) : Prop := AI PR none 49 [.code f465_c2, .inLoop f465_c2] K (ofL [(0, t0), (1, t1), (2, t2), (6, t6), (7, t7)]) S
def f465_l2 (K : AK) (t0 t1 t2 t6 t7 : AV) (S : Store) : Prop := bQ (abi .gtr t7 t1) fun t18 => gdQ t18 true (some t0) fun t20 => gdQ t18 true (some t7) fun t21 => gdQ t18 true (ixA 1 t20 t21 S) fun t22 => gdQ t18 true (ldv false 1 t22 S) fun t23 => gdQ t18 true (some t0) fun t24 => gdQ t18 true (some t7) fun t25 => gdQ t18 true (abi .sub t25 (iv 1)) fun t26 => gdQ t18 true (ixA 1 t24 t26 S) fun t27 => gdQ t18 true (ldv false 1 t27 S) fun t28 => gdE t18 true (fun K => ATriple PR 471 [t23, t28] S K) S fun t29 S_1 => bQ (apick t18 t29 (bv false)) fun t30 => condW t30 (bQ (abi .sub t7 (iv 1)) fun t37 => bQ (abi .sub t7 (iv 1)) fun t40 => bQ (ixA 1 t0 t40 S_1) fun t41 => bQ (ldv false 1 t41 S_1) fun t42 => bQ (ixA 1 t0 t7 S_1) fun t45 => bQ (ldv false 1 t45 S_1) fun t46 => bQ (ixA 1 t0 t7 S_1) fun t47 => thenS (stv 1 t47 t42 S_1) fun _ S_2 => bQ (ixA 1 t0 t37 S_2) fun t48 => thenS (stv 1 t48 t46 S_2) fun _ S_3 => bQ (abi .sub t7 (iv 1)) fun t32 => f465_L2 K t0 t1 t2 t6 t32 S_3) (K (.exit 2) (ofL [(0, t0), (1, t1), (2, t2), (6, t6)]) S_1)
theorem f465_L2_pt : f465_l2 K t0 t1 t2 t6 t7 S → f465_L2 K t0 t1 t2 t6 t7 S := fun h => pL (.two (.two (.reg [0, 0, 3, 7, 15, 15, 63, 127, 15, 15, 527, 1807, 3855, 8191, 16383] (pq 0 13 <| .e 13 [] <| .q 14 false <| .done)) (.two (.nil) (.nil))) (.two (.one (.reg [0, 0, 0, 0, 8, 0, 0, 64, 224, 480, 0, 0, 3072, 7168, 16355, 32739, 65535, 131071] (pq 0 15 <| .e 15 [] <| .q 16 false <| .e 17 [] <| .done))) (rg 3 0 0))) [0, 1, 2, 6, 7] [0, 1, 2, 6] h
noncomputable def f465_K1 (K : AK) : AK := (AK.block 2 (AK.block 1 (AK.andThen (fun st S => W PR none 49 f465_c3 ((ar (ar f465_a2))) (AK.andThen (fun st S => AI PR none 49 [.code f465_c1, .inLoop f465_c1] K (mask [0, 1, 2, 6] st) S) (mskK [] K)) st S) (AK.andThen (fun st S => AI PR none 49 [.code f465_c1, .inLoop f465_c1] K (mask [0, 1, 2, 6] st) S) (mskK [] K)))))
def f465_K1_e2 (K : AK) (t0 t1 t2 t6 : AV) (S : Store) : Prop := bQ (abi .add t6 (iv 1)) fun t14 => f465_L1 K t0 t1 t2 t14 S
theorem f465_K1_e2_pt : f465_K1_e2 K t0 t1 t2 t6 S → f465_K1 K (.exit 2) (ofL [(0, t0), (1, t1), (2, t2), (6, t6)]) S := castP (by kernel_rfl)
def f465_l1 (K : AK) (t0 t1 t2 t6 : AV) (S : Store) : Prop := bQ (abi .lss t6 t2) fun t12 => condW t12 (f465_L2 (f465_K1 K) t0 t1 t2 t6 t6 S) (K (.exit 0) (ofL []) S)
theorem f465_L1_pt : f465_l1 K t0 t1 t2 t6 S → f465_L1 K t0 t1 t2 t6 S := fun h => pL f465_a2 [0, 1, 2, 6] [] h
noncomputable def f465_K2 (Q : QT) : AK := (AK.block 0 (retK PR Tryz.f465 (dropQ Q)))
def f465_K2_e0 (Q : QT) (S : Store) : Prop := dropQ Q (.tuple []) S
theorem f465_K2_e0_pt : f465_K2_e0 Q S → f465_K2 Q (.exit 0) (ofL []) S := castP (by kernel_rfl)
def f465_s (t0 t1 t2 : AV) (S : Store) (Q : QT) : Prop := bQ (abi .add t1 (iv 1)) fun t9 => f465_L1 (f465_K2 Q) t0 t1 t2 t9 S
theorem f465_ok : f465_s t0 t1 t2 S Q → ATriple PR 465 [t0, t1, t2] S Q := fun h => pF (fn := Tryz.f465) (.two (rg 3 0 0) (.one (.loop [0, 1, 2, 6]))) h
attribute [irreducible] f465_L1 f465_L2 f465_K1 f465_K2
noncomputable def f411_c1 : Code := (cl (cl (cr (cr (bodyOf Tryz.f411)))))
noncomputable def f411_a2 : Ann := .one (.two (rg 4 0 0) (.two (.two (rg 2 0 0) (.two (.two (rg 4 8 0) (.nil)) (.nil))) (.two (.two (rg 2 0 0) (.two (.two (rg 4 8 0) (.nil)) (.nil))) (.join [0, 1, 2, 3, 8, 9, 10] (.two (rg 2 0 0) (.two (.two (rg 4 8 0) (rg 3 0 0)) (.nil))) (.two (rg 9 8 0) (.join [0, 1, 2, 3, 8, 9, 10, 11, 12] (.two (rg 2 0 0) (.two (.two (rg 4 8 0) (.two (rg 7 0 0) (rg 1 0 0))) (.nil))) (.join [0, 1, 2, 3, 8, 9, 10, 11] (.two (rg 8 0 0) (.two (.two (rg 4 8 0) (.two (.nil) (.nil))) (.nil))) (.two (.two (.reg [0, 1, 3, 7, 7, 23, 63, 127, 7, 7, 775, 1799, 4095, 8191, 16383] (pq 0 12 <| .e 12 [] <| pq 13 2 <| .done)) (.two (.two (rg 6 16 0) (.two (rg 2 0 0) (.nil))) (.nil))) (.two (rg 10 16 0) (.two (rg 2 0 0) (.two (rg 8 0 0) (.two (rg 3 0 0) (.two (rg 3 0 0) (.two (.two (rg 4 0 0) (.two (rg 5 16 0) (rg 3 0 0))) (.two (rg 4 0 0) (.two (rg 6 32 0) (rg 2 0 0)))))))))))))))))
noncomputable def f411_c2 : Code := (cr (cr (cr (cr (cl (cl (cl (cr (cr (bodyOf Tryz.f411))))))))))
def f411_L1 (K : AK) (t0 t1 t2 t3 t8 t9 : AV) (S : Store) : Prop := AI PR none 134 [.code f411_c1, .inLoop f411_c1] K (ofL [(0, t0), (1, t1), (2, t2), (3, t3), (8, t8), (9, t9)]) S
def f411_J2 (K : AK) (t0 t1 t2 t3 t8 t9 t10 : AV) (S : Store) : Prop := AWp PR none 134 f411_c2 (AK.block 1 (AK.andThen (fun st S => AI PR none 134 [.code f411_c1, .inLoop f411_c1] K (mask [0, 1, 2, 3, 8, 9] st) S) (mskK [] K))) (ofL [(0, t0), (1, t1), (2, t2), (3, t3), (8, t8), (9, t9), (10, t10)]) S
def f411_l1 (K : AK) (t0 t1 t2 t3 t8 t9 : AV) (S : Store) : Prop := bQ (abi .sub t2 t1) fun t21 => bQ (abi .leq t21 (iv 12)) fun t23 => condW t23 (ATriple PR 465 [t0, t1, t2] S fun t27 S_1 => K .ret (ofL []) S_1) (bQ (abi .eql t3 (iv 0)) fun t29 => condW t29 (ATriple PR 466 [t0, t1, t2] S fun t33 S_2 => K .ret (ofL []) S_2) (bQ (aun .not t8) fun t35 => condW t35 (ATriple PR 467 [t0, t1, t2] S fun t39 S_3 => bQ (abi .sub t3 (iv 1)) fun t41 => f411_J2 K t0 t1 t2 t41 t8 t9 t21 S_3) (f411_J2 K t0 t1 t2 t3 t8 t9 t21 S)))
theorem f411_L1_pt : f411_l1 K t0 t1 t2 t3 t8 t9 S → f411_L1 K t0 t1 t2 t3 t8 t9 S := fun h => pL f411_a2 [0, 1, 2, 3, 8, 9] [] h
noncomputable def f411_K1 (Q : QT) : AK := (AK.block 0 (retK PR Tryz.f411 (dropQ Q)))
def f411_K1_ret (Q : QT) (S : Store) : Prop := dropQ Q (.tuple []) S
theorem f411_K1_ret_pt : f411_K1_ret Q S → f411_K1 Q .ret (ofL []) S := castP (by kernel_rfl)
def f411_s (t0 t1 t2 t3 : AV) (S : Store) (Q : QT) : Prop := f411_L1 (f411_K1 Q) t0 t1 t2 t3 (bv true) (bv true) S
theorem f411_ok : f411_s t0 t1 t2 t3 S Q → ATriple PR 411 [t0, t1, t2, t3] S Q := fun h => pF (fn := Tryz.f411) (.two (rg 1 0 0) (.two (rg 1 0 0) (.one (.loop [0, 1, 2, 3, 8, 9])))) h
attribute [irreducible] f411_L1 f411_J2 f411_K1
def f303_s (t0 : AV) (S : Store) (Q : QT) : Prop := bQ (aln .slice t0 S) fun t4 => bQ (acv (.int .u64) t4 S) fun t8 => ATriple PR 412 [t8] S fun t9 S_1 => ATriple PR 411 [t0, iv 0, t4, t9] S_1 fun t10 S_2 => dropQ Q (.tuple []) S_2
theorem f303_ok : f303_s t0 S Q → ATriple PR 303 [t0] S Q := fun h => pF (fn := Tryz.f303) (.two (rg 3 0 0) (rg 6 48 0)) h
def f164_s (t0 : AV) (S : Store) (Q : QT) : Prop := ATriple PR 240 [t0] S fun t5 S_1 => ATriple PR 303 [t5] S_1 fun t7 S_2 => dropQ Q t5 S_2
theorem f164_ok : f164_s t0 S Q → ATriple PR 164 [t0] S Q := fun h => pF (fn := Tryz.f164) (.two (rg 1 0 0) (.two (rg 3 2 0) (.two (rg 2 2 0) (.two (rg 2 0 0) (.nil))))) h
def f349_s (t0 t1 : AV) (S : Store) (Q : QT) : Prop := ATriple PR 431 [t0] S fun t8 S_1 => ATriple PR 431 [t1] S_1 fun t10 S_2 => condW t8 (condW t10 (dropQ Q (iv 0) S_2) (dropQ Q (iv (-1)) S_2)) (condW t10 (dropQ Q (iv 1) S_2) (bQ (abi .lss t0 t1) fun t16 => condW t16 (dropQ Q (iv (-1)) S_2) (bQ (abi .gtr t0 t1) fun t19 => condW t19 (dropQ Q (iv 1) S_2) (dropQ Q (iv 0) S_2))))
theorem f349_ok : f349_s t0 t1 S Q → ATriple PR 349 [t0, t1] S Q := fun h => pF (fn := Tryz.f349) (.two (rg 1 0 0) (.two (rg 3 2 0) (.two (rg 3 2 0) (.two (.two (rg 1 0 0) (.two (.two (.two (rg 1 0 0) (.two (.two (rg 1 0 0) (.nil)) (.nil))) (.two (rg 1 0 0) (.nil))) (.nil))) (.two (.two (rg 1 0 0) (.two (.two (rg 1 0 0) (.nil)) (.nil))) (.two (.two (rg 3 0 0) (.two (.two (rg 1 0 0) (.nil)) (.nil))) (.two (.two (rg 3 0 0) (.two (.two (rg 1 0 0) (.nil)) (.nil))) (.two (rg 1 0 0) (.nil))))))))) h
def f404_s (t0 : AV) (S : Store) (Q : QT) : Prop := bQ (abi .neq t0 t0) fun t5 => dropQ Q t5 S
theorem f404_ok : f404_s t0 S Q → ATriple PR 404 [t0] S Q := fun h => pF (fn := Tryz.f404) (.two (rg 1 0 0) (.two (rg 4 0 0) (.nil))) h
def f298_s (t0 t1 : AV) (S : Store) (Q : QT) : Prop := ATriple PR 404 [t0] S fun t8 S_1 => ATriple PR 404 [t1] S_1 fun t10 S_2 => condW t8 (condW t10 (dropQ Q (iv 0) S_2) (dropQ Q (iv (-1)) S_2)) (condW t10 (dropQ Q (iv 1) S_2) (bQ (abi .lss t0 t1) fun t16 => condW t16 (dropQ Q (iv (-1)) S_2) (bQ (abi .gtr t0 t1) fun t19 => condW t19 (dropQ Q (iv 1) S_2) (dropQ Q (iv 0) S_2))))
theorem f298_ok : f298_s t0 t1 S Q → ATriple PR 298 [t0, t1] S Q := fun h => pF (fn := Tryz.f298) (.two (rg 1 0 0) (.two (rg 3 2 0) (.two (rg 3 2 0) (.two (.two (rg 1 0 0) (.two (.two (.two (rg 1 0 0) (.two (.two (rg 1 0 0) (.nil)) (.nil))) (.two (rg 1 0 0) (.nil))) (.nil))) (.two (.two (rg 1 0 0) (.two (.two (rg 1 0 0) (.nil)) (.nil))) (.two (.two (rg 3 0 0) (.two (.two (rg 1 0 0) (.nil)) (.nil))) (.two (.two (rg 3 0 0) (.two (.two (rg 1 0 0) (.nil)) (.nil))) (.two (rg 1 0 0) (.nil))))))))) h
noncomputable def f348_a1 : Ann := .two (rg 1 0 0) (.two (.two (rg 3 0 0) (.one (.loop [5, 6, 7]))) (.two (rg 1 0 0) (.nil)))
noncomputable def f348_c1 : Code := (cl (cl (cr (cl (cr (bodyOf Tryz.f348))))))
noncomputable def f348_c2 : Code := (cr (cr (bodyOf Tryz.f348)))
def f348_L1 (K : AK) (t5 t6 t7 : AV) (S : Store) : Prop := AI PR none 15 [.code f348_c1, .inLoop f348_c1] K (ofL [(5, t5), (6, t6), (7, t7)]) S
def f348_l1 (K : AK) (t5 t6 t7 : AV) (S : Store) : Prop := bQ (abi .lss t7 t6) fun t8 => condW t8 (bQ (ixA 1 t5 t7 S) fun t9 => bQ (ldv false 1 t9 S) fun t10 => bQ (abi .neq t10 (iv 0)) fun t12 => condW t12 (K .ret (ofL [(2, t10)]) S) (bQ (abi .add t7 (iv 1)) fun t14 => f348_L1 K t5 t6 t14 S)) (K (.exit 0) (ofL [(2, .poison)]) S)
theorem f348_L1_pt : f348_l1 K t5 t6 t7 S → f348_L1 K t5 t6 t7 S := fun h => pL (.two (rg 1 0 0) (.two (.two (.nil) (.nil)) (.two (.one (.two (rg 3 0 0) (.two (rg 2 0 0) (.two (.two (rg 2 0 0) (.nil)) (.nil))))) (rg 2 0 0)))) [5, 6, 7] [2] h
noncomputable def f348_K1 (Q : QT) : AK := (AK.block 0 (AK.andThen (fun st S => W PR none 15 f348_c2 ((ar (ar f348_a1))) (retK PR Tryz.f348 (dropQ Q)) st S) (retK PR Tryz.f348 (dropQ Q))))
def f348_K1_e0 (Q : QT) (t2 : AV) (S : Store) : Prop := dropQ Q (iv 0) S
theorem f348_K1_e0_pt : f348_K1_e0 Q t2 S → f348_K1 Q (.exit 0) (ofL [(2, t2)]) S := castP (by kernel_rfl)
def f348_K1_ret (Q : QT) (t2 : AV) (S : Store) : Prop := dropQ Q t2 S
theorem f348_K1_ret_pt : f348_K1_ret Q t2 S → f348_K1 Q .ret (ofL [(2, t2)]) S := castP (by kernel_rfl)
def f348_s (t0 : AV) (S : Store) (Q : QT) : Prop := bQ (aln .slice t0 S) fun t6 => f348_L1 (f348_K1 Q) t0 t6 (iv 0) S
theorem f348_ok : f348_s t0 S Q → ATriple PR 348 [t0] S Q := fun h => pF (fn := Tryz.f348) f348_a1 h
attribute [irreducible] f348_L1 f348_K1
def f486_s (t0 : AV) (S : Store) (Q : QT) : Prop := bQ (abi .neq t0 t0) fun t5 => dropQ Q t5 S
theorem f486_ok : f486_s t0 S Q → ATriple PR 486 [t0] S Q := fun h => pF (fn := Tryz.f486) (.two (rg 1 0 0) (.two (rg 4 0 0) (.nil))) h
noncomputable def f438_a1 : Ann := .two (rg 2 0 0) (.two (rg 3 0 0) (.two (rg 3 0 0) (.two (.one (.loop [0, 1, 6, 7, 8])) (.two (rg 25 589824 0) (.nil)))))
noncomputable def f438_c1 : Code := (cl (cl (cl (cr (cr (cr (bodyOf Tryz.f438)))))))
noncomputable def f438_c2 : Code := (cr (cr (cr (cr (bodyOf Tryz.f438)))))
def f438_L1 (K : AK) (t0 t1 t6 t7 t8 : AV) (S : Store) : Prop := AI PR none 54 [.code f438_c1, .inLoop f438_c1] K (ofL [(0, t0), (1, t1), (6, t6), (7, t7), (8, t8)]) S
def f438_l1 (K : AK) (t0 t1 t6 t7 t8 : AV) (S : Store) : Prop := bQ (abi .lss t7 t8) fun t15 => condW t15 (bQ (abi .add t7 t8) fun t18 => bQ (acv (.int .u64) t18 S) fun t19 => bQ (abi .shr t19 (.lit (.int .u64 1))) fun t20 => bQ (acv (.int .i64) t20 S) fun t21 => bQ (ixA 1 t0 t21 S) fun t24 => bQ (ldv false 1 t24 S) fun t25 => ATriple PR 471 [t25, t1] S fun t27 S_1 => condW t27 (bQ (abi .add t21 (iv 1)) fun t29 => f438_L1 K t0 t1 t6 t29 t8 S_1) (f438_L1 K t0 t1 t6 t7 t21 S_1)) (K (.exit 0) (ofL [(0, t0), (1, t1), (6, t6), (7, t7)]) S)
theorem f438_L1_pt : f438_l1 K t0 t1 t6 t7 t8 S → f438_L1 K t0 t1 t6 t7 t8 S := fun h => pL (.two (.two (rg 3 0 0) (.two (.nil) (.nil))) (.one (.two (rg 7 0 0) (.two (rg 6 32 0) (.two (rg 3 0 0) (rg 2 0 0)))))) [0, 1, 6, 7, 8] [0, 1, 6, 7] h
noncomputable def f438_K1 (Q : QT) : AK := (AK.block 0 (AK.andThen (fun st S => W PR none 54 f438_c2 ((ar (ar (ar (ar f438_a1))))) (retK PR Tryz.f438 (dropQ Q)) st S) (retK PR Tryz.f438 (dropQ Q))))
def f438_K1_e0 (Q : QT) (t0 t1 t6 t7 : AV) (S : Store) : Prop := bQ (abi .lss t7 t6) fun t34 => gdQ t34 true (some t0) fun t36 => gdQ t34 true (some t7) fun t37 => gdQ t34 true (ixA 1 t36 t37 S) fun t38 => gdQ t34 true (ldv false 1 t38 S) fun t39 => gdQ t34 true (some t1) fun t40 => gdQ t34 true (abi .eql t39 t40) fun t41 => gdQ t34 true (some t41) fun t42 => gdQ t42 false (some t0) fun t43 => gdQ t42 false (some t7) fun t44 => gdQ t42 false (ixA 1 t43 t44 S) fun t45 => gdQ t42 false (ldv false 1 t45 S) fun t46 => gdE t42 false (fun K => ATriple PR 486 [t46] S K) S fun t47 S_1 => gdQ t42 false (some t47) fun t48 => gdQ t48 true (some t1) fun t49 => gdE t48 true (fun K => ATriple PR 486 [t49] S_1 K) S_1 fun t50 S_2 => gdQ t42 false (apick t48 t50 (bv false)) fun t51 => gdQ t34 true (apick t42 (bv true) t51) fun t52 => bQ (apick t34 t52 (bv false)) fun t53 => dropQ Q (.tuple [t7, t53]) S_2
theorem f438_K1_e0_pt : f438_K1_e0 Q t0 t1 t6 t7 S → f438_K1 Q (.exit 0) (ofL [(0, t0), (1, t1), (6, t6), (7, t7)]) S := castP (by kernel_rfl)
def f438_s (t0 t1 : AV) (S : Store) (Q : QT) : Prop := bQ (aln .slice t0 S) fun t11 => f438_L1 (f438_K1 Q) t0 t1 t11 (iv 0) t11 S
theorem f438_ok : f438_s t0 t1 S Q → ATriple PR 438 [t0, t1] S Q := fun h => pF (fn := Tryz.f438) f438_a1 h
attribute [irreducible] f438_L1 f438_K1
end
end Go.Du
namespace Go.Du
open Go
attribute [local irreducible] ATriple W evP AI
theorem rdT_inv : ∀ (n : Nat) (l acc s r : Bs), l.length ≤ n → rdT acc l = .ok (s, r) → ∃ m, l = encT m ++ [0, 1] ++ r ∧ s = acc ++ m := by
  intro n
  induction n with
  | zero =>
    intro l acc s r hn h
    have : l = [] := List.length_eq_zero_iff.1 (by omega)
    subst this; simp [rdT] at h
  | succ n ih =>
    intro l acc s r hn h
    match l, hn, h with
    | [], _, h => simp [rdT] at h
    | [_], _, h => simp [rdT] at h
    | b :: c :: rr, hn, h =>
      simp only [rdT] at h
      simp only [List.length_cons] at hn
      split at h
      · rename_i hb
        split at h
        · rename_i hc
          obtain ⟨m, hm, hs⟩ := ih rr _ _ _ (by omega) h
          refine ⟨0 :: m, ?_, by rw [hs]; simp⟩
          have : encT (0 :: m) = 0 :: 255 :: encT m := rfl
          rw [this, hb, hc, hm]; simp
        · split at h
          · rename_i hc
            simp only [Except.ok.injEq, Prod.mk.injEq] at h
            obtain ⟨rfl, rfl⟩ := h
            exact ⟨[], by rw [hb, hc]; simp [encT], by simp⟩
          · cases h
      · rename_i hb
        obtain ⟨m, hm, hs⟩ := ih (c :: rr) _ _ _ (by simp; omega) h
        refine ⟨b :: m, ?_, by rw [hs]; simp⟩
        have : encT (b :: m) = b :: encT m := by simp [encT, hb]
        rw [this, hm]; simp
theorem rdP_pre : ∀ (n : Nat) (acc : List Prt) (l : Bs) (ps : List Prt), rdP n acc l = .ok ps → ∃ t, ps = acc ++ t ∧ (l ≠ [] → t ≠ []) := by
  intro n
  induction n with
  | zero =>
    intro acc l ps h
    cases l with
    | nil => simp [rdP] at h; exact ⟨[], by simp [h], fun h => absurd rfl h⟩
    | cons k r => simp [rdP] at h
  | succ n ih =>
    intro acc l ps h
    cases l with
    | nil => simp [rdP] at h; exact ⟨[], by simp [h], fun h => absurd rfl h⟩
    | cons k r =>
      simp only [rdP] at h
      split at h
      · split at h
        · cases h
        · obtain ⟨t, ht, _⟩ := ih _ _ _ h
          exact ⟨_ :: t, by rw [ht]; simp; rfl, fun _ => by simp⟩
      · split at h
        · split at h
          · cases h
          · obtain ⟨t, ht, _⟩ := ih _ _ _ h
            exact ⟨_ :: t, by rw [ht]; simp; rfl, fun _ => by simp⟩
        · cases h
theorem num8_inv (l : Bs) (hl : l.length = 8) (n : Nat) (hn : n ≤ 3) (h : num8 l = n) : l = numB n := by
  match l, hl with
  | [a, b, c, d, e, f, g, i], _ =>
    simp only [num8, be0, List.foldl_cons, List.foldl_nil] at h
    have ha := a.toNat_lt; have hb := b.toNat_lt; have hc := c.toNat_lt; have hd := d.toNat_lt
    have he := e.toNat_lt; have hf := f.toNat_lt; have hg := g.toNat_lt; have hi := i.toNat_lt
    have h1 : a.toNat = 128 ∧ b.toNat = 0 ∧ c.toNat = 0 ∧ d.toNat = 0 ∧ e.toNat = 0 ∧ f.toNat = 0 ∧ g.toNat = 0 ∧ i.toNat = n := by omega
    obtain ⟨h1, h2, h3, h4, h5, h6, h7, h8⟩ := h1
    have cv : ∀ (x : UInt8) (k : Nat), x.toNat = k → x = UInt8.ofNat k := fun x k hk => by rw [← hk]; simp
    rw [cv a _ h1, cv b _ h2, cv c _ h3, cv d _ h4, cv e _ h5, cv f _ h6, cv g _ h7, cv i _ h8]
    rfl
theorem keyE_inv (k : Bs) (h : keyE k = 0) : ∃ n s, n ≤ 3 ∧ s.length ≤ 40 ∧ k = keyOf n s := by
  unfold keyE at h
  generalize hr : rdP k.length [] k = r at h
  cases r with
  | error e => exact absurd h (by simpa [splitR] using rdP_err _ _ _ _ hr)
  | ok ps =>
    rcases ps with _ | ⟨x, _ | ⟨y, _ | ⟨z, l⟩⟩⟩
    · rw [splitR_nil] at h; cases h
    · rw [splitR_one] at h; cases h
    · rw [splitR_two] at h
      cases x with
      | txt a => cases h
      | num n =>
        cases y with
        | num m => cases h
        | txt s =>
          dsimp only at h
          split at h
          · rename_i hc
            obtain ⟨c1, c2, c3⟩ := hc
            match k, hr with
            | k0 :: r0, hr =>
              simp only [List.length_cons, rdP] at hr
              split at hr
              · rename_i hk0
                split at hr
                · cases hr
                · rename_i hl8
                  have hn8 : (r0.take 8).length = 8 := by simp; omega
                  have hd8 : (r0.drop 8).length = r0.length - 8 := by simp
                  match hm : r0.length, hr with
                  | 0, hr => omega
                  | m + 1, hr =>
                    cases hd : r0.drop 8 with
                    | nil => rw [hd] at hr; simp [rdP] at hr
                    | cons k1 r1 =>
                      rw [hd] at hr
                      simp only [List.nil_append, rdP] at hr
                      split at hr
                      · split at hr
                        · cases hr
                        · obtain ⟨t, ht, _⟩ := rdP_pre _ _ _ _ hr
                          simp at ht
                      · split at hr
                        · rename_i hk1
                          split at hr
                          · cases hr
                          · rename_i s' r' hrt
                            obtain ⟨t, ht, hne⟩ := rdP_pre _ _ _ _ hr
                            simp only [List.cons_append, List.nil_append, List.cons.injEq, Prt.num.injEq, Prt.txt.injEq] at ht
                            obtain ⟨e1, e2, e3⟩ := ht
                            have hr' : r' = [] := by
                              cases r' with
                              | nil => rfl
                              | cons a b => exact absurd e3.symm (hne (by simp))
                            obtain ⟨q, hq, hq2⟩ := rdT_inv _ _ _ _ _ (Nat.le_refl _) hrt
                            obtain ⟨N, rfl⟩ := Int.eq_ofNat_of_zero_le c1
                            have hN : N ≤ 3 := by omega
                            have hb := num8_inv _ hn8 N hN e1.symm
                            refine ⟨N, s, hN, c3, ?_⟩
                            simp only [List.nil_append] at hq2
                            rw [← hq2, ← e2, hr'] at hq
                            have : r0 = r0.take 8 ++ r0.drop 8 := (List.take_append_drop 8 r0).symm
                            rw [this, hb, hd, hk0, hk1, hq]
                            simp [keyOf]
                        · cases hr
              · split at hr
                · split at hr
                  · cases hr
                  · obtain ⟨t, ht, _⟩ := rdP_pre _ _ _ _ hr
                    simp at ht
                · cases hr
          · cases h
    · rw [splitR_more] at h; cases h
theorem keyOf_len (n : Nat) (s : Bs) : (keyOf n s).length ≤ 12 + 2 * s.length := by
  have := encT_len s
  simp [keyOf, numB]; omega
end Go.Du
namespace Go.Du
open Go
attribute [local irreducible] ATriple W evP AI
theorem f431_c (s : Bs) (S : Store) {Q : AV → Store → Prop} (h : Q (bv false) S) : ATriple PR 431 [sv s] S Q := by
  refine f431_ok ?_
  simp -implicitDefEqProofs [f431_s]
  exact dropQ_self h
theorem f404_c (n : Int) (S : Store) {Q : AV → Store → Prop} (h : Q (bv false) S) : ATriple PR 404 [iv n] S Q := by
  refine f404_ok ?_
  simp -implicitDefEqProofs [f404_s]
  exact dropQ_self h
def cmpB (a b : Bs) : Int := if Op.bytesLess a b = true then -1 else if a = b then 0 else 1
def cmpI (a b : Int) : Int := if a < b then -1 else if b < a then 1 else 0
theorem f349_c (a b : Bs) (S : Store) {Q : AV → Store → Prop} (h : Q (iv (cmpB a b)) S) : ATriple PR 349 [sv a, sv b] S Q := by
  refine f349_ok ?_
  simp -implicitDefEqProofs only [f349_s]
  refine f431_c a S ?_
  refine f431_c b S ?_
  unfold cmpB at h
  by_cases h1 : Op.bytesLess a b = true
  · rw [if_pos h1] at h
    simp -implicitDefEqProofs [h1]
    exact dropQ_self h
  · rw [if_neg h1] at h
    by_cases h2 : a = b
    · rw [if_pos h2] at h
      simp -implicitDefEqProofs [h1, h2]
      subst h2
      simp -implicitDefEqProofs [h1]
      exact dropQ_self h
    · rw [if_neg h2] at h
      simp -implicitDefEqProofs [h1, h2]
      exact dropQ_self h
theorem f298_c (a b : Int) (S : Store) {Q : AV → Store → Prop} (h : Q (iv (cmpI a b)) S) : ATriple PR 298 [iv a, iv b] S Q := by
  refine f298_ok ?_
  simp -implicitDefEqProofs only [f298_s]
  refine f404_c a S ?_
  refine f404_c b S ?_
  unfold cmpI at h
  by_cases h1 : a < b
  · rw [if_pos h1] at h
    simp -implicitDefEqProofs [h1]
    exact dropQ_self h
  · rw [if_neg h1] at h
    by_cases h2 : b < a
    · rw [if_pos h2] at h
      simp -implicitDefEqProofs [h1, h2]
      exact dropQ_self h
    · rw [if_neg h2] at h
      simp -implicitDefEqProofs [h1, h2]
      exact dropQ_self h
def firstI : List Int → Int
  | [] => 0
  | x :: l => if x = 0 then firstI l else x
theorem f348_c (l : List Int) (hl : l.length ≤ 1000) (S : Store) {Q : AV → Store → Prop} (h : Q (iv (firstI l)) S) : ATriple PR 348 [.svals (l.map fun n => [iv n])] S Q := by
  refine f348_ok ?_
  simp -implicitDefEqProofs only [f348_s, aln_svals, List.length_map, bQ_some]
  have loop : ∀ (j i : Nat), j + i = l.length → firstI (l.drop i) = firstI l → f348_L1 (f348_K1 Q) (.svals (l.map fun n => [iv n])) (iv l.length) (iv i) S := by
    intro j
    induction j with
    | zero =>
      intro i hi hf
      refine f348_L1_pt ?_
      have : ¬ (i : Int) < l.length := by omega
      rw [List.drop_of_length_le (by omega)] at hf
      simp -implicitDefEqProofs [f348_l1, this]
      apply f348_K1_e0_pt
      rw [← hf] at h
      exact dropQ_self h
    | succ j ih =>
      intro i hi hf
      refine f348_L1_pt ?_
      have h2 : i < l.length := by omega
      have h1 : (i : Int) < l.length := by omega
      have w1 : IntKind.i64.wrap ((i : Int) + 1) = i + 1 := wrap_id (by omega) (by omega)
      have x0 : ∀ S, ixA 1 (.svals (l.map fun n => [iv n])) (iv i) S = some (.fptr [iv l[i]] 0) := fun S => ixA_map _ l i 1 S h2 fun _ => rfl
      rw [List.drop_eq_getElem_cons h2] at hf
      simp only [firstI] at hf
      by_cases hz : l[i] = 0
      · rw [if_pos hz] at hf
        simp -implicitDefEqProofs [f348_l1, h1, x0, hz, w1]
        exact ih (i + 1) (by omega) hf
      · rw [if_neg hz] at hf
        simp -implicitDefEqProofs [f348_l1, h1, x0, hz]
        apply f348_K1_ret_pt
        rw [← hf] at h
        exact dropQ_self h
  exact loop l.length 0 rfl rfl
def Ver.cmp (a b : Ver) : Int := firstI [cmpB a.key b.key, cmpI a.br b.br, cmpI a.ep b.ep, cmpI a.sq b.sq, cmpI a.fr b.fr]
theorem f206_c (a b : Ver) (S : Store) {Q : AV → Store → Prop} (h : Q (iv (a.cmp b)) S) : ATriple PR 206 [a.av, b.av] S Q := by
  refine f206_ok ?_
  simp -implicitDefEqProofs [f206_s, Ver.cs]
  refine f349_c _ _ S ?_
  refine f298_c _ _ S ?_
  refine f298_c _ _ S ?_
  refine f298_c _ _ S ?_
  refine f298_c _ _ S ?_
  have e : ∀ a b c d e : Int, frzOf (bslR true 1 3 1 5 5 [(0, iv a), (1, iv b), (2, iv c), (3, iv d), (4, iv e)]) = some (.svals ([a, b, c, d, e].map fun n => [iv n])) := fun a b c d e => rfl
  rw [e, bQ_some]
  refine f348_c _ (by simp) S ?_
  exact dropQ_self h
theorem f367_c (n a b : Int) (h1 : a ≤ n) (h2 : n ≤ b) (S : Store) {Q : AV → Store → Prop} (h : Q (bv true) S) : ATriple PR 367 [iv n, iv a, iv b] S Q := by
  refine f367_ok ?_
  simp -implicitDefEqProofs [f367_s, h1, h2]
  exact dropQ_self h
theorem f368_c (a b : Int) (h1 : 0 ≤ a) (h2 : a < b) (h3 : b ≤ 1099511627776) (S : Store) {Q : AV → Store → Prop} (h : Q (bv true) S) : ATriple PR 368 [.agg [iv a, iv b]] S Q := by
  refine f368_ok ?_
  simp -implicitDefEqProofs [f368_s, h1, h2, h3]
  exact dropQ_self h
theorem Ver.may_iff (v : Ver) : v.may = true ↔ keyE v.key = 0 ∧ (0 ≤ v.fr ∧ v.fr < v.to ∧ v.to ≤ 1099511627776) ∧ v.val.length ≤ 200 ∧ (v.gone = false ∨ v.val = []) ∧ 0 ≤ v.br ∧ v.br ≤ 15 ∧ 1 ≤ v.ep ∧ v.ep ≤ 10000 ∧ 1 ≤ v.sq ∧ v.sq ≤ 100000 := by
  simp only [Ver.may, Bool.and_eq_true, decide_eq_true_eq, Bool.or_eq_true, Bool.not_eq_true', and_assoc]
theorem f234_c (v : Ver) (hm : v.may = true) (S : Store) {Q : AV → Store → Prop} (h : Q (bv true) S) : ATriple PR 234 [v.av] S Q := by
  refine f234_ok ?_
  obtain ⟨m1, ⟨m2, m3, m4⟩, m5, m6, m7, m8, m9, m10, m11, m12⟩ := v.may_iff.1 hm
  obtain ⟨n, s, hn, hs, hk⟩ := keyE_inv _ m1
  have e0 : ∀ S, ldv true 2 (.fptr v.cs 4) S = some (.agg [iv v.fr, iv v.to]) := fun S => rfl
  have l1 : (v.val.length : Int) ≤ 200 := by omega
  simp -implicitDefEqProofs only [f234_s, boxR_agg, mkNew_true, frzOf_frz, bQ_some]
  simp only [Ver.cs] at e0
  simp -implicitDefEqProofs [Ver.cs]
  rw [hk]
  refine f256_c n hn s hs S ?_
  simp -implicitDefEqProofs
  refine f367_c _ _ _ m7 m8 S ?_
  simp -implicitDefEqProofs
  refine f367_c _ _ _ m9 m10 S ?_
  simp -implicitDefEqProofs
  refine f367_c _ _ _ m11 m12 S ?_
  simp -implicitDefEqProofs [e0]
  refine f368_c _ _ m2 m3 m4 S ?_
  rcases m6 with m6 | m6
  · simp -implicitDefEqProofs [l1, m5, m6]
    exact dropQ_self h
  · cases hg : v.gone
    · simp -implicitDefEqProofs [l1, m5]
      exact dropQ_self h
    · simp -implicitDefEqProofs [l1, m5, m6]
      exact dropQ_self h
end Go.Du
namespace Go.Du
open Go
attribute [local irreducible] ATriple W evP AI
abbrev rdr (l : Bs) : AObj := .row 447 2 [[bytes l, iv 0]]
theorem f318_c (b : AV) (l : Bs) (S : Store) (z : Bool) (hb : SlIn b S (byt l) z) (hn : l.length ≤ 1099511627776) {Q : AV → Store → Prop} (h : ∀ t, S t = none → Q (.ptr t 0 0) (S.set t (rdr l))) : ATriple PR 318 [b] S Q := by
  refine f318_ok ?_
  simp -implicitDefEqProofs only [f318_s]
  refine ATriple.drop (f311_c b l S z hb hn fun v S' hg => ⟨bytes l, S, hg.ent, ?_⟩)
  have e : abld [.lit (.slice none 0 0), .lit (.int .i64 0)] [(0, 1, bytes l)] = some (.agg [bytes l, iv 0]) := by simp [abld, afill, splice]
  simp -implicitDefEqProofs only [e, bQ_some, boxR_agg, mkNew_false, newW_own]
  intro t ht
  exact dropQ_self (h t ht)
theorem f320_c (t : Nat) (l : Bs) (S : Store) (hr : S t = some (rdr l)) {Q : AV → Store → Prop} (h : Q (iv 0) S) : ATriple PR 320 [.ptr t 0 0] S Q := by
  refine f320_ok ?_
  have e := ldv_at (o := 1) hr
  simp -implicitDefEqProofs [f320_s, anil, e]
  exact dropQ_self h
set_option maxRecDepth 100000 in
theorem f319_loop (t : Nat) (l rest : Bs) (hB : l.length ≤ 1099511627776) (n : Nat) (hn : n < 4611686018427387904) (S : Store) (hr : S t = some (rdr l)) (K : AK) (h : K .ret (ofL [(2, iv n)]) (S.set t (rdr rest))) :
    ∀ (j i m a : Nat), i + j = 9 → m < 128 ^ j → l.drop i = putN m ++ rest → i ≤ l.length → a < 2 ^ (7 * i) → m * 2 ^ (7 * i) + a = n → (0 < i → 0 < m) → f319_g1_0 K (.ptr t 0 0) (iv a) (iv i) S := by
  intro j
  induction j with
  | zero =>
    intro i m a hi hm hd hl ha hs hp
    simp at hm; omega
  | succ j ih =>
    intro i m a hi hm hd hil ha hs hp
    have e0 := ldv_at (o := 0) hr
    simp only [List.getElem?_cons_zero] at e0
    have n9 : ¬ (i : Int) = 9 := by omega
    have n9' : ¬ i = 9 := by omega
    have hlt : i < l.length := by
      by_cases hc : i < l.length
      · exact hc
      · rw [List.drop_of_length_le (by omega)] at hd
        by_cases hm1 : m < 128
        · rw [putN_lt hm1] at hd; simp at hd
        · rw [putN_ge hm1] at hd; simp at hd
    have nl : ¬ (i : Int) = l.length := by omega
    have nl' : ¬ i = l.length := by omega
    have w7 : IntKind.i64.wrap (7 * (i : Int)) = ((7 * i : Nat) : Int) := by rw [wrap_id (by omega) (by omega)]; omega
    have w1 : IntKind.i64.wrap ((i : Int) + 1) = ((i + 1 : Nat) : Int) := by rw [wrap_id (by omega) (by omega)]; omega
    have hpow : 0 < 2 ^ (7 * i) := Nat.pow_pos (by omega)
    have hget : l[i]? = (putN m ++ rest)[0]? := by rw [← hd]; simp
    have hdrop : l.drop (i + 1) = (putN m ++ rest).drop 1 := by rw [← hd, List.drop_drop]
    by_cases hm1 : m < 128
    · rw [putN_lt hm1] at hget hdrop
      simp only [List.cons_append, List.nil_append, List.getElem?_cons_zero, List.drop_succ_cons, List.drop_zero] at hget hdrop
      have x0 := bytes_get l i _ hget S
      rw [ofNat_toNat m (by omega)] at x0
      have e1 := and8 m (by omega)
      rw [Nat.mod_eq_of_lt hm1] at e1
      have e2 := cv64 m (by omega)
      have e3 := shlI m (7 * i) (by omega) (by omega)
      have e4 := orN a m (7 * i) ha (by omega)
      rw [hs] at e4
      have c1 : ¬ (128 : Int) ≤ m := by omega
      have c2 : ¬ (4611686018427387904 : Int) ≤ n := by omega
      have c1' : ¬ 128 ≤ m := by omega
      have c2' : ¬ 4611686018427387904 ≤ n := by omega
      have sl := bytes_drop l (i + 1) (by omega) S
      rw [hdrop] at sl
      have st := stv_at (S := S) (b := t) (o := 0) (x := bytes rest) hr rfl rfl (by simp)
      simp only [List.set_cons_zero] at st
      by_cases hz : m = 0
      · have hi0 : i = 0 := by
          by_cases h0 : 0 < i
          · have := hp h0; omega
          · omega
        subst hz hi0
        simp at x0 e1 e2 e3 e4 w1 sl w7
        have c3 : ¬ (0 : Int) = l.length := by omega
        have c4 : ¬ 0 = l.length := by omega
        have c5 : ¬ l = [] := fun e => by rw [e] at hlt; simp at hlt
        simp -implicitDefEqProofs [f319_g1_0, c3, c4, c5, anil, e0, x0, e1, e2, w7, e3, e4, w1, c2, c2', sl, st]
        exact h
      · have hzi : ¬ (m : Int) = 0 := by omega
        push_cast at x0 e1 e2 e3 e4 w1 sl w7
        simp -implicitDefEqProofs [f319_g1_0, n9, nl, n9', nl', anil, e0, x0, e1, e2, w7, e3, e4, w1, c1, c2, c1', c2', hz, hzi, sl, st]
        exact h
    · have hml : m / 128 < 128 ^ j := by
        rw [Nat.div_lt_iff_lt_mul (by omega)]; rw [Nat.pow_succ] at hm; exact hm
      rw [putN_ge hm1] at hget hdrop
      simp only [List.cons_append, List.getElem?_cons_zero, List.drop_succ_cons, List.drop_zero] at hget hdrop
      have x0 := bytes_get l i _ hget S
      rw [ofNat_toNat (m % 128 + 128) (by omega)] at x0
      have e1 := and8 (m % 128 + 128) (by omega)
      rw [show (m % 128 + 128) % 128 = m % 128 by omega] at e1
      have hmm : m = m / 128 * 128 + m % 128 := by omega
      have hp7 : 2 ^ (7 * (i + 1)) = 2 ^ (7 * i) * 128 := by rw [show 7 * (i + 1) = 7 * i + 7 by omega, Nat.pow_add]
      have hsum : m * 2 ^ (7 * i) = m / 128 * 2 ^ (7 * (i + 1)) + m % 128 * 2 ^ (7 * i) := by
        rw [hp7]
        have : m / 128 * (2 ^ (7 * i) * 128) + m % 128 * 2 ^ (7 * i) = (m / 128 * 128 + m % 128) * 2 ^ (7 * i) := by
          rw [Nat.add_mul]; congr 1; rw [Nat.mul_assoc, Nat.mul_comm 128]
        rw [this, ← hmm]
      have hmul : m % 128 * 2 ^ (7 * i) ≤ 127 * 2 ^ (7 * i) := Nat.mul_le_mul_right _ (by omega)
      have hbig : m % 128 * 2 ^ (7 * i) + a < 9223372036854775808 := by omega
      have e2 := cv64 (m % 128) (by omega)
      have e3 := shlI (m % 128) (7 * i) (by omega) (by omega)
      have e4 := orN a (m % 128) (7 * i) ha (by omega)
      have c1 : (128 : Int) ≤ ((m % 128 + 128 : Nat) : Int) := by omega
      have := ih (i + 1) (m / 128) (m % 128 * 2 ^ (7 * i) + a) (by omega) hml hdrop (by omega) (by rw [hp7]; omega) (by omega) (by omega)
      generalize m % 128 * 2 ^ (7 * i) + a = A at this e4
      generalize m % 128 * 2 ^ (7 * i) = B at e3 e4
      generalize m % 128 + 128 = C at x0 e1 c1
      have c1' : 128 ≤ C := by omega
      clear hd hs ha hmm hp7 hsum hmul hbig hget hdrop hml hpow ih hm1 hm
      generalize m % 128 = D at e1 e2 e3
      generalize 7 * i = E at w7 e3
      simp -implicitDefEqProofs [f319_g1_0, n9, nl, n9', nl', anil, e0, x0, e1, e2, w7, e3, e4, w1, c1, c1']
      refine f319_G1_0_pt ?_
      exact this
theorem f319_c (t : Nat) (rest : Bs) (n : Nat) (hn : n < 4611686018427387904) (l : Bs) (hl : l = putN n ++ rest) (hB : l.length ≤ 1099511627776) (S : Store) (hr : S t = some (rdr l)) {Q : AV → Store → Prop} (h : Q (iv n) (S.set t (rdr rest))) : ATriple PR 319 [.ptr t 0 0] S Q := by
  refine f319_ok ?_
  simp -implicitDefEqProofs only [f319_s]
  refine f319_L1_pt ?_
  have e1 := ldv_at (o := 1) hr
  simp only [List.getElem?_cons_zero, List.getElem?_cons_succ] at e1
  simp -implicitDefEqProofs [f319_l1, anil, e1]
  have := f319_loop t l rest hB n hn S hr (f319_K1 Q) ?_ 9 0 n 0 rfl (by omega) (by simpa using hl) (Nat.zero_le _) (by simp) (by simp) (by omega)
  · simpa using this
  · apply f319_K1_ret_pt
    exact dropQ_self h
theorem f321_c (t : Nat) (rest s : Bs) (most : Nat) (hs : s.length ≤ most) (hm : most ≤ 1000) (l : Bs) (hl : l = textS s ++ rest) (hB : l.length ≤ 1099511627776) (S : Store) (hr : S t = some (rdr l)) {Q : AV → Store → Prop} (h : Q (sv s) (S.set t (rdr rest))) : ATriple PR 321 [.ptr t 0 0, iv most] S Q := by
  refine f321_ok ?_
  simp -implicitDefEqProofs only [f321_s]
  have hl' : l = putN s.length ++ (s ++ rest) := by rw [hl]; simp [textS]
  have hlen : (s ++ rest).length ≤ l.length := by rw [hl']; simp
  refine f319_c t (s ++ rest) s.length (by omega) l hl' hB S hr ?_
  have hr1 : (S.set t (rdr (s ++ rest))) t = some (rdr (s ++ rest)) := Store.set_same _ _ _
  have e0 := ldv_at (o := 0) hr1
  have e1 := ldv_at (o := 1) hr1
  simp only [List.getElem?_cons_zero, List.getElem?_cons_succ] at e0 e1
  have c1 : ¬ (most : Int) < s.length := by omega
  have c1' : ¬ most < s.length := by omega
  have c2 : ¬ ((s ++ rest).length : Int) < s.length := by simp; omega
  have t1 := bytes_take (s ++ rest) s.length (by simp) (S.set t (rdr (s ++ rest)))
  have t2 := bytes_drop (s ++ rest) s.length (by simp) (S.set t (rdr (s ++ rest)))
  rw [List.take_left'  rfl] at t1
  rw [List.drop_left'  rfl] at t2
  have t3 : acv .bytes (bytes s) (S.set t (rdr (s ++ rest))) = some (sv s) := acv_byt rfl
  have st := stv_at (b := t) (o := 0) (x := bytes rest) hr1 rfl rfl (by simp)
  simp only [List.set_cons_zero, Store.set_set] at st
  generalize hlg : s ++ rest = g at *
  have c2' : ¬ g.length < s.length := by omega
  simp -implicitDefEqProofs [anil, e0, e1, c1, c1', c2, c2', t1, t2, t3, st]
  exact dropQ_self h
end Go.Du
namespace Go.Du
open Go
set_option maxRecDepth 1000000
section
open Go.Proofs
variable {S : Store} {Q : QT} {K : AK} {t0 t1 t2 t3 t4 t5 t6 t7 t8 t9 t13 t14 t15 t17 t18 t19 t26 t27 t28 t38 t39 t40 : AV}
noncomputable def f312_a1 : Ann := .two (rg 1 0 0) (.two (.two (rg 3 0 0) (.one (.loop [0, 5, 6, 7]))) (.two (rg 9 0 0) (.nil)))
noncomputable def f312_c1 : Code := (cl (cl (cr (cl (cr (bodyOf Tryz.f312))))))
noncomputable def f312_c2 : Code := (cr (cr (bodyOf Tryz.f312)))
def f312_L1 (K : AK) (t0 t5 t6 t7 : AV) (S : Store) : Prop := AI PR none 38 [.code f312_c1, .inLoop f312_c1] K (ofL [(0, t0), (5, t5), (6, t6), (7, t7)]) S
def f312_l1 (K : AK) (t0 t5 t6 t7 : AV) (S : Store) : Prop := bQ (abi .lss t7 t6) fun t8 => condW t8 (bQ (ixA 8 t5 t7 S) fun t10 => bQ (ldv true 8 t10 S) fun t11 => newW (some (.own (.row 112 8 [[.lit (.string ⟨#[]⟩), iv 0, iv 0, iv 0, iv 0, iv 0, .lit (.string ⟨#[]⟩), bv false]]) fun u => .ptr u 0 0)) S fun t4 S_1 => thenS (stv 8 t4 t11 S_1) fun _ S_2 => bQ (ldv true 8 t4 S_2) fun t12 => ATriple PR 234 [t12] S_2 fun t13 S_3 => bQ (aun .not t13) fun t14 => gdQ t14 false (some t7) fun t16 => gdQ t14 false (abi .gtr t16 (iv 0)) fun t17 => gdQ t14 false (some t17) fun t18 => gdQ t18 true (some t0) fun t19 => gdQ t18 true (some t7) fun t20 => gdQ t18 true (abi .sub t20 (iv 1)) fun t21 => gdQ t18 true (ixA 8 t19 t21 S_3) fun t22 => gdQ t18 true (ldv true 8 t22 S_3) fun t23 => gdQ t18 true (ldv true 8 t4 S_3) fun t24 => gdE t18 true (fun K => ATriple PR 206 [t23, t24] S_3 K) S_3 fun t25 S_4 => gdQ t18 true (abi .geq t25 (iv 0)) fun t26 => gdQ t14 false (apick t18 t26 (bv false)) fun t27 => bQ (apick t14 (bv true) t27) fun t28 => condW t28 (K .ret (ofL [(0, t0), (2, bv false)]) S_4) (bQ (abi .add t7 (iv 1)) fun t29 => f312_L1 K t0 t5 t6 t29 S_4)) (K (.exit 0) (ofL [(0, t0), (2, .poison)]) S)
theorem f312_L1_pt : f312_l1 K t0 t5 t6 t7 S → f312_L1 K t0 t5 t6 t7 S := fun h => pL (.two (rg 1 0 0) (.two (.two (.nil) (.nil)) (.two (.one (.two (rg 6 40 0) (.two (.reg [0, 1, 3, 7, 15, 31, 63, 127, 127, 383, 1023, 2047, 127, 8191, 16383, 32767, 65535] (.q 0 false <| .e 1 [] <| pq 2 11 <| .e 13 [] <| pq 14 3 <| .done)) (.two (.two (rg 1 0 0) (.nil)) (.nil))))) (rg 2 0 0)))) [0, 5, 6, 7] [0, 2] h
noncomputable def f312_K1 (Q : QT) : AK := (AK.block 0 (AK.andThen (fun st S => W PR none 38 f312_c2 ((ar (ar f312_a1))) (retK PR Tryz.f312 (dropQ Q)) st S) (retK PR Tryz.f312 (dropQ Q))))
def f312_K1_e0 (Q : QT) (t0 t2 : AV) (S : Store) : Prop := bQ (aln .slice t0 S) fun t31 => bQ (abi .geq t31 (iv 1)) fun t32 => gdQ t32 true (some t0) fun t34 => gdQ t32 true (aln .slice t34 S) fun t35 => gdQ t32 true (abi .leq t35 (iv 8)) fun t36 => bQ (apick t32 t36 (bv false)) fun t37 => dropQ Q t37 S
theorem f312_K1_e0_pt : f312_K1_e0 Q t0 t2 S → f312_K1 Q (.exit 0) (ofL [(0, t0), (2, t2)]) S := castP (by kernel_rfl)
def f312_s (t0 : AV) (S : Store) (Q : QT) : Prop := bQ (aln .slice t0 S) fun t6 => f312_L1 (f312_K1 Q) t0 t0 t6 (iv 0) S
theorem f312_ok : f312_s t0 S Q → ATriple PR 312 [t0] S Q := fun h => pF (fn := Tryz.f312) f312_a1 h
attribute [irreducible] f312_L1 f312_K1
noncomputable def f419_c1 : Code := (cl (cr (bodyOf Tryz.f419)))
noncomputable def f419_c2 : Code := (restOf f419_c1 0)
def f419_L1 (K : AK) (t0 t1 : AV) (S : Store) : Prop := AI PR none 25 [.code f419_c1, .inScope f419_c1] K (ofL [(0, t0), (1, t1)]) S
def f419_G1_0 (K : AK) (t0 t1 t5 : AV) (S : Store) : Prop := AI PR none 25 [.code f419_c2, .inScope f419_c1] K (ofL [(0, t0), (1, t1), (5, t5)]) S
def f419_g1_0 (K : AK) (t0 t1 t5 : AV) (S : Store) : Prop := bQ (aln .str t0 S) fun t8 => bQ (aln .str t1 S) fun t10 => bQ (amin t8 t10) fun t11 => bQ (abi .lss t5 t11) fun t12 => gdQ t12 true (some t0) fun t14 => gdQ t12 true (some t5) fun t15 => gdQ t12 true (aixS t14 t15) fun t16 => gdQ t12 true (some t1) fun t17 => gdQ t12 true (some t5) fun t18 => gdQ t12 true (aixS t17 t18) fun t19 => gdQ t12 true (abi .eql t16 t19) fun t20 => bQ (apick t12 t20 (bv false)) fun t21 => condW t21 (bQ (abi .add t5 (iv 1)) fun t23 => f419_G1_0 K t0 t1 t23 S) (K .ret (ofL [(4, t5)]) S)
theorem f419_G1_0_pt : f419_g1_0 K t0 t1 t5 S → f419_G1_0 K t0 t1 t5 S := fun h => pS (.two (.nil) (.two (.two (.reg [0, 0, 2, 0, 8, 30, 63, 127, 255, 255, 1023, 255, 255, 6399, 16383, 32767] (pq 0 16 <| .done)) (.two (.two (rg 3 0 0) (.nil)) (.nil))) (.two (rg 2 0 0) (.nil)))) [0, 1, 5] [4] h
def f419_l1 (K : AK) (t0 t1 : AV) (S : Store) : Prop := f419_g1_0 K t0 t1 (iv 0) S
theorem f419_L1_pt : f419_l1 K t0 t1 S → f419_L1 K t0 t1 S := fun h => pS (.two (rg 1 0 0) (.two (.nil) (.two (.two (.reg [0, 0, 2, 0, 8, 30, 63, 127, 255, 255, 1023, 255, 255, 6399, 16383, 32767] (pq 0 16 <| .done)) (.two (.two (rg 3 0 0) (.nil)) (.nil))) (.two (rg 2 0 0) (.nil))))) [0, 1, 5] [4] h
noncomputable def f419_K1 (Q : QT) : AK := (retK PR Tryz.f419 (dropQ Q))
def f419_K1_ret (Q : QT) (t4 : AV) (S : Store) : Prop := dropQ Q t4 S
theorem f419_K1_ret_pt : f419_K1_ret Q t4 S → f419_K1 Q .ret (ofL [(4, t4)]) S := castP (by kernel_rfl)
def f419_s (t0 t1 : AV) (S : Store) (Q : QT) : Prop := f419_L1 (f419_K1 Q) t0 t1 S
theorem f419_ok : f419_s t0 t1 S Q → ATriple PR 419 [t0, t1] S Q := fun h => pF (fn := Tryz.f419) (.two (rg 1 0 0) (.loop [0, 1])) h
attribute [irreducible] f419_L1 f419_G1_0 f419_K1
noncomputable def f313_a1 : Ann := .two (rg 1 0 0) (.two (rg 5 8 4) (.two (rg 1 0 0) (.two (.two (rg 3 0 0) (.one (.loop [3, 4, 13, 14, 15]))) (.two (rg 2 0 0) (.nil)))))
noncomputable def f313_c1 : Code := (cl (cl (cr (cl (cr (cr (cr (bodyOf Tryz.f313))))))))
noncomputable def f313_a2 : Ann := .two (rg 1 0 0) (.two (.two (.nil) (.nil)) (.two (.one (.two (rg 4 12 0) (.two (rg 6 8 0) (.join [3, 6, 7, 8, 13, 14, 15] (.two (rg 2 0 0) (.two (rg 1 0 0) (.nil))) (.two (.reg [0, 0, 2, 7, 0, 16, 0, 112, 240, 511, 1023] (pq 0 2 <| .q 2 true <| pq 4 4 <| .q 8 true <| .e 3 [(5, false), (7, false)] <| .e 9 [] <| .q 10 false <| .done)) (.two (rg 24 4194304 2097152) (.two (rg 6 16 8) (rg 3 0 0)))))))) (rg 2 0 0)))
noncomputable def f313_c2 : Code := (cr (cr (cr (cl (cl (cr (cl (cr (cr (cr (bodyOf Tryz.f313)))))))))))
noncomputable def f313_c3 : Code := (cr (cr (cr (cl (cl (cr (cr (cl (cl (cr (cl (cr (cr (cr (bodyOf Tryz.f313)))))))))))))))
noncomputable def f313_c4 : Code := (cr (cr (cr (cr (bodyOf Tryz.f313)))))
def f313_L1 (K : AK) (t3 t4 t13 t14 t15 : AV) (S : Store) : Prop := AI PR none 67 [.code f313_c1, .inLoop f313_c1] K (ofL [(3, t3), (4, t4), (13, t13), (14, t14), (15, t15)]) S
def f313_J2 (K : AK) (t3 t6 t7 t8 t13 t14 t15 : AV) (S : Store) : Prop := AWp PR none 67 f313_c3 (AK.block 1 (AK.andThen (fun st S => W PR none 67 f313_c2 ((ar (ar (ar f313_a2)))) (AK.andThen (fun st S => AI PR none 67 [.code f313_c1, .inLoop f313_c1] K (mask [3, 4, 13, 14, 15] st) S) (mskK [3] K)) st S) (AK.andThen (fun st S => AI PR none 67 [.code f313_c1, .inLoop f313_c1] K (mask [3, 4, 13, 14, 15] st) S) (mskK [3] K)))) (ofL [(3, t3), (6, t6), (7, t7), (8, t8), (13, t13), (14, t14), (15, t15)]) S
def f313_j2 (K : AK) (t3 t6 t7 t8 t13 t14 t15 : AV) (S : Store) : Prop := bQ (frzOf (bslR true 1 3 1 1 1 [(0, t7)])) fun t27 => bQ (padd t6 0) fun t29 => bQ (ldv false 1 t29 S) fun t30 => bQ (sliceS t30 (some t7) none) fun t32 => bQ (frzOf (bslR true 1 9 1 1 1 [(0, t32)])) fun t33 => ATriple PR 177 [t3, t27] S fun t28 S_1 => ((ldv false 1 t29 S_1 = some t30) ∧ (sliceS t30 (some t7) none = some t32) ∧ True) ∧ ATriple PR 180 [t28, t33] S_1 fun t34 S_2 => bQ (padd t6 1) fun t36 => bQ (padd t36 0) fun t37 => bQ (ldv false 1 t37 S_2) fun t38 => bQ (padd t6 1) fun t39 => bQ (padd t39 1) fun t40 => bQ (ldv false 1 t40 S_2) fun t41 => bQ (padd t6 1) fun t42 => bQ (padd t42 2) fun t43 => bQ (ldv false 1 t43 S_2) fun t44 => bQ (padd t6 4) fun t45 => bQ (padd t45 0) fun t46 => bQ (ldv false 1 t46 S_2) fun t47 => bQ (padd t6 4) fun t48 => bQ (padd t48 1) fun t49 => bQ (ldv false 1 t49 S_2) fun t50 => bQ (padd t6 4) fun t51 => bQ (padd t51 0) fun t52 => bQ (ldv false 1 t52 S_2) fun t53 => bQ (abi .sub t50 t53) fun t54 => bQ (frzOf (bslR true 1 3 1 6 6 [(0, t38), (1, t41), (2, t44), (3, t47), (4, t54), (5, t8)])) fun t56 => ATriple PR 177 [t34, t56] S_2 fun t57 S_3 => bQ (padd t6 6) fun t59 => bQ (ldv false 1 t59 S_3) fun t60 => bQ (frzOf (bslR true 1 9 1 1 1 [(0, t60)])) fun t61 => ATriple PR 180 [t57, t61] S_3 fun t62 S_4 => bQ (padd t6 0) fun t63 => bQ (ldv false 1 t63 S_4) fun t64 => bQ (abi .add t15 (iv 1)) fun t65 => f313_L1 K t62 t64 t13 t14 t65 S_4
theorem f313_J2_pt : f313_j2 K t3 t6 t7 t8 t13 t14 t15 S → f313_J2 K t3 t6 t7 t8 t13 t14 t15 S := fun h => pJ ((ar (ar (ar (al (al (ar (ar f313_a2)))))))) h
def f313_l1 (K : AK) (t3 t4 t13 t14 t15 : AV) (S : Store) : Prop := bQ (abi .lss t15 t14) fun t16 => condW t16 (bQ (ixA 8 t13 t15 S) fun t17 => bQ (ldv true 8 t17 S) fun t18 => newW (some (.own (.row 112 8 [[.lit (.string ⟨#[]⟩), iv 0, iv 0, iv 0, iv 0, iv 0, .lit (.string ⟨#[]⟩), bv false]]) fun u => .ptr u 0 0)) S fun t6 S_1 => thenS (stv 8 t6 t18 S_1) fun _ S_2 => bQ (padd t6 0) fun t20 => bQ (ldv false 1 t20 S_2) fun t21 => ATriple PR 419 [t4, t21] S_2 fun t22 S_3 => bQ (padd t6 7) fun t23 => bQ (ldv false 1 t23 S_3) fun t24 => condW t24 (f313_J2 K t3 t6 t22 (iv 1) t13 t14 t15 S_3) (f313_J2 K t3 t6 t22 (iv 0) t13 t14 t15 S_3)) (K (.exit 0) (ofL [(3, t3)]) S)
theorem f313_L1_pt : f313_l1 K t3 t4 t13 t14 t15 S → f313_L1 K t3 t4 t13 t14 t15 S := fun h => pL f313_a2 [3, 4, 13, 14, 15] [3] h
noncomputable def f313_K1 (Q : QT) : AK := (AK.block 0 (AK.andThen (fun st S => W PR none 67 f313_c4 ((ar (ar (ar (ar f313_a1))))) (retK PR Tryz.f313 (dropQ Q)) st S) (retK PR Tryz.f313 (dropQ Q))))
def f313_K1_e0 (Q : QT) (t3 : AV) (S : Store) : Prop := dropQ Q t3 S
theorem f313_K1_e0_pt : f313_K1_e0 Q t3 S → f313_K1 Q (.exit 0) (ofL [(3, t3)]) S := castP (by kernel_rfl)
def f313_s (t0 : AV) (S : Store) (Q : QT) : Prop := bQ (aln .slice t0 S) fun t10 => bQ (frzOf (bslR true 1 3 1 1 1 [(0, t10)])) fun t11 => ATriple PR 177 [nilS, t11] S fun t12 S_1 => bQ (aln .slice t0 S_1) fun t14 => f313_L1 (f313_K1 Q) t12 (.lit (.string ⟨#[]⟩)) t0 t14 (iv 0) S_1
theorem f313_ok : f313_s t0 S Q → ATriple PR 313 [t0] S Q := fun h => pF (fn := Tryz.f313) f313_a1 h
attribute [irreducible] f313_L1 f313_J2 f313_K1
noncomputable def f185_a1 : Ann := .two (rg 2 0 0) (.two (rg 3 2 0) (.two (rg 3 2 0) (.two (rg 1 0 0) (.two (rg 1 0 0) (.two (.one (.loop [0, 4, 5, 6, 7])) (.two (.one (.two (rg 4 2 0) (.two (.two (rg 4 2 0) (.nil)) (.two (rg 11 162 0) (.two (.two (rg 2 0 0) (.nil)) (.nil)))))) (.two (rg 3 0 0) (.nil))))))))
noncomputable def f185_c1 : Code := (cl (cl (cl (cr (cr (cr (cr (cr (bodyOf Tryz.f185)))))))))
noncomputable def f185_a2 : Ann := .two (.two (rg 9 2 0) (.two (.nil) (.nil))) (.one (.two (rg 3 2 0) (.join [0, 4, 5, 7, 9] (.reg [0, 0, 0, 4, 14, 31, 0, 64, 255, 511, 0, 2047] (pq 0 7 <| (.fork (.e 7 [(5, false)] <| pq 8 2 <| .e 10 [(5, false)] <| .e 11 [] <| .done) (.e 10 [(5, false)] <| .e 7 [(5, false)] <| pq 8 2 <| .e 11 [] <| .done)))) (.two (rg 9 298 0) (.two (rg 5 18 0) (.two (.reg [0, 1, 3, 0, 8, 31, 63, 127, 255] (pq 0 4 <| .e 4 [(2, false)] <| pq 5 3 <| .e 8 [] <| .done)) (.two (rg 5 18 0) (.two (rg 4 10 0) (.reg [0, 0, 2, 7, 0, 16, 15, 127] (pq 0 2 <| .q 2 true <| pq 4 2 <| .e 3 [(5, false)] <| pq 6 2 <| .done))))))))))
noncomputable def f185_c2 : Code := (cr (cr (cl (cr (cl (cl (cl (cr (cr (cr (cr (cr (bodyOf Tryz.f185)))))))))))))
noncomputable def f185_c3 : Code := (cr (cr (cr (cr (cr (cr (bodyOf Tryz.f185)))))))
def f185_L1 (K : AK) (t0 t4 t5 t6 t7 : AV) (S : Store) : Prop := AI PR none 86 [.code f185_c1, .inLoop f185_c1] K (ofL [(0, t0), (4, t4), (5, t5), (6, t6), (7, t7)]) S
def f185_J2 (K : AK) (t0 t4 t5 t7 t9 : AV) (S : Store) : Prop := AWp PR none 86 f185_c2 (AK.block 1 (AK.andThen (fun st S => AI PR none 86 [.code f185_c1, .inLoop f185_c1] K (mask [0, 4, 5, 6, 7] st) S) (mskK [0, 4, 7] K))) (ofL [(0, t0), (4, t4), (5, t5), (7, t7), (9, t9)]) S
def f185_j2 (K : AK) (t0 t4 t5 t7 t9 : AV) (S : Store) : Prop := ATriple PR 319 [t4] S fun t36 S_1 => ATriple PR 319 [t4] S_1 fun t38 S_2 => ATriple PR 319 [t4] S_2 fun t40 S_3 => bQ (abld [iv 0, iv 0, iv 0] [(0, 1, t36), (1, 1, t38), (2, 1, t40)]) fun t41 => bQ (padd t9 1) fun t42 => thenS (stv 3 t42 t41 S_3) fun _ S_4 => ATriple PR 319 [t4] S_4 fun t44 S_5 => bQ (padd t9 4) fun t45 => bQ (padd t45 0) fun t46 => thenS (stv 1 t46 t44 S_5) fun _ S_6 => bQ (padd t9 4) fun t47 => bQ (padd t47 0) fun t48 => bQ (ldv false 1 t48 S_6) fun t49 => ATriple PR 319 [t4] S_6 fun t51 S_7 => ((ldv false 1 t48 S_7 = some t49) ∧ True) ∧ bQ (abi .add t49 t51) fun t52 => bQ (padd t9 4) fun t53 => bQ (padd t53 1) fun t54 => thenS (stv 1 t54 t52 S_7) fun _ S_8 => ATriple PR 319 [t4] S_8 fun t56 S_9 => bQ (abi .eql t56 (iv 1)) fun t57 => bQ (padd t9 7) fun t58 => thenS (stv 1 t58 t57 S_9) fun _ S_10 => ATriple PR 321 [t4, iv 200] S_10 fun t60 S_11 => bQ (padd t9 6) fun t61 => thenS (stv 1 t61 t60 S_11) fun _ S_12 => bQ (ldv true 8 t9 S_12) fun t63 => bQ (frzOf (bslR true 8 112 8 1 1 [(0, t63)])) fun t64 => bQ (padd t9 0) fun t66 => bQ (ldv false 1 t66 S_12) fun t67 => apW (some (112, 8, 80, .slice)) t7 t64 S_12 fun t65 S_13 => ((ldv false 1 t66 S_13 = some t67) ∧ True) ∧ f185_L1 K t0 t4 t5 t67 t65 S_13
theorem f185_J2_pt : f185_j2 K t0 t4 t5 t7 t9 S → f185_J2 K t0 t4 t5 t7 t9 S := fun h => pJ ((ar (ar (al (ar f185_a2))))) h
def f185_l1 (K : AK) (t0 t4 t5 t6 t7 : AV) (S : Store) : Prop := ATriple PR 320 [t4] S fun t15 S_1 => bQ (abi .eql t15 (iv 0)) fun t16 => gdQ t16 true (some t7) fun t18 => gdQ t16 true (aln .slice t18 S_1) fun t19 => gdQ t16 true (some t5) fun t20 => gdQ t16 true (abi .lss t19 t20) fun t21 => bQ (apick t16 t21 (bv false)) fun t22 => condW t22 (ATriple PR 319 [t4] S_1 fun t24 S_2 => bQ (aln .str t6 S_2) fun t28 => bQ (amin t24 t28) fun t29 => bQ (sliceS t6 none (some t29)) fun t30 => (ATriple PR 321 [t4, iv 200] S_2 fun t32 S_3 => ((sliceS t6 none (some t29) = some t30) ∧ True) ∧ bQ (abi .add t30 t32) fun t33 => bQ (abld [.lit (.string ⟨#[]⟩), iv 0, iv 0, iv 0, iv 0, iv 0, .lit (.string ⟨#[]⟩), bv false] [(0, 1, t33)]) fun t34 => newW (some (.own (.row 112 8 [[.lit (.string ⟨#[]⟩), iv 0, iv 0, iv 0, iv 0, iv 0, .lit (.string ⟨#[]⟩), bv false]]) fun u => .ptr u 0 0)) S_3 fun t9 S_4 => ((sliceS t6 none (some t29) = some t30) ∧ True) ∧ thenS (stv 8 t9 t34 S_4) fun _ S_5 => f185_J2 K t0 t4 t5 t7 t9 S_5) ∧ (newW (some (.own (.row 112 8 [[.lit (.string ⟨#[]⟩), iv 0, iv 0, iv 0, iv 0, iv 0, .lit (.string ⟨#[]⟩), bv false]]) fun u => .ptr u 0 0)) S_2 fun t9_1 S_6 => ((sliceS t6 none (some t29) = some t30) ∧ True) ∧ ATriple PR 321 [t4, iv 200] S_6 fun t32_1 S_7 => ((sliceS t6 none (some t29) = some t30) ∧ True) ∧ bQ (abi .add t30 t32_1) fun t33_1 => bQ (abld [.lit (.string ⟨#[]⟩), iv 0, iv 0, iv 0, iv 0, iv 0, .lit (.string ⟨#[]⟩), bv false] [(0, 1, t33_1)]) fun t34_1 => thenS (stv 8 t9_1 t34_1 S_7) fun _ S_8 => f185_J2 K t0 t4 t5 t7 t9_1 S_8)) (K (.exit 0) (ofL [(0, t0), (4, t4), (7, t7)]) S_1)
theorem f185_L1_pt : f185_l1 K t0 t4 t5 t6 t7 S → f185_L1 K t0 t4 t5 t6 t7 S := fun h => pL f185_a2 [0, 4, 5, 6, 7] [0, 4, 7] h
noncomputable def f185_K1 (Q : QT) : AK := (AK.block 0 (AK.andThen (fun st S => W PR none 86 f185_c3 ((ar (ar (ar (ar (ar (ar f185_a1))))))) (retK PR Tryz.f185 (dropQ Q)) st S) (retK PR Tryz.f185 (dropQ Q))))
def f185_K1_e0 (Q : QT) (t0 t4 t7 : AV) (S : Store) : Prop := ATriple PR 320 [t4] S fun t70 S_1 => bQ (abi .neq t70 (iv 0)) fun t71 => condW t71 (ATriple PR 320 [t4] S_1 fun t73 S_2 => dropQ Q (.tuple [nilS, t73]) S_2) (ATriple PR 312 [t7] S_1 fun t76 S_3 => bQ (aun .not t76) fun t77 => gdQ t77 false (some t7) fun t79 => gdE t77 false (fun K => ATriple PR 313 [t79] S_3 K) S_3 fun t80 S_4 => gdQ t77 false (some t0) fun t81 => gdE t77 false (fun K => ATriple PR 186 [t80, t81] S_4 K) S_4 fun t82 S_5 => gdQ t77 false (aun .not t82) fun t83 => bQ (apick t77 (bv true) t83) fun t84 => condW t84 (dropQ Q (.tuple [nilS, iv 2]) S_5) (dropQ Q (.tuple [t7, iv 0]) S_5))
theorem f185_K1_e0_pt : f185_K1_e0 Q t0 t4 t7 S → f185_K1 Q (.exit 0) (ofL [(0, t0), (4, t4), (7, t7)]) S := castP (by kernel_rfl)
def f185_s (t0 : AV) (S : Store) (Q : QT) : Prop := ATriple PR 318 [t0] S fun t11 S_1 => ATriple PR 319 [t11] S_1 fun t13 S_2 => f185_L1 (f185_K1 Q) t0 t11 t13 (.lit (.string ⟨#[]⟩)) nilS S_2
theorem f185_ok : f185_s t0 S Q → ATriple PR 185 [t0] S Q := fun h => pF (fn := Tryz.f185) f185_a1 h
attribute [irreducible] f185_L1 f185_J2 f185_K1
noncomputable def f176_a1 : Ann := .two (rg 1 0 0) (.two (rg 1 1 0) (.two (.two (rg 2 2 0) (.one (.loop [3, 6]))) (.two (rg 2 0 0) (.nil))))
noncomputable def f176_c1 : Code := (cl (cl (cr (cl (cr (cr (bodyOf Tryz.f176)))))))
noncomputable def f176_c2 : Code := (cr (cl (cr (cl (cr (cr (bodyOf Tryz.f176)))))))
noncomputable def f176_a2 : Ann := rg 1 0 0
noncomputable def f176_a3 : Ann := .one (.reg [0, 0, 2, 6, 15, 31] (pq 0 2 <| .e 2 [(0, false)] <| .q 3 true <| .e 4 [] <| .e 5 [] <| .done))
noncomputable def f176_c3 : Code := (cr (cr (cr (bodyOf Tryz.f176))))
def f176_R1 (K : AK) (t3 t6 : AV) (S : Store) : Prop := AWp PR none 14 (.rangeFunc (.tmp 6) #[7] f176_c1 f176_c2) K (ofL [(3, t3), (6, t6)]) S
noncomputable def f176_rec1 (t3 t6 : AV) (fn : FuncId) (D : Nat) (s : LoopState) (q : Option Code) : AObj := .lrec s q (ofL [(3, t3), (6, t6)]) 14 fn #[7] f176_c1 f176_c2 D
theorem f176_R1_pt {K : AK} {t3 t6 : AV} {S : Store} {f : FuncId} {cap : List AV} (hg : t6 = .func (.func f) [] cap) (hb : hasBody PR f = true)
    (h : ∀ t fn D, S t = none → ATriple PR f (.yield t :: cap) (S.set t (f176_rec1 t3 t6 fn D .ready none)) fun _ S' => ∃ state pend, S' t = some (f176_rec1 t3 t6 fn D state pend) ∧ state ≠ .busy ∧ endK (mskK [3] K) pend (ofL [(3, t3), (6, t6)]) (S'.erase t)) : f176_R1 K t3 t6 S :=
  AI.mskK (AWp_range PR_nong rfl (by simpa [aev, ofL] using hg) hb h)
theorem f176_Y1_pt {t : Nat} {x : AV} {K : QT} {fn : FuncId} {D : Nat} {t3 t6 : AV} {S : Store} (hS : S t = some (f176_rec1 t3 t6 fn D .ready none)) (h : ∀ l, AWp PR (some l) 14 f176_c1 (asgK PR l 14 f176_c2 t (f176_rec1 t3 t6 fn D) K) (ofL ((7, x) :: [(3, t3), (6, t6)])) S) : callW PR (.yield t) [x] S K := yield_pt hS h
def f176_as1 (l : Nat) (K : AK) (t7 t3 t6 : AV) (S : Store) : Prop := K .normal (ofL [(3, t3), (4, t7)]) S
theorem f176_as1_pt {l : Nat} {K : AK} {t7 t3 t6 : AV} {S : Store} (h : f176_as1 l K t7 t3 t6 S) : AWp PR (some l) 14 f176_c1 K (ofL [(7, t7), (3, t3), (6, t6)]) S := by
  refine AI.mskK (ml := [3, 4]) (W_ok PR_nong PR_mixed f176_c1 f176_a2 _ _ _ (by kernel_rfl) ?_)
  rw [show f176_as1 l K t7 t3 t6 S = W PR (some l) 14 f176_c1 f176_a2 (mskK [3, 4] K) (ofL [(7, t7), (3, t3), (6, t6)]) S by kernel_rfl] at h
  assumption
def f176_bo1 (l : Nat) (K : AK) (t3 t4 : AV) (S : Store) : Prop := bQ (ldv false 1 t3 S) fun t8 => ATriple PR 230 [t4] S fun t10 S_1 => ((ldv false 1 t3 S_1 = some t8) ∧ True) ∧ bQ (frzOf (bslR true 1 22 1 1 1 [(0, t10)])) fun t11 => apW (some (22, 1, 24, .slice)) t8 t11 S_1 fun t12 S_2 => thenS (stv 1 t3 t12 S_2) fun _ S_3 => K .normal (ofL []) S_3
theorem f176_bo1_pt {l : Nat} {K : AK} {t3 t4 : AV} {S : Store} (h : f176_bo1 l K t3 t4 S) : AWp PR (some l) 14 f176_c2 K (ofL [(3, t3), (4, t4)]) S := by
  refine AI.mskK (ml := []) (W_ok PR_nong PR_mixed f176_c2 f176_a3 _ _ _ (by kernel_rfl) ?_)
  rw [show f176_bo1 l K t3 t4 S = W PR (some l) 14 f176_c2 f176_a3 (mskK [] K) (ofL [(3, t3), (4, t4)]) S by kernel_rfl] at h
  assumption
noncomputable def f176_K1 (Q : QT) : AK := (AK.block 0 (AK.andThen (fun st S => W PR none 14 f176_c3 ((ar (ar (ar f176_a1)))) (retK PR Tryz.f176 (dropQ Q)) st S) (retK PR Tryz.f176 (dropQ Q))))
def f176_K1_normal (Q : QT) (t3 : AV) (S : Store) : Prop := bQ (ldv false 1 t3 S) fun t13 => dropQ Q t13 S
theorem f176_K1_normal_pt : f176_K1_normal Q t3 S → f176_K1 Q .normal (ofL [(3, t3)]) S := castP (by kernel_rfl)
def f176_s (t0 : AV) (S : Store) (Q : QT) : Prop := newW (some (.own (.row 258 1 [[nilS]]) fun u => .ptr u 0 0)) S fun t3 S_1 => ATriple PR 310 [t0, iv 8] S_1 fun t6 S_2 => f176_R1 (f176_K1 Q) t3 t6 S_2
theorem f176_ok : f176_s t0 S Q → ATriple PR 176 [t0] S Q := fun h => pF (fn := Tryz.f176) f176_a1 h
attribute [irreducible] f176_R1 f176_rec1 f176_K1
def f178_s (t0 : AV) (S : Store) (Q : QT) : Prop := ATriple PR 312 [t0] S fun t5 S_1 => bQ (aun .not t5) fun t6 => condW t6 (dropQ Q (.tuple [nilS, iv 1]) S_1) (ATriple PR 313 [t0] S_1 fun t8 S_2 => dropQ Q (.tuple [t8, iv 0]) S_2)
theorem f178_ok : f178_s t0 S Q → ATriple PR 178 [t0] S Q := fun h => pF (fn := Tryz.f178) (.two (rg 2 0 0) (.two (.two (rg 3 2 0) (.two (.two (rg 2 0 0) (.nil)) (.nil))) (.two (rg 4 2 0) (.nil)))) h
noncomputable def f175_a1 : Ann := .two (rg 1 0 0) (.two (.two (rg 3 0 0) (.one (.loop [0, 5, 6, 7]))) (.two (rg 1 0 0) (.nil)))
noncomputable def f175_c1 : Code := (cl (cl (cr (cl (cr (bodyOf Tryz.f175))))))
noncomputable def f175_c2 : Code := (cr (cr (bodyOf Tryz.f175)))
def f175_L1 (K : AK) (t0 t5 t6 t7 : AV) (S : Store) : Prop := AI PR none 30 [.code f175_c1, .inLoop f175_c1] K (ofL [(0, t0), (5, t5), (6, t6), (7, t7)]) S
def f175_l1 (K : AK) (t0 t5 t6 t7 : AV) (S : Store) : Prop := bQ (abi .lss t7 t6) fun t8 => condW t8 (bQ (ixA 8 t5 t7 S) fun t10 => bQ (ldv true 8 t10 S) fun t11 => newW (some (.own (.row 112 8 [[.lit (.string ⟨#[]⟩), iv 0, iv 0, iv 0, iv 0, iv 0, .lit (.string ⟨#[]⟩), bv false]]) fun u => .ptr u 0 0)) S fun t4 S_1 => thenS (stv 8 t4 t11 S_1) fun _ S_2 => bQ (ldv true 8 t4 S_2) fun t12 => ATriple PR 234 [t12] S_2 fun t13 S_3 => bQ (aun .not t13) fun t14 => gdQ t14 false (some t7) fun t16 => gdQ t14 false (abi .gtr t16 (iv 0)) fun t17 => gdQ t14 false (some t17) fun t18 => gdQ t18 true (some t0) fun t19 => gdQ t18 true (some t7) fun t20 => gdQ t18 true (abi .sub t20 (iv 1)) fun t21 => gdQ t18 true (ixA 8 t19 t21 S_3) fun t22 => gdQ t18 true (ldv true 8 t22 S_3) fun t23 => gdQ t18 true (ldv true 8 t4 S_3) fun t24 => gdE t18 true (fun K => ATriple PR 206 [t23, t24] S_3 K) S_3 fun t25 S_4 => gdQ t18 true (abi .geq t25 (iv 0)) fun t26 => gdQ t14 false (apick t18 t26 (bv false)) fun t27 => bQ (apick t14 (bv true) t27) fun t28 => condW t28 (K .ret (ofL [(2, bv false)]) S_4) (bQ (abi .add t7 (iv 1)) fun t29 => f175_L1 K t0 t5 t6 t29 S_4)) (K (.exit 0) (ofL [(2, .poison)]) S)
theorem f175_L1_pt : f175_l1 K t0 t5 t6 t7 S → f175_L1 K t0 t5 t6 t7 S := fun h => pL (.two (rg 1 0 0) (.two (.two (.nil) (.nil)) (.two (.one (.two (rg 6 40 0) (.two (.reg [0, 1, 3, 7, 15, 31, 63, 127, 127, 383, 1023, 2047, 127, 8191, 16383, 32767, 65535] (.q 0 false <| .e 1 [] <| pq 2 11 <| .e 13 [] <| pq 14 3 <| .done)) (.two (.two (rg 1 0 0) (.nil)) (.nil))))) (rg 2 0 0)))) [0, 5, 6, 7] [2] h
noncomputable def f175_K1 (Q : QT) : AK := (AK.block 0 (AK.andThen (fun st S => W PR none 30 f175_c2 ((ar (ar f175_a1))) (retK PR Tryz.f175 (dropQ Q)) st S) (retK PR Tryz.f175 (dropQ Q))))
def f175_K1_e0 (Q : QT) (t2 : AV) (S : Store) : Prop := dropQ Q (bv true) S
theorem f175_K1_e0_pt : f175_K1_e0 Q t2 S → f175_K1 Q (.exit 0) (ofL [(2, t2)]) S := castP (by kernel_rfl)
def f175_s (t0 : AV) (S : Store) (Q : QT) : Prop := bQ (aln .slice t0 S) fun t6 => f175_L1 (f175_K1 Q) t0 t0 t6 (iv 0) S
theorem f175_ok : f175_s t0 S Q → ATriple PR 175 [t0] S Q := fun h => pF (fn := Tryz.f175) f175_a1 h
attribute [irreducible] f175_L1 f175_K1
noncomputable def f64_a1 : Ann := .two (rg 2 0 0) (.two (.one (.two (rg 4 2 0) (.two (.two (rg 2 0 0) (.nil)) (.two (rg 4 0 0) (.two (.two (rg 2 0 0) (.nil)) (.nil)))))) (.two (rg 2 0 0) (.two (rg 3 2 0) (.two (rg 5 8 4) (.two (.two (rg 3 0 0) (.one (.loop [0, 4, 5, 6, 26, 27, 28]))) (.two (rg 9 128 64) (.two (rg 8 48 8) (.nil))))))))
noncomputable def f64_c1 : Code := (cl (cl (cr (cl (cr (cr (cr (cr (cr (bodyOf Tryz.f64))))))))))
noncomputable def f64_c2 : Code := (cr (cr (cr (cr (cr (cr (bodyOf Tryz.f64)))))))
def f64_L1 (K : AK) (t0 t4 t5 t6 t26 t27 t28 : AV) (S : Store) : Prop := AI PR none 64 [.code f64_c1, .inLoop f64_c1] K (ofL [(0, t0), (4, t4), (5, t5), (6, t6), (26, t26), (27, t27), (28, t28)]) S
def f64_l1 (K : AK) (t0 t4 t5 t6 t26 t27 t28 : AV) (S : Store) : Prop := bQ (abi .lss t28 t27) fun t29 => condW t29 (bQ (ixA 1 t26 t28 S) fun t30 => bQ (ldv false 1 t30 S) fun t31 => ATriple PR 178 [t31] S fun t34 S_1 => bQ (aext t34 0) fun t35 => bQ (aext t34 1) fun t36 => bQ (frzOf (bslR true 1 129 1 1 1 [(0, t35)])) fun t39 => ATriple PR 179 [t39] S_1 fun t40 S_2 => apW (some (5, 1, 1, .slice)) t4 t40 S_2 fun t41 S_3 => bQ (ixA 8 t31 (iv 0) S_3) fun t44 => bQ (padd t44 0) fun t45 => bQ (ldv false 1 t45 S_3) fun t46 => bQ (frzOf (bslR true 1 9 1 1 1 [(0, t46)])) fun t47 => ATriple PR 180 [t5, t47] S_3 fun t48 S_4 => bQ (abi .add t28 (iv 1)) fun t49 => f64_L1 K t0 t41 t48 t6 t26 t27 t49 S_4) (K (.exit 1) (ofL [(0, t0), (4, t4), (5, t5), (6, t6)]) S)
theorem f64_L1_pt : f64_l1 K t0 t4 t5 t6 t26 t27 t28 S → f64_L1 K t0 t4 t5 t6 t26 t27 t28 S := fun h => pL (.two (rg 1 0 0) (.two (.two (.nil) (.nil)) (.two (.one (.two (rg 3 0 0) (.two (rg 7 2 0) (.two (rg 6 24 4) (rg 8 64 32))))) (rg 2 0 0)))) [0, 4, 5, 6, 26, 27, 28] [0, 4, 5, 6] h
noncomputable def f64_K1 (Q : QT) : AK := (AK.block 1 (AK.andThen (fun st S => W PR none 64 f64_c2 ((ar (ar (ar (ar (ar (ar f64_a1))))))) (retK PR Tryz.f64 (dropQ Q)) st S) (retK PR Tryz.f64 (dropQ Q))))
def f64_K1_e1 (Q : QT) (t0 t4 t5 t6 : AV) (S : Store) : Prop := bQ (aln .slice t0 S) fun t51 => bQ (aln .slice t6 S) fun t53 => bQ (aln .slice t4 S) fun t55 => bQ (frzOf (bslR true 1 3 1 3 3 [(0, t51), (1, t53), (2, t55)])) fun t56 => ATriple PR 177 [nilS, t56] S fun t57 S_1 => bQ (frzOf (bslR true 1 129 1 2 2 [(0, t5), (1, t57)])) fun t61 => ATriple PR 179 [t61] S_1 fun t62 S_2 => apW (some (5, 1, 1, .slice)) t4 t62 S_2 fun t63 S_3 => dropQ Q (.tuple [t63, iv 0]) S_3
theorem f64_K1_e1_pt : f64_K1_e1 Q t0 t4 t5 t6 S → f64_K1 Q (.exit 1) (ofL [(0, t0), (4, t4), (5, t5), (6, t6)]) S := castP (by kernel_rfl)
def f64_s (t0 : AV) (S : Store) (Q : QT) : Prop := ATriple PR 175 [t0] S fun t14 S_1 => bQ (aun .not t14) fun t15 => condW t15 (dropQ Q (.tuple [nilS, iv 1]) S_1) (bQ (aln .slice t0 S_1) fun t18 => bQ (abi .gtr t18 (iv 100000)) fun t19 => condW t19 (dropQ Q (.tuple [nilS, iv 5]) S_1) (ATriple PR 176 [t0] S_1 fun t21 S_2 => bQ (aln .slice t21 S_2) fun t23 => bQ (frzOf (bslR true 1 3 1 1 1 [(0, t23)])) fun t24 => ATriple PR 177 [nilS, t24] S_2 fun t25 S_3 => bQ (aln .slice t21 S_3) fun t27 => f64_L1 (f64_K1 Q) t0 nilS t25 t21 t21 t27 (iv 0) S_3))
theorem f64_ok : f64_s t0 S Q → ATriple PR 64 [t0] S Q := fun h => pF (fn := Tryz.f64) f64_a1 h
attribute [irreducible] f64_L1 f64_K1
noncomputable def f69_a1 : Ann := .two (rg 2 0 0) (.two (rg 7 2 0) (.two (.two (rg 9 0 0) (.two (.two (rg 2 0 0) (.nil)) (.nil))) (.two (rg 8 64 0) (.two (rg 1 0 0) (.two (.two (rg 6 0 0) (.one (.loop [0, 6, 7, 38, 39, 40]))) (.two (.two (rg 7 2 0) (.two (rg 8 32 0) (.two (.two (rg 2 0 0) (.nil)) (.nil)))) (.two (rg 6 32 0) (.two (rg 3 0 0) (.nil)))))))))
noncomputable def f69_c1 : Code := (cl (cl (cr (cl (cr (cr (cr (cr (cr (bodyOf Tryz.f69))))))))))
noncomputable def f69_c2 : Code := (cr (cr (cr (cr (cr (cr (bodyOf Tryz.f69)))))))
def f69_L1 (K : AK) (t0 t6 t7 t38 t39 t40 : AV) (S : Store) : Prop := AI PR none 87 [.code f69_c1, .inLoop f69_c1] K (ofL [(0, t0), (6, t6), (7, t7), (38, t38), (39, t39), (40, t40)]) S
def f69_l1 (K : AK) (t0 t6 t7 t38 t39 t40 : AV) (S : Store) : Prop := bQ (abi .lss t40 t39) fun t41 => condW t41 (bQ (ixA 1 t38 t40 S) fun t42 => bQ (ldv false 1 t42 S) fun t43 => ATriple PR 185 [t43] S fun t46 S_1 => bQ (aext t46 0) fun t47 => bQ (aext t46 1) fun t48 => bQ (abi .neq t48 (iv 0)) fun t50 => condW t50 (K .ret (ofL [(0, t0), (2, .lit (.pointer none)), (3, iv 10), (6, t6), (7, t7)]) S_1) (apW (some (112, 8, 80, .slice)) t7 t47 S_1 fun t53 S_2 => bQ (anil t6) fun t56 => bQ (padd t56 1) fun t57 => bQ (ldv false 1 t57 S_2) fun t58 => bQ (ixA 8 t47 (iv 0) S_2) fun t60 => bQ (padd t60 0) fun t61 => bQ (ldv false 1 t61 S_2) fun t62 => bQ (frzOf (bslR true 1 9 1 1 1 [(0, t62)])) fun t63 => apW (some (9, 1, 16, .slice)) t58 t63 S_2 fun t64 S_3 => bQ (anil t6) fun t65 => bQ (padd t65 1) fun t66 => thenS (stv 1 t66 t64 S_3) fun _ S_4 => bQ (abi .add t40 (iv 1)) fun t67 => f69_L1 K t0 t6 t53 t38 t39 t67 S_4)) (K (.exit 0) (ofL [(0, t0), (2, .poison), (3, .poison), (6, t6), (7, t7)]) S)
theorem f69_L1_pt : f69_l1 K t0 t6 t7 t38 t39 t40 S → f69_L1 K t0 t6 t7 t38 t39 t40 S := fun h => pL (.two (rg 1 0 0) (.two (.two (.nil) (.nil)) (.two (.one (.two (rg 3 0 0) (.two (rg 7 2 0) (.two (.two (rg 2 0 0) (.two (.two (rg 2 0 0) (.nil)) (.nil))) (.two (rg 4 4 0) (.reg [0, 0, 2, 6, 14, 0, 32, 96, 224, 480, 1022, 2047, 4095, 8191] (pq 0 9 <| .q 9 true <| .e 10 [] <| pq 11 2 <| .e 13 [] <| .done))))))) (rg 2 0 0)))) [0, 6, 7, 38, 39, 40] [0, 2, 3, 6, 7] h
noncomputable def f69_K1 (Q : QT) : AK := (AK.block 0 (AK.andThen (fun st S => W PR none 87 f69_c2 ((ar (ar (ar (ar (ar (ar f69_a1))))))) (retK PR Tryz.f69 (dropQ Q)) st S) (retK PR Tryz.f69 (dropQ Q))))
def f69_K1_e0 (Q : QT) (t0 t2 t3 t6 t7 : AV) (S : Store) : Prop := ATriple PR 64 [t7] S fun t70 S_1 => bQ (aext t70 0) fun t71 => bQ (aext t70 1) fun t72 => bQ (abi .neq t72 (iv 0)) fun t74 => gdQ t74 false (some t71) fun t76 => gdQ t74 false (some t0) fun t77 => gdE t74 false (fun K => ATriple PR 186 [t76, t77] S_1 K) S_1 fun t78 S_2 => gdQ t74 false (aun .not t78) fun t79 => bQ (apick t74 (bv true) t79) fun t80 => condW t80 (dropQ Q (.tuple [.lit (.pointer none), iv 10]) S_2) (bQ (aln .slice t7 S_2) fun t83 => bQ (anil t6) fun t84 => bQ (padd t84 2) fun t85 => thenS (stv 1 t85 t83 S_2) fun _ S_3 => dropQ Q (.tuple [t6, iv 0]) S_3)
theorem f69_K1_e0_pt : f69_K1_e0 Q t0 t2 t3 t6 t7 S → f69_K1 Q (.exit 0) (ofL [(0, t0), (2, t2), (3, t3), (6, t6), (7, t7)]) S := castP (by kernel_rfl)
def f69_s (t0 : AV) (S : Store) (Q : QT) : Prop := ATriple PR 184 [t0] S fun t16 S_1 => bQ (aext t16 0) fun t17 => bQ (aext t16 1) fun t18 => bQ (aln .slice t0 S_1) fun t21 => bQ (abi .neq t18 t21) fun t22 => gdQ t22 false (some t17) fun t24 => gdQ t22 false (aln .slice t24 S_1) fun t25 => gdQ t22 false (abi .lss t25 (iv 2)) fun t26 => bQ (apick t22 (bv true) t26) fun t27 => condW t27 (dropQ Q (.tuple [.lit (.pointer none), iv 10]) S_1) (bQ (aln .slice t17 S_1) fun t30 => bQ (abi .sub t30 (iv 2)) fun t31 => bQ (sliceV 1 t17 none (some t31) none S_1) fun t32 => bQ (abld [nilS, nilS, iv 0] [(0, 1, t32)]) fun t33 => newW (boxR false 269 t33) S_1 fun t34 S_2 => bQ (anil t34) fun t36 => bQ (padd t36 0) fun t37 => bQ (ldv false 1 t37 S_2) fun t38 => bQ (aln .slice t38 S_2) fun t39 => f69_L1 (f69_K1 Q) t0 t34 nilS t38 t39 (iv 0) S_2)
theorem f69_ok : f69_s t0 S Q → ATriple PR 69 [t0] S Q := fun h => pF (fn := Tryz.f69) f69_a1 h
attribute [irreducible] f69_L1 f69_K1
noncomputable def f437_c1 : Code := (cl (cl (cr (cr (bodyOf Tryz.f437)))))
def f437_L1 (K : AK) (t0 t1 t6 : AV) (S : Store) : Prop := AI PR none 45 [.code f437_c1, .inLoop f437_c1] K (ofL [(0, t0), (1, t1), (6, t6)]) S
def f437_l1 (K : AK) (t0 t1 t6 : AV) (S : Store) : Prop := bQ (ldv false 1 t1 S) fun t22 => bQ (anil t22) fun t23 => bQ (padd t23 0) fun t24 => bQ (ldv false 1 t24 S) fun t25 => bQ (aln .slice t25 S) fun t26 => bQ (abi .lss t6 t26) fun t27 => condW t27 (bQ (ldv false 1 t1 S) fun t31 => bQ (anil t31) fun t32 => bQ (padd t32 0) fun t33 => bQ (ldv false 1 t33 S) fun t34 => bQ (ixA 1 t34 t6 S) fun t36 => bQ (ldv false 1 t36 S) fun t37 => ATriple PR 185 [t37] S fun t38 S_1 => bQ (aext t38 0) fun t39 => bQ (aext t38 1) fun t40 => callW PR t0 [t39] S_1 fun t43 S_2 => bQ (aun .not t43) fun t44 => condW t44 (K .ret (ofL []) S_2) (bQ (abi .add t6 (iv 1)) fun t29 => f437_L1 K t0 t1 t29 S_2)) (K (.exit 0) (ofL []) S)
theorem f437_L1_pt : f437_l1 K t0 t1 t6 S → f437_L1 K t0 t1 t6 S := fun h => pL (.two (.two (rg 7 0 0) (.two (.nil) (.nil))) (.two (.one (.two (rg 13 128 0) (.two (rg 4 4 0) (.two (.nil) (.nil))))) (rg 3 0 0))) [0, 1, 6] [] h
noncomputable def f437_K1 (Q : QT) : AK := (AK.block 0 (retK PR Tryz.f437 (dropQ Q)))
def f437_K1_e0 (Q : QT) (S : Store) : Prop := dropQ Q (.tuple []) S
theorem f437_K1_e0_pt : f437_K1_e0 Q S → f437_K1 Q (.exit 0) (ofL []) S := castP (by kernel_rfl)
def f437_K1_ret (Q : QT) (S : Store) : Prop := dropQ Q (.tuple []) S
theorem f437_K1_ret_pt : f437_K1_ret Q S → f437_K1 Q .ret (ofL []) S := castP (by kernel_rfl)
def f437_s (t0 t1 t2 : AV) (S : Store) (Q : QT) : Prop := bQ (ldv false 1 t1 S) fun t10 => bQ (anil t10) fun t11 => bQ (padd t11 1) fun t12 => bQ (ldv false 1 t12 S) fun t13 => bQ (ldv false 1 t2 S) fun t14 => ATriple PR 438 [t13, t14] S fun t15 S_1 => bQ (aext t15 0) fun t16 => bQ (aext t15 1) fun t17 => bQ (abi .sub t16 (iv 1)) fun t19 => bQ (amax t19 (iv 0)) fun t20 => f437_L1 (f437_K1 Q) t0 t1 t20 S_1
theorem f437_ok : f437_s t0 t1 t2 S Q → ATriple PR 437 [t0, t1, t2] S Q := fun h => pF (fn := Tryz.f437) (.two (.reg [0, 1, 3, 7, 0, 31, 63, 127, 127, 255, 1023] (pq 0 5 <| .e 5 [] <| pq 6 5 <| .done)) (.two (rg 4 0 0) (.one (.loop [0, 1, 6])))) h
attribute [irreducible] f437_L1 f437_K1
def f351_s (t0 t1 : AV) (S : Store) (Q : QT) : Prop := bQ (frzOf (boxR true 140 t0)) fun t2 => bQ (frzOf (boxR true 9 t1)) fun t3 => dropQ Q (.func (.func 437) [] [t2, t3]) S
theorem f351_ok : f351_s t0 t1 S Q → ATriple PR 351 [t0, t1] S Q := fun h => pF (fn := Tryz.f351) (.two (rg 3 0 3) (.two (rg 2 0 0) (.nil))) h
noncomputable def f208_a1 : Ann := .two (rg 4 8 7) (.two (rg 1 1 0) (.two (.two (rg 3 4 0) (.one (.loop [5, 6, 7, 8, 9, 15]))) (.two (rg 2 2 0) (.nil))))
noncomputable def f208_c1 : Code := (cl (cl (cr (cl (cr (cr (bodyOf Tryz.f208)))))))
noncomputable def f208_c2 : Code := (cr (cl (cr (cl (cr (cr (bodyOf Tryz.f208)))))))
noncomputable def f208_a2 : Ann := rg 1 0 0
noncomputable def f208_a3 : Ann := .one (.two (rg 3 0 0) (.one (.loop [5, 6, 7, 8, 9, 17, 18, 19])))
noncomputable def f208_c3 : Code := (cl (cl (cr (cl (cr (cl (cr (cl (cr (cr (bodyOf Tryz.f208)))))))))))
noncomputable def f208_c4 : Code := (cr (cr (cr (bodyOf Tryz.f208))))
def f208_R1 (K : AK) (t5 t6 t7 t8 t9 t15 : AV) (S : Store) : Prop := AWp PR none 43 (.rangeFunc (.tmp 15) #[16] f208_c1 f208_c2) K (ofL [(5, t5), (6, t6), (7, t7), (8, t8), (9, t9), (15, t15)]) S
noncomputable def f208_rec1 (t5 t6 t7 t8 t9 t15 : AV) (fn : FuncId) (D : Nat) (s : LoopState) (q : Option Code) : AObj := .lrec s q (ofL [(5, t5), (6, t6), (7, t7), (8, t8), (9, t9), (15, t15)]) 43 fn #[16] f208_c1 f208_c2 D
theorem f208_R1_pt {K : AK} {t5 t6 t7 t8 t9 t15 : AV} {S : Store} {f : FuncId} {cap : List AV} (hg : t15 = .func (.func f) [] cap) (hb : hasBody PR f = true)
    (h : ∀ t fn D, S t = none → ATriple PR f (.yield t :: cap) (S.set t (f208_rec1 t5 t6 t7 t8 t9 t15 fn D .ready none)) fun _ S' => ∃ state pend, S' t = some (f208_rec1 t5 t6 t7 t8 t9 t15 fn D state pend) ∧ state ≠ .busy ∧ endK (mskK [8, 9] K) pend (ofL [(5, t5), (6, t6), (7, t7), (8, t8), (9, t9), (15, t15)]) (S'.erase t)) : f208_R1 K t5 t6 t7 t8 t9 t15 S :=
  AI.mskK (AWp_range PR_nong rfl (by simpa [aev, ofL] using hg) hb h)
theorem f208_Y1_pt {t : Nat} {x : AV} {K : QT} {fn : FuncId} {D : Nat} {t5 t6 t7 t8 t9 t15 : AV} {S : Store} (hS : S t = some (f208_rec1 t5 t6 t7 t8 t9 t15 fn D .ready none)) (h : ∀ l, AWp PR (some l) 43 f208_c1 (asgK PR l 43 f208_c2 t (f208_rec1 t5 t6 t7 t8 t9 t15 fn D) K) (ofL ((16, x) :: [(5, t5), (6, t6), (7, t7), (8, t8), (9, t9), (15, t15)])) S) : callW PR (.yield t) [x] S K := yield_pt hS h
def f208_as1 (l : Nat) (K : AK) (t16 t5 t6 t7 t8 t9 t15 : AV) (S : Store) : Prop := K .normal (ofL [(5, t5), (6, t6), (7, t7), (8, t8), (9, t9), (10, t16)]) S
theorem f208_as1_pt {l : Nat} {K : AK} {t16 t5 t6 t7 t8 t9 t15 : AV} {S : Store} (h : f208_as1 l K t16 t5 t6 t7 t8 t9 t15 S) : AWp PR (some l) 43 f208_c1 K (ofL [(16, t16), (5, t5), (6, t6), (7, t7), (8, t8), (9, t9), (15, t15)]) S := by
  refine AI.mskK (ml := [5, 6, 7, 8, 9, 10]) (W_ok PR_nong PR_mixed f208_c1 f208_a2 _ _ _ (by kernel_rfl) ?_)
  rw [show f208_as1 l K t16 t5 t6 t7 t8 t9 t15 S = W PR (some l) 43 f208_c1 f208_a2 (mskK [5, 6, 7, 8, 9, 10] K) (ofL [(16, t16), (5, t5), (6, t6), (7, t7), (8, t8), (9, t9), (15, t15)]) S by kernel_rfl] at h
  assumption
def f208_L2 (l : Nat) (K : AK) (t5 t6 t7 t8 t9 t17 t18 t19 : AV) (S : Store) : Prop := AI PR (some l) 43 [.code f208_c3, .inLoop f208_c3] K (ofL [(5, t5), (6, t6), (7, t7), (8, t8), (9, t9), (17, t17), (18, t18), (19, t19)]) S
def f208_l2 (l : Nat) (K : AK) (t5 t6 t7 t8 t9 t17 t18 t19 : AV) (S : Store) : Prop := bQ (abi .lss t19 t18) fun t20 => condW t20 (bQ (ixA 8 t17 t19 S) fun t21 => bQ (ldv true 8 t21 S) fun t22 => newW (some (.own (.row 112 8 [[.lit (.string ⟨#[]⟩), iv 0, iv 0, iv 0, iv 0, iv 0, .lit (.string ⟨#[]⟩), bv false]]) fun u => .ptr u 0 0)) S fun t12 S_1 => thenS (stv 8 t12 t22 S_1) fun _ S_2 => bQ (ldv false 1 t6 S_2) fun t23 => bQ (padd t12 0) fun t24 => bQ (ldv false 1 t24 S_2) fun t25 => callW PR t23 [t25] S_2 fun t26 S_3 => condW t26 (bQ (ldv false 1 t9 S_3) fun t27 => thenS (stv 1 t8 t27 S_3) fun _ S_4 => K .ret (ofL [(8, t8)]) S_4) (bQ (padd t12 0) fun t28 => bQ (ldv false 1 t28 S_3) fun t29 => bQ (ldv false 1 t5 S_3) fun t30 => bQ (abi .geq t29 t30) fun t31 => gdQ t31 true (ldv false 1 t7 S_3) fun t33 => gdQ t31 true (ldv true 8 t12 S_3) fun t34 => gdE t31 true (fun K => callW PR t33 [t34] S_3 K) S_3 fun t35 S_5 => bQ (apick t31 t35 (bv false)) fun t36 => condW t36 (bQ (ldv false 1 t9 S_5) fun t37 => bQ (ldv true 8 t12 S_5) fun t38 => bQ (frzOf (bslR true 8 112 8 1 1 [(0, t38)])) fun t39 => apW (some (112, 8, 80, .slice)) t37 t39 S_5 fun t40 S_6 => thenS (stv 1 t9 t40 S_6) fun _ S_7 => bQ (abi .add t19 (iv 1)) fun t41 => f208_L2 l K t5 t6 t7 t8 t9 t17 t18 t41 S_7) (bQ (abi .add t19 (iv 1)) fun t41_1 => f208_L2 l K t5 t6 t7 t8 t9 t17 t18 t41_1 S_5))) (K (.exit 2) (ofL [(8, t8)]) S)
theorem f208_L2_pt {l : Nat} : f208_l2 l K t5 t6 t7 t8 t9 t17 t18 t19 S → f208_L2 l K t5 t6 t7 t8 t9 t17 t18 t19 S := fun h => pL (.two (rg 1 0 0) (.two (.two (.nil) (.nil)) (.two (.one (.two (rg 4 12 0) (.two (.two (rg 4 8 0) (.two (.two (rg 2 2 0) (.nil)) (.nil))) (.two (rg 9 128 0) (.two (rg 5 24 4) (.nil)))))) (rg 2 0 0)))) [5, 6, 7, 8, 9, 17, 18, 19] [8] h
noncomputable def f208_K1 (l : Nat) (K : AK) : AK := (AK.block 2 (AK.block 1 (mskK [] K)))
def f208_K1_e2 (l : Nat) (K : AK) (t8 : AV) (S : Store) : Prop := K .normal (ofL []) S
theorem f208_K1_e2_pt {l : Nat} : f208_K1_e2 l K t8 S → f208_K1 l K (.exit 2) (ofL [(8, t8)]) S := castP (by kernel_rfl)
def f208_K1_ret (l : Nat) (K : AK) (t8 : AV) (S : Store) : Prop := K .ret (ofL []) S
theorem f208_K1_ret_pt {l : Nat} : f208_K1_ret l K t8 S → f208_K1 l K .ret (ofL [(8, t8)]) S := castP (by kernel_rfl)
def f208_bo1 (l : Nat) (K : AK) (t5 t6 t7 t8 t9 t10 : AV) (S : Store) : Prop := bQ (aln .slice t10 S) fun t18 => f208_L2 l (f208_K1 l K) t5 t6 t7 t8 t9 t10 t18 (iv 0) S
theorem f208_bo1_pt {l : Nat} {K : AK} {t5 t6 t7 t8 t9 t10 : AV} {S : Store} (h : f208_bo1 l K t5 t6 t7 t8 t9 t10 S) : AWp PR (some l) 43 f208_c2 K (ofL [(5, t5), (6, t6), (7, t7), (8, t8), (9, t9), (10, t10)]) S := by
  refine AI.mskK (ml := []) (W_ok PR_nong PR_mixed f208_c2 f208_a3 _ _ _ (by kernel_rfl) ?_)
  rw [show f208_bo1 l K t5 t6 t7 t8 t9 t10 S = W PR (some l) 43 f208_c2 f208_a3 (mskK [] K) (ofL [(5, t5), (6, t6), (7, t7), (8, t8), (9, t9), (10, t10)]) S by kernel_rfl] at h
  assumption
noncomputable def f208_K2 (Q : QT) : AK := (AK.block 0 (AK.andThen (fun st S => W PR none 43 f208_c4 ((ar (ar (ar f208_a1)))) (retK PR Tryz.f208 (dropQ Q)) st S) (retK PR Tryz.f208 (dropQ Q))))
def f208_K2_normal (Q : QT) (t8 t9 : AV) (S : Store) : Prop := bQ (ldv false 1 t9 S) fun t42 => thenS (stv 1 t8 t42 S) fun _ S_1 => retW (resC (ldv false 1 t8 S_1) (some [])) (dropQ Q) S_1
theorem f208_K2_normal_pt : f208_K2_normal Q t8 t9 S → f208_K2 Q .normal (ofL [(8, t8), (9, t9)]) S := castP (by kernel_rfl)
def f208_K2_ret (Q : QT) (t8 t9 : AV) (S : Store) : Prop := retW (resC (ldv false 1 t8 S) (some [])) (dropQ Q) S
theorem f208_K2_ret_pt : f208_K2_ret Q t8 t9 S → f208_K2 Q .ret (ofL [(8, t8), (9, t9)]) S := castP (by kernel_rfl)
def f208_s (t0 t1 t2 t3 : AV) (S : Store) (Q : QT) : Prop := bQ (frzOf (boxR true 9 t1)) fun t5 => bQ (frzOf (boxR true 182 t2)) fun t6 => bQ (frzOf (boxR true 158 t3)) fun t7 => newW (some (.own (.row 22 1 [[nilS]]) fun u => .ptr u 0 0)) S fun t8 S_1 => newW (some (.own (.row 22 1 [[nilS]]) fun u => .ptr u 0 0)) S_1 fun t9 S_2 => bQ (ldv false 1 t5 S_2) fun t14 => ATriple PR 351 [t0, t14] S_2 fun t15 S_3 => f208_R1 (f208_K2 Q) t5 t6 t7 t8 t9 t15 S_3
theorem f208_ok : f208_s t0 t1 t2 t3 S Q → ATriple PR 208 [t0, t1, t2, t3] S Q := fun h => pF (fn := Tryz.f208) f208_a1 h
attribute [irreducible] f208_R1 f208_rec1 f208_L2 f208_K1 f208_K2
def f352_s (t0 : AV) (S : Store) (Q : QT) : Prop := dropQ Q (bv false) S
theorem f352_ok : f352_s t0 S Q → ATriple PR 352 [t0] S Q := fun h => pF (fn := Tryz.f352) (.two (rg 1 0 0) (.two (rg 1 0 0) (.nil))) h
def f353_s (t0 : AV) (S : Store) (Q : QT) : Prop := bQ (frzOf (boxR true 112 t0)) fun t1 => dropQ Q (bv true) S
theorem f353_ok : f353_s t0 S Q → ATriple PR 353 [t0] S Q := fun h => pF (fn := Tryz.f353) (.two (rg 2 0 1) (.two (rg 1 0 0) (.nil))) h
def f214_s (t0 : AV) (S : Store) (Q : QT) : Prop := ATriple PR 208 [t0, .lit (.string ⟨#[]⟩), .func (.func 352) [] [], .func (.func 353) [] []] S fun t4 S_1 => dropQ Q t4 S_1
theorem f214_ok : f214_s t0 S Q → ATriple PR 214 [t0] S Q := fun h => pF (fn := Tryz.f214) (.two (rg 1 0 0) (.two (rg 3 2 0) (.nil))) h
def f209_s (t0 t1 : AV) (S : Store) (Q : QT) : Prop := bQ (ldv false 1 t1 S) fun t5 => bQ (abi .gtr t0 t5) fun t6 => dropQ Q t6 S
theorem f209_ok : f209_s t0 t1 S Q → ATriple PR 209 [t0, t1] S Q := fun h => pF (fn := Tryz.f209) (.two (rg 1 0 0) (.two (rg 4 0 0) (.nil))) h
def f210_s (t0 : AV) (S : Store) (Q : QT) : Prop := bQ (frzOf (boxR true 112 t0)) fun t1 => dropQ Q (bv true) S
theorem f210_ok : f210_s t0 S Q → ATriple PR 210 [t0] S Q := fun h => pF (fn := Tryz.f210) (.two (rg 2 0 1) (.two (rg 1 0 0) (.nil))) h
def f81_s (t0 t1 : AV) (S : Store) (Q : QT) : Prop := bQ (frzOf (boxR true 9 t1)) fun t3 => bQ (ldv false 1 t3 S) fun t6 => ATriple PR 208 [t0, t6, .func (.func 209) [] [t3], .func (.func 210) [] []] S fun t8 S_1 => dropQ Q t8 S_1
theorem f81_ok : f81_s t0 t1 S Q → ATriple PR 81 [t0, t1] S Q := fun h => pF (fn := Tryz.f81) (.two (rg 2 0 1) (.two (rg 5 8 0) (.nil))) h
def f211_s (t0 t1 : AV) (S : Store) (Q : QT) : Prop := bQ (ldv false 1 t1 S) fun t5 => bQ (abi .geq t0 t5) fun t6 => dropQ Q t6 S
theorem f211_ok : f211_s t0 t1 S Q → ATriple PR 211 [t0, t1] S Q := fun h => pF (fn := Tryz.f211) (.two (rg 1 0 0) (.two (rg 4 0 0) (.nil))) h
def f212_s (t0 : AV) (S : Store) (Q : QT) : Prop := bQ (frzOf (boxR true 112 t0)) fun t1 => dropQ Q (bv true) S
theorem f212_ok : f212_s t0 S Q → ATriple PR 212 [t0] S Q := fun h => pF (fn := Tryz.f212) (.two (rg 2 0 1) (.two (rg 1 0 0) (.nil))) h
def f83_s (t0 t1 t2 : AV) (S : Store) (Q : QT) : Prop := bQ (frzOf (boxR true 9 t2)) fun t5 => ATriple PR 208 [t0, t1, .func (.func 211) [] [t5], .func (.func 212) [] []] S fun t10 S_1 => dropQ Q t10 S_1
theorem f83_ok : f83_s t0 t1 t2 S Q → ATriple PR 83 [t0, t1, t2] S Q := fun h => pF (fn := Tryz.f83) (.two (rg 2 0 1) (.two (rg 5 8 0) (.nil))) h
end
end Go.Du
namespace Go.Du
open Go
attribute [local irreducible] ATriple W evP AI
theorem firstI_neg {x : Int} {l : List Int} (h : x < 0) : firstI (x :: l) < 0 := by
  simp only [firstI]; rw [if_neg (by omega)]; exact h
theorem firstI_le {x : Int} {l : List Int} (h : x ≤ 0) (hl : firstI l < 0) : firstI (x :: l) < 0 := by
  simp only [firstI]; split
  · exact hl
  · omega
theorem cmpB_lt {a b : Bs} (h : Op.bytesLess a b = true) : cmpB a b < 0 := by
  unfold cmpB; rw [if_pos h]; decide
theorem cmpB_le {a b : Bs} (h : a = b) : cmpB a b ≤ 0 := by
  unfold cmpB; split
  · decide
  · simp [h]
theorem cmpI_lt {a b : Int} (h : a < b) : cmpI a b < 0 := by unfold cmpI; rw [if_pos h]; decide
theorem cmpI_le {a b : Int} (h : a = b) : cmpI a b ≤ 0 := by unfold cmpI; rw [if_neg (by omega), if_neg (by omega)]; decide
theorem cmp_lt (a b : Ver) (h : a.less b = true) : a.cmp b < 0 := by
  unfold Ver.less at h
  unfold Ver.cmp
  split at h
  · exact firstI_neg (cmpB_lt h)
  · rename_i h1
    refine firstI_le (cmpB_le (by simpa using h1)) ?_
    split at h
    · exact firstI_neg (cmpI_lt (by simpa using h))
    · rename_i h2
      refine firstI_le (cmpI_le (by simpa using h2)) ?_
      split at h
      · exact firstI_neg (cmpI_lt (by simpa using h))
      · rename_i h3
        refine firstI_le (cmpI_le (by simpa using h3)) ?_
        split at h
        · exact firstI_neg (cmpI_lt (by simpa using h))
        · rename_i h4
          refine firstI_le (cmpI_le (by simpa using h4)) ?_
          exact firstI_neg (cmpI_lt (by simpa using h))
abbrev ver0 : List AV := [.lit (.string ⟨#[]⟩), .lit (.int .i64 0), .lit (.int .i64 0), .lit (.int .i64 0), .lit (.int .i64 0), .lit (.int .i64 0), .lit (.string ⟨#[]⟩), .lit (.bool false)]
theorem stv_ver {S : Store} {t : Nat} (v : Ver) : stv 8 (.ptr t 0 0) v.av (S.set t (.row 112 8 [ver0])) = some (S.set t (.row 112 8 [v.cs])) := stv_box rfl rfl rfl
theorem ldv_verB {S : Store} {t : Nat} (v : Ver) : ldv true 8 (.ptr t 0 0) (S.set t (.row 112 8 [v.cs])) = some v.av := ldv_box rfl
theorem f312_loop (l : List Ver) (hB : l.length ≤ 1048576) (hl : chainOk l) (K : AK) (S0 : Store) (h0 : ∀ S, Sub S0 S → K (.exit 0) (ofL [(0, vers l), (2, .poison)]) S) :
    ∀ (n i : Nat) (S : Store), n + i = l.length → Sub S0 S → f312_L1 K (vers l) (vers l) (iv l.length) (iv i) S := by
  intro n
  induction n with
  | zero =>
    intro i S hi hs
    refine f312_L1_pt ?_
    have : ¬ (i : Int) < l.length := by omega
    simp -implicitDefEqProofs [f312_l1, this]
    exact h0 S hs
  | succ n ih =>
    intro i S hi hs
    refine f312_L1_pt ?_
    have h2 : i < l.length := by omega
    have h1 : (i : Int) < l.length := by omega
    have w1 : IntKind.i64.wrap ((i : Int) + 1) = i + 1 := wrap_id (by omega) (by omega)
    have x0 := fun S => ixA_ver l i S h2
    obtain ⟨hm, hk, hle⟩ := hl i h2
    simp -implicitDefEqProofs only [f312_l1, abi_lss, bQ_some, condW_bv, h1, decide_true, if_true, x0, ldv_ver, newW_own]
    intro t ht
    rw [stv_ver, thenS_some, ldv_verB, bQ_some]
    refine f234_c _ hm _ ?_
    by_cases hz : i = 0
    · subst hz
      simp -implicitDefEqProofs [w1]
      have w3 : IntKind.i64.wrap 1 = 1 := rfl
      have := ih 1 (S.set t (.row 112 8 [(l[0]).cs])) (by omega) (hs.set (by
        cases e : S0 t with
        | none => rfl
        | some o => rw [hs t o e] at ht; cases ht))
      simpa [w3] using this
    · have hz' : (0 : Int) < i := by omega
      have hz2 : 0 < i := by omega
      have w2 : IntKind.i64.wrap ((i : Int) - 1) = ((i - 1 : Nat) : Int) := by rw [wrap_id (by omega) (by omega)]; omega
      have x1 := fun S => ixA_ver l (i - 1) S (by omega)
      have hc := cmp_lt _ _ (hle hz2)
      have hc' : ¬ 0 ≤ (l[i - 1]).cmp l[i] := by omega
      simp -implicitDefEqProofs [hz', hz2, w1, w2, x1, ldv_verB]
      refine f206_c _ _ _ ?_
      simp -implicitDefEqProofs [hc', hc]
      exact ih (i + 1) _ (by omega) (hs.set (by
        cases e : S0 t with
        | none => rfl
        | some o => rw [hs t o e] at ht; cases ht))
theorem f312_c (l : List Ver) (h1 : 1 ≤ l.length) (h8 : l.length ≤ 8) (hl : chainOk l) (S : Store) {Q : AV → Store → Prop} (h : Q (bv true) S) : ATriple PR 312 [vers l] S Q := by
  refine f312_ok ?_
  simp -implicitDefEqProofs only [f312_s, aln_svals, List.length_map, bQ_some]
  refine f312_loop l (by omega) hl _ S ?_ l.length 0 S rfl (.refl S)
  intro S' hs
  apply f312_K1_e0_pt
  have a1 : (1 : Int) ≤ l.length := by omega
  have a2 : (l.length : Int) ≤ 8 := by omega
  simp -implicitDefEqProofs [f312_K1_e0, a1, a2, h1, h8]
  exact ⟨_, S, .drop hs, h⟩
theorem f175_loop (l : List Ver) (hB : l.length ≤ 1048576) (hl : chainOk l) (K : AK) (S0 : Store) (h0 : ∀ S, Sub S0 S → K (.exit 0) (ofL [(2, .poison)]) S) :
    ∀ (n i : Nat) (S : Store), n + i = l.length → Sub S0 S → f175_L1 K (vers l) (vers l) (iv l.length) (iv i) S := by
  intro n
  induction n with
  | zero =>
    intro i S hi hs
    refine f175_L1_pt ?_
    have : ¬ (i : Int) < l.length := by omega
    simp -implicitDefEqProofs [f175_l1, this]
    exact h0 S hs
  | succ n ih =>
    intro i S hi hs
    refine f175_L1_pt ?_
    have h2 : i < l.length := by omega
    have h1 : (i : Int) < l.length := by omega
    have w1 : IntKind.i64.wrap ((i : Int) + 1) = i + 1 := wrap_id (by omega) (by omega)
    have x0 := fun S => ixA_ver l i S h2
    obtain ⟨hm, hk, hle⟩ := hl i h2
    simp -implicitDefEqProofs only [f175_l1, abi_lss, bQ_some, condW_bv, h1, decide_true, if_true, x0, ldv_ver, newW_own]
    intro t ht
    rw [stv_ver, thenS_some, ldv_verB, bQ_some]
    refine f234_c _ hm _ ?_
    by_cases hz : i = 0
    · subst hz
      simp -implicitDefEqProofs [w1]
      have w3 : IntKind.i64.wrap 1 = 1 := rfl
      have := ih 1 (S.set t (.row 112 8 [(l[0]).cs])) (by omega) (hs.set (by
        cases e : S0 t with
        | none => rfl
        | some o => rw [hs t o e] at ht; cases ht))
      simpa [w3] using this
    · have hz' : (0 : Int) < i := by omega
      have hz2 : 0 < i := by omega
      have w2 : IntKind.i64.wrap ((i : Int) - 1) = ((i - 1 : Nat) : Int) := by rw [wrap_id (by omega) (by omega)]; omega
      have x1 := fun S => ixA_ver l (i - 1) S (by omega)
      have hc := cmp_lt _ _ (hle hz2)
      have hc' : ¬ 0 ≤ (l[i - 1]).cmp l[i] := by omega
      simp -implicitDefEqProofs [hz', hz2, w1, w2, x1, ldv_verB]
      refine f206_c _ _ _ ?_
      simp -implicitDefEqProofs [hc', hc]
      exact ih (i + 1) _ (by omega) (hs.set (by
        cases e : S0 t with
        | none => rfl
        | some o => rw [hs t o e] at ht; cases ht))
theorem f175_c (l : List Ver) (hB : l.length ≤ 1048576) (hl : chainOk l) (S : Store) {Q : AV → Store → Prop} (h : Q (bv true) S) : ATriple PR 175 [vers l] S Q := by
  refine f175_ok ?_
  simp -implicitDefEqProofs only [f175_s, aln_svals, List.length_map, bQ_some]
  refine f175_loop l hB hl _ S ?_ l.length 0 S rfl (.refl S)
  intro S' hs
  apply f175_K1_e0_pt
  exact ⟨_, S, .drop hs, h⟩
def lcp : Bs → Bs → Nat
  | a :: l, b :: r => if a = b then lcp l r + 1 else 0
  | _, _ => 0
theorem lcp_le1 : ∀ a b : Bs, lcp a b ≤ a.length
  | [], _ => by simp [lcp]
  | _ :: _, [] => by simp [lcp]
  | a :: l, b :: r => by simp only [lcp]; split <;> simp [lcp_le1 l r]
theorem lcp_le2 : ∀ a b : Bs, lcp a b ≤ b.length
  | [], _ => by simp [lcp]
  | _ :: _, [] => by simp [lcp]
  | a :: l, b :: r => by simp only [lcp]; split <;> simp [lcp_le2 l r]
theorem lcp_take : ∀ a b : Bs, a.take (lcp a b) = b.take (lcp a b)
  | [], _ => by simp [lcp]
  | _ :: _, [] => by simp [lcp]
  | a :: l, b :: r => by
    simp only [lcp]
    split
    · rename_i h; simp [lcp_take l r, h]
    · simp
theorem f419_loop (a b : Bs) (hB : a.length ≤ 1099511627776) (K : AK) (S : Store) (h : K .ret (ofL [(4, iv (lcp a b))]) S) : ∀ (n i : Nat), a.length - i ≤ n → i ≤ a.length → i + lcp (a.drop i) (b.drop i) = lcp a b → f419_g1_0 K (sv a) (sv b) (iv i) S := by
  intro n
  induction n with
  | zero =>
    intro i hn hi he
    have c1 : ¬ (i : Int) < a.length := by omega
    have c2 : ¬ i < a.length := by omega
    have mn : ∃ m : Int, amin (iv a.length) (iv b.length) = some (iv m) ∧ m ≤ a.length := by
      simp only [amin]
      split
      · exact ⟨_, rfl, by omega⟩
      · exact ⟨_, rfl, by omega⟩
    obtain ⟨m, hm, hma⟩ := mn
    have c3 : ¬ (i : Int) < m := by omega
    have e : lcp (a.drop i) (b.drop i) = 0 := by rw [List.drop_of_length_le (by omega)]; simp [lcp]
    rw [e] at he
    simp at he
    subst he
    simp -implicitDefEqProofs [f419_g1_0, hm, c3]
    exact h
  | succ n ih =>
    intro i hn hi he
    by_cases hc : i < a.length ∧ i < b.length
    · obtain ⟨ha, hb⟩ := hc
      have mn : ∃ m : Int, amin (iv a.length) (iv b.length) = some (iv m) ∧ (i : Int) < m := by
        simp only [amin]
        split
        · exact ⟨_, rfl, by omega⟩
        · exact ⟨_, rfl, by omega⟩
      obtain ⟨m, hm, hma⟩ := mn
      have w1 : IntKind.i64.wrap ((i : Int) + 1) = i + 1 := wrap_id (by omega) (by omega)
      have xa := aixS_sv a i ha
      have xb := aixS_sv b i hb
      rw [List.drop_eq_getElem_cons ha, List.drop_eq_getElem_cons hb] at he
      simp only [lcp] at he
      by_cases heq : a[i] = b[i]
      · rw [if_pos heq] at he
        simp -implicitDefEqProofs [f419_g1_0, hm, hma, xa, xb, heq, w1]
        refine f419_G1_0_pt ?_
        exact ih (i + 1) (by omega) (by omega) (by omega)
      · rw [if_neg heq] at he
        have hne : ¬ (a[i].toNat : Int) = b[i].toNat := fun h => heq (UInt8.toNat_inj.1 (by omega))
        have hne2 : ¬ a[i].toNat = b[i].toNat := fun h => heq (UInt8.toNat_inj.1 h)
        simp at he
        rw [← he] at h
        simp -implicitDefEqProofs [f419_g1_0, hm, hma, xa, xb, hne, hne2, heq]
        exact h
    · have mn : ∃ m : Int, amin (iv a.length) (iv b.length) = some (iv m) ∧ ¬ (i : Int) < m := by
        simp only [amin]
        split
        · exact ⟨_, rfl, by omega⟩
        · exact ⟨_, rfl, by omega⟩
      obtain ⟨m, hm, hma⟩ := mn
      have e : lcp (a.drop i) (b.drop i) = 0 := by
        by_cases ha : i < a.length
        · rw [List.drop_of_length_le (l := b) (by omega)]
          cases a.drop i <;> simp [lcp]
        · rw [List.drop_of_length_le (by omega)]; simp [lcp]
      rw [e] at he
      simp at he
      rw [← he] at h
      simp -implicitDefEqProofs [f419_g1_0, hm, hma]
      exact h
theorem f419_c (a b : Bs) (hB : a.length ≤ 1099511627776) (S : Store) {Q : AV → Store → Prop} (h : Q (iv (lcp a b)) S) : ATriple PR 419 [sv a, sv b] S Q := by
  refine f419_ok ?_
  simp -implicitDefEqProofs only [f419_s]
  refine f419_L1_pt ?_
  refine f419_loop a b hB _ S ?_ a.length 0 (by omega) (by omega) (by simp)
  apply f419_K1_ret_pt
  exact dropQ_self h
end Go.Du
namespace Go.Du
open Go
attribute [local irreducible] ATriple W evP AI
def encRow (key : Bs) (v : Ver) : Bs :=
  putN (lcp key v.key) ++ textS (v.key.drop (lcp key v.key)) ++ (putN v.br.toNat ++ putN v.ep.toNat ++ putN v.sq.toNat ++ putN v.fr.toNat ++ putN (v.to - v.fr).toNat ++ putN (if v.gone then 1 else 0)) ++ textS v.val
def encRows (key : Bs) : List Ver → Bs
  | [] => []
  | v :: r => encRow key v ++ encRows v.key r
def blockB (l : List Ver) : Bs := putN l.length ++ encRows [] l
theorem sliceS_lo (l : Bs) (n : Nat) (h : n ≤ l.length) : sliceS (sv l) (some (iv n)) none = some (sv (l.drop n)) := by
  simp [sliceS, asStr, bnds, bnd, h]
  apply ByteArray.ext
  simp [ByteArray.data_extract, sb]
  rw [List.take_of_length_le (by simp)]
theorem bsl_str1 (s : Bs) : frzOf (bslR true 1 9 1 1 1 [(0, sv s)]) = some (.svals (strs [s])) := bsl_str s
theorem bsl_nats6 (a b c d e f : Nat) : frzOf (bslR true 1 3 1 6 6 [(0, iv a), (1, iv b), (2, iv c), (3, iv d), (4, iv e), (5, iv f)]) = some (nats [a, b, c, d, e, f]) := rfl
theorem ldv_bx {S : Store} {t ty z sz o : Nat} {cs : List AV} (h : S t = some (.row ty z [cs])) (ag : Bool) : ldv ag sz (.ptr t 0 o) S = ldc ag sz cs o := by
  rw [ldv_ptr1 ag sz t 0 o S h rfl]
set_option maxRecDepth 100000 in
theorem f313_row (v : Ver) (hm : v.may = true) (key acc : Bs) (hlen : (acc ++ encRow key v).length ≤ 1099511627776) (t : Nat) (Sx S : Store) (x : AV) (hg : Grow 5 1 (Sx.set t (.row 112 8 [v.cs])) (byt acc) x S) (i n : Nat) (hi : i + 1 < 9223372036854775807) (t13 : AV) (K : AK)
    (h : ∀ x' S', Grow 5 1 (Sx.set t (.row 112 8 [v.cs])) (byt (acc ++ encRow key v)) x' S' → f313_L1 K x' (sv v.key) t13 (iv n) (iv (i + 1 : Nat)) S') :
    f313_J2 K x (.ptr t 0 0) (iv (lcp key v.key)) (iv (if v.gone = true then 1 else 0)) t13 (iv n) (iv i) S := by
  refine f313_J2_pt ?_
  obtain ⟨m1, ⟨m2, m3, m4⟩, m5, m6, m7, m8, m9, m10, m11, m12⟩ := v.may_iff.1 hm
  have w1 : IntKind.i64.wrap ((i : Int) + 1) = ((i + 1 : Nat) : Int) := by rw [wrap_id (by omega) (by omega)]; omega
  have ws : IntKind.i64.wrap (v.to - v.fr) = ((v.to - v.fr).toNat : Int) := by rw [wrap_id (by omega) (by omega)]; omega
  have hsl := sliceS_lo v.key (lcp key v.key) (lcp_le2 _ _)
  have hbx := hg.box.1
  have l0 := fun ag sz o => ldv_bx (sz := sz) (o := o) hbx ag
  have hll : (acc ++ encRow key v).length = acc.length + ((putN (lcp key v.key)).length + (textS (v.key.drop (lcp key v.key))).length + ((putN v.br.toNat).length + (putN v.ep.toNat).length + (putN v.sq.toNat).length + (putN v.fr.toNat).length + (putN (v.to - v.fr).toNat).length + (putN (if v.gone then 1 else 0)).length) + (textS v.val).length) := by
    simp [encRow]; omega
  rw [hll] at hlen
  have g0 : ∀ S : Store, S t = some (.row 112 8 [v.cs]) → ldv false 1 (.ptr t 0 0) S = some (sv v.key) := fun S h => ldv_at h
  have g1 : ∀ S : Store, S t = some (.row 112 8 [v.cs]) → ldv false 1 (.ptr t 0 1) S = some (iv v.br) := fun S h => ldv_at h
  have g2 : ∀ S : Store, S t = some (.row 112 8 [v.cs]) → ldv false 1 (.ptr t 0 2) S = some (iv v.ep) := fun S h => ldv_at h
  have g3 : ∀ S : Store, S t = some (.row 112 8 [v.cs]) → ldv false 1 (.ptr t 0 3) S = some (iv v.sq) := fun S h => ldv_at h
  have g4 : ∀ S : Store, S t = some (.row 112 8 [v.cs]) → ldv false 1 (.ptr t 0 4) S = some (iv v.fr) := fun S h => ldv_at h
  have g5 : ∀ S : Store, S t = some (.row 112 8 [v.cs]) → ldv false 1 (.ptr t 0 5) S = some (iv v.to) := fun S h => ldv_at h
  have g6 : ∀ S : Store, S t = some (.row 112 8 [v.cs]) → ldv false 1 (.ptr t 0 6) S = some (sv v.val) := fun S h => ldv_at h
  have hl2 := lcp_le2 key v.key
  have hb0 : lcp key v.key < 9223372036854775808 := by
    have : (textS (v.key.drop (lcp key v.key))).length = (putN (v.key.length - lcp key v.key)).length + (v.key.length - lcp key v.key) := by simp [textS]
    have hk := (keyE_inv v.key m1)
    obtain ⟨kn, ks, h1, h2, h3⟩ := hk
    have := keyOf_len kn ks
    rw [← h3] at this; omega
  simp -implicitDefEqProofs only [f313_j2, bsl_nat, bQ_some, padd_ptr, Nat.zero_add, g0 _ hbx, hsl, bsl_str1]
  refine f177_g x acc [lcp key v.key] _ S hg (by simpa using hb0) (by simp) (by simp; omega) fun x1 S1 hg1 => ?_
  simp only [List.flatMap_cons, List.flatMap_nil, List.append_nil] at hg1
  refine ⟨⟨g0 _ hg1.box.1, trivial, trivial⟩, ?_⟩
  refine f180_g x1 _ [v.key.drop (lcp key v.key)] _ S1 hg1 (by simp) (by simp; omega) fun x2 S2 hg2 => ?_
  simp only [List.flatMap_cons, List.flatMap_nil, List.append_nil] at hg2
  have hx2 := hg2.box.1
  have n1 : iv v.br = iv (v.br.toNat : Int) := by rw [Int.toNat_of_nonneg m7]
  have n2 : iv v.ep = iv (v.ep.toNat : Int) := by rw [Int.toNat_of_nonneg (by omega)]
  have n3 : iv v.sq = iv (v.sq.toNat : Int) := by rw [Int.toNat_of_nonneg (by omega)]
  have n4 : iv v.fr = iv (v.fr.toNat : Int) := by rw [Int.toNat_of_nonneg m2]
  have n5 : iv (if v.gone = true then 1 else 0) = iv ((if v.gone = true then 1 else 0 : Nat) : Int) := by split <;> rfl
  have e6 : frzOf (bslR true 1 3 1 6 6 [(0, iv v.br), (1, iv v.ep), (2, iv v.sq), (3, iv v.fr), (4, iv ((v.to - v.fr).toNat : Int)), (5, iv (if v.gone = true then 1 else 0))]) = some (nats [v.br.toNat, v.ep.toNat, v.sq.toNat, v.fr.toNat, (v.to - v.fr).toNat, if v.gone = true then 1 else 0]) := by
    rw [n1, n2, n3, n4, n5]; exact bsl_nats6 _ _ _ _ _ _
  simp -implicitDefEqProofs only [bQ_some, padd_ptr, Nat.zero_add, Nat.add_zero, Nat.reduceAdd, g1 _ hx2, g2 _ hx2, g3 _ hx2, g4 _ hx2, g5 _ hx2, abi_sub, ws, e6]
  refine f177_g x2 _ _ _ S2 hg2 ?_ (by simp) ?_ fun x3 S3 hg3 => ?_
  · intro k hk
    simp only [List.mem_cons, List.not_mem_nil, or_false] at hk
    rcases hk with rfl | rfl | rfl | rfl | rfl | rfl
    · omega
    · omega
    · omega
    · omega
    · omega
    · split <;> omega
  · simp; omega
  simp only [List.flatMap_cons, List.flatMap_nil, List.append_nil] at hg3
  have hx3 := hg3.box.1
  simp -implicitDefEqProofs only [bQ_some, padd_ptr, Nat.zero_add, g6 _ hx3, bsl_str1]
  refine f180_g x3 _ [v.val] _ S3 hg3 (by simp) (by simp; omega) fun x4 S4 hg4 => ?_
  simp only [List.flatMap_cons, List.flatMap_nil, List.append_nil] at hg4
  have hx4 := hg4.box.1
  rw [g0 _ hx4, bQ_some, abi_add, bQ_some, w1]
  refine h _ _ ?_
  have e : acc ++ encRow key v = acc ++ putN (lcp key v.key) ++ textS (v.key.drop (lcp key v.key)) ++ (putN v.br.toNat ++ (putN v.ep.toNat ++ (putN v.sq.toNat ++ (putN v.fr.toNat ++ (putN (v.to - v.fr).toNat ++ putN (if v.gone = true then 1 else 0)))))) ++ textS v.val := by
    simp [encRow]
  rw [e]; exact hg4
theorem f313_loop (l : List Ver) (hB : l.length ≤ 1048576) (hm : ∀ v ∈ l, v.may = true) (S0 : Store) (K : AK) (r : Bs) (hr : r.length ≤ 1099511627776)
    (h0 : ∀ x S Sx, Sub S0 Sx → Grow 5 1 Sx (byt r) x S → K (.exit 0) (ofL [(3, x)]) S) :
    ∀ (n i : Nat) (key acc : Bs) (x : AV) (S Sx : Store), n + i = l.length → key.length ≤ 1000 → r = acc ++ encRows key (l.drop i) → Sub S0 Sx → Grow 5 1 Sx (byt acc) x S → f313_L1 K x (sv key) (vers l) (iv l.length) (iv i) S := by
  intro n
  induction n with
  | zero =>
    intro i key acc x S Sx hi hk hacc hs hg
    refine f313_L1_pt ?_
    have : ¬ (i : Int) < l.length := by omega
    rw [List.drop_of_length_le (by omega)] at hacc
    simp [encRows] at hacc
    subst hacc
    simp -implicitDefEqProofs [f313_l1, this]
    exact h0 _ _ _ hs hg
  | succ n ih =>
    intro i key acc x S Sx hi hk hacc hs hg
    refine f313_L1_pt ?_
    have h2 : i < l.length := by omega
    have h1 : (i : Int) < l.length := by omega
    have x0 := fun S => ixA_ver l i S h2
    have hmv := hm _ (List.getElem_mem h2)
    rw [List.drop_eq_getElem_cons h2] at hacc
    simp only [encRows] at hacc
    simp -implicitDefEqProofs only [f313_l1, abi_lss, bQ_some, condW_bv, h1, decide_true, if_true, x0, ldv_ver, newW_own]
    intro t ht
    rw [stv_ver, thenS_some]
    have hg1 := hg.under' ht (.row 112 8 [(l[i]).cs])
    have g0 : ldv false 1 (.ptr t 0 0) (S.set t (.row 112 8 [(l[i]).cs])) = some (sv (l[i]).key) := ldv_at (Store.set_same _ _ _)
    have g7 : ldv false 1 (.ptr t 0 7) (S.set t (.row 112 8 [(l[i]).cs])) = some (bv (l[i]).gone) := ldv_at (Store.set_same _ _ _)
    simp -implicitDefEqProofs only [padd_ptr, bQ_some, Nat.zero_add, g0]
    refine f419_c _ _ (by omega) _ ?_
    simp -implicitDefEqProofs only [g7, bQ_some, condW_bv]
    have hs' : Sub S0 (Sx.set t (.row 112 8 [(l[i]).cs])) := hs.set (by
      cases e : S0 t with
      | none => rfl
      | some o => rw [(hs.trans hg.sub) t o e] at ht; cases ht)
    have hkl : (l[i]).key.length ≤ 1000 := by
      obtain ⟨kn, ks, k1, k2, k3⟩ := keyE_inv _ ((l[i]).may_iff.1 hmv).1
      have := keyOf_len kn ks
      rw [k3]; omega
    have fin : f313_J2 K x (.ptr t 0 0) (iv (lcp key (l[i]).key)) (iv (if (l[i]).gone = true then 1 else 0)) (vers l) (iv l.length) (iv i) (S.set t (.row 112 8 [(l[i]).cs])) := by
      refine f313_row (l[i]) hmv key acc (by rw [hacc] at hr; simp at hr ⊢; omega) t Sx _ x hg1 i l.length (by omega) _ K fun x' S' hg' => ?_
      exact ih (i + 1) _ _ x' S' _ (by omega) hkl (by rw [hacc]; simp) hs' hg'
    cases hgone : (l[i]).gone
    · rw [if_neg (by decide)]; rw [hgone] at fin; exact fin
    · rw [if_pos rfl]; rw [hgone] at fin; exact fin
theorem f313_c (l : List Ver) (hB : l.length ≤ 1048576) (hm : ∀ v ∈ l, v.may = true) (hr : (blockB l).length ≤ 1099511627776) (S : Store) {Q : AV → Store → Prop} (h : Q (bytes (blockB l)) S) : ATriple PR 313 [vers l] S Q := by
  refine f313_ok ?_
  have hbl : (blockB l).length = (putN l.length).length + (encRows [] l).length := by simp [blockB]
  simp -implicitDefEqProofs only [f313_s, aln_svals, List.length_map, bQ_some, bsl_nat]
  refine f177_g nilS [] [l.length] S S .nil (by simp; omega) (by simp) (by simp; omega) fun x1 S1 hg1 => ?_
  simp only [List.flatMap_cons, List.flatMap_nil, List.append_nil, List.nil_append] at hg1
  refine f313_loop l hB hm S _ (blockB l) hr ?_ l.length 0 [] _ x1 S1 S rfl (by simp) (by simp [blockB]) (.refl S) hg1
  intro x S' Sx hs hg
  apply f313_K1_e0_pt
  exact ⟨_, _, hg.ent.trans (Ent.drop hs), h⟩
theorem f178_c (l : List Ver) (h1 : 1 ≤ l.length) (h8 : l.length ≤ 8) (hl : chainOk l) (hr : (blockB l).length ≤ 1099511627776) (S : Store) {Q : AV → Store → Prop} (h : Q (.tuple [bytes (blockB l), iv 0]) S) : ATriple PR 178 [vers l] S Q := by
  refine f178_ok ?_
  simp -implicitDefEqProofs only [f178_s]
  refine f312_c l h1 h8 hl S ?_
  simp -implicitDefEqProofs
  refine f313_c l (by omega) (fun v hv => ?_) hr S ?_
  · obtain ⟨i, hi, rfl⟩ := List.mem_iff_getElem.1 hv
    exact (hl i hi).1
  exact dropQ_self h
end Go.Du
