/- The name of an image, by the program and by the reference. Conditions: none. -/
import Derived.Test.YtpebkeonkfanpaaGreatKeyB
namespace Go.Proofs.YtpebkeonkfanpaaGreat.Sym
open Go.Den
/-! ## Copies -/
theorem PT.upd_upd {α : Type} (x y : Option α) : ∀ (f k : Nat) (t : PT α), PT.upd f (PT.upd f t k x) k y = PT.upd f t k y := by
  intro f
  induction f with
  | zero => intro k t; rfl
  | succ f ih =>
    intro k t
    simp only [PT.upd]
    cases h0 : Nat.beq k 0 with
    | true => simp only [cond_true, PT.left, PT.right]
    | false =>
      simp only [cond_false]
      cases h1 : Nat.beq (k % 2) 1 with
      | true => simp only [cond_true, PT.left, PT.right, PT.val, ih]
      | false => simp only [cond_false, PT.left, PT.right, PT.val, ih]
theorem PT.put_put {α : Type} (t : PT α) (k : Nat) (x y : Option α) : (t.put k x).put k y = t.put k y := PT.upd_upd x y _ k t
theorem AH.put_put (h : AH) (k : Nat) (x y : Option AObj) : (h.put k x).put k y = h.put k y := by
  show ({ next := h.next, mem := (h.mem.put k x).put k y, df := h.df } : AH) = _
  rw [PT.put_put]; rfl
theorem st_at {h : AH} {b o n : Nat} {c : PT Value} {u v : Value} (hb : h.get b = some (.cells c n)) (hu : c.get o = some u) : h.st b o v = some (h.put b (some (.cells (c.put o (some v)) n))) := by
  have hb' : h.mem.get b = some (.cells c n) := hb
  unfold AH.st
  rw [hb']
  simp only [hu]
theorem put_get (h : AH) (b : Nat) (o : Option AObj) : (h.put b o).get b = o := by rw [AH.get_put, if_pos rfl]
theorem stL_puts : ∀ (l : List Value) (h : AH) (b o n : Nat) (c : PT Value), h.get b = some (.cells c n) → allC l = true → (∀ i, i < l.length → ∃ u, c.get (o + i) = some u) → l ≠ [] → h.stL b o l = some (h.put b (some (.cells (PT.puts c o l) n)))
  | [], _, _, _, _, _, _, _, _, h => absurd rfl h
  | v :: l, h, b, o, n, c, hb, ha, hc, _ => by
    obtain ⟨u, hu⟩ := hc 0 (by simp)
    rw [Nat.add_zero] at hu
    have ha' : oneC v = true ∧ allC l = true := by
      unfold allC at ha
      cases ho : oneC v with
      | false => rw [ho] at ha; cases ha
      | true => rw [ho] at ha; exact ⟨rfl, ha⟩
    unfold AH.stL
    rw [ha'.1, cond_true, st_at hb hu, Option.bind_some]
    cases l with
    | nil => rfl
    | cons v' l' =>
      have hc' : ∀ i, i < (v' :: l').length → ∃ u, (c.put o (some v)).get (o + 1 + i) = some u := fun i hi => by
        obtain ⟨w, hw⟩ := hc (i + 1) (by simp at hi ⊢; omega)
        refine ⟨w, ?_⟩
        rw [PT.get_put, if_neg (by omega), show o + 1 + i = o + (i + 1) by omega]; exact hw
      have := stL_puts (v' :: l') (h.put b (some (.cells (c.put o (some v)) n))) b (o + 1) n (c.put o (some v)) (put_get ..) ha'.2 hc' (by simp)
      rw [this, AH.put_put]; rfl
theorem hCopy_at {h : AH} {b o mx cx b2 o2 n2 c2 nn k : Nat} {c : PT Value} {xs : List Nat} (hk : min n2 mx = k) (hx : xs.length = k) (h0 : 0 < k) (hb2 : Bys h b2 o2 xs) (hb : h.get b = some (.cells c nn)) (hc : ∀ i, i < k → ∃ u, c.get (o + i) = some u) :
    hCopy 1 (.slice (some ⟨b, o, none⟩) mx cx) (.slice (some ⟨b2, o2, none⟩) n2 c2) h = some (i64 k, h.put b (some (.cells (PT.puts c o (xs.map u8)) nn))) := by
  subst hx
  have hr : rdV 1 xs.length (.slice (some ⟨b2, o2, none⟩) n2 c2) h = some (xs.map u8) := by
    show (bif Nat.beq xs.length 0 then some [] else bif Nat.ble xs.length n2 then h.cellsN b2 o2 (xs.length * 1) else none) = _
    rw [Den.beq_false_of_ne (show xs.length ≠ 0 by omega), ble_t (by omega), Nat.mul_one, hb2.cells]; rfl
  have hs := stL_puts (xs.map u8) h b o nn c hb (allC_u8 xs) (fun i hi => hc i (by simpa using hi)) (by intro e; rw [List.map_eq_nil_iff] at e; subst e; exact absurd h0 (by simp))
  unfold hCopy
  simp only [lenV, Option.bind_some, hk, hr]
  cases xs with
  | nil => exact absurd h0 (by simp)
  | cons x xs =>
    simp only [List.map_cons] at hs ⊢
    rw [hs]; rfl
theorem cellsN_fn {h : AH} {b n : Nat} {c : PT Value} (hb : h.get b = some (.cells c n)) (f : Nat → Value) : ∀ (k o : Nat), (∀ i, i < k → c.get (o + i) = some (f (o + i))) → h.cellsN b o k = some ((List.range' o k).map f)
  | 0, _, _ => rfl
  | k + 1, o, hf => by
    have hb' : h.mem.get b = some (.cells c n) := hb
    have h0 : h.cell b o = some (f o) := by
      unfold AH.cell
      rw [hb']; exact hf 0 (by omega)
    simp only [AH.cellsN, h0, Option.bind_some]
    rw [cellsN_fn hb f k (o + 1) fun i hi => by rw [show o + 1 + i = o + (i + 1) by omega]; exact hf (i + 1) (by omega)]
    rfl

/-! ## The name of an image, by the program -/
def keyL (n s : Nat) : List Value := i64 n :: u32 s :: List.replicate 16 (u8 0)
def keyO (n s : Nat) : AObj := .cells (PT.ofList (keyL n s) 0 .leaf) 18
def roO (xs : List Nat) : AObj := .ro (PT.ofList (xs.map u8) 0 .leaf)
def H0 (xs : List Nat) : AH := ⟨1, .node (some (roO xs)) .leaf .leaf, []⟩
def HA (xs : List Nat) : AH := lendH (H0 xs) xs
def litO (xs : List Nat) : AObj := .cells (PT.ofList [sl 4 0 xs.length (unk 1)] 0 .leaf) 1
def HK1 (xs : List Nat) : AH := ((HA xs).new (keyO 0 0)).new (litO xs)
def HK2 (xs : List Nat) : AH := (HK1 xs).up 1
def mN (xs : List Nat) : Nat := min xs.length 8
def HK3 (xs : List Nat) : AH := (HK2 xs).new (keyO xs.length (sumN xs))
def cK4 (xs : List Nat) : PT Value := PT.puts (PT.ofList (keyL xs.length (sumN xs)) 0 .leaf) 2 ((xs.take (mN xs)).map u8)
def HK4 (xs : List Nat) : AH := (HK3 xs).put 15 (some (.cells (cK4 xs) 18))
def cK5 (xs : List Nat) : PT Value := PT.puts (cK4 xs) (18 - mN xs) ((xs.drop (xs.length - mN xs)).map u8)
def HK5 (xs : List Nat) : AH := ⟨27, ((HK4 xs).put 15 (some (.cells (cK5 xs) 18))).mem, []⟩
def refE (xs : List Nat) (i j : Nat) : Nat := if j < i then xs.getD j 0 else if 15 - j < i then xs.getD (xs.length - 1 - (15 - j)) 0 else 0
def endN (xs : List Nat) (j : Nat) : Nat := refE xs (mN xs) j
def keyV (xs : List Nat) : Value := .agg ⟨[i64 xs.length, u32 (sumN xs), u8 (endN xs 0), u8 (endN xs 1), u8 (endN xs 2), u8 (endN xs 3), u8 (endN xs 4), u8 (endN xs 5), u8 (endN xs 6), u8 (endN xs 7), u8 (endN xs 8), u8 (endN xs 9), u8 (endN xs 10), u8 (endN xs 11), u8 (endN xs 12), u8 (endN xs 13), u8 (endN xs 14), u8 (endN xs 15)]⟩

theorem d6 (C : Oracle) (xs : List Nat) : syG envT (C) (9) [(5, u32 (sumN xs), some (HK2 xs)),
  (11, i64 (mN xs), some (HK3 xs)),
  (16, i64 (mN xs), some (HK4 xs)),
  (20, sl 15 (18 - mN xs) (mN xs) (mN xs), none),
  (26, sl 4 (List.length xs - mN xs) (mN xs) (unk 1), none),
  (27, i64 (mN xs), some (HK5 xs)),
  (28, keyV xs, none)] [] 6 ([sl 4 0 xs.length (unk 1)]) ((HA xs)) = some (Value.agg (Array.mk [Value.int IntKind.i64 (Int.ofNat (List.length xs)), Value.int IntKind.u32 (Int.ofNat (sumN xs)), Value.int IntKind.u8 (Int.ofNat (endN xs 0)), Value.int IntKind.u8 (Int.ofNat (endN xs 1)), Value.int IntKind.u8 (Int.ofNat (endN xs 2)), Value.int IntKind.u8 (Int.ofNat (endN xs 3)), Value.int IntKind.u8 (Int.ofNat (endN xs 4)), Value.int IntKind.u8 (Int.ofNat (endN xs 5)), Value.int IntKind.u8 (Int.ofNat (endN xs 6)), Value.int IntKind.u8 (Int.ofNat (endN xs 7)), Value.int IntKind.u8 (Int.ofNat (endN xs 8)), Value.int IntKind.u8 (Int.ofNat (endN xs 9)), Value.int IntKind.u8 (Int.ofNat (endN xs 10)), Value.int IntKind.u8 (Int.ofNat (endN xs 11)), Value.int IntKind.u8 (Int.ofNat (endN xs 12)), Value.int IntKind.u8 (Int.ofNat (endN xs 13)), Value.int IntKind.u8 (Int.ofNat (endN xs 14)), Value.int IntKind.u8 (Int.ofNat (endN xs 15))]), AH.mk 27 (PT.node (some (roO xs)) (PT.node none (PT.node none (PT.node none (PT.node (some (AObj.cells (cK5 xs) 18)) PT.leaf PT.leaf) PT.leaf) PT.leaf) (PT.node none PT.leaf (PT.node (some (litO xs)) PT.leaf PT.leaf))) (PT.node none (PT.node (some (lentO xs)) PT.leaf (PT.node (some (AObj.cells (PT.node (some (Value.int IntKind.i64 (Int.ofNat (List.length xs)))) (PT.node (some (Value.int IntKind.u32 (Int.ofNat (sumN xs)))) (PT.node (some (Value.int IntKind.u8 (Int.ofNat (endN xs 1)))) (PT.node (some (Value.int IntKind.u8 (Int.ofNat (endN xs 5)))) (PT.node (some (Value.int IntKind.u8 (Int.ofNat (endN xs 13)))) PT.leaf PT.leaf) PT.leaf) (PT.node (some (Value.int IntKind.u8 (Int.ofNat (endN xs 9)))) PT.leaf PT.leaf)) (PT.node (some (Value.int IntKind.u8 (Int.ofNat (endN xs 3)))) (PT.node (some (Value.int IntKind.u8 (Int.ofNat (endN xs 7)))) (PT.node (some (Value.int IntKind.u8 (Int.ofNat (endN xs 15)))) PT.leaf PT.leaf) PT.leaf) (PT.node (some (Value.int IntKind.u8 (Int.ofNat (endN xs 11)))) PT.leaf PT.leaf))) (PT.node (some (Value.int IntKind.u8 (Int.ofNat (endN xs 0)))) (PT.node (some (Value.int IntKind.u8 (Int.ofNat (endN xs 2)))) (PT.node (some (Value.int IntKind.u8 (Int.ofNat (endN xs 6)))) (PT.node (some (Value.int IntKind.u8 (Int.ofNat (endN xs 14)))) PT.leaf PT.leaf) PT.leaf) (PT.node (some (Value.int IntKind.u8 (Int.ofNat (endN xs 10)))) PT.leaf PT.leaf)) (PT.node (some (Value.int IntKind.u8 (Int.ofNat (endN xs 4)))) (PT.node (some (Value.int IntKind.u8 (Int.ofNat (endN xs 8)))) PT.leaf PT.leaf) (PT.node (some (Value.int IntKind.u8 (Int.ofNat (endN xs 12)))) PT.leaf PT.leaf)))) 18)) PT.leaf PT.leaf)) PT.leaf)) [],
  [((ldN 18 (Value.pointer (some (Addr.mk 15 0 none))) (AH.mk 27 (PT.node (some (roO xs)) (PT.node none (PT.node none (PT.node none (PT.node (some (AObj.cells (cK5 xs) 18)) PT.leaf PT.leaf) PT.leaf) PT.leaf) (PT.node none PT.leaf (PT.node (some (litO xs)) PT.leaf PT.leaf))) (PT.node none (PT.node (some (lentO xs)) PT.leaf (PT.node (some (keyO 0 0)) PT.leaf PT.leaf)) PT.leaf)) [])).bind fun v => some (v, AH.mk 27 (PT.node (some (roO xs)) (PT.node none (PT.node none (PT.node none (PT.node (some (AObj.cells (cK5 xs) 18)) PT.leaf PT.leaf) PT.leaf) PT.leaf) (PT.node none PT.leaf (PT.node (some (litO xs)) PT.leaf PT.leaf))) (PT.node none (PT.node (some (lentO xs)) PT.leaf (PT.node (some (keyO 0 0)) PT.leaf PT.leaf)) PT.leaf)) [])) = some (keyV xs, HK5 xs),
   (hCopy 1 (Value.slice (some (Addr.mk 15 (18 - mN xs) none)) (mN xs) (mN xs)) (Value.slice (some (Addr.mk 4 (List.length xs - mN xs) none)) (mN xs) 4611686018427387905) (AH.mk 27 (PT.node (some (roO xs)) (PT.node none (PT.node none (PT.node none (PT.node (some (AObj.cells (cK4 xs) 18)) PT.leaf PT.leaf) PT.leaf) PT.leaf) (PT.node none PT.leaf (PT.node (some (litO xs)) PT.leaf PT.leaf))) (PT.node none (PT.node (some (lentO xs)) PT.leaf (PT.node (some (keyO 0 0)) PT.leaf PT.leaf)) PT.leaf)) [])) = some (i64 (mN xs), HK5 xs),
   ((slS 1 (Value.slice (some (Addr.mk 4 0 none)) (List.length xs) 4611686018427387905) (some (Value.int IntKind.i64 (wr IntKind.i64 (Int.ofNat (List.length xs) - Int.ofNat (mN xs))))) none none).bind fun v => some (v, AH.mk 27 (PT.node (some (roO xs)) (PT.node none (PT.node none (PT.node none (PT.node (some (AObj.cells (cK4 xs) 18)) PT.leaf PT.leaf) PT.leaf) PT.leaf) (PT.node none PT.leaf (PT.node (some (litO xs)) PT.leaf PT.leaf))) (PT.node none (PT.node (some (lentO xs)) PT.leaf (PT.node (some (keyO 0 0)) PT.leaf PT.leaf)) PT.leaf)) [])) = some (sl 4 (List.length xs - mN xs) (mN xs) (unk 1), AH.mk 27 (PT.node (some (roO xs)) (PT.node none (PT.node none (PT.node none (PT.node (some (AObj.cells (cK4 xs) 18)) PT.leaf PT.leaf) PT.leaf) PT.leaf) (PT.node none PT.leaf (PT.node (some (litO xs)) PT.leaf PT.leaf))) (PT.node none (PT.node (some (lentO xs)) PT.leaf (PT.node (some (keyO 0 0)) PT.leaf PT.leaf)) PT.leaf)) []),
   ((slA 16 1 (Value.pointer (some (Addr.mk 15 2 none))) (some (Value.int IntKind.i64 (wr IntKind.i64 (Int.ofNat 16 - Int.ofNat (mN xs))))) none none).bind fun v => some (v, AH.mk 27 (PT.node (some (roO xs)) (PT.node none (PT.node none (PT.node none (PT.node (some (AObj.cells (cK4 xs) 18)) PT.leaf PT.leaf) PT.leaf) PT.leaf) (PT.node none PT.leaf (PT.node (some (litO xs)) PT.leaf PT.leaf))) (PT.node none (PT.node (some (lentO xs)) PT.leaf (PT.node (some (keyO 0 0)) PT.leaf PT.leaf)) PT.leaf)) [])) = some (sl 15 (18 - mN xs) (mN xs) (mN xs), AH.mk 27 (PT.node (some (roO xs)) (PT.node none (PT.node none (PT.node none (PT.node (some (AObj.cells (cK4 xs) 18)) PT.leaf PT.leaf) PT.leaf) PT.leaf) (PT.node none PT.leaf (PT.node (some (litO xs)) PT.leaf PT.leaf))) (PT.node none (PT.node (some (lentO xs)) PT.leaf (PT.node (some (keyO 0 0)) PT.leaf PT.leaf)) PT.leaf)) []),
   (hCopy 1 (Value.slice (some (Addr.mk 15 2 none)) 8 16) (Value.slice (some (Addr.mk 4 0 none)) (List.length xs) 4611686018427387905) (AH.mk 16 (PT.node (some (roO xs)) (PT.node none (PT.node none (PT.node none (PT.node (some (keyO (List.length xs) (sumN xs))) PT.leaf PT.leaf) PT.leaf) PT.leaf) (PT.node none PT.leaf (PT.node (some (litO xs)) PT.leaf PT.leaf))) (PT.node none (PT.node (some (lentO xs)) PT.leaf (PT.node (some (keyO 0 0)) PT.leaf PT.leaf)) PT.leaf)) [])) = some (i64 (mN xs), HK4 xs),
   ((mnI (Value.int IntKind.i64 (Int.ofNat (List.length xs))) (Value.int IntKind.i64 (Int.ofNat 8))).bind fun v => some (v, AH.mk 16 (PT.node (some (roO xs)) (PT.node none (PT.node none (PT.node none (PT.node (some (AObj.cells (PT.node (some (Value.int IntKind.i64 (Int.ofNat (List.length xs)))) (PT.node (some (Value.int IntKind.u32 (Int.ofNat (sumN xs)))) (PT.node (some (Value.int IntKind.u8 (Int.ofNat 0))) (PT.node (some (Value.int IntKind.u8 (Int.ofNat 0))) (PT.node (some (Value.int IntKind.u8 (Int.ofNat 0))) PT.leaf PT.leaf) PT.leaf) (PT.node (some (Value.int IntKind.u8 (Int.ofNat 0))) PT.leaf PT.leaf)) (PT.node (some (Value.int IntKind.u8 (Int.ofNat 0))) (PT.node (some (Value.int IntKind.u8 (Int.ofNat 0))) (PT.node (some (Value.int IntKind.u8 (Int.ofNat 0))) PT.leaf PT.leaf) PT.leaf) (PT.node (some (Value.int IntKind.u8 (Int.ofNat 0))) PT.leaf PT.leaf))) (PT.node (some (Value.int IntKind.u8 (Int.ofNat 0))) (PT.node (some (Value.int IntKind.u8 (Int.ofNat 0))) (PT.node (some (Value.int IntKind.u8 (Int.ofNat 0))) (PT.node (some (Value.int IntKind.u8 (Int.ofNat 0))) PT.leaf PT.leaf) PT.leaf) (PT.node (some (Value.int IntKind.u8 (Int.ofNat 0))) PT.leaf PT.leaf)) (PT.node (some (Value.int IntKind.u8 (Int.ofNat 0))) (PT.node (some (Value.int IntKind.u8 (Int.ofNat 0))) PT.leaf PT.leaf) (PT.node (some (Value.int IntKind.u8 (Int.ofNat 0))) PT.leaf PT.leaf)))) 18)) PT.leaf PT.leaf) PT.leaf) PT.leaf) (PT.node none PT.leaf (PT.node (some (litO xs)) PT.leaf PT.leaf))) (PT.node none (PT.node (some (lentO xs)) PT.leaf (PT.node (some (keyO 0 0)) PT.leaf PT.leaf)) PT.leaf)) [])) = some (i64 (mN xs), HK3 xs),
   (C (Value.func (Fn.func 19) (Array.mk []) (Array.mk [])) [Value.slice (some (Addr.mk 13 0 none)) 1 1] (AH.mk 14 (PT.node (some (roO xs)) (PT.node none PT.leaf (PT.node none PT.leaf (PT.node (some (AObj.cells (PT.node (some (Value.slice (some (Addr.mk 4 0 none)) (List.length xs) 4611686018427387905)) PT.leaf PT.leaf) 1)) PT.leaf PT.leaf))) (PT.node none (PT.node (some (lentO xs)) PT.leaf (PT.node (some (AObj.cells (PT.node (some (Value.int IntKind.i64 (Int.ofNat 0))) (PT.node (some (Value.int IntKind.u32 (Int.ofNat 0))) (PT.node (some (Value.int IntKind.u8 (Int.ofNat 0))) (PT.node (some (Value.int IntKind.u8 (Int.ofNat 0))) (PT.node (some (Value.int IntKind.u8 (Int.ofNat 0))) PT.leaf PT.leaf) PT.leaf) (PT.node (some (Value.int IntKind.u8 (Int.ofNat 0))) PT.leaf PT.leaf)) (PT.node (some (Value.int IntKind.u8 (Int.ofNat 0))) (PT.node (some (Value.int IntKind.u8 (Int.ofNat 0))) (PT.node (some (Value.int IntKind.u8 (Int.ofNat 0))) PT.leaf PT.leaf) PT.leaf) (PT.node (some (Value.int IntKind.u8 (Int.ofNat 0))) PT.leaf PT.leaf))) (PT.node (some (Value.int IntKind.u8 (Int.ofNat 0))) (PT.node (some (Value.int IntKind.u8 (Int.ofNat 0))) (PT.node (some (Value.int IntKind.u8 (Int.ofNat 0))) (PT.node (some (Value.int IntKind.u8 (Int.ofNat 0))) PT.leaf PT.leaf) PT.leaf) (PT.node (some (Value.int IntKind.u8 (Int.ofNat 0))) PT.leaf PT.leaf)) (PT.node (some (Value.int IntKind.u8 (Int.ofNat 0))) (PT.node (some (Value.int IntKind.u8 (Int.ofNat 0))) PT.leaf PT.leaf) (PT.node (some (Value.int IntKind.u8 (Int.ofNat 0))) PT.leaf PT.leaf)))) 18)) PT.leaf PT.leaf)) PT.leaf)) [])) = some (u32 (sumN xs), HK2 xs)]) := by kernel_rfl
theorem mN_le (xs : List Nat) : mN xs ≤ xs.length ∧ mN xs ≤ 8 := ⟨Nat.min_le_left .., Nat.min_le_right ..⟩
theorem keyL_two {n s j : Nat} (hj : j < 16) : (keyL n s)[j + 2]? = some (u8 0) := by
  show (List.replicate 16 (u8 0))[j]? = _
  rw [List.getElem?_replicate, if_pos hj]
def fK (xs : List Nat) : Nat → Value
  | 0 => i64 xs.length
  | 1 => u32 (sumN xs)
  | j + 2 => u8 (endN xs j)
theorem keyV_fK (xs : List Nat) : keyV xs = .agg ⟨(List.range' 0 18).map (fK xs)⟩ := rfl
theorem getD_some {xs : List Nat} {i : Nat} (h : i < xs.length) : xs[i]? = some (xs.getD i 0) := by
  rw [List.getD_eq_getElem?_getD, List.getElem?_eq_getElem h]; rfl
theorem cK5_get (xs : List Nat) (hn : 0 < xs.length) : ∀ i, i < 18 → (cK5 xs).get (0 + i) = some (fK xs (0 + i)) := by
  intro i hi
  rw [Nat.zero_add]
  obtain ⟨hm1, hm2⟩ := mN_le xs
  have hm0 : 0 < mN xs := by unfold mN; omega
  have hl2 : ((xs.drop (xs.length - mN xs)).map u8).length = mN xs := by simp; omega
  have hl1 : ((xs.take (mN xs)).map u8).length = mN xs := by simp; omega
  unfold cK5 cK4
  rw [PT.get_puts, PT.get_puts, ofList_at, hl1, hl2]
  match i, hi with
  | 0, _ => rw [if_neg (by omega), if_neg (by omega)]; rfl
  | 1, _ => rw [if_neg (by omega), if_neg (by omega)]; rfl
  | j + 2, hi =>
    show _ = some (u8 (endN xs j))
    unfold endN refE
    by_cases h1 : 18 - mN xs ≤ j + 2
    · rw [if_pos ⟨h1, by omega⟩, if_neg (by omega), if_pos (by omega), List.getElem?_map, List.getElem?_drop, getD_some (by omega)]
      rw [show xs.length - mN xs + (j + 2 - (18 - mN xs)) = xs.length - 1 - (15 - j) by omega]; rfl
    · rw [if_neg (by omega)]
      by_cases h2 : j < mN xs
      · rw [if_pos (by omega), if_pos h2, List.getElem?_map, List.getElem?_take, if_pos (by omega), getD_some (by omega)]; rfl
      · rw [if_neg (by omega), if_neg h2, if_neg (by omega), keyL_two (by omega)]
theorem HA_lent (xs : List Nat) : (HA xs).get 4 = some (lentO xs) := lendH_get (H0 xs) xs
theorem keyO_ex (n s : Nat) : ∀ i, i < 18 → ∃ u, (PT.ofList (keyL n s) 0 .leaf).get i = some u := fun i hi => by
  rw [ofList_at]
  have : i < (keyL n s).length := hi
  exact ⟨_, List.getElem?_eq_getElem this⟩
theorem slA_lo {b o len lo : Nat} (h0 : lo ≠ len) (hu : len < unk 0) {loV : Option Value} (hl : vNat len loV 0 = some lo) : slA len 1 (.pointer (some ⟨b, o, none⟩)) loV none none = some (.slice (some ⟨b, o + lo, none⟩) (len - lo) (len - lo)) := by
  have hb : bnds len len loV none none = some (lo, len, len) := by
    unfold bnds
    rw [show vNat len none len = some len from rfl, Option.bind_some, show vNat len none len = some len from rfl, Option.bind_some, hl]; rfl
  unfold slA
  simp only [ble_f hu, cond_false, hb, Option.bind_some]
  unfold cutAt
  rw [Den.beq_false_of_ne (Ne.symm h0), cond_false, Nat.mul_one]
theorem mnI_nat (a b : Nat) : mnI (.int .i64 (.ofNat a)) (.int .i64 (.ofNat b)) = some (i64 (min a b)) := by
  show some (Value.int .i64 (bif ilt (.ofNat b) (.ofNat a) then .ofNat b else .ofNat a)) = _
  rw [ilt_nat]
  by_cases h : b < a
  · rw [blt_t h, Nat.min_eq_right (by omega)]; rfl
  · rw [blt_f (by omega), Nat.min_eq_left (by omega)]; rfl
def HE6 (xs : List Nat) : AH := ⟨27, .node (some (roO xs)) (.node none (.node none (.node none (.node (some (.cells (cK5 xs) 18)) .leaf .leaf) .leaf) .leaf) (.node none .leaf (.node (some (litO xs)) .leaf .leaf)))
  (.node none (.node (some (lentO xs)) .leaf (.node (some (.cells (PT.ofList [i64 xs.length, u32 (sumN xs), u8 (endN xs 0), u8 (endN xs 1), u8 (endN xs 2), u8 (endN xs 3), u8 (endN xs 4), u8 (endN xs 5), u8 (endN xs 6), u8 (endN xs 7), u8 (endN xs 8), u8 (endN xs 9), u8 (endN xs 10), u8 (endN xs 11), u8 (endN xs 12), u8 (endN xs 13), u8 (endN xs 14), u8 (endN xs 15)] 0 .leaf) 18)) .leaf .leaf)) .leaf), []⟩
theorem run6 {xs : List Nat} (hx : ∀ x ∈ xs, x < 256) (hn : 0 < xs.length) (hs : xs.length ≤ 140737488351232) {C : Oracle} (hC : C (.func (.func 19) ⟨[]⟩ ⟨[]⟩) [sl 13 0 1 1] (HK1 xs) = some (u32 (sumN xs), HK2 xs)) :
    denG envT C 9 6 [sl 4 0 xs.length (unk 1)] (HA xs) = some (keyV xs, HE6 xs) := by
  obtain ⟨hm1, hm2⟩ := mN_le xs
  have hm0 : 0 < mN xs := by unfold mN; omega
  have hlen : (xs ++ five).length = xs.length + 5 := by simp [five]
  have htake : ((xs ++ five).take (mN xs)) = xs.take (mN xs) := by rw [List.take_append_of_le_length hm1]
  have hdt : ((xs ++ five).drop (xs.length - mN xs)).take (mN xs) = xs.drop (xs.length - mN xs) := by
    rw [List.drop_append_of_le_length (by omega), List.take_append_of_le_length (by simp; omega)]
    exact List.take_of_length_le (by simp; omega)
  have hl2 : ((xs.drop (xs.length - mN xs))).length = mN xs := by simp; omega
  have hl1 : (xs.take (mN xs)).length = mN xs := by simp; omega
  have hsub : wr .i64 (Int.ofNat 16 - Int.ofNat (mN xs)) = .ofNat (16 - mN xs) := wr_sub (by omega) (by omega)
  have hsub2 : wr .i64 (Int.ofNat xs.length - Int.ofNat (mN xs)) = .ofNat (xs.length - mN xs) := wr_sub (by omega) (by omega)
  have hcK4 : ∀ i, i < mN xs → ∃ u, (cK4 xs).get (18 - mN xs + i) = some u := fun i hi => by
    have h18 : 18 - mN xs + i < 18 := by omega
    unfold cK4
    rw [PT.get_puts]
    split
    · rename_i h2
      exact ⟨_, List.getElem?_eq_getElem (by simp at h2 ⊢; omega)⟩
    · exact keyO_ex _ _ _ h18
  refine (syG_sound (d6 C xs) (goodY_cons ?_ <| goodY_cons ?_ <| goodY_cons ?_ <| goodY_cons ?_ <| goodY_cons ?_ <| goodY_cons ?_ <| goodY_cons ?_ goodY_nil)).trans (by kernel_rfl)
  · refine (congrArg (fun z => Option.bind z _) (show ldN 18 (ptr 15 0) _ = some (keyV xs) from ?_)).trans (by kernel_rfl)
    have := cellsN_fn (h := HK5 xs) (b := 15) (n := 18) (c := cK5 xs) (by kernel_rfl) (fK xs) 18 0 (cK5_get xs hn)
    exact (congrArg (fun z => Option.bind z fun l => some (Value.agg ⟨l⟩)) this).trans (by kernel_rfl)
  · have hb : Bys (⟨27, (HK4 xs).mem, []⟩ : AH) 4 (0 + (xs.length - mN xs)) (xs.drop (xs.length - mN xs)) := by
      have h1 : Bys (⟨27, (HK4 xs).mem, []⟩ : AH) 4 0 (xs ++ five) := lent_bys (by kernel_rfl) hx
      have h2 := (h1.drop (xs.length - mN xs)).take (mN xs)
      rw [hdt] at h2; exact h2
    rw [Nat.zero_add] at hb
    have hc := (hCopy_at (h := ⟨27, (HK4 xs).mem, []⟩) (b := 15) (o := 18 - mN xs) (mx := mN xs) (cx := mN xs) (n2 := mN xs) (c2 := unk 1) (k := mN xs) (nn := 18) (c := cK4 xs) (Nat.min_self _) hl2 hm0 hb (by kernel_rfl) hcK4)
    exact Eq.mp (by kernel_rfl) hc
  · have := slS_unk (b := 4) (o := 0) (n := xs.length) (lo := xs.length - mN xs) (hi := xs.length) (loV := some (.int .i64 (wr .i64 (Int.ofNat xs.length - Int.ofNat (mN xs))))) (hiV := none) rfl (by rw [hsub2]; exact vNat_some (by omega))
    rw [Nat.zero_add, show xs.length - (xs.length - mN xs) = mN xs by omega] at this
    exact congrArg (fun z => Option.bind z _) this
  · have := slA_lo (b := 15) (o := 2) (len := 16) (lo := 16 - mN xs) (by omega) (by decide) (loV := some (.int .i64 (wr .i64 (Int.ofNat 16 - Int.ofNat (mN xs))))) (by rw [hsub]; exact vNat_some (by omega))
    rw [show 16 - (16 - mN xs) = mN xs by omega, show 2 + (16 - mN xs) = 18 - mN xs by omega] at this
    exact congrArg (fun z => Option.bind z _) this
  · have hb : Bys (HK3 xs) 4 0 (xs.take (mN xs)) := by
      have h1 : Bys (HK3 xs) 4 0 (xs ++ five) := lent_bys (by kernel_rfl) hx
      have h2 := h1.take (mN xs)
      rw [htake] at h2; exact h2
    have hc := (hCopy_at (h := HK3 xs) (b := 15) (o := 2) (mx := 8) (cx := 16) (n2 := xs.length) (c2 := unk 1) (k := mN xs) (nn := 18) (c := PT.ofList (keyL xs.length (sumN xs)) 0 .leaf) rfl hl1 hm0 hb (by kernel_rfl) (fun i hi => keyO_ex _ _ _ (by omega)))
    exact Eq.mp (by kernel_rfl) hc
  · exact (congrArg (fun z => Option.bind z _) (mnI_nat xs.length 8)).trans (by kernel_rfl)
  · exact Eq.mp (by kernel_rfl) hC
/-! ## The name of an image, by the reference -/
noncomputable def fi8 : FI := match envT.fn 8 with | some x => x | none => ⟨.skip, 0, #[]⟩
noncomputable def X8 : Code := atP fi8.body [2, 2, 1, 2, 1, 1]
def HB (xs : List Nat) : AH := (HA xs).up 15
def HR (xs : List Nat) : AH := ((HB xs).new (keyO 0 0)).new (keyO xs.length (sumN xs))
def HRc (xs : List Nat) (c : PT Value) : AH := (HR xs).put 28 (some (.cells c 18))
def t8 (n c i : Nat) (tm : Tm) : Tm := tmK [(0, sl 0 0 n c), (2, ptr 27 0), (3, ptr 28 0), (4, i64 i)] tm
noncomputable def s8 (C : Oracle) (N x y i cap : Nat) (xs : List Nat) (c : PT Value) (tm : Tm) : SY := syC envT (C) (40) (N) [(1, Value.bool true, none),
  (6, Value.bool true, none),
  (11, ptr 0 (0 + i), none),
  (12, u8 x, none),
  (14, ptr 28 (2 + i), none),
  (15, junk, some (HRc xs (PT.put c (2 + i) (some (u8 x))))),
  (24, ptr 0 (List.length xs - 1 - i), none),
  (25, u8 y, none),
  (27, ptr 28 (17 - i), none),
  (28, junk, some (HRc xs (PT.put (PT.put c (2 + i) (some (u8 x))) (17 - i) (some (u8 y)))))] [] (X8) (t8 xs.length cap i tm) ((HRc xs c)) 0 []
theorem s8_ok (C : Oracle) (N x y i cap : Nat) (xs : List Nat) (c : PT Value) (tm : Tm) : Sy envT (C) (40) (N) [(1, Value.bool true, none),
  (6, Value.bool true, none),
  (11, ptr 0 (0 + i), none),
  (12, u8 x, none),
  (14, ptr 28 (2 + i), none),
  (15, junk, some (HRc xs (PT.put c (2 + i) (some (u8 x))))),
  (24, ptr 0 (List.length xs - 1 - i), none),
  (25, u8 y, none),
  (27, ptr 28 (17 - i), none),
  (28, junk, some (HRc xs (PT.put (PT.put c (2 + i) (some (u8 x))) (17 - i) (some (u8 y)))))] [] (X8) (t8 xs.length cap i tm) ((HRc xs c)) .normal (SY.t (s8 C N x y i cap xs c tm)) (AH.mk 29 (PT.node (some (roO xs)) (PT.node none (PT.node none PT.leaf (PT.node none PT.leaf (PT.node (some (keyO 0 0)) PT.leaf PT.leaf))) PT.leaf) (PT.node none (PT.node (some (lentO xs)) PT.leaf (PT.node none PT.leaf (PT.node (some (AObj.cells (PT.put (PT.put c (2 + i) (some (Value.int IntKind.u8 (Int.ofNat x)))) (17 - i) (some (Value.int IntKind.u8 (Int.ofNat y)))) 18)) PT.leaf PT.leaf))) PT.leaf)) []) (SY.c (s8 C N x y i cap xs c tm)) := ⟨32, by kernel_rfl⟩
theorem s8_c (C : Oracle) (N x y i cap : Nat) (xs : List Nat) (c : PT Value) (tm : Tm) : SY.c (s8 C N x y i cap xs c tm) =
  [((AH.st (AH.mk 29 (PT.node (some (roO xs)) (PT.node none (PT.node none PT.leaf (PT.node none PT.leaf (PT.node (some (keyO 0 0)) PT.leaf PT.leaf))) PT.leaf) (PT.node none (PT.node (some (lentO xs)) PT.leaf (PT.node none PT.leaf (PT.node (some (AObj.cells (PT.put c (2 + i) (some (Value.int IntKind.u8 (Int.ofNat x)))) 18)) PT.leaf PT.leaf))) PT.leaf)) []) (28) (17 - i) (Value.int IntKind.u8 (Int.ofNat y))).bind fun h' => some (junk, h')) = some (junk, HRc xs (PT.put (PT.put c (2 + i) (some (u8 x))) (17 - i) (some (u8 y)))),
   (((ixOk (wr IntKind.i64 (Int.ofNat 15 - Int.ofNat i)) 16).bind fun m => some (ptr (28) (2 + m * 1))).bind fun v => some (v, AH.mk 29 (PT.node (some (roO xs)) (PT.node none (PT.node none PT.leaf (PT.node none PT.leaf (PT.node (some (keyO 0 0)) PT.leaf PT.leaf))) PT.leaf) (PT.node none (PT.node (some (lentO xs)) PT.leaf (PT.node none PT.leaf (PT.node (some (AObj.cells (PT.put c (2 + i) (some (Value.int IntKind.u8 (Int.ofNat x)))) 18)) PT.leaf PT.leaf))) PT.leaf)) [])) = some (ptr 28 (17 - i), AH.mk 29 (PT.node (some (roO xs)) (PT.node none (PT.node none PT.leaf (PT.node none PT.leaf (PT.node (some (keyO 0 0)) PT.leaf PT.leaf))) PT.leaf) (PT.node none (PT.node (some (lentO xs)) PT.leaf (PT.node none PT.leaf (PT.node (some (AObj.cells (PT.put c (2 + i) (some (Value.int IntKind.u8 (Int.ofNat x)))) 18)) PT.leaf PT.leaf))) PT.leaf)) []),
   ((AH.cell (AH.mk 29 (PT.node (some (roO xs)) (PT.node none (PT.node none PT.leaf (PT.node none PT.leaf (PT.node (some (keyO 0 0)) PT.leaf PT.leaf))) PT.leaf) (PT.node none (PT.node (some (lentO xs)) PT.leaf (PT.node none PT.leaf (PT.node (some (AObj.cells (PT.put c (2 + i) (some (Value.int IntKind.u8 (Int.ofNat x)))) 18)) PT.leaf PT.leaf))) PT.leaf)) []) (0) (List.length xs - 1 - i)).bind fun v => some (v, AH.mk 29 (PT.node (some (roO xs)) (PT.node none (PT.node none PT.leaf (PT.node none PT.leaf (PT.node (some (keyO 0 0)) PT.leaf PT.leaf))) PT.leaf) (PT.node none (PT.node (some (lentO xs)) PT.leaf (PT.node none PT.leaf (PT.node (some (AObj.cells (PT.put c (2 + i) (some (Value.int IntKind.u8 (Int.ofNat x)))) 18)) PT.leaf PT.leaf))) PT.leaf)) [])) = some (u8 y, AH.mk 29 (PT.node (some (roO xs)) (PT.node none (PT.node none PT.leaf (PT.node none PT.leaf (PT.node (some (keyO 0 0)) PT.leaf PT.leaf))) PT.leaf) (PT.node none (PT.node (some (lentO xs)) PT.leaf (PT.node none PT.leaf (PT.node (some (AObj.cells (PT.put c (2 + i) (some (Value.int IntKind.u8 (Int.ofNat x)))) 18)) PT.leaf PT.leaf))) PT.leaf)) []),
   (((ixOk (wr IntKind.i64 (wr IntKind.i64 (Int.ofNat (List.length xs) - Int.ofNat 1) - Int.ofNat i)) (List.length xs)).bind fun m => some (ptr (0) (0 + m * 1))).bind fun v => some (v, AH.mk 29 (PT.node (some (roO xs)) (PT.node none (PT.node none PT.leaf (PT.node none PT.leaf (PT.node (some (keyO 0 0)) PT.leaf PT.leaf))) PT.leaf) (PT.node none (PT.node (some (lentO xs)) PT.leaf (PT.node none PT.leaf (PT.node (some (AObj.cells (PT.put c (2 + i) (some (Value.int IntKind.u8 (Int.ofNat x)))) 18)) PT.leaf PT.leaf))) PT.leaf)) [])) = some (ptr 0 (List.length xs - 1 - i), AH.mk 29 (PT.node (some (roO xs)) (PT.node none (PT.node none PT.leaf (PT.node none PT.leaf (PT.node (some (keyO 0 0)) PT.leaf PT.leaf))) PT.leaf) (PT.node none (PT.node (some (lentO xs)) PT.leaf (PT.node none PT.leaf (PT.node (some (AObj.cells (PT.put c (2 + i) (some (Value.int IntKind.u8 (Int.ofNat x)))) 18)) PT.leaf PT.leaf))) PT.leaf)) []),
   ((AH.st (AH.mk 29 (PT.node (some (roO xs)) (PT.node none (PT.node none PT.leaf (PT.node none PT.leaf (PT.node (some (keyO 0 0)) PT.leaf PT.leaf))) PT.leaf) (PT.node none (PT.node (some (lentO xs)) PT.leaf (PT.node none PT.leaf (PT.node (some (AObj.cells c 18)) PT.leaf PT.leaf))) PT.leaf)) []) (28) (2 + i) (Value.int IntKind.u8 (Int.ofNat x))).bind fun h' => some (junk, h')) = some (junk, HRc xs (PT.put c (2 + i) (some (u8 x)))),
   (((ixOk (Int.ofNat i) 16).bind fun m => some (ptr (28) (2 + m * 1))).bind fun v => some (v, AH.mk 29 (PT.node (some (roO xs)) (PT.node none (PT.node none PT.leaf (PT.node none PT.leaf (PT.node (some (keyO 0 0)) PT.leaf PT.leaf))) PT.leaf) (PT.node none (PT.node (some (lentO xs)) PT.leaf (PT.node none PT.leaf (PT.node (some (AObj.cells c 18)) PT.leaf PT.leaf))) PT.leaf)) [])) = some (ptr 28 (2 + i), AH.mk 29 (PT.node (some (roO xs)) (PT.node none (PT.node none PT.leaf (PT.node none PT.leaf (PT.node (some (keyO 0 0)) PT.leaf PT.leaf))) PT.leaf) (PT.node none (PT.node (some (lentO xs)) PT.leaf (PT.node none PT.leaf (PT.node (some (AObj.cells c 18)) PT.leaf PT.leaf))) PT.leaf)) []),
   ((AH.cell (AH.mk 29 (PT.node (some (roO xs)) (PT.node none (PT.node none PT.leaf (PT.node none PT.leaf (PT.node (some (keyO 0 0)) PT.leaf PT.leaf))) PT.leaf) (PT.node none (PT.node (some (lentO xs)) PT.leaf (PT.node none PT.leaf (PT.node (some (AObj.cells c 18)) PT.leaf PT.leaf))) PT.leaf)) []) (0) (0 + i)).bind fun v => some (v, AH.mk 29 (PT.node (some (roO xs)) (PT.node none (PT.node none PT.leaf (PT.node none PT.leaf (PT.node (some (keyO 0 0)) PT.leaf PT.leaf))) PT.leaf) (PT.node none (PT.node (some (lentO xs)) PT.leaf (PT.node none PT.leaf (PT.node (some (AObj.cells c 18)) PT.leaf PT.leaf))) PT.leaf)) [])) = some (u8 x, AH.mk 29 (PT.node (some (roO xs)) (PT.node none (PT.node none PT.leaf (PT.node none PT.leaf (PT.node (some (keyO 0 0)) PT.leaf PT.leaf))) PT.leaf) (PT.node none (PT.node (some (lentO xs)) PT.leaf (PT.node none PT.leaf (PT.node (some (AObj.cells c 18)) PT.leaf PT.leaf))) PT.leaf)) []),
   (((ixOk (Int.ofNat i) (List.length xs)).bind fun m => some (ptr (0) (0 + m * 1))).bind fun v => some (v, AH.mk 29 (PT.node (some (roO xs)) (PT.node none (PT.node none PT.leaf (PT.node none PT.leaf (PT.node (some (keyO 0 0)) PT.leaf PT.leaf))) PT.leaf) (PT.node none (PT.node (some (lentO xs)) PT.leaf (PT.node none PT.leaf (PT.node (some (AObj.cells c 18)) PT.leaf PT.leaf))) PT.leaf)) [])) = some (ptr 0 (0 + i), AH.mk 29 (PT.node (some (roO xs)) (PT.node none (PT.node none PT.leaf (PT.node none PT.leaf (PT.node (some (keyO 0 0)) PT.leaf PT.leaf))) PT.leaf) (PT.node none (PT.node (some (lentO xs)) PT.leaf (PT.node none PT.leaf (PT.node (some (AObj.cells c 18)) PT.leaf PT.leaf))) PT.leaf)) []),
   (some (Value.bool (ilt (Int.ofNat i) (Int.ofNat (List.length xs))), AH.mk 29 (PT.node (some (roO xs)) (PT.node none (PT.node none PT.leaf (PT.node none PT.leaf (PT.node (some (keyO 0 0)) PT.leaf PT.leaf))) PT.leaf) (PT.node none (PT.node (some (lentO xs)) PT.leaf (PT.node none PT.leaf (PT.node (some (AObj.cells c 18)) PT.leaf PT.leaf))) PT.leaf)) [])) = some (Value.bool true, AH.mk 29 (PT.node (some (roO xs)) (PT.node none (PT.node none PT.leaf (PT.node none PT.leaf (PT.node (some (keyO 0 0)) PT.leaf PT.leaf))) PT.leaf) (PT.node none (PT.node (some (lentO xs)) PT.leaf (PT.node none PT.leaf (PT.node (some (AObj.cells c 18)) PT.leaf PT.leaf))) PT.leaf)) []),
   (some (Value.bool (ilt (Int.ofNat i) (Int.ofNat 8)), AH.mk 29 (PT.node (some (roO xs)) (PT.node none (PT.node none PT.leaf (PT.node none PT.leaf (PT.node (some (keyO 0 0)) PT.leaf PT.leaf))) PT.leaf) (PT.node none (PT.node (some (lentO xs)) PT.leaf (PT.node none PT.leaf (PT.node (some (AObj.cells c 18)) PT.leaf PT.leaf))) PT.leaf)) [])) = some (Value.bool true, AH.mk 29 (PT.node (some (roO xs)) (PT.node none (PT.node none PT.leaf (PT.node none PT.leaf (PT.node (some (keyO 0 0)) PT.leaf PT.leaf))) PT.leaf) (PT.node none (PT.node (some (lentO xs)) PT.leaf (PT.node none PT.leaf (PT.node (some (AObj.cells c 18)) PT.leaf PT.leaf))) PT.leaf)) [])] := by kernel_rfl
theorem s8_t (C : Oracle) (N x y i cap : Nat) (xs : List Nat) (c : PT Value) (tm : Tm) : SY.t (s8 C N x y i cap xs c tm) 0 = Value.slice (some (Addr.mk 0 0 none)) (List.length xs) cap ∧
   SY.t (s8 C N x y i cap xs c tm) 2 = Value.pointer (some (Addr.mk 27 0 none)) ∧
   SY.t (s8 C N x y i cap xs c tm) 3 = Value.pointer (some (Addr.mk 28 0 none)) ∧
   SY.t (s8 C N x y i cap xs c tm) 4 = Value.int IntKind.i64 (wr IntKind.i64 (Int.ofNat (i + 1))) :=
  ⟨by kernel_rfl, by kernel_rfl, by kernel_rfl, by kernel_rfl⟩
noncomputable def e8a (C : Oracle) (N i cap : Nat) (xs : List Nat) (c : PT Value) (tm : Tm) : SY := syC envT (C) (40) (N) [(1, Value.bool false, none)] [] (X8) (t8 xs.length cap i tm) ((HRc xs c)) 0 []
theorem e8a_ok (C : Oracle) (N i cap : Nat) (xs : List Nat) (c : PT Value) (tm : Tm) : Sy envT (C) (40) (N) [(1, Value.bool false, none)] [] (X8) (t8 xs.length cap i tm) ((HRc xs c)) (.exit 0) (SY.t (e8a C N i cap xs c tm)) (AH.mk 29 (PT.node (some (roO xs)) (PT.node none (PT.node none PT.leaf (PT.node none PT.leaf (PT.node (some (keyO 0 0)) PT.leaf PT.leaf))) PT.leaf) (PT.node none (PT.node (some (lentO xs)) PT.leaf (PT.node none PT.leaf (PT.node (some (AObj.cells c 18)) PT.leaf PT.leaf))) PT.leaf)) []) (SY.c (e8a C N i cap xs c tm)) := ⟨4, by kernel_rfl⟩
theorem e8a_c (C : Oracle) (N i cap : Nat) (xs : List Nat) (c : PT Value) (tm : Tm) : SY.c (e8a C N i cap xs c tm) =
  [(some (Value.bool (ilt (Int.ofNat i) (Int.ofNat 8)), AH.mk 29 (PT.node (some (roO xs)) (PT.node none (PT.node none PT.leaf (PT.node none PT.leaf (PT.node (some (keyO 0 0)) PT.leaf PT.leaf))) PT.leaf) (PT.node none (PT.node (some (lentO xs)) PT.leaf (PT.node none PT.leaf (PT.node (some (AObj.cells c 18)) PT.leaf PT.leaf))) PT.leaf)) [])) = some (Value.bool false, AH.mk 29 (PT.node (some (roO xs)) (PT.node none (PT.node none PT.leaf (PT.node none PT.leaf (PT.node (some (keyO 0 0)) PT.leaf PT.leaf))) PT.leaf) (PT.node none (PT.node (some (lentO xs)) PT.leaf (PT.node none PT.leaf (PT.node (some (AObj.cells c 18)) PT.leaf PT.leaf))) PT.leaf)) [])] := by kernel_rfl
theorem e8a_t (C : Oracle) (N i cap : Nat) (xs : List Nat) (c : PT Value) (tm : Tm) : SY.t (e8a C N i cap xs c tm) 2 = Value.pointer (some (Addr.mk 27 0 none)) ∧
   SY.t (e8a C N i cap xs c tm) 3 = Value.pointer (some (Addr.mk 28 0 none)) :=
  ⟨by kernel_rfl, by kernel_rfl⟩
noncomputable def e8b (C : Oracle) (N i cap : Nat) (xs : List Nat) (c : PT Value) (tm : Tm) : SY := syC envT (C) (40) (N) [(1, Value.bool true, none),
  (6, Value.bool false, none)] [] (X8) (t8 xs.length cap i tm) ((HRc xs c)) 0 []
theorem e8b_ok (C : Oracle) (N i cap : Nat) (xs : List Nat) (c : PT Value) (tm : Tm) : Sy envT (C) (40) (N) [(1, Value.bool true, none),
  (6, Value.bool false, none)] [] (X8) (t8 xs.length cap i tm) ((HRc xs c)) (.exit 0) (SY.t (e8b C N i cap xs c tm)) (AH.mk 29 (PT.node (some (roO xs)) (PT.node none (PT.node none PT.leaf (PT.node none PT.leaf (PT.node (some (keyO 0 0)) PT.leaf PT.leaf))) PT.leaf) (PT.node none (PT.node (some (lentO xs)) PT.leaf (PT.node none PT.leaf (PT.node (some (AObj.cells c 18)) PT.leaf PT.leaf))) PT.leaf)) []) (SY.c (e8b C N i cap xs c tm)) := ⟨8, by kernel_rfl⟩
theorem e8b_c (C : Oracle) (N i cap : Nat) (xs : List Nat) (c : PT Value) (tm : Tm) : SY.c (e8b C N i cap xs c tm) =
  [(some (Value.bool (ilt (Int.ofNat i) (Int.ofNat (List.length xs))), AH.mk 29 (PT.node (some (roO xs)) (PT.node none (PT.node none PT.leaf (PT.node none PT.leaf (PT.node (some (keyO 0 0)) PT.leaf PT.leaf))) PT.leaf) (PT.node none (PT.node (some (lentO xs)) PT.leaf (PT.node none PT.leaf (PT.node (some (AObj.cells c 18)) PT.leaf PT.leaf))) PT.leaf)) [])) = some (Value.bool false, AH.mk 29 (PT.node (some (roO xs)) (PT.node none (PT.node none PT.leaf (PT.node none PT.leaf (PT.node (some (keyO 0 0)) PT.leaf PT.leaf))) PT.leaf) (PT.node none (PT.node (some (lentO xs)) PT.leaf (PT.node none PT.leaf (PT.node (some (AObj.cells c 18)) PT.leaf PT.leaf))) PT.leaf)) []),
   (some (Value.bool (ilt (Int.ofNat i) (Int.ofNat 8)), AH.mk 29 (PT.node (some (roO xs)) (PT.node none (PT.node none PT.leaf (PT.node none PT.leaf (PT.node (some (keyO 0 0)) PT.leaf PT.leaf))) PT.leaf) (PT.node none (PT.node (some (lentO xs)) PT.leaf (PT.node none PT.leaf (PT.node (some (AObj.cells c 18)) PT.leaf PT.leaf))) PT.leaf)) [])) = some (Value.bool true, AH.mk 29 (PT.node (some (roO xs)) (PT.node none (PT.node none PT.leaf (PT.node none PT.leaf (PT.node (some (keyO 0 0)) PT.leaf PT.leaf))) PT.leaf) (PT.node none (PT.node (some (lentO xs)) PT.leaf (PT.node none PT.leaf (PT.node (some (AObj.cells c 18)) PT.leaf PT.leaf))) PT.leaf)) [])] := by kernel_rfl
theorem e8b_t (C : Oracle) (N i cap : Nat) (xs : List Nat) (c : PT Value) (tm : Tm) : SY.t (e8b C N i cap xs c tm) 2 = Value.pointer (some (Addr.mk 27 0 none)) ∧
   SY.t (e8b C N i cap xs c tm) 3 = Value.pointer (some (Addr.mk 28 0 none)) :=
  ⟨by kernel_rfl, by kernel_rfl⟩
theorem d8 (C : Oracle) (N cap : Nat) (xs : List Nat) (c : PT Value) (T : Tm) : syG envT (C) (N) [(4, u32 (sumN xs), none),
  (10, keyV xs, none)] [(9, Ex.exit 0, tmK [(2, ptr 27 0), (3, ptr 28 0)] T, HRc xs c)] 8 ([sl 0 0 xs.length cap]) ((HB xs)) = some (Value.agg (Array.mk [Value.int IntKind.i64 (Int.ofNat (List.length xs)), Value.int IntKind.u32 (Int.ofNat (sumN xs)), Value.int IntKind.u8 (Int.ofNat (endN xs 0)), Value.int IntKind.u8 (Int.ofNat (endN xs 1)), Value.int IntKind.u8 (Int.ofNat (endN xs 2)), Value.int IntKind.u8 (Int.ofNat (endN xs 3)), Value.int IntKind.u8 (Int.ofNat (endN xs 4)), Value.int IntKind.u8 (Int.ofNat (endN xs 5)), Value.int IntKind.u8 (Int.ofNat (endN xs 6)), Value.int IntKind.u8 (Int.ofNat (endN xs 7)), Value.int IntKind.u8 (Int.ofNat (endN xs 8)), Value.int IntKind.u8 (Int.ofNat (endN xs 9)), Value.int IntKind.u8 (Int.ofNat (endN xs 10)), Value.int IntKind.u8 (Int.ofNat (endN xs 11)), Value.int IntKind.u8 (Int.ofNat (endN xs 12)), Value.int IntKind.u8 (Int.ofNat (endN xs 13)), Value.int IntKind.u8 (Int.ofNat (endN xs 14)), Value.int IntKind.u8 (Int.ofNat (endN xs 15))]), AH.mk 29 (PT.node (some (roO xs)) (PT.node none (PT.node none PT.leaf (PT.node none PT.leaf (PT.node (some (AObj.cells (PT.node (some (Value.int IntKind.i64 (Int.ofNat (List.length xs)))) (PT.node (some (Value.int IntKind.u32 (Int.ofNat (sumN xs)))) (PT.node (some (Value.int IntKind.u8 (Int.ofNat (endN xs 1)))) (PT.node (some (Value.int IntKind.u8 (Int.ofNat (endN xs 5)))) (PT.node (some (Value.int IntKind.u8 (Int.ofNat (endN xs 13)))) PT.leaf PT.leaf) PT.leaf) (PT.node (some (Value.int IntKind.u8 (Int.ofNat (endN xs 9)))) PT.leaf PT.leaf)) (PT.node (some (Value.int IntKind.u8 (Int.ofNat (endN xs 3)))) (PT.node (some (Value.int IntKind.u8 (Int.ofNat (endN xs 7)))) (PT.node (some (Value.int IntKind.u8 (Int.ofNat (endN xs 15)))) PT.leaf PT.leaf) PT.leaf) (PT.node (some (Value.int IntKind.u8 (Int.ofNat (endN xs 11)))) PT.leaf PT.leaf))) (PT.node (some (Value.int IntKind.u8 (Int.ofNat (endN xs 0)))) (PT.node (some (Value.int IntKind.u8 (Int.ofNat (endN xs 2)))) (PT.node (some (Value.int IntKind.u8 (Int.ofNat (endN xs 6)))) (PT.node (some (Value.int IntKind.u8 (Int.ofNat (endN xs 14)))) PT.leaf PT.leaf) PT.leaf) (PT.node (some (Value.int IntKind.u8 (Int.ofNat (endN xs 10)))) PT.leaf PT.leaf)) (PT.node (some (Value.int IntKind.u8 (Int.ofNat (endN xs 4)))) (PT.node (some (Value.int IntKind.u8 (Int.ofNat (endN xs 8)))) PT.leaf PT.leaf) (PT.node (some (Value.int IntKind.u8 (Int.ofNat (endN xs 12)))) PT.leaf PT.leaf)))) 18)) PT.leaf PT.leaf))) PT.leaf) (PT.node none (PT.node (some (lentO xs)) PT.leaf (PT.node none PT.leaf (PT.node (some (AObj.cells c 18)) PT.leaf PT.leaf))) PT.leaf)) [],
  [((ldN 18 (Value.pointer (some (Addr.mk 28 0 none))) (AH.mk 29 (PT.node (some (roO xs)) (PT.node none (PT.node none PT.leaf (PT.node none PT.leaf (PT.node (some (keyO 0 0)) PT.leaf PT.leaf))) PT.leaf) (PT.node none (PT.node (some (lentO xs)) PT.leaf (PT.node none PT.leaf (PT.node (some (AObj.cells c 18)) PT.leaf PT.leaf))) PT.leaf)) [])).bind fun v => some (v, AH.mk 29 (PT.node (some (roO xs)) (PT.node none (PT.node none PT.leaf (PT.node none PT.leaf (PT.node (some (keyO 0 0)) PT.leaf PT.leaf))) PT.leaf) (PT.node none (PT.node (some (lentO xs)) PT.leaf (PT.node none PT.leaf (PT.node (some (AObj.cells c 18)) PT.leaf PT.leaf))) PT.leaf)) [])) = some (keyV xs, HRc xs c),
   ∀ K : Kont, loopK (N) (fun G => evF envT (C) 40 (N) (atP (fi8.body) [2, 2, 1, 2, 1, 1]) (thenK G K)) (stoF (stoF (stoF (stoF (stoF (stoF (stoF (stoF (stoF (fun i => gt ([sl 0 0 (List.length xs) cap] ++ List.replicate 39 undV) i) (some 2) (Value.pointer (some (Addr.mk 27 0 none)))) (some 5) (Value.slice (some (Addr.mk 0 0 none)) (List.length xs) cap)) (some 6) (Value.int IntKind.i64 (Int.ofNat (List.length xs)))) (some 7) (Value.slice (some (Addr.mk 0 0 none)) (List.length xs) cap)) (some 8) (u32 (sumN xs))) (some 9) (Value.agg (Array.mk [Value.int IntKind.i64 (Int.ofNat (List.length xs)), Value.int IntKind.u32 (Int.ofNat (sumN xs)), Value.int IntKind.u8 (Int.ofNat 0), Value.int IntKind.u8 (Int.ofNat 0), Value.int IntKind.u8 (Int.ofNat 0), Value.int IntKind.u8 (Int.ofNat 0), Value.int IntKind.u8 (Int.ofNat 0), Value.int IntKind.u8 (Int.ofNat 0), Value.int IntKind.u8 (Int.ofNat 0), Value.int IntKind.u8 (Int.ofNat 0), Value.int IntKind.u8 (Int.ofNat 0), Value.int IntKind.u8 (Int.ofNat 0), Value.int IntKind.u8 (Int.ofNat 0), Value.int IntKind.u8 (Int.ofNat 0), Value.int IntKind.u8 (Int.ofNat 0), Value.int IntKind.u8 (Int.ofNat 0), Value.int IntKind.u8 (Int.ofNat 0), Value.int IntKind.u8 (Int.ofNat 0)]))) (some 3) (Value.pointer (some (Addr.mk 28 0 none)))) none (Value.tuple (Array.mk []))) (some 4) (Value.int IntKind.i64 (Int.ofNat 0))) (AH.mk 29 (PT.node (some (roO xs)) (PT.node none (PT.node none PT.leaf (PT.node none PT.leaf (PT.node (some (AObj.cells (PT.node (some (Value.int IntKind.i64 (Int.ofNat 0))) (PT.node (some (Value.int IntKind.u32 (Int.ofNat 0))) (PT.node (some (Value.int IntKind.u8 (Int.ofNat 0))) (PT.node (some (Value.int IntKind.u8 (Int.ofNat 0))) (PT.node (some (Value.int IntKind.u8 (Int.ofNat 0))) PT.leaf PT.leaf) PT.leaf) (PT.node (some (Value.int IntKind.u8 (Int.ofNat 0))) PT.leaf PT.leaf)) (PT.node (some (Value.int IntKind.u8 (Int.ofNat 0))) (PT.node (some (Value.int IntKind.u8 (Int.ofNat 0))) (PT.node (some (Value.int IntKind.u8 (Int.ofNat 0))) PT.leaf PT.leaf) PT.leaf) (PT.node (some (Value.int IntKind.u8 (Int.ofNat 0))) PT.leaf PT.leaf))) (PT.node (some (Value.int IntKind.u8 (Int.ofNat 0))) (PT.node (some (Value.int IntKind.u8 (Int.ofNat 0))) (PT.node (some (Value.int IntKind.u8 (Int.ofNat 0))) (PT.node (some (Value.int IntKind.u8 (Int.ofNat 0))) PT.leaf PT.leaf) PT.leaf) (PT.node (some (Value.int IntKind.u8 (Int.ofNat 0))) PT.leaf PT.leaf)) (PT.node (some (Value.int IntKind.u8 (Int.ofNat 0))) (PT.node (some (Value.int IntKind.u8 (Int.ofNat 0))) PT.leaf PT.leaf) (PT.node (some (Value.int IntKind.u8 (Int.ofNat 0))) PT.leaf PT.leaf)))) 18)) PT.leaf PT.leaf))) PT.leaf) (PT.node none (PT.node (some (lentO xs)) PT.leaf (PT.node none PT.leaf (PT.node (some (AObj.cells (PT.node (some (Value.int IntKind.i64 (Int.ofNat (List.length xs)))) (PT.node (some (Value.int IntKind.u32 (Int.ofNat (sumN xs)))) (PT.node (some (Value.int IntKind.u8 (Int.ofNat 0))) (PT.node (some (Value.int IntKind.u8 (Int.ofNat 0))) (PT.node (some (Value.int IntKind.u8 (Int.ofNat 0))) PT.leaf PT.leaf) PT.leaf) (PT.node (some (Value.int IntKind.u8 (Int.ofNat 0))) PT.leaf PT.leaf)) (PT.node (some (Value.int IntKind.u8 (Int.ofNat 0))) (PT.node (some (Value.int IntKind.u8 (Int.ofNat 0))) (PT.node (some (Value.int IntKind.u8 (Int.ofNat 0))) PT.leaf PT.leaf) PT.leaf) (PT.node (some (Value.int IntKind.u8 (Int.ofNat 0))) PT.leaf PT.leaf))) (PT.node (some (Value.int IntKind.u8 (Int.ofNat 0))) (PT.node (some (Value.int IntKind.u8 (Int.ofNat 0))) (PT.node (some (Value.int IntKind.u8 (Int.ofNat 0))) (PT.node (some (Value.int IntKind.u8 (Int.ofNat 0))) PT.leaf PT.leaf) PT.leaf) (PT.node (some (Value.int IntKind.u8 (Int.ofNat 0))) PT.leaf PT.leaf)) (PT.node (some (Value.int IntKind.u8 (Int.ofNat 0))) (PT.node (some (Value.int IntKind.u8 (Int.ofNat 0))) PT.leaf PT.leaf) (PT.node (some (Value.int IntKind.u8 (Int.ofNat 0))) PT.leaf PT.leaf)))) 18)) PT.leaf PT.leaf))) PT.leaf)) []) = K (Ex.exit 0) (tmK [(2, ptr 27 0), (3, ptr 28 0)] T) (HRc xs c),
   (C (Value.func (Fn.func 20) (Array.mk []) (Array.mk [])) [Value.int IntKind.u32 (Int.ofNat 0), Value.slice (some (Addr.mk 0 0 none)) (List.length xs) cap] (AH.mk 28 (PT.node (some (roO xs)) (PT.node none (PT.node none PT.leaf (PT.node none PT.leaf (PT.node (some (AObj.cells (PT.node (some (Value.int IntKind.i64 (Int.ofNat 0))) (PT.node (some (Value.int IntKind.u32 (Int.ofNat 0))) (PT.node (some (Value.int IntKind.u8 (Int.ofNat 0))) (PT.node (some (Value.int IntKind.u8 (Int.ofNat 0))) (PT.node (some (Value.int IntKind.u8 (Int.ofNat 0))) PT.leaf PT.leaf) PT.leaf) (PT.node (some (Value.int IntKind.u8 (Int.ofNat 0))) PT.leaf PT.leaf)) (PT.node (some (Value.int IntKind.u8 (Int.ofNat 0))) (PT.node (some (Value.int IntKind.u8 (Int.ofNat 0))) (PT.node (some (Value.int IntKind.u8 (Int.ofNat 0))) PT.leaf PT.leaf) PT.leaf) (PT.node (some (Value.int IntKind.u8 (Int.ofNat 0))) PT.leaf PT.leaf))) (PT.node (some (Value.int IntKind.u8 (Int.ofNat 0))) (PT.node (some (Value.int IntKind.u8 (Int.ofNat 0))) (PT.node (some (Value.int IntKind.u8 (Int.ofNat 0))) (PT.node (some (Value.int IntKind.u8 (Int.ofNat 0))) PT.leaf PT.leaf) PT.leaf) (PT.node (some (Value.int IntKind.u8 (Int.ofNat 0))) PT.leaf PT.leaf)) (PT.node (some (Value.int IntKind.u8 (Int.ofNat 0))) (PT.node (some (Value.int IntKind.u8 (Int.ofNat 0))) PT.leaf PT.leaf) (PT.node (some (Value.int IntKind.u8 (Int.ofNat 0))) PT.leaf PT.leaf)))) 18)) PT.leaf PT.leaf))) PT.leaf) (PT.node none (PT.node (some (lentO xs)) PT.leaf PT.leaf) PT.leaf)) [])) = some (u32 (sumN xs), AH.mk 28 (PT.node (some (roO xs)) (PT.node none (PT.node none PT.leaf (PT.node none PT.leaf (PT.node (some (AObj.cells (PT.node (some (Value.int IntKind.i64 (Int.ofNat 0))) (PT.node (some (Value.int IntKind.u32 (Int.ofNat 0))) (PT.node (some (Value.int IntKind.u8 (Int.ofNat 0))) (PT.node (some (Value.int IntKind.u8 (Int.ofNat 0))) (PT.node (some (Value.int IntKind.u8 (Int.ofNat 0))) PT.leaf PT.leaf) PT.leaf) (PT.node (some (Value.int IntKind.u8 (Int.ofNat 0))) PT.leaf PT.leaf)) (PT.node (some (Value.int IntKind.u8 (Int.ofNat 0))) (PT.node (some (Value.int IntKind.u8 (Int.ofNat 0))) (PT.node (some (Value.int IntKind.u8 (Int.ofNat 0))) PT.leaf PT.leaf) PT.leaf) (PT.node (some (Value.int IntKind.u8 (Int.ofNat 0))) PT.leaf PT.leaf))) (PT.node (some (Value.int IntKind.u8 (Int.ofNat 0))) (PT.node (some (Value.int IntKind.u8 (Int.ofNat 0))) (PT.node (some (Value.int IntKind.u8 (Int.ofNat 0))) (PT.node (some (Value.int IntKind.u8 (Int.ofNat 0))) PT.leaf PT.leaf) PT.leaf) (PT.node (some (Value.int IntKind.u8 (Int.ofNat 0))) PT.leaf PT.leaf)) (PT.node (some (Value.int IntKind.u8 (Int.ofNat 0))) (PT.node (some (Value.int IntKind.u8 (Int.ofNat 0))) PT.leaf PT.leaf) (PT.node (some (Value.int IntKind.u8 (Int.ofNat 0))) PT.leaf PT.leaf)))) 18)) PT.leaf PT.leaf))) PT.leaf) (PT.node none (PT.node (some (lentO xs)) PT.leaf PT.leaf) PT.leaf)) [])]) := by kernel_rfl
structure In8 (n c i : Nat) (tm : Tm) : Prop where
  t0 : tm 0 = sl 0 0 n c
  t2 : tm 2 = ptr 27 0
  t3 : tm 3 = ptr 28 0
  t4 : tm 4 = i64 i
theorem In8.eq {n c i : Nat} {tm : Tm} (t : In8 n c i tm) : t8 n c i tm = tm := by
  refine tmK_self _ _ fun p hp => ?_
  simp only [List.mem_cons, List.not_mem_nil, or_false] at hp
  rcases hp with rfl | rfl | rfl | rfl
  · exact t.t0
  · exact t.t2
  · exact t.t3
  · exact t.t4
structure Inv8 (xs : List Nat) (i : Nat) (c : PT Value) : Prop where
  c0 : c.get 0 = some (i64 xs.length)
  c1 : c.get 1 = some (u32 (sumN xs))
  ce : ∀ j, j < 16 → c.get (2 + j) = some (u8 (refE xs i j))
theorem Inv8.step {xs : List Nat} {i : Nat} {c : PT Value} (v : Inv8 xs i c) (hi : i < 8) : Inv8 xs (i + 1) ((c.put (2 + i) (some (u8 (xs.getD i 0)))).put (17 - i) (some (u8 (xs.getD (xs.length - 1 - i) 0)))) := by
  refine ⟨?_, ?_, fun j hj => ?_⟩
  · rw [PT.get_put, PT.get_put, if_neg (by omega), if_neg (by omega)]; exact v.c0
  · rw [PT.get_put, PT.get_put, if_neg (by omega), if_neg (by omega)]; exact v.c1
  · rw [PT.get_put, PT.get_put]
    unfold refE
    by_cases h1 : 2 + j = 17 - i
    · rw [if_pos h1, if_neg (by omega), if_pos (by omega), show 15 - j = i by omega]
    · rw [if_neg h1]
      by_cases h2 : 2 + j = 2 + i
      · have e : j = i := by omega
        subst e
        rw [if_pos rfl, if_pos (by omega)]
      · rw [if_neg h2, v.ce j hj]
        unfold refE
        by_cases h3 : j < i
        · rw [if_pos h3, if_pos (show j < i + 1 by omega)]
        · rw [if_neg h3, if_neg (show ¬ j < i + 1 by omega)]
          by_cases h4 : 15 - j < i
          · rw [if_pos h4, if_pos (show 15 - j < i + 1 by omega)]
          · rw [if_neg h4, if_neg (show ¬ 15 - j < i + 1 by omega)]
theorem data_bys {h : AH} {b : Nat} {xs : List Nat} (hb : h.get b = some (roO xs)) (hx : ∀ x ∈ xs, x < 256) : Bys h b 0 xs := fun i x hi => by
  refine ⟨hx x (List.mem_of_getElem? hi), ?_⟩
  have hb' : h.mem.get b = some (.ro (PT.ofList (xs.map u8) 0 .leaf)) := hb
  unfold AH.cell
  rw [hb', Nat.zero_add]
  simp only [ofList_at]
  simp [hi]
theorem HRc_data (xs : List Nat) (c : PT Value) : (HRc xs c).get 0 = some (roO xs) := by kernel_rfl
theorem HRc_key (xs : List Nat) (c : PT Value) : (HRc xs c).get 28 = some (.cells c 18) := put_get ..
theorem HRc_put (xs : List Nat) (c c' : PT Value) : (HRc xs c).put 28 (some (.cells c' 18)) = HRc xs c' := AH.put_put ..
theorem s8_good {C : Oracle} {N i cap : Nat} {xs : List Nat} {c : PT Value} {tm : Tm} (hx : ∀ x ∈ xs, x < 256) (hi : i < 8) (hn : i < xs.length) (hs : xs.length ≤ 140737488351232) (v : Inv8 xs i c) :
    GoodP' (SY.c (s8 C N (xs.getD i 0) (xs.getD (xs.length - 1 - i) 0) i cap xs c tm)) := by
  rw [s8_c]
  have hb := data_bys (HRc_data xs c) hx
  have hb2 := data_bys (HRc_data xs (c.put (2 + i) (some (u8 (xs.getD i 0))))) hx
  have hsub : wr .i64 (Int.ofNat 15 - Int.ofNat i) = .ofNat (15 - i) := wr_sub (by omega) (by omega)
  have hsub1 : wr .i64 (Int.ofNat xs.length - Int.ofNat 1) = .ofNat (xs.length - 1) := wr_sub (by omega) (by omega)
  have hsub2 : wr .i64 (Int.ofNat (xs.length - 1) - Int.ofNat i) = .ofNat (xs.length - 1 - i) := wr_sub (by omega) (by omega)
  refine goodY_cons ?_ <| goodY_cons ?_ <| goodY_cons ?_ <| goodY_cons ?_ <| goodY_cons ?_ <| goodY_cons ?_ <| goodY_cons ?_ <| goodY_cons ?_ <| goodY_cons ?_ <| goodY_cons ?_ goodY_nil
  · obtain ⟨u, hu⟩ : ∃ u, (c.put (2 + i) (some (u8 (xs.getD i 0)))).get (17 - i) = some u := by
      refine ⟨u8 (refE xs i (15 - i)), ?_⟩
      rw [PT.get_put, if_neg (by omega), show 17 - i = 2 + (15 - i) by omega]
      exact v.ce (15 - i) (by omega)
    have h1 := st_at (v := u8 (xs.getD (xs.length - 1 - i) 0)) (HRc_key xs (c.put (2 + i) (some (u8 (xs.getD i 0))))) hu
    rw [HRc_put] at h1
    exact Eq.mp (by kernel_rfl) (congrArg (fun z => Option.bind z fun h' => some (junk, h')) h1)
  · rw [hsub, ix_lt (show 15 - i < 16 by omega), Option.bind_some, Option.bind_some, show 2 + (15 - i) * 1 = 17 - i by omega]
  · have h1 := (hb2 (xs.length - 1 - i) _ (getD_some (by omega))).2
    rw [Nat.zero_add] at h1
    exact Eq.mp (by kernel_rfl) (congrArg (fun z => Option.bind z fun v => some (v, HRc xs (c.put (2 + i) (some (u8 (xs.getD i 0)))))) h1)
  · rw [hsub1, hsub2, ix_lt (show xs.length - 1 - i < xs.length by omega), Option.bind_some, Option.bind_some, Nat.zero_add, Nat.mul_one]
  · have h1 := st_at (v := u8 (xs.getD i 0)) (HRc_key xs c) (v.ce i (by omega))
    rw [HRc_put] at h1
    exact Eq.mp (by kernel_rfl) (congrArg (fun z => Option.bind z fun h' => some (junk, h')) h1)
  · rw [ix_lt (show i < 16 by omega), Option.bind_some, Option.bind_some, Nat.mul_one]
  · have h1 := (hb i _ (getD_some hn)).2
    exact Eq.mp (by kernel_rfl) (congrArg (fun z => Option.bind z fun v => some (v, HRc xs c)) h1)
  · rw [ix_lt hn, Option.bind_some, Option.bind_some, Nat.mul_one]
  · rw [ilt_nat, blt_t hn]
  · rw [ilt_nat, blt_t hi]
theorem loop8 {C : Oracle} {N cap : Nat} {xs : List Nat} (hx : ∀ x ∈ xs, x < 256) (hs : xs.length ≤ 140737488351232) :
    ∀ (k m i : Nat) (c : PT Value) (tm : Tm), k < m → i + k = mN xs → In8 xs.length cap i tm → Inv8 xs i c →
      ∃ T c', (∀ K, loopK m (fun G => evF envT C 40 N X8 (thenK G K)) tm (HRc xs c) = K (.exit 0) T (HRc xs c')) ∧ T 2 = ptr 27 0 ∧ T 3 = ptr 28 0 ∧ Inv8 xs (mN xs) c' := by
  obtain ⟨hm1, hm2⟩ := mN_le xs
  intro k
  induction k with
  | zero =>
    intro m i c tm hm hi t v
    obtain ⟨m, rfl⟩ : ∃ m', m = m' + 1 := ⟨m - 1, by omega⟩
    have e : i = mN xs := by omega
    subst e
    by_cases h8 : mN xs < 8
    · have hlen : mN xs = xs.length := by unfold mN at h8 ⊢; omega
      refine ⟨SY.t (e8b C N (mN xs) cap xs c tm), c, fun K => ?_, (e8b_t C N (mN xs) cap xs c tm).1, (e8b_t C N (mN xs) cap xs c tm).2, v⟩
      have hs := fun K => Sy.on (e8b_ok C N (mN xs) cap xs c tm) (by
        rw [e8b_c]
        exact goodY_cons (by rw [ilt_nat, blt_f (by omega)]) (goodY_cons (by rw [ilt_nat, blt_t h8]) goodY_nil)) K
      rw [t.eq] at hs
      exact (loop_out (fun h => by cases h) hs).trans (by kernel_rfl)
    · refine ⟨SY.t (e8a C N (mN xs) cap xs c tm), c, fun K => ?_, (e8a_t C N (mN xs) cap xs c tm).1, (e8a_t C N (mN xs) cap xs c tm).2, v⟩
      have hs := fun K => Sy.on (e8a_ok C N (mN xs) cap xs c tm) (by
        rw [e8a_c]
        exact goodY_cons (by rw [ilt_nat, blt_f (by omega)]) goodY_nil) K
      rw [t.eq] at hs
      exact (loop_out (fun h => by cases h) hs).trans (by kernel_rfl)
  | succ k ih =>
    intro m i c tm hm hi t v
    obtain ⟨m, rfl⟩ : ∃ m', m = m' + 1 := ⟨m - 1, by omega⟩
    obtain ⟨q0, q2, q3, q4⟩ := s8_t C N (xs.getD i 0) (xs.getD (xs.length - 1 - i) 0) i cap xs c tm
    obtain ⟨T, c', h1, h2, h3, h4⟩ := ih m (i + 1) _ (SY.t (s8 C N (xs.getD i 0) (xs.getD (xs.length - 1 - i) 0) i cap xs c tm)) (by omega) (by omega) ⟨q0, q2, q3, by rw [q4, wr_i64 (by omega)]; rfl⟩ (v.step (by omega))
    refine ⟨T, c', fun K => ?_, h2, h3, h4⟩
    have hs := fun K => Sy.on (s8_ok C N (xs.getD i 0) (xs.getD (xs.length - 1 - i) 0) i cap xs c tm) (s8_good hx (by omega) (by omega) hs v) K
    rw [t.eq] at hs
    exact (loop_on hs).trans (Eq.mp (by kernel_rfl) (h1 K))

theorem Inv8.key {xs : List Nat} {c : PT Value} (v : Inv8 xs (mN xs) c) : ∀ i, i < 18 → c.get (0 + i) = some (fK xs (0 + i)) := by
  intro i hi
  rw [Nat.zero_add]
  match i, hi with
  | 0, _ => exact v.c0
  | 1, _ => exact v.c1
  | j + 2, hi => rw [Nat.add_comm j 2]; rw [v.ce j (by omega), Nat.add_comm 2 j]; rfl
theorem Inv8.start (xs : List Nat) : Inv8 xs 0 (PT.ofList (keyL xs.length (sumN xs)) 0 .leaf) := by
  refine ⟨by rw [ofList_at]; rfl, by rw [ofList_at]; rfl, fun j hj => ?_⟩
  rw [ofList_at, Nat.add_comm 2 j, keyL_two hj]
  unfold refE
  rw [if_neg (by omega), if_neg (by omega)]
def HB1 (xs : List Nat) : AH := (HB xs).new (keyO 0 0)
theorem run8 {xs : List Nat} (hx : ∀ x ∈ xs, x < 256) (hs : xs.length ≤ 140737488351232) {cap : Nat} {C : Oracle} (hC : C (.func (.func 20) ⟨[]⟩ ⟨[]⟩) [u32 0, sl 0 0 xs.length cap] (HB1 xs) = some (u32 (sumN xs), HB1 xs)) :
    ∃ h₁, denG envT C 10 8 [sl 0 0 xs.length cap] (HB xs) = some (keyV xs, h₁) ∧ h₁.next = 29 ∧ h₁.get 0 = some (roO xs) ∧ h₁.get 4 = some (lentO xs) := by
  obtain ⟨hm1, hm2⟩ := mN_le xs
  obtain ⟨T, c, h1, h2, h3, h4⟩ := loop8 (C := C) (N := 10) (cap := cap) hx hs (mN xs) 10 0 (PT.ofList (keyL xs.length (sumN xs)) 0 .leaf)
    (stoF (stoF (stoF (stoF (stoF (stoF (stoF (stoF (stoF (fun i => gt ([sl 0 0 (List.length xs) cap] ++ List.replicate 39 undV) i) (some 2) (Value.pointer (some (Addr.mk 27 0 none)))) (some 5) (Value.slice (some (Addr.mk 0 0 none)) (List.length xs) cap)) (some 6) (Value.int IntKind.i64 (Int.ofNat (List.length xs)))) (some 7) (Value.slice (some (Addr.mk 0 0 none)) (List.length xs) cap)) (some 8) (u32 (sumN xs))) (some 9) (.agg ⟨keyL xs.length (sumN xs)⟩)) (some 3) (Value.pointer (some (Addr.mk 28 0 none)))) none (Value.tuple (Array.mk []))) (some 4) (Value.int IntKind.i64 (Int.ofNat 0)))
    (by omega) (by omega) ⟨by kernel_rfl, by kernel_rfl, by kernel_rfl, by kernel_rfl⟩ (Inv8.start xs)
  have e : tmK [(2, ptr 27 0), (3, ptr 28 0)] T = T := tmK_self _ _ fun p hp => by
    simp only [List.mem_cons, List.not_mem_nil, or_false] at hp
    rcases hp with rfl | rfl
    · exact h2
    · exact h3
  refine ⟨_, syG_sound (d8 C 10 cap xs c T) (goodY_cons ?_ <| goodY_cons (fun K => ?_) <| goodY_cons ?_ goodY_nil), by kernel_rfl, by kernel_rfl, by kernel_rfl⟩
  · have hl := cellsN_fn (h := HRc xs c) (b := 28) (n := 18) (c := c) (HRc_key xs c) (fK xs) 18 0 h4.key
    exact Eq.mp (by kernel_rfl) (congrArg (fun z => Option.bind (Option.bind z fun l => some (Value.agg ⟨l⟩)) fun v => some (v, HRc xs c)) hl)
  · rw [e]; exact Eq.mp (by kernel_rfl) (h1 K)
  · exact Eq.mp (by kernel_rfl) hC
/-! ## What is told of one call -/
open Classical in
noncomputable def fact (A : List Value) (H : AH) (v : Value) (H' : AH) : Fun := fun args h => if args = A ∧ h = H then some (v, H') else none
theorem fact_at (A : List Value) (H : AH) (v : Value) (H' : AH) : fact A H v H' A H = some (v, H') := if_pos ⟨rfl, rfl⟩
theorem fact_told {C : Oracle} (hC : Sound Tryz.prog C) {N g : Nat} {A : List Value} {H h₁ H' : AH} {v : Value} (hd : denG envT C N g A H = some (v, h₁)) (hn : H'.next = h₁.next) (hs : ∀ b, H'.get b ≠ none → h₁.get b = H'.get b) (hu : ∀ b, b < H.next → H'.get b = H.get b) :
    Den.Told Tryz.prog g (fact A H v H') := told_of envT_ok hC fun args h u h₂ hl _ => by
  unfold fact at hl
  split at hl
  · rename_i e
    obtain ⟨rfl, rfl⟩ := e
    cases hl
    exact ⟨N, h₁, hd, hn, hs, hu⟩
  · cases hl
theorem HA_only {xs : List Nat} {b : Nat} (h : (HA xs).get b ≠ none) : b = 0 ∨ b = 4 := by
  by_cases h4 : b = 4
  · exact .inr h4
  · rw [show HA xs = lendH (H0 xs) xs from rfl, lendH_old (H0 xs) xs (show b ≠ (H0 xs).next + 3 from h4)] at h
    left
    cases e : Nat.beq b 0 with
    | true => exact nat_beq e
    | false =>
      refine absurd ?_ h
      show (bif Nat.beq b 0 then some (roO xs) else bif Nat.beq (b % 2) 1 then PT.leaf.get (b / 2) else PT.leaf.get (b / 2 - 1)) = none
      rw [e, cond_false, PT.get_leaf, PT.get_leaf]
      cases Nat.beq (b % 2) 1 <;> rfl
theorem HA_keep {xs : List Nat} {h : AH} (h0 : h.get 0 = some (roO xs)) (h4 : h.get 4 = some (lentO xs)) (k b : Nat) (hb : ((HA xs).up k).get b ≠ none) : h.get b = ((HA xs).up k).get b := by
  rcases HA_only (b := b) hb with rfl | rfl
  · rw [h0]; kernel_rfl
  · rw [h4]; exact (HA_lent xs).symm
noncomputable def tbKey : PT Fun := (PT.leaf.put 19 (some fSum)).put 20 (some fMore)
theorem tbKey_ok : TabOK Tryz.prog envT tbKey := (TabOK.leaf.put t19 (fnS (by kernel_rfl))).put t20 (fnS (by kernel_rfl))
theorem bys_HK1 {xs : List Nat} (hx : ∀ x ∈ xs, x < 256) : Bys (HK1 xs) 4 0 xs := by
  have h1 : Bys (HK1 xs) 4 0 (xs ++ five) := lent_bys (by kernel_rfl) hx
  have h2 := h1.take xs.length
  rw [List.take_append_of_le_length (Nat.le_refl _), List.take_length] at h2; exact h2
theorem told6 {xs : List Nat} (hx : ∀ x ∈ xs, x < 256) (hn : 0 < xs.length) (hs : xs.length ≤ 140737488351232) : Den.Told Tryz.prog 6 (fact [sl 4 0 xs.length (unk 1)] (HA xs) (keyV xs) (HB xs)) := by
  refine fact_told (tabS_sound envT_ok tbKey_ok) (run6 (C := tabS tbKey) hx hn hs ?_) rfl (HA_keep (by kernel_rfl) (by kernel_rfl) 15) fun b _ => rfl
  exact tabS_at (f := fSum) (by kernel_rfl) (fSum_eq (c := unk 1) (by kernel_rfl) (bys_HK1 hx) (by omega))
def HC (xs : List Nat) : AH := (HA xs).up 17
theorem told8 {xs : List Nat} (hx : ∀ x ∈ xs, x < 256) (hs : xs.length ≤ 140737488351232) (cap : Nat) : Den.Told Tryz.prog 8 (fact [sl 0 0 xs.length cap] (HB xs) (keyV xs) (HC xs)) := by
  obtain ⟨h₁, g1, g2, g3, g4⟩ := run8 (cap := cap) (C := tabS tbKey) hx hs (tabS_at (f := fMore) (by kernel_rfl) (fMore_eq (data_bys (by kernel_rfl) hx) (by omega)))
  exact fact_told (tabS_sound envT_ok tbKey_ok) g1 g2.symm (HA_keep g3 g4 17) fun b _ => rfl
/-! ## Names are keys of maps -/
theorem lits_int {P : Program} {d : Nat} {t : TypeId} {q : IntKind} {n : Int} (hu : P.underlying t = some (.int q)) (hw : (Lit.int q n).wf = true) : P.keyLits (d + 1) t [.int q n] = some [.int q n] := by
  simp [Program.keyLits, hu, hw]
theorem mapM_some {α β : Type} {f : α → Option β} : ∀ {l : List α}, (∀ a ∈ l, ∃ b, f a = some b) → ∃ r, l.mapM f = some r
  | [], _ => ⟨[], rfl⟩
  | a :: l, h => by
    obtain ⟨b, hb⟩ := h a (List.mem_cons_self ..)
    obtain ⟨r, hr⟩ := mapM_some (f := f) (l := l) fun x hx => h x (List.mem_cons_of_mem _ hx)
    exact ⟨b :: r, by simp [List.mapM_cons, hb, hr]⟩
theorem lits_arr {P : Program} {d : Nat} {t : TypeId} {n : Nat} {e : TypeId} {cs : List Value} (hu : P.underlying t = some (.array n e)) (hc : cs.length = P.cellsOf t)
    (hg : ∀ i, i < n → ∃ l, P.keyLits d e ((cs.drop (i * P.cellsOf e)).take (P.cellsOf e)) = some l) : ∃ l, P.keyLits (d + 1) t cs = some l := by
  obtain ⟨r, hr⟩ := mapM_some (f := fun i => P.keyLits d e ((cs.drop (i * P.cellsOf e)).take (P.cellsOf e))) (l := List.range n) fun i hi => hg i (List.mem_range.1 hi)
  refine ⟨r.flatten, ?_⟩
  simp only [Program.keyLits, hu]
  rw [if_pos hc, hr]; rfl
theorem lits_struct {P : Program} {d : Nat} {t : TypeId} {fs : Array Field} {cs : List Value} (hu : P.underlying t = some (.struct fs)) (hc : cs.length = P.cellsOf t) (hn : fs.all (·.name != "_") = true)
    (hg : ∀ f ∈ fs.toList, ∃ l, P.keyLits d f.type ((cs.drop f.offset).take (P.cellsOf f.type)) = some l) : ∃ l, P.keyLits (d + 1) t cs = some l := by
  obtain ⟨r, hr⟩ := mapM_some (f := fun f : Field => P.keyLits d f.type ((cs.drop f.offset).take (P.cellsOf f.type))) (l := fs.toList) hg
  refine ⟨r.flatten, ?_⟩
  simp only [Program.keyLits, hu]
  rw [if_pos ⟨hc, hn⟩, hr]; rfl
noncomputable def fs28 : Array Field := match Tryz.prog.underlying 28 with | some (.struct fs) => fs | _ => #[]
theorem und28 : Tryz.prog.underlying 28 = some (.struct fs28) := by kernel_rfl
theorem fs28_eq : (fs28.toList.map fun f => (f.type, f.offset)) = [(3, 0), (25, 1), (26, 2)] := by kernel_rfl
theorem und3 : Tryz.prog.underlying 3 = some (.int .i64) := by kernel_rfl
theorem und25 : Tryz.prog.underlying 25 = some (.int .u32) := by kernel_rfl
theorem und26 : Tryz.prog.underlying 26 = some (.array 16 5) := by kernel_rfl
theorem und5 : Tryz.prog.underlying 5 = some (.int .u8) := by kernel_rfl
theorem wf_i64 {n : Nat} (h : n < 2 ^ 63) : (Lit.int .i64 (.ofNat n)).wf = true := by
  simp only [Lit.wf, Bool.and_eq_true, decide_eq_true_eq]
  refine ⟨?_, ?_⟩
  · show (-9223372036854775808 : Int) ≤ (n : Int); omega
  · show (n : Int) ≤ (9223372036854775807 : Int); omega
theorem wf_u32 {n : Nat} (h : n < 2 ^ 32) : (Lit.int .u32 (.ofNat n)).wf = true := by
  simp only [Lit.wf, Bool.and_eq_true, decide_eq_true_eq]
  refine ⟨?_, ?_⟩
  · show (0 : Int) ≤ (n : Int); omega
  · show (n : Int) ≤ (4294967295 : Int); omega
theorem wf_u8 {n : Nat} (h : n < 256) : (Lit.int .u8 (.ofNat n)).wf = true := by
  simp only [Lit.wf, Bool.and_eq_true, decide_eq_true_eq]
  refine ⟨?_, ?_⟩
  · show (0 : Int) ≤ (n : Int); omega
  · show (n : Int) ≤ (255 : Int); omega
theorem getD_lt {xs : List Nat} (hx : ∀ x ∈ xs, x < 256) (i : Nat) : xs.getD i 0 < 256 := by
  rw [List.getD_eq_getElem?_getD]
  cases h : xs[i]? with
  | none => simp
  | some x => exact hx x (List.mem_of_getElem? h)
theorem endN_lt {xs : List Nat} (hx : ∀ x ∈ xs, x < 256) (j : Nat) : endN xs j < 256 := by
  unfold endN refE
  split
  · exact getD_lt hx _
  · split
    · exact getD_lt hx _
    · omega
def endsL (xs : List Nat) : List Value := (List.range' 0 16).map fun j => u8 (endN xs j)
theorem keyV_ends (xs : List Nat) : keyV xs = .agg ⟨i64 xs.length :: u32 (sumN xs) :: endsL xs⟩ := rfl
theorem endsL_at (xs : List Nat) {i : Nat} (hi : i < 16) : ((endsL xs).drop (i * 1)).take 1 = [u8 (endN xs i)] := by
  have hl : (endsL xs).length = 16 := rfl
  have h1 : (endsL xs)[i]? = some (u8 (endN xs i)) := by
    unfold endsL
    rw [List.getElem?_map, List.getElem?_range' (by simpa using hi)]
    simp
  rw [Nat.mul_one, List.take_one, List.head?_drop, h1]; rfl
theorem isKey28 {xs : List Nat} (hx : ∀ x ∈ xs, x < 256) (hs : xs.length ≤ 140737488351232) : (keyOf Tryz.prog 28 (keyV xs)).isSome = true := by
  have h1 : (Tryz.prog.keyType 28 && (keyV xs).formed Tryz.prog 28) = true := by kernel_rfl
  obtain ⟨d, hd⟩ : ∃ d, Tryz.prog.types.size + 1 = d + 3 := ⟨Tryz.prog.types.size - 2, by kernel_rfl⟩
  have hl : ∃ l, Tryz.prog.keyLits (d + 2 + 1) 28 (keyV xs).cells.toList = some l := by
    refine lits_struct und28 (by kernel_rfl) (by kernel_rfl) fun f hf => ?_
    have hm : (f.type, f.offset) ∈ [(3, 0), (25, 1), (26, 2)] := by rw [← fs28_eq]; exact List.mem_map.2 ⟨f, hf, rfl⟩
    simp only [List.mem_cons, List.not_mem_nil, or_false, Prod.mk.injEq] at hm
    rcases hm with ⟨e1, e2⟩ | ⟨e1, e2⟩ | ⟨e1, e2⟩ <;> rw [e1, e2]
    · exact ⟨[.int .i64 (.ofNat xs.length)], Eq.mp (by kernel_rfl) (lits_int (d := d + 1) und3 (wf_i64 (n := xs.length) (by omega)))⟩
    · exact ⟨[.int .u32 (.ofNat (sumN xs))], Eq.mp (by kernel_rfl) (lits_int (d := d + 1) und25 (wf_u32 (sumN_lt xs)))⟩
    · obtain ⟨l, hl⟩ := lits_arr (d := d + 1) (cs := endsL xs) und26 (by kernel_rfl) fun i hi => by
        have hc : Tryz.prog.cellsOf 5 = 1 := by kernel_rfl
        rw [hc, endsL_at xs hi]
        exact ⟨_, lits_int und5 (wf_u8 (endN_lt hx i))⟩
      exact ⟨l, Eq.mp (by kernel_rfl) hl⟩
  obtain ⟨l, hl⟩ := hl
  unfold keyOf
  rw [und28]
  simp only
  rw [if_pos h1, hd, hl]; rfl
end Go.Proofs.YtpebkeonkfanpaaGreat.Sym
